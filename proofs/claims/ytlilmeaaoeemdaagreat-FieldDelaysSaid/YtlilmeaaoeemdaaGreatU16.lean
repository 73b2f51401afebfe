/- Part of the proof of FieldDelays. -/
import Derived.Test.YtlilmeaaoeemdaaGreatU15
set_option linter.all false
open Go renaming TypeId->ab,Operand->ac,wpList->ad,wp_region_noPanic->ae,bodyPost_ret->ag,results->ai
open Nat renaming le_refl->ao,zero_le->ap,zero_add->aq,lt_of_lt_of_le->ar,zero_mul->aw,le_trans->aB,add_mul->aF,mul_comm->aI,succ_mul->aJ,mul_le_mul_right->aL,mul_one->aP,mul_add_div->aS,div_eq_of_lt->aT,not_lt_zero->a6,le_succ->a7,le_of_ble_eq_true->a8,reduceAdd->a9,reduceSub->ba
open Go.Proofs renaming getElem?_lt'->bc
open Go.RowKit.Below renaming refl->bd
open Go.Addr renaming add->bg
open Go.Lib renaming hid->bi
open Go.Proofs.Tryz renaming func33->bj,ntmps33->bm,func82->bo,ntmps82->bp,func83->bq,ntmps83->br,func84->bs,ntmps84->bt,func85->bv,ntmps85->bw,func67->bx
open Go.World renaming setCell->bA,cell?->bC,size_setCell->bL,size_alloc->bM,putObj->bR,grownBy_alloc->bT,putObj_heap_same->bX,putObj_heap_other->b1
open Array renaming getElem?_modify->b8,size_setIfInBounds->b9,replicate_succ->cd,replicate_zero->ce
open Option renaming map_some->cf
open List renaming flatMap_cons->cg,getElem?_append_left->ch,range->ci,length_append->cl,length_cons->cm,cons_append->co,mem_cons->cp,not_mem_nil->cq,take_succ_cons->ct,take_zero->cv,drop_succ_cons->cB,drop_zero->cC,getD_eq_getElem?_getD->cQ,getElem?_take->c6,size_toArray->c7,length_nil->c8,push_toArray->c9,append_toArray->da,nil_append->db
open Go.Proofs.Below renaming on->dd,zQ->de
open Bool renaming and_eq_true->df
namespace Go.Proofs
open Go.RowKit
set_option maxRecDepth 100000
set_option maxHeartbeats 4000000
def mb{T e:ab}{z:Value}{m bytes:Nat}(k:PL.underlying T=some (.slice e))(l:(PL.info? e).map (λi=>(i.zero,i.size,i.bytes))=some (some z,m,bytes))(p:z.cells.size=m)(q:0<m)(d:bytes<=1000){ops:Array Oper}{rest:List Oper}{o:Oper}{a:Act}{Q:Exit->Act->World->Prop}{w:World}(r:o.guard=none)(s x:ac)
 (t:o.op=.call { callee:=.builtin .append,args:=#[s,x],argTypes:=#[T,T] }) (base g:Nat) (hs:a.eval s=.slice (some ⟨g,0,none⟩) 0 0) (hg:w.heap[g]?=some (.cells #[] e)) (hb:base<=g)
 (A:Addr) (n c:Nat) (b:List Value) (v:a.eval x=.slice (some A) n c) (hl:b.length=n*m) (hc:∀j u,b[j]?=some u->w.cell? (A.add j)=some u) (y:∀u∈b,u.oneCell'=true) (B:n<=1000)
 (h:∀v' w',w'.ownsRow base e m v' n b->v'≠.slice none 0 0->Below base w w'->ad PL ops Q rest (a.put o.dst v') w'):ad PL ops Q (o::rest) a w:=by
 obtain⟨C,hi,D,E,F⟩:=info_parts l;have f:w.ownsRow base e m (.slice (some ⟨g,0,none⟩) 0 0) 0 []:=⟨by simp,.inr ⟨g,0,#[],rfl,hb,hg,ao _,ap _,by simp,by simp⟩⟩
 have H:=bc hg;refine wpList_append_own _ r s x T t base e C z m bytes k hi D E F p q (.slice (some ⟨g,0,none⟩) 0 0) 0 [] hs f A n c b v hl hc y (by simp only[maxLen];omega) (by have:=Nat.mul_le_mul B d;rw[aq];omega) (by omega) λv' w' I J K=>?_;refine h v' w' (by simpa using I) (λe=>?_) ((bd base w).grown J (by omega) (cZ f));have:=K.1 e;simp at this
def abD{w:World}{k off:Nat}{a:List Value}(hc:∀j u,a[j]?=some u->w.cell? ⟨k,off+j,none⟩=some u):∀j u,a[j]?=some u->w.cell? ((⟨k,off,none⟩:Addr).add j)=some u:=λj u e=>by
 have:=hc j u e;by_cases b:j=0
 ·subst b;simpa[bg]using this
 ·simpa[bg,b]using this
def ga{T e:ab}{z:Value}{m bytes:Nat}(f:PL.underlying T=some (.slice e))(l:(PL.info? e).map (λi=>(i.zero,i.size,i.bytes))=some (some z,m,bytes))(p:z.cells.size=m)(q:0<m)(d:bytes<=1000){ops:Array Oper}{rest:List Oper}{o:Oper}{a:Act}{Q:Exit->Act->World->Prop}{w:World}(r:o.guard=none)(s x:ac)
 (t:o.op=.call { callee:=.builtin .append,args:=#[s,x],argTypes:=#[T,T] }) (base g:Nat) (hs:a.eval s=.slice (some ⟨g,0,none⟩) 0 0) (hg:w.heap[g]?=some (.cells #[] e)) (hb:base<=g)
 (k off n c:Nat) (b:List Value) (v:a.eval x=.slice (some ⟨k,off,none⟩) n c) (hl:b.length=n*m) (hc:∀j u,b[j]?=some u->w.cell? ⟨k,off+j,none⟩=some u) (y:∀u∈b,u.oneCell'=true) (A:n<=1000)
 (h:∀v' w',w'.ownsRow base e m v' n b->v'≠.slice none 0 0->Below base w w'->ad PL ops Q rest (a.put o.dst v') w'):ad PL ops Q (o::rest) a w:=
 mb f l p q d r s x t base g hs hg hb _ n c b v hl (abD hc) y A h
def Fc(w W:World)(e m:Nat)(v:Value)(n:Nat)(l:List Value):Prop:=W.ownsRow w.heap.size e m v n l/\v≠.slice none 0 0
def Fc.form{w W:World}{e m n:Nat}{v:Value}{l:List Value}(h:Fc w W e m v n l):∃g cap cur,v=.slice (some ⟨g,0,none⟩) n cap/\w.heap.size<=g/\W.heap[g]?=some (.cells cur e)/\cur.toList.take (n*m)=l:=by
 obtain⟨⟨_,h⟩,hv⟩:=h
 rcases h with⟨rfl,_⟩|⟨g,cap,cur,e1,hb,hg,_,_,_,a⟩
 ·exact absurd rfl hv
 ·exact⟨g,cap,cur,e1,hb,hg,a⟩
structure KD(w:World)(b:Option Addr)(n m:Nat)(row:List Value):Prop where
 len:row.length=n*m
 le:n<=1000
 one:∀u∈row,u.oneCell'=true
 cells:0<n->∃k o,b=some ⟨k,o,none⟩/\k<w.heap.size/\∀j u,row[j]?=some u->w.cell? ⟨k,o+j,none⟩=some u
def KD.on{w W:World}{b:Option Addr}{n m:Nat}{row:List Value}(h:KD w b n m row)(a:Below w.heap.size w W):KD W b n m row:=
 ⟨h.len,h.le,h.one,λd=>by
   obtain⟨k,o,f,c,g⟩:=h.cells d
   exact⟨k,o,f,ar c a.size,λj u e=>(a.cell (p:=⟨k,o+j,none⟩) c).trans (g j u e)⟩⟩
def KD.nil{w:World}{n m:Nat}{row:List Value}(h:KD w none n m row):n=0:=by
 by_cases a:0<n
 ·obtain⟨k,o,b,_⟩:=h.cells a;cases b
 ·omega
def KD.add{w:World}{A:Addr}{n m:Nat}{row:List Value}(h:KD w (some A) n m row):∀j u,row[j]?=some u->w.cell? (A.add j)=some u:=λj u e=>by
 by_cases a:0<n
 ·obtain⟨k,o,b,_,c⟩:=h.cells a;cases b;exact abD c j u e
 ·have:=h.len;obtain rfl:n=0:=by omega
  rw[aw]at this;rw[List.length_eq_zero_iff.1 this]at e;cases e
def N5(w W:World)(e m n:Nat)(row:List Value)(b:Option Addr)(v:Value):Prop:=∃b' c,v=.slice b' n c/\(b=none->b'=none/\c=0)/\(0<n->∃g a,b'=some ⟨g,0,none⟩/\w.heap.size<=g/\W.heap[g]?=some (.cells a e)/\a.toList.take (n*m)=row)
def N5.on{w W d:World}{e m n:Nat}{row:List Value}{b:Option Addr}{v:Value}(h:N5 w W e m n row b v)(i:Below W.heap.size W d):N5 w d e m n row b v:=by
 obtain⟨b',c,hv,j,h⟩:=h;exact⟨b',c,hv,j,λk=>by obtain⟨g,a,l,o,f,p⟩:=h k;exact⟨g,a,l,o,(i.block _ (bc f)).trans f,p⟩⟩
def N5.low{w0 w W:World}{e m n:Nat}{row:List Value}{b:Option Addr}{v:Value}(h:N5 w W e m n row b v)(hs:w0.heap.size<=w.heap.size):N5 w0 W e m n row b v:=by
 obtain⟨b',c,hv,d,h⟩:=h;exact⟨b',c,hv,d,λf=>by obtain⟨g,a,i,j,k,l⟩:=h f;exact⟨g,a,i,aB hs j,k,l⟩⟩
def N5.of{w W:World}{e m n:Nat}{row:List Value}{A:Addr}{v:Value}(h:W.ownsRow w.heap.size e m v n row)(hv:v≠.slice none 0 0):N5 w W e m n row (some A) v:=by
 obtain⟨g,c,a,rfl,b,d,f⟩:=Fc.form (w:=w) ⟨h,hv⟩;exact⟨_,c,rfl,λe=>(by cases e),λ_=>⟨g,a,rfl,b,d,f⟩⟩
def N5.nil{w W:World}{e m n:Nat}{row:List Value}{b:Option Addr}(a:n=0):N5 w W e m n row b (.slice none 0 0):=by
 subst a;exact⟨none,0,rfl,λ_=>⟨rfl,rfl⟩,λh=>absurd h (Nat.lt_irrefl _)⟩
def VF:PL.underlying 31=some (.slice 3):=by kernel_rfl
def VG:(PL.info? 3).map (λi=>(i.zero,i.size,i.bytes))=some (some (.int .i64 0),1,8):=by kernel_rfl
def aaK(a:Addr)(n c:Nat)(W:World):(binOp .eql 31 (.slice (some a) n c) (.slice none 0 0)).run PL W=.ok (.bool false) W:=by kernel_rfl
def aaP(c:Nat)(W:World):(binOp .eql 31 (.slice none 0 c) (.slice none 0 0)).run PL W=.ok (.bool true) W:=by kernel_rfl
def abE(b:Option Addr)(n c:Nat)(row:List Value)(w:World)(h:KD w b n 1 row):Calls PL 33 #[.slice b n c] w λe w'=>∃v,e=.returned v/\N5 w w' 3 1 n row b v/\Below w.heap.size w w':=by
 have H:=bi h;clear h
 cases b with
 |none=>
  obtain rfl:n=0:=H.out.nil;have q1:=aaP
  go_enter (fx (by decide) bj),bm
  go_wp2
  go_ret
  exact⟨_,rfl,N5.nil rfl,bd _ _⟩
 |some A=>
  have q1:=aaK;have a:=bi ((bd w.heap.size w).alloc (ao _) (.cells #[] 3))
  go_enter (fx (by decide) bj),bm
  go_wp2_with (at_builtin;refine mb VF VG rfl (by decide) (by decide) rfl _ _ rfl w.heap.size w.heap.size rfl (au w (.cells #[] 3)) (ao _) A n c row rfl H.out.len (H.out.on a.out).add H.out.one H.out.le ?_;intro v' w2 d hv f)
  go_ret
  exact⟨_,rfl,N5.of d hv,a.out.trans f⟩
def VH:PL.underlying 22=some (.slice 48):=by kernel_rfl
def VI:(PL.info? 48).map (λi=>(i.zero,i.size,i.bytes))=some (some (.agg #[.int .i64 0,.int .i64 0]),2,16):=by kernel_rfl
def aaL(a:Addr)(n c:Nat)(W:World):(binOp .eql 22 (.slice (some a) n c) (.slice none 0 0)).run PL W=.ok (.bool false) W:=by kernel_rfl
def als(c:Nat)(W:World):(binOp .eql 22 (.slice none 0 c) (.slice none 0 0)).run PL W=.ok (.bool true) W:=by kernel_rfl
def aga(b:Option Addr)(n c:Nat)(row:List Value)(w:World)(h:KD w b n 2 row):Calls PL 82 #[.slice b n c] w λe w'=>∃v,e=.returned v/\N5 w w' 48 2 n row b v/\Below w.heap.size w w':=by
 have H:=bi h;clear h
 cases b with
 |none=>
  obtain rfl:n=0:=H.out.nil;have q1:=als
  go_enter (fx (by decide) bo),bp
  go_wp2
  go_ret
  exact⟨_,rfl,N5.nil rfl,bd _ _⟩
 |some A=>
  have q1:=aaL;have a:=bi ((bd w.heap.size w).alloc (ao _) (.cells #[] 48))
  go_enter (fx (by decide) bo),bp
  go_wp2_with (at_builtin;refine mb VH VI rfl (by decide) (by decide) rfl _ _ rfl w.heap.size w.heap.size rfl (au w (.cells #[] 48)) (ao _) A n c row rfl H.out.len (H.out.on a.out).add H.out.one H.out.le ?_;intro v' w2 d hv f)
  go_ret
  exact⟨_,rfl,N5.of d hv,a.out.trans f⟩
def VJ:PL.underlying 23=some (.slice 92):=by kernel_rfl
def VK:(PL.info? 92).map (λi=>(i.zero,i.size,i.bytes))=some (some (.agg #[.int .i64 0,.int .i64 0,.int .i64 0]),3,24):=by kernel_rfl
def aaM(a:Addr)(n c:Nat)(W:World):(binOp .eql 23 (.slice (some a) n c) (.slice none 0 0)).run PL W=.ok (.bool false) W:=by kernel_rfl
def alA(c:Nat)(W:World):(binOp .eql 23 (.slice none 0 c) (.slice none 0 0)).run PL W=.ok (.bool true) W:=by kernel_rfl
def agb(b:Option Addr)(n c:Nat)(row:List Value)(w:World)(h:KD w b n 3 row):Calls PL 83 #[.slice b n c] w λe w'=>∃v,e=.returned v/\N5 w w' 92 3 n row b v/\Below w.heap.size w w':=by
 have H:=bi h;clear h
 cases b with
 |none=>
  obtain rfl:n=0:=H.out.nil;have q1:=alA
  go_enter (fx (by decide) bq),br
  go_wp2
  go_ret
  exact⟨_,rfl,N5.nil rfl,bd _ _⟩
 |some A=>
  have q1:=aaM;have a:=bi ((bd w.heap.size w).alloc (ao _) (.cells #[] 92))
  go_enter (fx (by decide) bq),br
  go_wp2_with (at_builtin;refine mb VJ VK rfl (by decide) (by decide) rfl _ _ rfl w.heap.size w.heap.size rfl (au w (.cells #[] 92)) (ao _) A n c row rfl H.out.len (H.out.on a.out).add H.out.one H.out.le ?_;intro v' w2 d hv f)
  go_ret
  exact⟨_,rfl,N5.of d hv,a.out.trans f⟩
def VL:PL.underlying 24=some (.slice 85):=by kernel_rfl
def VM:(PL.info? 85).map (λi=>(i.zero,i.size,i.bytes))=some (some (.agg #[.string ByteArray.empty,.int .i64 0,.int .i64 0,.int .i64 0,.int .i64 0,.int .i64 0,.int .i64 0,.int .i64 0,.int .i64 0,.int .i64 0,.int .i64 0,.slice none 0 0]),12,120):=by kernel_rfl
def aaN(a:Addr)(n c:Nat)(W:World):(binOp .eql 24 (.slice (some a) n c) (.slice none 0 0)).run PL W=.ok (.bool false) W:=by kernel_rfl
def alB(c:Nat)(W:World):(binOp .eql 24 (.slice none 0 c) (.slice none 0 0)).run PL W=.ok (.bool true) W:=by kernel_rfl
def agc(b:Option Addr)(n c:Nat)(row:List Value)(w:World)(h:KD w b n 12 row):Calls PL 84 #[.slice b n c] w λe w'=>∃v,e=.returned v/\N5 w w' 85 12 n row b v/\Below w.heap.size w w':=by
 have H:=bi h;clear h
 cases b with
 |none=>
  obtain rfl:n=0:=H.out.nil;have q1:=alB
  go_enter (fx (by decide) bs),bt
  go_wp2
  go_ret
  exact⟨_,rfl,N5.nil rfl,bd _ _⟩
 |some A=>
  have q1:=aaN;have a:=bi ((bd w.heap.size w).alloc (ao _) (.cells #[] 85))
  go_enter (fx (by decide) bs),bt
  go_wp2_with (at_builtin;refine mb VL VM rfl (by decide) (by decide) rfl _ _ rfl w.heap.size w.heap.size rfl (au w (.cells #[] 85)) (ao _) A n c row rfl H.out.len (H.out.on a.out).add H.out.one H.out.le ?_;intro v' w2 d hv f)
  go_ret
  exact⟨_,rfl,N5.of d hv,a.out.trans f⟩
def VN:PL.underlying 25=some (.slice 87):=by kernel_rfl
def VO:(PL.info? 87).map (λi=>(i.zero,i.size,i.bytes))=some (some (.agg #[.string ByteArray.empty,.int .i64 0,.int .i64 0]),3,32):=by kernel_rfl
def aaO(a:Addr)(n c:Nat)(W:World):(binOp .eql 25 (.slice (some a) n c) (.slice none 0 0)).run PL W=.ok (.bool false) W:=by kernel_rfl
def alC(c:Nat)(W:World):(binOp .eql 25 (.slice none 0 c) (.slice none 0 0)).run PL W=.ok (.bool true) W:=by kernel_rfl
def agr(b:Option Addr)(n c:Nat)(row:List Value)(w:World)(h:KD w b n 3 row):Calls PL 85 #[.slice b n c] w λe w'=>∃v,e=.returned v/\N5 w w' 87 3 n row b v/\Below w.heap.size w w':=by
 have H:=bi h;clear h
 cases b with
 |none=>
  obtain rfl:n=0:=H.out.nil;have q1:=alC
  go_enter (fx (by decide) bv),bw
  go_wp2
  go_ret
  exact⟨_,rfl,N5.nil rfl,bd _ _⟩
 |some A=>
  have q1:=aaO;have a:=bi ((bd w.heap.size w).alloc (ao _) (.cells #[] 87))
  go_enter (fx (by decide) bv),bw
  go_wp2_with (at_builtin;refine mb VN VO rfl (by decide) (by decide) rfl _ _ rfl w.heap.size w.heap.size rfl (au w (.cells #[] 87)) (ao _) A n c row rfl H.out.len (H.out.on a.out).add H.out.one H.out.le ?_;intro v' w2 d hv f)
  go_ret
  exact⟨_,rfl,N5.of d hv,a.out.trans f⟩
def tC(k off n c:Nat)(a:List Value)(w:World)(hl:a.length=n*1)(hc:∀j u,a[j]?=some u->w.cell? ⟨k,off+j,none⟩=some u)(d:∀u∈a,u.oneCell'=true)(f:n<=1000)(g:k<w.heap.size) :
 Calls PL 33 #[.slice (some ⟨k,off,none⟩) n c] w λe w'=>∃v,e=.returned v/\v≠.slice none 0 0/\w'.ownsRow w.heap.size 3 1 v n a/\Below w.heap.size w w':=by
 have h:=bi hc;have q1:=aaK;clear hc;have b:=bi ((bd w.heap.size w).alloc (ao _) (.cells #[] 3))
 go_enter (fx (by decide) bj),bm
 go_wp2_with (at_builtin;refine ga VF VG rfl (by decide) (by decide) rfl _ _ rfl w.heap.size w.heap.size rfl (au w (.cells #[] 3)) (ao _) k off n c a rfl hl (λj u e=>(b.out.cell (p:=⟨k,off+j,none⟩) g).trans (h.out j u e)) d f ?_;intro v' w2 i hv l)
 go_ret
 exact⟨_,rfl,hv,i,b.out.trans l⟩
def dJ{W:World}{b b' e m n:Nat}{v:Value}{l:List Value}(h:W.ownsRow b e m v n l)(hb:b'<=b):W.ownsRow b' e m v n l:=by
 obtain⟨c,h⟩:=h
 rcases h with h|⟨g,cap,a,e1,d,hg,f⟩
 ·exact⟨c,.inl h⟩
 ·exact⟨c,.inr ⟨g,cap,a,e1,aB hb d,hg,f⟩⟩
def iu{W:World}{a b:Nat}{x y:Array Value}{t u:ab}(h:W.heap[a]?=some (.cells x t))(k:W.heap[b]?=some (.cells y u))(c:t≠u):a≠b:=λe=>by
 subst e;rw[h]at k;cases k;exact c rfl
def Fe{W:World}{b o:Nat}{v:Value}{c:Array Value}{t:ab}(h:W.heap[b]?=some (.cells c t)):(W.setCell ⟨b,o,none⟩ v).heap[b]?=some (.cells (c.setIfInBounds o v) t):=by
 simp only[bA,b8,if_pos,h,cf];rfl
def aZ{W:World}{b o k:Nat}{v:Value}(h:b≠k):(W.setCell ⟨b,o,none⟩ v).heap[k]?=W.heap[k]?:=by
 simp only[bA,b8,if_neg h]
def nC{W:World}{r:Nat}{x0 x1 x2 x3 x4 a u0 u1 u2 u3 u4 u5:Value}{t:ab}(h:W.heap[r]?=some (.cells #[x0,x1,x2,x3,x4,a] t)):((((((W.setCell ⟨r,0,none⟩ u0).setCell ⟨r,1,none⟩ u1).setCell ⟨r,2,none⟩ u2).setCell ⟨r,3,none⟩ u3).setCell ⟨r,4,none⟩ u4).setCell ⟨r,5,none⟩ u5).heap[r]?=some (.cells #[u0,u1,u2,u3,u4,u5] t):=by
 simp only[bA,b8,if_pos,h,cf];rfl
def cM{W:World}{r b:Nat}{u0 u1 u2 u3 u4 u5:Value}(hb:b≠r):((((((W.setCell ⟨r,0,none⟩ u0).setCell ⟨r,1,none⟩ u1).setCell ⟨r,2,none⟩ u2).setCell ⟨r,3,none⟩ u3).setCell ⟨r,4,none⟩ u4).setCell ⟨r,5,none⟩ u5).heap[b]?=W.heap[b]?:=by
 simp only[bA,b8,if_neg (Ne.symm hb)]
def wJ{W:World}{K o x:Nat}{v:Value}{cur:Array Value}{t:ab}(h:W.heap[K]?=some (.cells cur t))(a:o<cur.size):(W.setCell ⟨K,o,none⟩ v).cell? ⟨K,x,none⟩=if x=o then some v else W.cell? ⟨K,x,none⟩:=by
 simp only[bC,Fe h,h,Array.getElem?_setIfInBounds];by_cases e:x=o
 ·subst e;simp[a]
 ·rw[if_neg e];have b:¬o=x:=λh=>e h.symm;simp[b]
def ahy{W:World}{K o b x:Nat}{v:Value}(hb:K≠b):(W.setCell ⟨K,o,none⟩ v).cell? ⟨b,x,none⟩=W.cell? ⟨b,x,none⟩:=by
 simp only[bC,aZ hb]
def alD{b c:Type}(f:b->List c)(m:Nat)(a:∀x,(f x).length=m)(l:List b)(i j:Nat)(hi:i<l.length)(d:j<m):(l.flatMap f)[i*m+j]?=(f l[i])[j]?:=by
 induction l generalizing i with
 |nil=>cases hi
 |cons x l e=>
  rw[cg]
  match i with
  |0=>rw[aw,aq,ch (by rw[a];exact d)];rfl
  |i+1=>
   rw[List.getElem?_append_right (by rw[a,aF];omega),a,show(i+1)*m+j-m=i*m+j by rw[aF];omega,e i (by simpa using hi)];rfl
def rowOf(f:Nat->List Value)(n:Nat):List Value:=(ci n).flatMap f
def ac5{f:Nat->List Value}{n m i j:Nat}(a:∀i,(f i).length=m)(hi:i<n)(b:j<m):(rowOf f n)[i*m+j]?=(f i)[j]?:=by
 have:=alD f m a (ci n) i j (by simpa using hi) b;unfold rowOf;simpa using this
def abe{f:Nat->List Value}{m:Nat}(a:∀i,(f i).length=m)(n:Nat):(rowOf f n).length=n*m:=by
 have:∀l:List Nat,(l.flatMap f).length=l.length*m:=λl=>by
  induction l with
  |nil=>simp
  |cons x l b=>rw[cg,cl,b,a,cm,aF];omega
 unfold rowOf;rw[this,List.length_range]
def j8(w:World)(k o n m:Nat)(f:Nat->List Value):Prop:=∀i,i<n->∀q,q<m->w.cell? ⟨k,o+i*m+q,none⟩=(f i)[q]?
def j8.get{w:World}{k o n m:Nat}{f:Nat->List Value}(c:∀i,(f i).length=m)(hc:j8 w k o n m f):∀j u,(rowOf f n)[j]?=some u->w.cell? ⟨k,o+j,none⟩=some u:=λj u e=>by
 have a:=(List.getElem?_eq_some_iff.1 e).1;rw[abe c]at a;have b:0<m:=Nat.pos_of_ne_zero λh=>by subst h;simp at a
 obtain⟨i,q,hi,d,rfl⟩:∃i q,i<n/\q<m/\j=i*m+q:=⟨j / m,j % m,Nat.div_lt_of_lt_mul (by rw[aI];exact a),Nat.mod_lt j b,by rw[aI];exact(Nat.div_add_mod j m).symm⟩
 rw[ac5 c hi d]at e;rw[<-Nat.add_assoc];exact(hc i hi q d).trans e
def KD.mk'{w:World}{b:Option Addr}{k o n m:Nat}{f:Nat->List Value}(a:∀i,(f i).length=m)(c:n<=1000)(d:∀i,∀u∈f i,u.oneCell'=true)(hs:0<n->b=some ⟨k,o,none⟩)(e:0<n->k<w.heap.size)(hc:j8 w k o n m f):KD w b n m (rowOf f n):=by
 refine⟨abe a n,c,λu g=>?_,λh=>⟨k,o,hs h,e h,hc.get a⟩⟩;obtain⟨i,_,h⟩:=List.mem_flatMap.1 g;exact d i u h
def j8.of{W:World}{g n m e:Nat}{f:Nat->List Value}{cur:Array Value}(a:∀i,(f i).length=m)(h:W.heap[g]?=some (.cells cur e))(b:cur.toList.take (n*m)=rowOf f n):j8 W g 0 n m f/\n*m<=cur.size:=by
 have hl:=congrArg List.length b;rw[abe a,List.length_take,Array.length_toList]at hl;refine⟨λi hi q c=>?_,by omega⟩;have d:i*m+q<n*m:=by
  have:i*m+m<=n*m:=by rw[<-aJ];exact aL m hi
  omega
 rw[<-ac5 a hi c,<-b,List.getElem?_take_of_lt d,aq];simp[bC,h]
def alE(x:Int×Int):List Value:=[.int .i64 x.1,.int .i64 x.2]
def alF(x:Int×Int×Int):List Value:=[.int .i64 x.1,.int .i64 x.2.1,.int .i64 x.2.2]
def ags(x:ByteArray×Int×Int):List Value:=[.string x.1,.int .i64 x.2.1,.int .i64 x.2.2]
def X0(x:iJ):List Value:=.string x.name::((ci 10).map λj=>.int .i64 (x.n (j+1)))++[.slice x.lb x.ln x.lc]
def abt(x:iJ)(j:Nat):List Value:=[.int .i64 (x.lane j)]
def aaJ(x:iJ):(X0 x).length=12:=by simp[X0]
def abl(x:iJ){q:Nat}(a:1<=q)(b:q<=10):(X0 x)[q]?=some (.int .i64 (x.n q)):=by
 obtain⟨q,rfl⟩:∃k,q=k+1:=⟨q-1,by omega⟩
 have hl:q<10:=by omega
 simp[X0,ch,hl]
def agU(x:iJ):∀u∈X0 x,u.oneCell'=true:=by
 intro u h;simp only[X0,co,cp,List.mem_append,List.mem_map,cq,or_false]at h
 rcases h with rfl|⟨j,_,rfl⟩|rfl<;>rfl
structure E0(C:CD)(w:World):Prop where
 m2:C.n2<=20
 m3:C.n3<=20
 m4:C.n4<=20
 m5:C.n5<=20
 h2:C.k2<w.heap.size
 h3:C.k3<w.heap.size
 h4:C.k4<w.heap.size
 h5:C.k5<w.heap.size
 s2:0<C.n2->C.b2=some ⟨C.k2,C.o2,none⟩
 s3:0<C.n3->C.b3=some ⟨C.k3,C.o3,none⟩
 s4:0<C.n4->C.b4=some ⟨C.k4,C.o4,none⟩
 s5:0<C.n5->C.b5=some ⟨C.k5,C.o5,none⟩
 r2:j8 w C.k2 C.o2 C.n2 2 λi=>alE (C.x2 i)
 r3:j8 w C.k3 C.o3 C.n3 3 λi=>alF (C.x3 i)
 r4:j8 w C.k4 C.o4 C.n4 12 λi=>X0 (C.x4 i)
 r5:j8 w C.k5 C.o5 C.n5 3 λi=>ags (C.x5 i)
 cu:∀i,i<C.n4->(C.x4 i).name.size<=100/\(C.x4 i).ln<=20
 nm5:∀i,i<C.n5->(C.x5 i).1.size<=100
 l4:∀i,i<C.n4->0<(C.x4 i).ln->(C.x4 i).lb=some ⟨(C.x4 i).lk,(C.x4 i).lo,none⟩/\(C.x4 i).lk<w.heap.size
 rl:∀i,i<C.n4->j8 w (C.x4 i).lk (C.x4 i).lo (C.x4 i).ln 1 (abt (C.x4 i))
def CD.At.rows{C:CD}{w:World}(h:C.At w):E0 C w:=by
 obtain⟨m2,m3,m4,m5,h2,h3,h4,h5,s2,s3,s4,s5,Ep,Er,Es,Et,Eu,cu,AD,dB,nj,l4,J5,nm5,FI,HU,J6⟩:=h;refine⟨m2,m3,m4,m5,h2,h3,h4,h5,s2,s3,s4,s5,λi hi q a=>?_,λi hi q a=>?_,λi hi q a=>?_,λi hi q a=>?_,cu,nm5,l4,λi hi j b q a=>?_⟩
 ·match q,a with
  |0,_=>exact Ep i hi
  |1,_=>exact Er i hi
 ·match q,a with
  |0,_=>exact Es i hi
  |1,_=>exact Et i hi
  |2,_=>exact Eu i hi
 ·by_cases c:q=0
  ·subst c;exact AD i hi
  ·by_cases d:q=11
   ·subst d;exact nj i hi
   ·rw[abl _ (by omega) (by omega)];exact dB i hi q (by omega) (by omega)
 ·match q,a with
  |0,_=>exact FI i hi
  |1,_=>exact HU i hi
  |2,_=>exact J6 i hi
 ·obtain rfl:q=0:=by omega
  have:=J5 i hi j b;rw[aP];exact this
def E0.at_{C:CD}{w:World}(h:E0 C w):C.At w:=by
 obtain⟨m2,m3,m4,m5,h2,h3,h4,h5,s2,s3,s4,s5,r2,r3,r4,r5,cu,nm5,l4,rl⟩:=h
 exact⟨m2,m3,m4,m5,h2,h3,h4,h5,s2,s3,s4,s5,λi hi=>r2 i hi 0 (by omega),λi hi=>r2 i hi 1 (by omega),λi hi=>r3 i hi 0 (by omega),λi hi=>r3 i hi 1 (by omega),λi hi=>r3 i hi 2 (by omega),cu,λi hi=>r4 i hi 0 (by omega),
  λi hi j a h2=>(r4 i hi j (by omega)).trans (abl _ a h2),λi hi=>r4 i hi 11 (by omega),l4,λi hi j b=>by have:=rl i hi j b 0 (by omega);rw[aP]at this;exact this,nm5,λi hi=>r5 i hi 0 (by omega),λi hi=>r5 i hi 1 (by omega),λi hi=>r5 i hi 2 (by omega)⟩
abbrev CD.anT(C:CD):List Value:=rowOf (λi=>alE (C.x2 i)) C.n2
abbrev CD.anU(C:CD):List Value:=rowOf (λi=>alF (C.x3 i)) C.n3
abbrev CD.anV(C:CD):List Value:=rowOf (λi=>X0 (C.x4 i)) C.n4
abbrev CD.adP(C:CD):List Value:=rowOf (λi=>ags (C.x5 i)) C.n5
def E0.ar3{C:CD}{w:World}(h:E0 C w):KD w C.b2 C.n2 2 C.anT:=.mk' (λ_=>rfl) (aB h.m2 (by decide)) (λi u a=>by simp only[alE,cp,cq,or_false]at a;rcases a with rfl|rfl<;>rfl) h.s2 (λ_=>h.h2) h.r2
def E0.ar4{C:CD}{w:World}(h:E0 C w):KD w C.b3 C.n3 3 C.anU:=.mk' (λ_=>rfl) (aB h.m3 (by decide)) (λi u a=>by simp only[alF,cp,cq,or_false]at a;rcases a with rfl|rfl|rfl<;>rfl) h.s3 (λ_=>h.h3) h.r3
def E0.ar5{C:CD}{w:World}(h:E0 C w):KD w C.b4 C.n4 12 C.anV:=.mk' (λ_=>aaJ _) (aB h.m4 (by decide)) (λi=>agU _) h.s4 (λ_=>h.h4) h.r4
def E0.ar6{C:CD}{w:World}(h:E0 C w):KD w C.b5 C.n5 3 C.adP:=.mk' (λ_=>rfl) (aB h.m5 (by decide)) (λi u a=>by simp only[ags,cp,cq,or_false]at a;rcases a with rfl|rfl|rfl<;>rfl) h.s5 (λ_=>h.h5) h.r5
def E0.ar7{C:CD}{w:World}(h:E0 C w){i:Nat}(hi:i<C.n4):KD w (C.x4 i).lb (C.x4 i).ln 1 (rowOf (abt (C.x4 i)) (C.x4 i).ln):=.mk' (λ_=>rfl) (aB (h.cu i hi).2 (by decide)) (λj u a=>by simp only[abt,List.mem_singleton]at a;subst a;rfl) (λhl=>(h.l4 i hi hl).1) (λhl=>(h.l4 i hi hl).2) (h.rl i hi)
structure abu(x y:iJ):Prop where
 name:y.name=x.name
 n:y.n=x.n
 ln:y.ln=x.ln
 lane:y.lane=x.lane
 nil:x.lb=none->x.lc=0->y.lb=none/\y.lc=0
def Typ(W:World)(k e:Nat):Prop:=∃a,W.heap[k]?=some (.cells a e)
def Typ.on{W a:World}{k e:Nat}(h:Typ W k e)(b:Below W.heap.size W a):Typ a k e:=h.imp λ_ h=>(b.block _ (bc h)).trans h
def Typ.ne{W:World}{k k' e e':Nat}(h:Typ W k e)(a:Typ W k' e')(b:e≠e'):k≠k':=by
 obtain⟨_,h⟩:=h;obtain⟨_,a⟩:=a;exact iu h a b
def Typ.set{W:World}{k e K o:Nat}{v:Value}(h:Typ W k e):Typ (W.setCell ⟨K,o,none⟩ v) k e:=by
 obtain⟨c,h⟩:=h;by_cases a:K=k
 ·subst a;exact⟨_,Fe h⟩
 ·exact⟨c,(aZ a).trans h⟩
structure u7(n0 i:Nat)(D:CD)(W:World):Prop where
 mem:E0 D W
 t2:0<D.n2->Typ W D.k2 48
 t3:0<D.n3->Typ W D.k3 92
 t4:n0<=D.k4/\D.o4=0/\∃cur,W.heap[D.k4]?=some (.cells cur 85)/\D.n4*12<=cur.size
 t5:0<D.n5->n0<=D.k5/\D.o5=0/\∃cur,W.heap[D.k5]?=some (.cells cur 87)/\D.n5*3<=cur.size
 tl:∀j,j<D.n4->0<(D.x4 j).ln->(j<i->Typ W (D.x4 j).lk 3)/\(i<=j->(D.x4 j).lk<n0)
def E0.on{C:CD}{w W:World}(h:E0 C w)(a:Below w.heap.size w W):E0 C W:=(h.at_.below a).rows
def u7.on{n0 i:Nat}{D:CD}{W c:World}(h:u7 n0 i D W)(b:Below W.heap.size W c):u7 n0 i D c:=
 ⟨h.mem.on b,λa=>(h.t2 a).on b,λa=>(h.t3 a).on b,⟨h.t4.1,h.t4.2.1,h.t4.2.2.imp λ_ k=>⟨(b.block _ (bc k.1)).trans k.1,k.2⟩⟩,
   λa=>⟨(h.t5 a).1,(h.t5 a).2.1,(h.t5 a).2.2.imp λ_ k=>⟨(b.block _ (bc k.1)).trans k.1,k.2⟩⟩,λj d hl=>⟨λhi=>((h.tl j d hl).1 hi).on b,(h.tl j d hl).2⟩⟩
def j8.other{W:World}{K O k o n m:Nat}{v:Value}{f:Nat->List Value}(h:j8 W k o n m f)(a:0<n->K≠k):j8 (W.setCell ⟨K,O,none⟩ v) k o n m f:=λi hi q b=>(ahy (a (by omega))).trans (h i hi q b)
def j8.put{W:World}{K n m p r:Nat}{v:Value}{f g:Nat->List Value}{cur:Array Value}{t:ab}(h:j8 W K 0 n m f)(j:W.heap[K]?=some (.cells cur t))(hs:n*m<=cur.size)(k:p<n)(c:r<m)(l:∀i,i≠p->g i=f i)(o:∀q,q<m->(g p)[q]?=if q=r then some v else(f p)[q]?):j8 (W.setCell ⟨K,p*m+r,none⟩ v) K 0 n m g:=λi hi q a=>by
 have key:∀i,i<n->∀q,q<m->i*m+q<n*m:=λi hi q a=>by
  have:i*m+m<=n*m:=by rw[<-aJ];exact aL m hi
  omega
 have b:=h i hi q a;rw[aq]at b⊢;rw[wJ j (by have:=key p k r c;omega)];by_cases e:i=p
 ·subst e;rw[o q a];by_cases d:q=r
  ·subst d;rw[if_pos rfl,if_pos rfl]
  ·rw[if_neg (by omega),if_neg d,b]
 ·rw[l i e,if_neg ?_,b];intro s;have u:(i*m+q) / m=(p*m+r) / m:=by rw[s]
  rw[aI i,aI p,aS (by omega),aS (by omega),aT a,aT c]at u;exact e (by omega)
def u7.ar8{n0 i:Nat}{D:CD}{W:World}(h:u7 n0 i D W){p:Nat}(s:p<D.n5)(d:Int):u7 n0 i { D with x5:=λj=>if j=p then((D.x5 j).1,(D.x5 j).2.1,d) else D.x5 j } (W.setCell ⟨D.k5,p*3+2,none⟩ (.int .i64 d)):=by
 have l:0<D.n5:=by omega
 obtain⟨t,n,u,hc,hs⟩:=h.t5 l;have T5:Typ W D.k5 87:=⟨_,hc⟩
 have r:Typ W D.k4 85:=h.t4.2.2.imp λ_ k=>k.1;have m:=h.mem;have o:j8 W D.k5 0 D.n5 3 λi=>ags (D.x5 i):=n▸m.r5;have v:∀j,j<D.n4->0<(D.x4 j).ln->D.k5≠(D.x4 j).lk:=λj g hl=>by
  by_cases w:j<i
  ·exact T5.ne ((h.tl j g hl).1 w) (by decide)
  ·have:=(h.tl j g hl).2 (by omega);omega
 refine⟨⟨m.m2,m.m3,m.m4,m.m5,by rw[bL];exact m.h2,by rw[bL];exact m.h3,by rw[bL];exact m.h4,by rw[bL];exact m.h5,m.s2,m.s3,m.s4,m.s5,m.r2.other λl=>T5.ne (h.t2 l) (by decide),m.r3.other λl=>T5.ne (h.t3 l) (by decide),m.r4.other λ_=>T5.ne r (by decide),?_,m.cu,λj g=>?_,λj g hl=>⟨(m.l4 j g hl).1,by rw[bL];exact(m.l4 j g hl).2⟩,λj g=>(m.rl j g).other λhl=>v j g hl⟩,λl=>(h.t2 l).set,λl=>(h.t3 l).set,?_,λ_=>⟨t,n,_,Fe hc,by rw[b9];exact hs⟩,λj g hl=>⟨λhi=>((h.tl j g hl).1 hi).set,(h.tl j g hl).2⟩⟩
 ·show j8 _ D.k5 D.o5 D.n5 3 _;rw[n];refine o.put hc hs s (by decide) (λj g=>?_) (λq x=>?_)
  ·show ags (if j=p then _ else _)=_;rw[if_neg g]
  ·show(ags (if p=p then _ else _))[q]?=_;rw[if_pos rfl]
   match q,x with
   |0,_=>rfl
   |1,_=>rfl
   |2,_=>rfl
 ·show(if j=p then((D.x5 j).1,(D.x5 j).2.1,d) else D.x5 j).1.size<=100
  split
  ·exact m.nm5 j g
  ·exact m.nm5 j g
 ·obtain⟨a,b,c,e,f⟩:=h.t4;exact⟨a,b,c,(aZ (T5.ne r (by decide))).trans e,f⟩
def u7.ar9{n0 i l:Nat}{D:CD}{W:World}(h:u7 n0 i D W){f:Nat->iJ}{p r:Nat}{v:Value}(y:p<D.n4)(z:r<12)(n:∀j,j≠p->f j=D.x4 j)(A:∀q,q<12->(X0 (f p))[q]?=if q=r then some v else(X0 (D.x4 p))[q]?)
 (d:(f p).name=(D.x4 p).name/\(f p).ln=(D.x4 p).ln) (hl:0<(f p).ln->(f p).lb=some ⟨(f p).lk,(f p).lo,none⟩/\(f p).lk<W.heap.size) (t:j8 W (f p).lk (f p).lo (f p).ln 1 (abt (f p))) (o:∀j,j<D.n4->0<(f j).ln->(j<l->Typ W (f j).lk 3)/\(l<=j->(f j).lk<n0)) :
 u7 n0 l { D with x4:=f } (W.setCell ⟨D.k4,p*12+r,none⟩ v):=by
 obtain⟨B,u,C,hc,hs⟩:=h.t4;have s:Typ W D.k4 85:=⟨_,hc⟩
 have m:=h.mem;have w:j8 W D.k4 0 D.n4 12 λi=>X0 (D.x4 i):=u▸m.r4;have E:∀j,j<D.n4->0<(f j).ln->D.k4≠(f j).lk:=λj g hl=>by
  by_cases F:j<l
  ·exact s.ne ((o j g hl).1 F) (by decide)
  ·have:=(o j g hl).2 (by omega);omega
 have T5:0<D.n5->D.k4≠D.k5:=λd=>s.ne ((h.t5 d).2.2.imp λ_ k=>k.1) (by decide);refine⟨⟨m.m2,m.m3,m.m4,m.m5,by rw[bL];exact m.h2,by rw[bL];exact m.h3,by rw[bL];exact m.h4,by rw[bL];exact m.h5,m.s2,m.s3,m.s4,m.s5,m.r2.other λd=>s.ne (h.t2 d) (by decide),m.r3.other λd=>s.ne (h.t3 d) (by decide),?_,m.r5.other T5,λj g=>?_,m.nm5,λj g hl=>?_,λj g=>?_⟩,λd=>(h.t2 d).set,λd=>(h.t3 d).set,⟨B,u,_,Fe hc,by rw[b9];exact hs⟩,λd=>?_,λj g hl=>⟨λhi=>((o j g hl).1 hi).set,(o j g hl).2⟩⟩
 ·show j8 _ D.k4 D.o4 D.n4 12 _;rw[u];exact w.put hc hs y z (λj g=>by show X0 (f j)=_;rw[n j g]) A
 ·show(f j).name.size<=100/\(f j).ln<=20;by_cases e:j=p
  ·subst e;rw[d.1,d.2];exact m.cu j g
  ·rw[n j e];exact m.cu j g
 ·rw[bL];have x:0<(f j).ln:=hl;show(f j).lb=some ⟨(f j).lk,(f j).lo,none⟩/\(f j).lk<W.heap.size;by_cases e:j=p
  ·subst e;exact hl x
  ·rw[n j e]at x ⊢;exact m.l4 j g x
 ·have:=λhl=>E j g hl;show j8 _ (f j).lk (f j).lo (f j).ln 1 (abt (f j));refine j8.other ?_ this;by_cases e:j=p
  ·subst e;exact t
  ·rw[n j e];exact m.rl j g
 ·obtain⟨a,b,c,e,f⟩:=h.t5 d;exact⟨a,b,c,(aZ (T5 d)).trans e,f⟩
def u7.other{n0 i:Nat}{D:CD}{W:World}(h:u7 n0 i D W){K:Nat}(c:Typ W K 27)(o:Nat)(v:Value)(hl:n0<=K):u7 n0 i D (W.setCell ⟨K,o,none⟩ v):=by
 have m:=h.mem;have d:K≠D.k4:=c.ne (h.t4.2.2.imp λ_ k=>k.1) (by decide);have T5:0<D.n5->K≠D.k5:=λa=>c.ne ((h.t5 a).2.2.imp λ_ k=>k.1) (by decide);have e:∀j,j<D.n4->0<(D.x4 j).ln->K≠(D.x4 j).lk:=λj b hl=>by
  by_cases f:j<i
  ·exact c.ne ((h.tl j b hl).1 f) (by decide)
  ·have:=(h.tl j b hl).2 (by omega);omega
 exact⟨⟨m.m2,m.m3,m.m4,m.m5,by rw[bL];exact m.h2,by rw[bL];exact m.h3,by rw[bL];exact m.h4,by rw[bL];exact m.h5,m.s2,m.s3,m.s4,m.s5,m.r2.other λa=>c.ne (h.t2 a) (by decide),m.r3.other λa=>c.ne (h.t3 a) (by decide),m.r4.other λ_=>d,m.r5.other T5,m.cu,m.nm5,λj b hl=>⟨(m.l4 j b hl).1,by rw[bL];exact(m.l4 j b hl).2⟩,λj b=>(m.rl j b).other λhl=>e j b hl⟩,λa=>(h.t2 a).set,λa=>(h.t3 a).set,⟨h.t4.1,h.t4.2.1,h.t4.2.2.imp λ_ k=>⟨(aZ d).trans k.1,k.2⟩⟩,λa=>⟨(h.t5 a).1,(h.t5 a).2.1,(h.t5 a).2.2.imp λ_ k=>⟨(aZ (T5 a)).trans k.1,k.2⟩⟩,λj b hl=>⟨λhi=>((h.tl j b hl).1 hi).set,(h.tl j b hl).2⟩⟩
structure abS where
 B2:Option Addr
 K2:Nat
 p2:Nat
 B3:Option Addr
 K3:Nat
 p3:Nat
 K4:Nat
 p4:Nat
 B5:Option Addr
 K5:Nat
 p5:Nat
abbrev CD.s9(C:CD)(Y:abS)(f:Nat->iJ):CD:=
 { C with b2:=Y.B2,k2:=Y.K2,o2:=0,c2:=Y.p2,b3:=Y.B3,k3:=Y.K3,o3:=0,c3:=Y.p3,b4:=some ⟨Y.K4,0,none⟩,k4:=Y.K4,o4:=0,c4:=Y.p4,x4:=f,b5:=Y.B5,k5:=Y.K5,o5:=0,c5:=Y.p5 }
def abu.refl(x:iJ):abu x x:=⟨rfl,rfl,rfl,rfl,λh k=>⟨h,k⟩⟩
def u7.ara{n0 i g c:Nat}{D:CD}{W:World}{b':Option Addr}(h:u7 n0 i D W)(hi:i<D.n4)(hv:(0<(D.x4 i).ln->b'=some ⟨g,0,none⟩/\∃cur,W.heap[g]?=some (.cells cur 3)/\cur.toList.take ((D.x4 i).ln*1)=rowOf (abt (D.x4 i)) (D.x4 i).ln)) :
 u7 n0 (i+1) { D with x4:=λj=>if j=i then { D.x4 j with lb:=b',lk:=g,lo:=0,lc:=c } else D.x4 j } (W.setCell ⟨D.k4,i*12+11,none⟩ (.slice b' (D.x4 i).ln c)):=by
 refine h.ar9 hi (by decide) (λj a=>if_neg a) (λq n=>?_) (by rw[if_pos rfl];exact⟨rfl,rfl⟩) (λhl=>?_) ?_ (λj a hl=>?_)
 ·rw[if_pos rfl];by_cases e:q=11
  ·subst e;rfl
  ·rw[if_neg e];by_cases d:q=0
   ·subst d;rfl
   ·rw[abl _ (by omega) (by omega),abl _ (by omega) (by omega)]
 ·rw[if_pos rfl]at hl ⊢;obtain⟨f,cur,b,_⟩:=hv hl;exact⟨f,bc b⟩
 ·rw[if_pos rfl];by_cases hl:0<(D.x4 i).ln
  ·obtain⟨_,cur,b,k⟩:=hv hl;exact(j8.of (m:=1) (λ_=>rfl) b k).1
  ·intro j a;exact absurd a (by show¬j<(D.x4 i).ln;omega)
 ·by_cases e:j=i
  ·subst e;rw[if_pos rfl]at hl ⊢;obtain⟨_,cur,b,_⟩:=hv hl;exact⟨λ_=>⟨cur,b⟩,λh=>by omega⟩
  ·rw[if_neg e]at hl ⊢;exact⟨λl=>(h.tl j a hl).1 (by omega),λl=>(h.tl j a hl).2 (by omega)⟩
abbrev RX:Array Value:=#[.int .i64 0,.int .i64 0,.slice none 0 0,.slice none 0 0,.slice none 0 0,.slice none 0 0]
structure KO(V:Array Value)(w W:World):Prop where
 box:W.heap[w.heap.size]?=some (.cells V 27)
 res:W.heap[w.heap.size+1]?=some (.cells RX 27)
 low:Below w.heap.size w W
def KO.on{V:Array Value}{w W b:World}(h:KO V w W)(a:Below W.heap.size W b):KO V w b:=
 ⟨(a.block _ (bc h.box)).trans h.box,(a.block _ (bc h.res)).trans h.res,dd h.low a⟩
def KO.start(V:Array Value)(w:World):KO V w ((w.alloc (.cells V 27)).alloc (.cells RX 27)):=by
 refine⟨?_,?_,((bd _ _).alloc (ao _) _).alloc (by simp) _⟩
 ·exact(((bd (w.alloc (.cells V 27)).heap.size _).alloc (ao _) _).block _ (by simp)).trans (au w _)
 ·have a:=au (w.alloc (.cells V 27)) (.cells RX 27);rw[bM]at a;exact a
def RY(C:CD)(w:World)(i:Nat)(vs:Nat->Value)(W:World):Prop:=
 (i=2->N5 w W 48 2 C.n2 C.anT C.b2 (vs 2))/\(i=5->N5 w W 92 3 C.n3 C.anU C.b3 (vs 5))/\(i=8->N5 w W 85 12 C.n4 C.anV C.b4 (vs 8))/\(i=11->N5 w W 87 3 C.n5 C.adP C.b5 (vs 11))
def VP{C:CD}{w W b:World}{i:Nat}{vs:Nat->Value}(a:Below W.heap.size W b)(h:RY C w i vs W):RY C w i vs b:=
 ⟨λe=>(h.1 e).on a,λe=>(h.2.1 e).on a,λe=>(h.2.2.1 e).on a,λe=>(h.2.2.2 e).on a⟩
def RZ{C:CD}{w W:World}{i:Nat}{vs b:Nat->Value}(a:vs i=b i)(h:RY C w i vs W):RY C w i b W:=
 ⟨λe=>by subst e;rw[<-a];exact h.1 rfl,λe=>by subst e;rw[<-a];exact h.2.1 rfl,λe=>by subst e;rw[<-a];exact h.2.2.1 rfl,λe=>by subst e;rw[<-a];exact h.2.2.2 rfl⟩
def N5.pick{w W:World}{e m n d:Nat}{row:List Value}{b:Option Addr}{v:Value}(h:N5 w W e m n row b v)(hd:d<W.heap.size):∃B c K,v=.slice B n c/\(b=none->B=none/\c=0)/\K<W.heap.size/\(0<n->B=some ⟨K,0,none⟩/\w.heap.size<=K/\∃cur,W.heap[K]?=some (.cells cur e)/\cur.toList.take (n*m)=row):=by
 obtain⟨B,c,hv,a,i⟩:=h;by_cases f:0<n
 ·obtain⟨g,cur,a1,a2,a3,a4⟩:=i f;exact⟨B,c,g,hv,a,bc a3,λ_=>⟨a1,a2,cur,a3,a4⟩⟩
 ·exact⟨B,c,d,hv,a,hd,λh=>absurd h f⟩
def aas{W:World}{n m e K:Nat}{B:Option Addr}{f:Nat->List Value}{n0:Nat}(a:∀i,(f i).length=m)(h:0<n->B=some ⟨K,0,none⟩/\n0<=K/\∃cur,W.heap[K]?=some (.cells cur e)/\cur.toList.take (n*m)=rowOf f n):j8 W K 0 n m f:=by
 by_cases b:0<n
 ·obtain⟨_,_,cur,c,d⟩:=h b;exact(j8.of a c d).1
 ·intro i hi;omega
def abv(C:CD)(f:Nat->iJ):Prop:=(∀j,abu (C.x4 j) (f j))/\∀j,j<C.n4->(f j).lo=0
structure KI(C:CD)(Y:abS)(w:World)(i:Nat)(f:Nat->iJ)(W:World):Prop where
 box:W.heap[w.heap.size]?=some (.cells (C.s9 Y f).val 27)
 res:W.heap[w.heap.size+1]?=some (.cells RX 27)
 low:Below w.heap.size w W
 own:u7 w.heap.size i (C.s9 Y f) W
 s9:∀j,abu (C.x4 j) (f j)
 old:∀j,i<=j->f j=C.x4 j
 zero:∀j,j<i->(f j).lo=0
def KI.on{C:CD}{Y:abS}{w:World}{i:Nat}{f:Nat->iJ}{W b:World}(h:KI C Y w i f W)(a:Below W.heap.size W b):KI C Y w i f b:=
 ⟨(a.block _ (bc h.box)).trans h.box,(a.block _ (bc h.res)).trans h.res,dd h.low a,h.own.on a,h.s9,h.old,h.zero⟩
def KI.lane{C:CD}{Y:abS}{w wr:World}{i:Nat}{f:Nat->iJ}{W:World}(h:KI C Y w i f W)(hi:i<C.n4){B:Option Addr}{c K:Nat}(l:(f i).lb=none->B=none/\c=0)(d:0<(f i).ln->B=some ⟨K,0,none⟩/\wr.heap.size<=K/\∃cur,W.heap[K]?=some (.cells cur 3)/\cur.toList.take ((f i).ln*1)=rowOf (abt (f i)) (f i).ln) :
 KI C Y w (i+1) (λj=>if j=i then { f j with lb:=B,lk:=K,lo:=0,lc:=c } else f j) (W.setCell ⟨Y.K4,i*12+11,none⟩ (.slice B (f i).ln c)):=by
 have g:Typ W Y.K4 85:=h.own.t4.2.2.imp λ_ k=>k.1;have m:w.heap.size<=Y.K4:=h.own.t4.1;refine⟨(aZ (g.ne ⟨_,h.box⟩ (by decide))).trans h.box,(aZ (g.ne ⟨_,h.res⟩ (by decide))).trans h.res,h.low.setCell (p:=⟨Y.K4,_,none⟩) m _,h.own.ara hi λhl=>⟨(d hl).1,(d hl).2.2⟩,λj=>?_,λj o=>?_,λj o=>?_⟩
 ·by_cases e:j=i
  ·subst e;rw[if_pos rfl];have k:=h.s9 j;have q:=h.old j (ao _);exact⟨k.name,k.n,k.ln,k.lane,λa b=>l (by rw[q];exact a)⟩
  ·rw[if_neg e];exact h.s9 j
 ·rw[if_neg (by omega)];exact h.old j (by omega)
 ·by_cases e:j=i
  ·rw[if_pos e]
  ·rw[if_neg e];exact h.zero j (by omega)
def u7.acC{n0 i:Nat}{D:CD}{W:World}(h:u7 n0 i D W){K:Nat}(a:Typ W K 27)(hl:n0<=K)(u0 u1 u2 u3 u4 u5:Value):u7 n0 i D ((((((W.setCell ⟨K,0,none⟩ u0).setCell ⟨K,1,none⟩ u1).setCell ⟨K,2,none⟩ u2).setCell ⟨K,3,none⟩ u3).setCell ⟨K,4,none⟩ u4).setCell ⟨K,5,none⟩ u5):=
 (((((h.other a 0 u0 hl).other a.set 1 u1 hl).other a.set.set 2 u2 hl).other a.set.set.set 3 u3 hl).other a.set.set.set.set 4 u4 hl).other a.set.set.set.set.set 5 u5 hl
def ahz(C:CD)(w:World)(h:C.At w)(h4:0<C.n4):Calls PL 61 #[.agg C.val] w λe w'=>∃Y f,e=.returned (.agg (C.s9 Y f).val)/\abv C f/\u7 w.heap.size C.n4 (C.s9 Y f) w'/\Below w.heap.size w w':=by
 have HX:Hid (∀W,Below w.heap.size w W->E0 C W):=bi λW d=>(h.below d).rows;have HL:Hid (∀j,j<C.n4->0<(C.x4 j).ln->(C.x4 j).lk<w.heap.size):=bi λj L hl=>(h.l4 j L hl).2;have K0:=bi (KO.start C.val w);have m4:=h.m4;clear h
 go_enter (fx (by decide) Tryz.func61),Tryz.ntmps61
 go_wp2
 refine ae ?_;refine cT 13 (KO C.val w) (λW r=>Below W.heap.size W r) (λj=>j % 3 != 2||j==12) (RY C w) rfl (by kernel_rfl) (by kernel_rfl) (λ_ _ _ _ D h=>VP D h) (λ_ _ _ _ _ _ he _ h=>RZ he h) ?_ ?_
 ·exact K0.out.on (bd _ _).drew
 ·simp only[ct,cv]
  iterate 13 (
   first
   |(apply aY
     case hE=>rfl
     case h=>
      intro vs W b hd;obtain⟨s,t,u,y,f4,z⟩:=bf b.box
      go_simp
      exact⟨rfl,bd _ _⟩
     case hb=>exact hbT)
   |(apply eH
     case hE=>rfl
     case h=>
      intro vs W b hd;have Q:=HX.out W b.low;have hs:=b.low.size
      go_simp
      first
      |(go_at_call 82;refine(aga _ _ _ _ _ Q.ar3).mono ?_;rintro e r⟨v,rfl,q,d⟩;exact⟨_,rfl,b.on d,d,⟨(λ_=>q.low hs),(λe=>absurd e (by decide)),(λe=>absurd e (by decide)),(λe=>absurd e (by decide))⟩⟩)
      |(go_at_call 83;refine(agb _ _ _ _ _ Q.ar4).mono ?_;rintro e r⟨v,rfl,q,d⟩;exact⟨_,rfl,b.on d,d,⟨(λe=>absurd e (by decide)),(λ_=>q.low hs),(λe=>absurd e (by decide)),(λe=>absurd e (by decide))⟩⟩)
      |(go_at_call 84;refine(agc _ _ _ _ _ Q.ar5).mono ?_;rintro e r⟨v,rfl,q,d⟩;exact⟨_,rfl,b.on d,d,⟨(λe=>absurd e (by decide)),(λe=>absurd e (by decide)),(λ_=>q.low hs),(λe=>absurd e (by decide))⟩⟩)
      |(go_at_call 85;refine(agr _ _ _ _ _ Q.ar6).mono ?_;rintro e r⟨v,rfl,q,d⟩;exact⟨_,rfl,b.on d,d,⟨(λe=>absurd e (by decide)),(λe=>absurd e (by decide)),(λe=>absurd e (by decide)),(λ_=>q.low hs)⟩⟩)
     case hb=>exact hbT))
  refine cP λvs W b hd=>?_;have h2:=((hd 2 (by omega) rfl).1 rfl)
  have h3:=((hd 5 (by omega) rfl).2.1 rfl)
  have M:=((hd 8 (by omega) rfl).2.2.1 rfl)
  have h5:=((hd 11 (by omega) rfl).2.2.2 rfl)
  have A:=bi b;have N:=bc b.box;clear hd b;obtain⟨R,S,K2,e2,_,l2,q2⟩:=h2.pick N;obtain⟨T,U,g,e3,_,l3,q3⟩:=h3.pick N;obtain⟨B4,V,X,e4,_,l4,q4⟩:=M.pick N;obtain⟨B5,Z,K5,e5,_,l5,q5⟩:=h5.pick N;obtain⟨rfl,g4,q4⟩:=q4 h4;rw[e2,e3,e4,e5];obtain⟨Y,hY⟩:∃Y:abS,Y=⟨R,K2,S,T,g,U,X,V,B5,K5,Z⟩:=⟨_,rfl⟩
  have KK:Hid (KI C Y w 0 C.x4 ((((W.setCell ⟨w.heap.size,2,none⟩ (.slice R C.n2 S)).setCell ⟨w.heap.size,3,none⟩ (.slice T C.n3 U)).setCell ⟨w.heap.size,4,none⟩ (.slice (some ⟨X,0,none⟩) C.n4 V)).setCell ⟨w.heap.size,5,none⟩ (.slice B5 C.n5 Z))):=bi (by
   subst hY;have m:=HX.out W A.out.low;have T0:Typ W w.heap.size 27:=⟨_,A.out.box⟩
   have O0:u7 w.heap.size 0 (C.s9 ⟨R,K2,S,T,g,U,X,V,B5,K5,Z⟩ C.x4) W:=by
    obtain⟨c4,E,O⟩:=q4;refine⟨⟨m.m2,m.m3,m.m4,m.m5,l2,l3,l4,l5,λn=>(q2 n).1,λn=>(q3 n).1,λ_=>rfl,λn=>(q5 n).1,aas (λ_=>rfl) q2,aas (λ_=>rfl) q3,(j8.of (λ_=>aaJ _) E O).1,aas (λ_=>rfl) q5,m.cu,m.nm5,m.l4,m.rl⟩,λn=>(q2 n).2.2.imp λ_ k=>k.1,λn=>(q3 n).2.2.imp λ_ k=>k.1,⟨g4,rfl,c4,E,(j8.of (λ_=>aaJ _) E O).2⟩,λn=>?_,λj L hl=>⟨λh=>absurd h (a6 _),λ_=>HL.out j L hl⟩⟩;obtain⟨_,a,c,e,k⟩:=q5 n;exact⟨a,rfl,c,e,(j8.of (m:=3) (λ_=>rfl) e k).2⟩
   have ne:w.heap.size≠w.heap.size+1:=by omega
   refine⟨Fe (Fe (Fe (Fe A.out.box))),?_,(((A.out.low.setCell (p:=⟨w.heap.size,2,none⟩) (ao _) _).setCell (p:=⟨w.heap.size,3,none⟩) (ao _) _).setCell (p:=⟨w.heap.size,4,none⟩) (ao _) _).setCell (p:=⟨w.heap.size,5,none⟩) (ao _) _,(((O0.other T0 2 _ (ao _)).other T0.set 3 _ (ao _)).other T0.set.set 4 _ (ao _)).other T0.set.set.set 5 _ (ao _),λj=>abu.refl _,λ_ _=>rfl,λj L=>absurd L (a6 _)⟩
   rw[aZ ne,aZ ne,aZ ne,aZ ne];exact A.out.res)
  obtain⟨s,t,u,y,f4,z⟩:=bf A.out.box;have fz:=tO A.out.box;clear h2 h3 M h5 q2 q3 q4 q5 e2 e3 e4 e5 l2 l3 l4 l5 g4;simp only[cB,cC]
  go_upto_region 2 with fail
  refine NoPanic.normal ?_;obtain⟨W1,mG⟩:∃W1:World,W1=((((W.setCell ⟨w.heap.size,2,none⟩ (.slice R C.n2 S)).setCell ⟨w.heap.size,3,none⟩ (.slice T C.n3 U)).setCell ⟨w.heap.size,4,none⟩ (.slice (some ⟨X,0,none⟩) C.n4 V)).setCell ⟨w.heap.size,5,none⟩ (.slice B5 C.n5 Z)):=⟨_,rfl⟩
  rw[<-mG]at KK ⊢;have P:Hid (W1.heap[w.heap.size]?=some (.cells #[.int .i64 C.l,.int .i64 C.p,.slice Y.B2 C.n2 Y.p2,.slice Y.B3 C.n3 Y.p3,.slice (some ⟨Y.K4,0,none⟩) C.n4 Y.p4,.slice Y.B5 C.n5 Y.p5] 27)):=bi KK.out.box;clear mG s t u y f4 z fz N A hY;obtain⟨s,t,u,y,f4,z⟩:=bf P.out
  go_upto_region 3 with fail
  go_loopw [23] (λF wr=>∃(i:Nat)(f:Nat->iJ),i<=C.n4/\F=.int .i64 i/\KI C Y w i f wr) (λF _=>C.n4-(intOf F).toNat)
  case atStart=>exact⟨0,C.x4,ap _,rfl,KK.out⟩
  case round=>
   obtain⟨i,f,hi,rfl,hK⟩:=hrel;have g:=bi hK;clear hK s t u y f4 z P KK;have H:Hid (∀W,KI C Y w i f W->W.heap[w.heap.size]?=some (.cells #[.int .i64 C.l,.int .i64 C.p,.slice Y.B2 C.n2 Y.p2,.slice Y.B3 C.n3 Y.p3,.slice (some ⟨Y.K4,0,none⟩) C.n4 Y.p4,.slice Y.B5 C.n5 Y.p5] 27)):=bi λW h=>h.box;by_cases aH:i<C.n4
   ·have i1:(i:Int)<C.n4:=by omega
    obtain⟨x,hx⟩:∃x,x=f i:=⟨_,rfl⟩
    have FL:Hid (∀W,KI C Y w i f W->W.cell? ⟨Y.K4,i*12+11,none⟩=some (.slice x.lb x.ln x.lc)):=bi λW h=>by
     have:=h.own.mem.r4 i aH 11 (by decide);have e:(⟨(C.s9 Y f).k4,(C.s9 Y f).o4+i*12+11,none⟩:Addr)=⟨Y.K4,i*12+11,none⟩:=by show(⟨Y.K4,0+i*12+11,none⟩:Addr)=_;rw[aq]
     rw[e]at this;rw[this,hx];rfl
    have SL:Hid (∀W,KI C Y w i f W->KD W x.lb x.ln 1 (rowOf (abt x) x.ln)):=bi λW h=>by rw[hx];exact h.own.mem.ar7 aH
    have I:=bi hx;clear hx
    go_upto_region 5 with fail
    refine ae ?_;refine cT 10 (λW=>KI C Y w i f W/\wr.heap.size<=W.heap.size) (λW r=>Below W.heap.size W r) (λj=>j != 9) (λj vs W=>j=9->N5 wr W 3 1 x.ln (rowOf (abt x) x.ln) x.lb (vs 9)) rfl (by kernel_rfl) (by kernel_rfl) (λ_ _ _ _ D h e=>(h e).on D) (λj _ _ vs eX W he _ h e=>by subst e;rw[<-he];exact h rfl) ?_ ?_
    ·exact⟨g.out.on (bd _ _).drew,ao _⟩
    simp only[ct,cv]
    iterate 10 (
     first
     |(apply aY
       case hE=>rfl
       case h=>
        rintro vs W⟨b,Cu⟩hd;obtain⟨s,t,u,y,f4,z⟩:=bf (H.out W b);have fl:=FL.out W b
        go_simp
        first
        |exact⟨rfl,b,bd _ _⟩
        |exact⟨rfl,bd _ _⟩
        |exact rfl
       case hb=>exact hbT)
     |(apply eH
       case hE=>rfl
       case h=>
        rintro vs W⟨b,Cu⟩hd;have hS:=SL.out W b
        go_simp
        (go_at_call 33;refine(abE _ _ _ _ _ hS).mono ?_;rintro e r⟨v,rfl,q,d⟩;exact⟨_,rfl,⟨b.on d,aB Cu d.size⟩,d,q.low Cu⟩)
       case hb=>exact hbT))
    refine cP λvs W b hd=>?_;obtain⟨b,Cu⟩:=b;have h9:=hd 9 (by omega) rfl rfl;have K4':=bi b;obtain⟨s,t,u,y,f4,z⟩:=bf (H.out W b);have fl:=FL.out W b;have fz:∀o,W.frozen? ⟨Y.K4,o,none⟩=false:=b.own.t4.2.2.elim λ_ k=>tO k.1;obtain⟨B,c,K,e9,h0,_,hq⟩:=h9.pick (bc b.box);rw[e9];have HQ:=bi (And.intro h0 hq);clear h9 hd b e9 h0 hq;simp only[cB,cC]
    go_upto_region 6 with fail
    refine NoPanic.normal ?_;have KN:=bi (K4'.out.lane (B:=B) (c:=c) (K:=K) aH (by rw[<-I.out];exact HQ.out.1) (by rw[<-I.out];exact HQ.out.2));rw[<-I.out]at KN;clear s t u y f4 z fl fz
    go_wp2
    exact⟨⟨i+1,_,aH,by go_num,KN.out⟩,by simp only[intOf];omega⟩
   ·obtain rfl:i=C.n4:=by omega
    obtain⟨s,t,u,y,f4,z⟩:=bf (H.out _ g.out);have J:=g.out.res;obtain⟨y0,y1,y2,y3,y4,y5⟩:=bf J;have fz:=tO J;have hzr:=bc J;clear J
    go_wp2
    have J:=g.out.res;have hWF:=nC (u0:=.int .i64 C.l) (u1:=.int .i64 C.p) (u2:=.slice Y.B2 C.n2 Y.p2) (u3:=.slice Y.B3 C.n3 Y.p3) (u4:=.slice (some ⟨Y.K4,0,none⟩) C.n4 Y.p4) (u5:=.slice Y.B5 C.n5 Y.p5) J;refine ag (v:=.agg (C.s9 Y f).val) ?_ rfl ⟨Y,f,rfl,⟨g.out.s9,g.out.zero⟩,g.out.own.acC ⟨_,J⟩ (a7 _) _ _ _ _ _ _,de g.out.low (by omega) _ _ _ _ _ _⟩;obtain⟨a0,a1,a2,a3,a4,a5⟩:=bf hWF;simp[ai,Tryz.results61,go_sem,a0,a1,a2,a3,a4,a5]
abbrev CD.j7(C:CD)(ds:List Int):CD:={ C with x5:=λi=>((C.x5 i).1,(C.x5 i).2.1,ds.getD i (C.x5 i).2.2) }
def u7.zu{n0 a:Nat}{D:CD}{W:World}(h:u7 n0 D.n4 D W)(b:a<=n0):u7 a D.n4 D W:=
 ⟨h.mem,h.t2,h.t3,⟨aB b h.t4.1,h.t4.2⟩,λk=>⟨aB b (h.t5 k).1,(h.t5 k).2⟩,λj c hl=>⟨(h.tl j c hl).1,λhi=>by omega⟩⟩
structure KJ(C:CD)(Y:abS)(f:Nat->iJ)(w:World)(B:Nat)(ds:List Int)(i:Nat)(W:World):Prop where
 own:u7 w.heap.size C.n4 ((C.j7 (ds.take i)).s9 Y f) W
 box:W.heap[B]?=some (.cells (C.s9 Y f).val 27)
 res:W.heap[w.heap.size+1]?=some (.cells RX 27)
 low:Below w.heap.size w W
def ahA(C:CD)(ds:List Int){i:Nat}(hi:i<ds.length):(λj=>if j=i then(((C.j7 (ds.take i)).x5 j).1,((C.j7 (ds.take i)).x5 j).2.1,ds.getD i 0) else(C.j7 (ds.take i)).x5 j)=(C.j7 (ds.take (i+1))).x5:=by
 funext j;by_cases e:j=i
 ·subst e;rw[if_pos rfl];simp[cQ,c6,hi]
 ·rw[if_neg e];simp only[cQ,c6];by_cases h:j<i
  ·rw[if_pos h,if_pos (by omega)]
  ·rw[if_neg h,if_neg (by omega)]
def KJ.next{C:CD}{Y:abS}{f:Nat->iJ}{w:World}{B:Nat}{ds:List Int}{i:Nat}{W:World}(h:KJ C Y f w B ds i W)(hi:i<ds.length)(a:i<C.n5):KJ C Y f w B ds (i+1) (W.setCell ⟨Y.K5,i*3+2,none⟩ (.int .i64 (ds.getD i 0))):=by
 have b:0<C.n5:=by omega
 obtain⟨c,_,d,hc,_⟩:=h.own.t5 b;have o:=h.own.ar8 a (ds.getD i 0);have e:=ahA C ds hi;refine⟨?_,(aZ (iu hc h.box (by decide))).trans h.box,(aZ (iu hc h.res (by decide))).trans h.res,h.low.setCell (p:=⟨Y.K5,_,none⟩) c _⟩;rw[show((C.j7 (ds.take (i+1))).s9 Y f)={ (C.j7 (ds.take i)).s9 Y f with x5:=(C.j7 (ds.take (i+1))).x5 } from rfl,<-e];exact o
def abh(C:CD)(ds:List Int)(v:Value)(w:World)(h:C.At w)(X:0<C.n4)(hv:bB w v ds)(hd:ds.length<=C.n5):Calls PL 31 #[.agg C.val,v] w λe w'=>∃Y f,e=.returned (.agg (C.s9 Y f).val)/\abv C f/\u7 w.heap.size C.n4 ((C.j7 ds).s9 Y f) w'/\Below w.heap.size w w':=by
 obtain⟨b,c,rfl,N⟩:=hv;obtain⟨q,s,t⟩:∃q s,0<ds.length->b=some ⟨q,s,none⟩/\q<w.heap.size/\∀j,j<ds.length->w.cell? ⟨q,s+j,none⟩=some (.int .i64 (ds.getD j 0)):=by
  by_cases r:0<ds.length
  ·obtain⟨k,o,e,Z,hc⟩:=N r;exact⟨k,o,λ_=>⟨e,Z,λj hj=>hc j (by omega)⟩⟩
  ·exact⟨0,0,λh=>absurd h r⟩
 have O:=bi t;have m5:=h.m5;have OW:Hid (∀W,Below w.heap.size w W->Calls PL 61 #[.agg C.val] W λe w'=>∃Y f,e=.returned (.agg (C.s9 Y f).val)/\abv C f/\u7 W.heap.size C.n4 (C.s9 Y f) w'/\Below W.heap.size W w'):=bi λW hB=>ahz C W (h.below hB) X;have d:=bi (KO.start C.val w);obtain⟨n,r⟩:∃n,n=ds.length:=⟨_,rfl⟩
 rw[<-r]at O ⊢;have hd':n<=C.n5:=by omega
 have P:=bi r;clear h N t r hd
 go_enter (fx (by decide) Tryz.func31),Tryz.ntmps31
 go_upto_region 1 with fail
 obtain⟨f0,f1,f2,f3,f4,f5⟩:=bf d.out.box;have Q:=bc d.out.res
 go_upto_region 2 with(go_at_call 61;refine(OW.out _ d.out.low).mono ?_;rintro e w1⟨Y,f,rfl,u,R,A⟩;have HP:=bi u;have HO:=bi R;have z:=bi A;clear u R)
 have B:Hid (KJ C Y f w w1.heap.size ds 0 (w1.alloc (.cells (C.s9 Y f).val 27))):=bi (by
  have E:Below w1.heap.size w1 (w1.alloc (.cells (C.s9 Y f).val 27)):=(bd _ _).alloc (ao _) _;refine⟨?_,au _ _,((z.out.trans (E.mono z.out.size)).block _ Q).trans d.out.res,d.out.low.trans ((z.out.trans (E.mono z.out.size)).mono d.out.low.size)⟩;rw[cv]
  exact u7.zu (D:=C.s9 Y f) (HO.out.on E) d.out.low.size)
 obtain⟨F,H⟩:∃F:World,F=w1.alloc (.cells (C.s9 Y f).val 27):=⟨_,rfl⟩
 have Z1:w.heap.size+1<w1.heap.size:=ar Q A.size;rw[<-H]at B;rw[show w1.alloc (.cells #[.int .i64 C.l,.int .i64 C.p,.slice Y.B2 C.n2 Y.p2,.slice Y.B3 C.n3 Y.p3,.slice (some ⟨Y.K4,0,none⟩) C.n4 Y.p4,.slice Y.B5 C.n5 Y.p5] 27)=F from H.symm];clear H f0 f1 f2 f3 f4 f5 A;have BX:Hid (∀i W,KJ C Y f w w1.heap.size ds i W->W.heap[w1.heap.size]?=some (.cells #[.int .i64 C.l,.int .i64 C.p,.slice Y.B2 C.n2 Y.p2,.slice Y.B3 C.n3 Y.p3,.slice (some ⟨Y.K4,0,none⟩) C.n4 Y.p4,.slice Y.B5 C.n5 Y.p5] 27)):=bi λi W h=>h.box
 go_upto_region 3 with fail
 go_loopw [12] (λg wr=>∃i:Nat,i<=n/\g=.int .i64 i/\KJ C Y f w w1.heap.size ds i wr) (λg _=>n-(intOf g).toNat)
 case atStart=>exact⟨0,ap _,rfl,B.out⟩
 case round=>
  obtain⟨i,hi,rfl,S⟩:=hrel;have a:=bi S;clear S B;obtain⟨g0,g1,g2,g3,g4,g5⟩:=bf (BX.out _ _ a.out);by_cases I:i<n
  ·have i1:(i:Int)<n:=by omega
   have i5:(i:Int)<C.n5:=by omega
   obtain⟨rfl,VQ,T⟩:=O.out (by omega);obtain⟨x,J⟩:∃x,x=ds.getD i 0:=⟨_,rfl⟩
   have ed:wr.cell? ⟨q,s+i,none⟩=some (.int .i64 x):=by rw[J];exact(a.out.low.cell (p:=⟨q,s+i,none⟩) VQ).trans (T i I)
   have y:=bi J;have U:Y.B5=some ⟨Y.K5,0,none⟩:=a.out.own.mem.s5 (by show 0<C.n5;omega);rw[U]at g5;obtain⟨_,_,K,hc,_⟩:=a.out.own.t5 (by show 0<C.n5;omega);have hc:wr.heap[Y.K5]?=some (.cells K 87):=hc;have fz:=tO hc;obtain⟨V,hdd⟩:∃V,wr.cell? ⟨Y.K5,i*3+2,none⟩=some (.int .i64 V):=by
    have:=a.out.own.mem.r5 i (by show i<C.n5;omega) 2 (by decide);have e:(⟨((C.j7 (ds.take i)).s9 Y f).k5,((C.j7 (ds.take i)).s9 Y f).o5+i*3+2,none⟩:Addr)=⟨Y.K5,i*3+2,none⟩:=by show(⟨Y.K5,0+i*3+2,none⟩:Addr)=_;rw[aq]
    rw[e]at this;exact⟨_,this⟩
   have KN:=bi (a.out.next (by rw[<-P.out];exact I) (by omega));rw[<-y.out]at KN;clear J T hc U y
   go_wp2
   exact⟨⟨i+1,I,by go_num,KN.out⟩,by simp only[intOf];omega⟩
  ·obtain rfl:i=n:=by omega
   have m:=a.out.res;obtain⟨y0,y1,y2,y3,y4,y5⟩:=bf m;have fz:=tO m;have hzr:=bc m;clear m
   go_wp2
   have m:=a.out.res;have L:=nC (u0:=.int .i64 C.l) (u1:=.int .i64 C.p) (u2:=.slice Y.B2 C.n2 Y.p2) (u3:=.slice Y.B3 C.n3 Y.p3) (u4:=.slice (some ⟨Y.K4,0,none⟩) C.n4 Y.p4) (u5:=.slice Y.B5 C.n5 Y.p5) m;have M:=a.out.own;rw[P.out,List.take_length]at M;refine ag (v:=.agg (C.s9 Y f).val) ?_ rfl ⟨Y,f,rfl,HP.out,M.acC ⟨_,m⟩ (a7 _) _ _ _ _ _ _,de a.out.low (by omega) _ _ _ _ _ _⟩;clear M;obtain⟨a0,a1,a2,a3,a4,a5⟩:=bf L;simp[ai,Tryz.results31,go_sem,a0,a1,a2,a3,a4,a5]
def uK{n:Int}(h:bO n 0 12=true)(w:World):Calls PL 34 #[.int .i64 n] w λe w'=>e=.returned (.bool true)/\w=w':=by
 have:=o8 n w;rw[h]at this;exact this.mono λ_ _ k=>⟨k.1,k.2.symm⟩
def abi(C:CD)(ds:List Int)(v:Value)(w:World)(h:C.At w)(R:0<C.n4)(hc:C.cx=0)(hv:bB w v ds)(hd:ds.length=C.n5)(hb:∀i,i<ds.length->bO (ds.getD i 0) 0 12=true):Calls PL 8 #[.agg C.val,v] w λe w'=>∃Y f,e=.returned (.tuple #[.agg (C.s9 Y f).val,.int .i64 0])/\abv C f/\u7 w.heap.size C.n4 ((C.j7 ds).s9 Y f) w'/\Below w.heap.size w w':=by
 have t:Hid (∀W,Below w.heap.size w W->bB W v ds):=bi λW g=>hv.on g;obtain⟨b,c,rfl,B⟩:=hv;obtain⟨m,n,a⟩:∃m n,0<ds.length->b=some ⟨m,n,none⟩/\m<w.heap.size/\∀j,j<ds.length->w.cell? ⟨m,n+j,none⟩=some (.int .i64 (ds.getD j 0)):=by
  by_cases E:0<ds.length
  ·obtain⟨k,o,e,S,hc⟩:=B E;exact⟨k,o,λ_=>⟨e,S,λj hj=>hc j (by omega)⟩⟩
  ·exact⟨0,0,λh=>absurd h E⟩
 rw[hd]at hb a t ⊢;have T:=bi a;have U:=bi hb;have m5:=h.m5;have V:Hid (∀W,Below w.heap.size w W->Calls PL 29 #[.agg C.val] W (aO (.int .i64 0) W)):=bi λW g=>sY hc (h.below g);have X:Hid (∀W,Below w.heap.size w W->Calls PL 31 #[.agg C.val,.slice b C.n5 c] W λe w'=>∃Y f,e=.returned (.agg (C.s9 Y f).val)/\abv C f/\u7 W.heap.size C.n4 ((C.j7 ds).s9 Y f) w'/\Below W.heap.size W w'):=bi λW g=>abh C ds _ W (h.below g) R (t.out W g) (Nat.le_of_eq hd);have u:=bi (KO.start C.val w);clear h hc B a hb hd t
 go_enter (fx (by decide) Tryz.func8),Tryz.ntmps8
 go_upto_region 1 with fail
 obtain⟨F,H,I,J,f4,K⟩:=bf u.out.box
 go_upto_region 7 with(go_at_call 29;refine(V.out _ u.out.low).mono ?_;rintro e w1⟨rfl,L⟩;have q:=bi (u.out.on L);clear L F H I J f4 K;obtain⟨F,H,I,J,f4,K⟩:=bf q.out.box)
 go_loop [24] (λd=>∃i:Nat,i<=C.n5/\d=.int .i64 i) (λd=>C.n5-(intOf d).toNat)
 case atStart=>exact⟨0,ap _,rfl⟩
 case round=>
  obtain⟨i,hi,rfl⟩:=hrel;by_cases y:i<C.n5
  ·have Z:(i:Int)<C.n5:=by omega
   obtain⟨rfl,VQ,M⟩:=T.out (by omega);obtain⟨x,z⟩:∃x,x=ds.getD i 0:=⟨_,rfl⟩
   have ed:w1.cell? ⟨m,n+i,none⟩=some (.int .i64 x):=by rw[z];exact(q.out.low.cell (p:=⟨m,n+i,none⟩) VQ).trans (M i y)
   have jM:Hid (bO x 0 12=true):=bi (by rw[z];exact U.out i y);clear z M
   go_wp2_with (go_at_call 34;refine(uK jM.out _).mono ?_;rintro e w'⟨rfl,rfl⟩)
   exact⟨⟨i+1,y,by go_num⟩,by simp only[intOf];omega⟩
  ·have Z:¬((i:Int)<C.n5):=by omega
   go_wp2_with (go_at_call 31;refine(X.out _ q.out.low).mono ?_;rintro e w2⟨Y,f,rfl,r,N,O⟩;have HP:=bi r;have HO:=bi N;have s:=bi (q.out.on O);clear r N O;obtain⟨y0,y1,y2,y3,y4,y5⟩:=bf s.out.res;have fz:=tO s.out.res)
   have P:=s.out.res;have A:=nC (u0:=.int .i64 C.l) (u1:=.int .i64 C.p) (u2:=.slice Y.B2 C.n2 Y.p2) (u3:=.slice Y.B3 C.n3 Y.p3) (u4:=.slice (some ⟨Y.K4,0,none⟩) C.n4 Y.p4) (u5:=.slice Y.B5 C.n5 Y.p5) P;have Q:=u7.zu (D:=(C.j7 ds).s9 Y f) HO.out q.out.low.size;refine ag (v:=.tuple #[.agg (C.s9 Y f).val,.int .i64 0]) ?_ rfl ⟨Y,f,rfl,HP.out,Q.acC ⟨_,P⟩ (a7 _) _ _ _ _ _ _,de s.out.low (by omega) _ _ _ _ _ _⟩;clear Q;obtain⟨a0,a1,a2,a3,a4,a5⟩:=bf A;simp[ai,Tryz.results8,go_sem,a0,a1,a2,a3,a4,a5]
structure CJ(W:World)(k2 k3 k4 k5 la ca lb cb:Nat)(d:Int):Prop where
 r2:Row W k2 vT
 r3:Row W k3 vU
 r4:Row W k4 (rO la ca lb cb)
 r5:Row W k5 (qB d)
 ra:Row W la [bh 1]
 rb:Row W lb [bh 2]
def CJ.on{W b:World}{k2 k3 c e f ca lb g:Nat}{d:Int}(h:CJ W k2 k3 c e f ca lb g d)(a:Below W.heap.size W b):CJ b k2 k3 c e f ca lb g d:=
 ⟨h.r2.on a,h.r3.on a,h.r4.on a,h.r5.on a,h.ra.on a,h.rb.on a⟩
def CJ.at{W:World}{k2 f k3 c3 a g b i c ca lb e:Nat}{d:Int}(h:CJ W k2 k3 a b c ca lb e d):(ir k2 f k3 c3 a g b i c ca lb e d).At W:=Rx h.r2 h.r3 h.r4 h.r5 h.ra h.rb
def yQ{k2 a k3 c3 b c e f g ca lb h:Nat}{d:Int}(hd:d=0\/d=1):(ir k2 a k3 c3 b c e f g ca lb h d).cx=0:=by
 rcases hd with rfl|rfl<;>kernel_rfl
def j8.row{W:World}{k n m:Nat}{f:Nat->List Value}{l:List Value}(h:j8 W k 0 n m f)(a:∀i,(f i).length=m)(b:k<W.heap.size)(e:rowOf f n=l):Row W k l:=
 ⟨b,λj v hv=>by have:=h.get a j v (by rw[e];exact hv);rwa[aq]at this⟩
structure Made(w W:World)(k2 k3 k4 k5 la ca lb cb:Nat)(d:Int):Prop where
 rows:CJ W k2 k3 k4 k5 la ca lb cb d
 low:Below w.heap.size w W
def ahB{k2 e k3 c3 g i j k l ca lb o:Nat}{d y:Int}{Y:abS}{f:Nat->iJ}{w W:World}{n0:Nat}(hf:abv (ir k2 e k3 c3 g i j k l ca lb o d) f)(h:u7 n0 3 (((ir k2 e k3 c3 g i j k l ca lb o d).j7 [0,y]).s9 Y f) W)(B:Below w.heap.size w W) :
 ∃p C q D r E s F t u v x,((ir k2 e k3 c3 g i j k l ca lb o d).s9 Y f).val=(ir p C q D r E s F t u v x y).val/\Made w W p q r s t u v x y:=by
 have m:=h.mem;have H:Y.B2=some ⟨Y.K2,0,none⟩:=m.s2 (a8 rfl);have I:Y.B3=some ⟨Y.K3,0,none⟩:=m.s3 (a8 rfl);have J:Y.B5=some ⟨Y.K5,0,none⟩:=m.s5 (a8 rfl);have a:=hf.1 0;have b:=hf.1 1;have c:=hf.1 2;have z:=m.l4 0 (a8 rfl) (by show 0<(f 0).ln;rw[a.ln];exact a8 rfl);have A:=m.l4 1 (a8 rfl) (by show 0<(f 1).ln;rw[b.ln];exact a8 rfl);have a0:(f 0).lb=some ⟨(f 0).lk,(f 0).lo,none⟩:=z.1;have a1:(f 1).lb=some ⟨(f 1).lk,(f 1).lo,none⟩:=A.1;have z0:=hf.2 0 (a8 rfl);have z1:=hf.2 1 (a8 rfl);obtain⟨K,d2⟩:=c.nil rfl rfl;have q0:j8 W (f 0).lk (f 0).lo (f 0).ln 1 (abt (f 0)):=m.rl 0 (a8 rfl);have q1:j8 W (f 1).lk (f 1).lo (f 1).ln 1 (abt (f 1)):=m.rl 1 (a8 rfl);rw[z0]at a0 q0;rw[z1]at a1 q1;refine⟨Y.K2,Y.p2,Y.K3,Y.p3,Y.K4,Y.p4,Y.K5,Y.p5,(f 0).lk,(f 0).lc,(f 1).lk,(f 1).lc,?_,⟨m.r2.row (λ_=>rfl) m.h2 rfl,m.r3.row (λ_=>rfl) m.h3 rfl,m.r4.row (λ_=>aaJ _) m.h4 ?_,m.r5.row (λ_=>rfl) m.h5 rfl,q0.row (λ_=>rfl) z.2 ?_,q1.row (λ_=>rfl) A.2 ?_⟩,B⟩
 ·show #[(_:Value),_,.slice Y.B2 _ _,.slice Y.B3 _ _,_,.slice Y.B5 _ _]=_;rw[H,I,J];rfl
 ·show X0 (f 0)++(X0 (f 1)++(X0 (f 2)++[]))=_;unfold X0;rw[a.name,a.n,a.ln,a0,b.name,b.n,b.ln,a1,c.name,c.n,c.ln,K,d2];rfl
 ·rw[a.ln];show[Value.int .i64 ((f 0).lane 0)]=_;rw[a.lane];rfl
 ·rw[b.ln];show[Value.int .i64 ((f 1).lane 0)]=_;rw[b.lane];rfl
def Iw{k2 g k3 c3 a j b k c ca lb d:Nat}{v:Value}(w:World)(h:CJ w k2 k3 a b c ca lb d 0)(hv:bB w v [0,1]):Calls PL 8 #[.agg (ir k2 g k3 c3 a j b k c ca lb d 0).val,v] w λe w'=>∃l u m x n y o z p q r s,e=.returned (.tuple #[.agg (ir l u m x n y o z p q r s 1).val,.int .i64 0])/\CJ w' l m n o p q r s 1/\Below w.heap.size w w':=
 (abi (ir k2 g k3 c3 a j b k c ca lb d 0) [0,1] v w h.at (a8 rfl) (yQ (.inl rfl)) hv rfl λi hi=>by
   match i,hi with
   |0,_=>rfl
   |1,_=>rfl).mono λe w'⟨Y,f,A,hf,B,C⟩=>by
   obtain⟨q2,D,q3,E,q4,F,q5,H,I,J,K,L,hval,t⟩:=ahB hf B C;exact⟨q2,D,q3,E,q4,F,q5,H,I,J,K,L,by rw[A,hval],t.rows,t.low⟩
open Go.Shelf
attribute [local go_sem] Oper.semAt_some
structure aaR(B:Nat)(w w':World):Prop where
 os:w'.os=w.os
 tape:w'.tape=w.tape
 output:w'.output=w.output
 size:w.heap.size<=w'.heap.size
 block:∀k,k<w.heap.size->k≠B->w'.heap[k]?=w.heap[k]?
def uL(B:Nat)(a hi x y:Int)(w:World)(h:w.heap[B]?=some (.cells #[.int .i64 a,.int .i64 hi] 48))(b : -10000<=a/\a<=10000)(c : -10000<=hi/\hi<=10000)(d:0<=x/\x<=100)(f:0<=y/\y<=100) :
 Calls PL 68 #[.agg #[.int .i64 x,.int .i64 y],.pointer (some ⟨B,0,none⟩)] w λe w'=>e=.returned (.agg #[.int .i64 (a+x),.int .i64 (hi+y)])/\w'.heap[B]?=some (.cells #[.int .i64 (a+x),.int .i64 (hi+y)] 48)/\aaR B w w':=by
 obtain⟨n,t1,u0,u1⟩:=uJ h;have o:=bc h;have H:=bi h;clear h;obtain⟨b,p⟩:=b;obtain⟨c,q⟩:=c;obtain⟨d,i⟩:=d;obtain⟨f,j⟩:=f
 go_enter (fx (by decide) Tryz.func68),Tryz.ntmps68
 go_wp2
 have g:=yL (u:=.int .i64 (a+x)) (v:=.int .i64 (hi+y)) H.out;refine ag (v:=.agg #[.int .i64 (a+x),.int .i64 (hi+y)]) ?_ rfl ⟨rfl,?_,rfl,rfl,rfl,by simp;omega,λk l m=>?_⟩
 ·simp[ai,Tryz.results68,go_sem]
 ·have hl:=bc g;exact(((bd _ _).alloc (ao _) _).alloc (by simp) _ |>.block B hl).trans g
 ·have hl:k<((w.setCell ⟨B,0,none⟩ (.int .i64 (a+x))).setCell ⟨B,1,none⟩ (.int .i64 (hi+y))).heap.size:=by simpa using l
  exact(((bd _ _).alloc (ao _) _).alloc (by simp) _ |>.block k hl).trans (tv m)
def Ff(C:CD)(p:Nat):Nat:=if p+1=C.n4 then 0 else p+1
def nT(C:CD)(g:Nat):Nat->Nat×Int×Int
 |0=>((C.x5 g).2.1.toNat,(C.x5 g).2.2,(C.x5 g).2.2)
 |k+1=>(Ff C (nT C g k).1,(nT C g k).2.1+(C.x4 (nT C g k).1).n 7+(C.x4 (nT C g k).1).n 9,(nT C g k).2.2+(C.x4 (nT C g k).1).n 8+(C.x4 (nT C g k).1).n 10)
abbrev nR:=Nat×Int×Int×Int×Int
def Nu(C:CD)(g k:Nat):nR:=((nT C g k).1,(nT C g k).2.1,(nT C g k).2.2,(nT C g k).2.1+(C.x4 (nT C g k).1).n 7,(nT C g k).2.2+(C.x4 (nT C g k).1).n 8)
def mD(C:CD)(g n:Nat):List nR:=(ci n).map (Nu C g)
def uM(C:CD)(g n:Nat):mD C g (n+1)=mD C g n++[Nu C g n]:=by simp[mD,List.range_succ]
def R7(C:CD)(g n:Nat):(mD C g n).length=n:=by simp[mD]
def R8(C:CD)(g:Nat){k n:Nat}(h:k<n):mD C g k++[Nu C g k] <+: mD C g n:=by
 rw[<-uM];have e:ci n=ci (k+1)++(ci (n-(k+1))).map (k+1 + ·):=by
  rw[<-List.range_add];congr 1;omega
 unfold mD;rw[e,List.map_append];exact List.prefix_append _ _
structure yR(C:CD)(g:Nat):Prop where
 g5:g<C.n5
 p4:∀k,(nT C g k).1<C.n4
 m4:C.n4<=5
 lo:∀k,k<=C.n4->0<=(nT C g k).2.1/\(nT C g k).2.1<=12+120*k
 hi:∀k,k<=C.n4->0<=(nT C g k).2.2/\(nT C g k).2.2<=12+120*k
 nn:∀i,i<C.n4->(0<=(C.x4 i).n 7/\(C.x4 i).n 7<=60)/\(0<=(C.x4 i).n 8/\(C.x4 i).n 8<=60)/\(0<=(C.x4 i).n 9/\(C.x4 i).n 9<=60)/\(0<=(C.x4 i).n 10/\(C.x4 i).n 10<=60)
 start:(C.x5 g).2.1=((C.x5 g).2.1.toNat:Int)
def Sa(C:CD)(hc:C.cx=0){g:Nat}(hg:g<C.n5):yR C g:=by
 have d:kA C.p C.n2 C.n3 C.n4 C.x4=0:=ck hc 3 (by omega);have e:pE C.n4 C.n5 C.x5=0:=ck hc 4 (by omega);unfold kA at d
 split at d
 case isFalse=>cases d
 rename_i hb;simp only[bO,df,decide_eq_true_eq]at hb;have j:∀i,i<C.n4->(0<=(C.x4 i).n 7/\(C.x4 i).n 7<=60)/\(0<=(C.x4 i).n 8/\(C.x4 i).n 8<=60)/\(0<=(C.x4 i).n 9/\(C.x4 i).n 9<=60)/\(0<=(C.x4 i).n 10/\(C.x4 i).n 10<=60):=by
  intro i hi;have a:=ck d i hi;unfold gM at a
  split at a
  case isFalse h=>exact absurd a h
  split at a
  case isFalse=>cases a
  split at a
  ·cases a
  split at a
  case isFalse=>cases a
  split at a
  case isFalse=>cases a
  rename_i m;simp only[eK,df,decide_eq_true_eq]at m;omega
 obtain⟨hs,s,o⟩:(0<=(C.x5 g).2.1/\(C.x5 g).2.1<C.n4)/\0<=(C.x5 g).2.2/\(C.x5 g).2.2<=12:=by
  unfold pE at e
  split at e
  ·cases e
  have a:=ck e g hg;unfold iI at a
  split at a
  case isFalse h=>exact absurd a h
  split at a
  case isFalse=>cases a
  rename_i q
  split at a
  ·cases a
  split at a
  case isFalse=>cases a
  rename_i r;simp only[bO,df,decide_eq_true_eq]at q r;omega
 have c:∀k,(nT C g k).1<C.n4:=by
  intro k
  induction k with
  |zero=>simp only[nT];omega
  |succ k l=>
   simp only[nT,Ff]
   split<;>omega
 have b:∀k,k<=C.n4->(0<=(nT C g k).2.1/\(nT C g k).2.1<=12+120*k)/\(0<=(nT C g k).2.2/\(nT C g k).2.2<=12+120*k):=by
  intro k
  induction k with
  |zero=>intro _;simp only[nT];omega
  |succ k l=>
   intro f;have:=l (by omega);have:=j _ (c k);simp only[nT]
   push_cast
   omega
 exact⟨hg,c,by omega,λk f=>(b k f).1,λk f=>(b k f).2,j,by omega⟩
def Fg(n0:Nat)(W a:World):Prop:=(∀k:Nat,k<n0->a.heap[k]?=W.heap[k]?)/\(∀(k:Nat)(c:Array Value)(t:ab),W.heap[k]?=some (Obj.cells c t)->t≠70->t≠54->a.heap[k]?=some (Obj.cells c t))/\W.heap.size<=a.heap.size
def Li{n:Nat}{X Y Z:World}(h:Fg n X Y)(k:Fg n Y Z):Fg n X Z:=
 ⟨λb hb=>(k.1 b hb).trans (h.1 b hb),λb c t e a d=>k.2.1 b c t (h.2.1 b c t e a d) a d,aB h.2.2 k.2.2⟩
def Lj{n s:Nat}(d:n<=s)(W:World)(l:Nat)(o o':Obj)(hl:s<=l)(b:W.heap[l]?=some o)(hc:o.isCells=false)(_:o.isWalk=false):Fg n W (W.putObj l o'):=by
 have a:∀k,l≠k->(W.putObj l o').heap[k]?=W.heap[k]?:=λk h=>by
  simp only[bR];exact Array.getElem?_setIfInBounds_ne h
 refine⟨λk f=>a k (by omega),λk c t e _ _=>(a k λh=>?_).trans e,by simp[bR]⟩;rw[<-h,b]at e;cases e;cases hc
def CD.At.keep{C:CD}{w w':World}(h:C.At w)(f:∀k,k<w.heap.size->w'.heap[k]?=w.heap[k]?)(s:w.heap.size<=w'.heap.size):C.At w':=by
 have cell:∀b o,b<w.heap.size->w'.cell? ⟨b,o,none⟩=w.cell? ⟨b,o,none⟩:=λb o hb=>by simp[bC,f b hb]
 have e:∀o,w'.cell? ⟨C.k2,o,none⟩=w.cell? ⟨C.k2,o,none⟩:=λo=>cell _ _ h.h2;have a:∀o,w'.cell? ⟨C.k3,o,none⟩=w.cell? ⟨C.k3,o,none⟩:=λo=>cell _ _ h.h3;have c:∀o,w'.cell? ⟨C.k4,o,none⟩=w.cell? ⟨C.k4,o,none⟩:=λo=>cell _ _ h.h4;have d:∀o,w'.cell? ⟨C.k5,o,none⟩=w.cell? ⟨C.k5,o,none⟩:=λo=>cell _ _ h.h5;obtain⟨m2,m3,m4,m5,h2,h3,h4,h5,s2,s3,s4,s5,Ep,Er,Es,Et,Eu,cu,AD,dB,nj,l4,J5,nm5,FI,HU,J6⟩:=h
 exact⟨m2,m3,m4,m5,by omega,by omega,by omega,by omega,s2,s3,s4,s5,λi hi=>(e _).trans (Ep i hi),λi hi=>(e _).trans (Er i hi),λi hi=>(a _).trans (Es i hi),λi hi=>(a _).trans (Et i hi),λi hi=>(a _).trans (Eu i hi),cu,
  λi hi=>(c _).trans (AD i hi),λi hi j g h2=>(c _).trans (dB i hi j g h2),λi hi=>(c _).trans (nj i hi),λi hi hl=>⟨(l4 i hi hl).1,ar (l4 i hi hl).2 s⟩,
  λi hi j l=>(cell _ _ (l4 i hi (by omega)).2).trans (J5 i hi j l),nm5,λi hi=>(d _).trans (FI i hi),λi hi=>(d _).trans (HU i hi),λi hi=>(d _).trans (J6 i hi)⟩
def VS(x:nR):Array Value:=#[.agg #[.int .i64 x.1,.int .i64 x.2.1,.int .i64 x.2.2.1,.int .i64 x.2.2.2.1,.int .i64 x.2.2.2.2]]
end Go.Proofs
namespace Go.Proofs
open Go.RowKit
set_option maxRecDepth 100000
set_option maxHeartbeats 4000000
def zW(b:Option Addr)(m c n:Nat)(f:Value)(w:World)(a:n<=1):Calls PL 128 #[.slice b m c,.int .i64 0,.int .i64 n,f] w λe w'=>(∃v,e=.returned v)/\w=w':=by
 have d:(n:Int)<=1:=by omega
 go_enter (fx (by decide) Tryz.func128),Tryz.ntmps128
 go_wp2
 go_loop [8] (λv=>v=.int .i64 1) (λ_=>0)
 case atStart=>rfl
 case round=>
  subst hrel
  go_wp2
  go_end0
  exact⟨⟨_,rfl⟩,rfl⟩
open Go.Shelf
def AbT{b:Type}(B:Nat)(J:b->World->Prop):Prop:=
 ∀s W a row,J s W->W.grownBy a row->(∀r,row=some r->B<=r/\∃c t,W.heap[r]?=some (Obj.cells c t)/\t≠70/\t≠54)->J s a
def afQ{c:Type}(n:Nat)(gf:Nat)(lb:Array Value)(f:c->Array Value)(g:World->World->Prop)(xs:List c)(St:World->Prop):Prop:=
 ∀(l:Nat)(J:List c->World->Prop)(W:World),St W->AbT W.heap.size J->
  (∀a x d,J a d->a++[x] <+: xs->YieldAt Fence.wide (n-1) PL l (f x) d λe b=>e=.returned (.bool true)/\J (a++[x]) b/\g d b)->
  J [] W->CallsIn Fence.wide n PL gf (#[.func (.yield l) #[] #[]]++lb) W λe b=>(∃v,e=.returned v)/\J xs b
attribute [local go_sem] Oper.semAt_some
def aaR.grown{B:Nat}{w w':World}(h:aaR B w w'):w.grownBy w' (some B):=
 ⟨h.os,h.tape,h.output,h.size,λk a b=>h.block k a (λe=>b (by rw[e]))⟩
structure StV(C:CD)(g n0 Bc Bg:Nat)(wb W:World):Prop where
 low:∀k,k<n0->W.heap[k]?=wb.heap[k]?
 size:n0<=W.heap.size
 box:W.heap[Bc]?=some (.cells C.val 78)
 PM:W.heap[Bg]?=some (.cells #[.int .i64 g] 3)
def yT(n:Nat)(hn:2<=n)(v w n0 g:Nat)(C:CD)(s:yR C g)(P:World)(j:P.heap.size=n0)(hA:C.At P):afQ n 67 #[.pointer (some ⟨v,0,none⟩),.pointer (some ⟨w,0,none⟩)] VS (Fg n0) (mD C g C.n4) (StV C g n0 v w P):=by
 intro l J W L hJ hY h0;have HA:=bi hA;have Q:=bi s;have M:=bi L;have HJ:=bi hJ;have HY:=bi hY;have hA0:=bi (hA.keep (by rw[j];exact L.low) (by rw[j];exact L.size));have c1:=L.box;have c2:=L.PM;clear hA L hJ hY;refine callsIn_of_wp (fx (by decide) bx) rfl trivial ?_ rfl;simp only[Tryz.ntmps67,c7,cm,c8,a9,ba,cd,ce,c9,da,db,co];obtain⟨R,S,T,U,f4,N⟩:=bf c1;obtain⟨g0,g1⟩:=aaA c2;have x5:=hA0.out.s5 (by have:=s.g5;omega);have x50:=hA0.out.FI g s.g5;have x51:=hA0.out.HU g s.g5;have x52:=hA0.out.J6 g s.g5;have hg5:=s.g5;rw[x5]at N;have Ts:=bc c1;have hBg:=bc c2;have hh5:=hA0.out.h5;have y:=s.start;have HST:=bi y;clear c1 c2 s y
 gi_wp2
 obtain⟨O,V⟩:∃O:World,O=(W.alloc (.cells #[.string (C.x5 g).1,.int .i64 (C.x5 g).2.1,.int .i64 (C.x5 g).2.2] 87)).alloc (.cells #[.int .i64 (C.x5 g).2.2,.int .i64 (C.x5 g).2.2] 48):=⟨_,rfl⟩
 have b:Below W.heap.size W O:=by rw[V];exact((bd _ _).alloc (ao _) _).alloc (by simp) _
 have X:O.heap[W.heap.size+1]?=some (.cells #[.int .i64 (C.x5 g).2.2,.int .i64 (C.x5 g).2.2] 48):=by
  have Y:=au (W.alloc (.cells #[.string (C.x5 g).1,.int .i64 (C.x5 g).2.1,.int .i64 (C.x5 g).2.2] 87)) (.cells #[.int .i64 (C.x5 g).2.2,.int .i64 (C.x5 g).2.2] 48);rw[bM]at Y;rw[V];exact Y
 have Z:J [] O:=HJ.out [] W O none h0 (by rw[V];exact(bT W _ none).trans (bT _ _ none)) (λr e=>by cases e);have HN:=bi X;have HJ0:=bi Z;have HBW:=bi b;rw[<-V];clear V X Z h0
 gi_loopw [7,28] (λv7 z wr=>∃k:Nat,k<=C.n4/\z=.int .i64 k/\v7=.int .i64 (nT C g k).1/\J (mD C g k) wr/\StV C g n0 v w P wr/\wr.heap[W.heap.size+1]?=some (.cells #[.int .i64 (nT C g k).2.1,.int .i64 (nT C g k).2.2] 48)) (λ_ z _=>C.n4-(intOf z).toNat)
 case atStart=>
  refine⟨0,ap _,rfl,by rw[nT,<-HST.out],HJ0.out,⟨λk f=>(b.block k (ar f M.out.size)).trans (M.out.low k f),aB M.out.size b.size,(b.block _ Ts).trans M.out.box,(b.block _ hBg).trans M.out.PM⟩,HN.out⟩
 case round=>
  obtain⟨k,f,rfl,rfl,hJk,hS,hN⟩:=hrel;have HJk:=bi hJk;have t:=bi hS;have c:=bi hN;clear hJk hS hN R S T U f4 N g0 g1 x5 x50 x51 x52 b;by_cases aH:k<C.n4
  ·have i2:(k:Int)<C.n4:=by omega
   have Xi:=Q.out.p4 k;have Cu:=Q.out.lo k (by omega);have hhi:=Q.out.hi k (by omega);have hm4:=Q.out.m4;obtain⟨p,hp⟩:∃p,p=(nT C g k).1:=⟨_,rfl⟩
   obtain⟨a,Sc⟩:∃x,x=(nT C g k).2.1:=⟨_,rfl⟩
   obtain⟨hi,Se⟩:∃x,x=(nT C g k).2.2:=⟨_,rfl⟩
   have alK:Hid (Nu C g k=(p,a,hi,a+(C.x4 p).n 7,hi+(C.x4 p).n 8)):=bi (by rw[Nu,<-hp,<-Sc,<-Se]);have y:Hid (nT C g (k+1)=(Ff C p,a+(C.x4 p).n 7+(C.x4 p).n 9,hi+(C.x4 p).n 8+(C.x4 p).n 10)):=bi (by rw[nT,<-hp,<-Sc,<-Se]);rw[<-hp]at Xi ⊢;rw[<-Sc]at Cu;rw[<-Se]at hhi;rw[<-Sc,<-Se]at c;clear hp Sc Se;obtain⟨⟨n7,n7'⟩,⟨n8,n8'⟩,⟨n9,n9'⟩,⟨n10,atn⟩⟩:=Q.out.nn p Xi;have hAk:=bi (HA.out.keep (by rw[j];exact t.out.low) (by rw[j];exact t.out.size));obtain⟨s4,y0,y1,y2,y3,y4,y5,y6,y7,y8,y9,y10,y11,ER⟩:=yK hAk.out Xi;obtain⟨R,S,T,U,f4,N⟩:=bf t.out.box;rw[s4]at f4;obtain⟨t0,t1,u0,u1⟩:=uJ c.out;have alL:=bc t.out.box;have hNl:=bc c.out;have att:(p:Int)<C.n4:=by omega
   have sv:Hid (((wr.alloc (.cells (C.x4 p).val 85)).alloc (.cells #[.int .i64 p,.int .i64 a,.int .i64 hi,.int .i64 0,.int .i64 0] 70)).heap[W.heap.size+1]?=some (.cells #[.int .i64 a,.int .i64 hi] 48)):=bi ((((bd wr.heap.size wr).alloc (ao _) _).alloc (by simp) _ |>.block _ hNl).trans c.out)
   have sv2:Hid (((wr.alloc (.cells (C.x4 p).val 85)).alloc (.cells #[.int .i64 p,.int .i64 a,.int .i64 hi,.int .i64 0,.int .i64 0] 70)).heap[wr.heap.size+1]?=some (.cells #[.int .i64 p,.int .i64 a,.int .i64 hi,.int .i64 0,.int .i64 0] 70)):=bi (by
    have Y:=au (wr.alloc (.cells (C.x4 p).val 85)) (.cells #[.int .i64 p,.int .i64 a,.int .i64 hi,.int .i64 0,.int .i64 0] 70)
    rw[bM]at Y;exact Y)
   have sp:Hid (((wr.alloc (.cells (C.x4 p).val 85)).alloc (.cells #[.int .i64 p,.int .i64 a,.int .i64 hi,.int .i64 0,.int .i64 0] 70)).heap[wr.heap.size]?=some (.cells (C.x4 p).val 85)):=bi ((((bd (wr.alloc (.cells (C.x4 p).val 85)).heap.size _).alloc (ao _) _).block _ (by simp)).trans (au wr _));have so:Hid (∀k,k<wr.heap.size->((wr.alloc (.cells (C.x4 p).val 85)).alloc (.cells #[.int .i64 p,.int .i64 a,.int .i64 hi,.int .i64 0,.int .i64 0] 70)).heap[k]?=wr.heap[k]?):=bi λk f=>(((bd wr.heap.size wr).alloc (ao _) _).alloc (by simp) _).block k f;clear s4
   gi_wp2_with (refine⟨trivial,λ_=>(by omega),?_⟩;refine(callsIn_wide.2 (uL (W.heap.size+1) a hi _ _ _ sv.out (by omega) (by omega) (by omega) (by omega))).mono ?_;rintro e w2⟨rfl,Vb,iC⟩;have yp:wr.heap.size+2<=w2.heap.size:=(by have:=iC.size;simp at this;omega);have u:=(iC.block (wr.heap.size+1) (by simp) (by omega)).trans sv2.out;have tL:=(iC.block wr.heap.size (by simp;omega) (by omega)).trans sp.out;have fz:=tO u;have v0:w2.cell? ⟨wr.heap.size+1,0,none⟩=some (.int .i64 p):=(by simp[bC,u]);have v1:w2.cell? ⟨wr.heap.size+1,1,none⟩=some (.int .i64 a):=(by simp[bC,u]);have v2:w2.cell? ⟨wr.heap.size+1,2,none⟩=some (.int .i64 hi):=(by simp[bC,u]);have v3:w2.cell? ⟨wr.heap.size+1,3,none⟩=some (.int .i64 0):=(by simp[bC,u]);have v4:w2.cell? ⟨wr.heap.size+1,4,none⟩=some (.int .i64 0):=(by simp[bC,u]);have HN2:=bi Vb;have Kf:=bi iC;have HV2:=bi u;have HP2:=bi tL;clear Vb iC u tL;obtain⟨Wy,m⟩:∃W:World,W=(w2.setCell ⟨wr.heap.size+1,3,none⟩ (.int .i64 (a+(C.x4 p).n 7))).setCell ⟨wr.heap.size+1,4,none⟩ (.int .i64 (hi+(C.x4 p).n 8)):=⟨_,rfl⟩;have A:wr.grownBy Wy (some (W.heap.size+1)):=(by rw[m];exact⟨Kf.out.os,Kf.out.tape,Kf.out.output,by simp only[bL];omega,λk f bu=>by rw[aZ (by omega),aZ (by omega),Kf.out.block k (by simp;omega) (λe=>bu (by rw[e]))];exact so.out k f⟩);obtain⟨fn,tmps,assign,body,hy,hR⟩:=HY.out (mD C g k) (Nu C g k) Wy (HJ.out _ wr Wy _ HJk.out A (λr e=>by cases e;exact⟨by omega,_,_,c.out,by decide,by decide⟩)) (R8 C g aH);rw[alK.out,m]at hy;dsimp only[VS]at hy;have B:=bi A;have d:=bi m;clear A m)
   refine⟨λ_=>(by omega),?_⟩;refine RoundIn.mono (by have h:=hR;rw[d.out]at h;exact h) ?_;rintro e i⟨rfl,hJ',D⟩;rw[<-d.out]at D;have hWs:=M.out.size;have E:i.heap[W.heap.size+1]?=some (.cells #[.int .i64 (a+(C.x4 p).n 7),.int .i64 (hi+(C.x4 p).n 8)] 48):=D.2.1 _ _ _ (by rw[d.out,aZ (by omega),aZ (by omega)];exact HN2.out) (by decide) (by decide);have VT:i.heap[wr.heap.size]?=some (.cells (C.x4 p).val 85):=D.2.1 _ _ _ (by rw[d.out,aZ (by omega),aZ (by omega)];exact HP2.out) (by decide) (by decide);have sW:i.heap[v]?=some (.cells C.val 78):=D.2.1 _ _ _ ((B.out.block v alL (λe=>by injection e with e;omega)).trans t.out.box) (by decide) (by decide);have afU:i.heap[w]?=some (.cells #[.int .i64 g] 3):=D.2.1 _ _ _ ((B.out.block w (by have:=t.out.PM;exact bc this) (λe=>by injection e with e;omega)).trans t.out.PM) (by decide) (by decide);have qv:Hid (∀k,k<n0->i.heap[k]?=P.heap[k]?):=bi λk f=>(D.1 k f).trans ((B.out.block k (by omega) (λe=>by injection e with e;omega)).trans (t.out.low k f));have atv:W.heap.size+2<=i.heap.size:=by have:=bc E;omega
   have z9:i.cell? ⟨wr.heap.size,9,none⟩=some (.int .i64 ((C.x4 p).n 9)):=by simp[bC,VT]
   have UZ:i.cell? ⟨wr.heap.size,10,none⟩=some (.int .i64 ((C.x4 p).n 10)):=by simp[bC,VT]
   have fz9:=tO VT;have VU:=bi E;have Ce:=bi sW;have HGR:=bi afU;have HJ':=bi hJ';clear E VT sW afU hJ' D hR hy HY R S T U f4 N t0 t1 u0 u1 y0 y1 y2 y3 y4 y5 y6 y7 y8 y9 y10 y11 v0 v1 v2 v3 v4 fz sv sv2 sp so Kf HN2 HV2 HP2 d yp;by_cases hw:p+1=C.n4
   ·have i5:((p:Int)+1=C.n4):=by omega
    have HW:=bi hw;clear hw
    gi_wp2_with (refine⟨trivial,λ_=>(by omega),?_⟩;refine(callsIn_wide.2 (uL (W.heap.size+1) (a+(C.x4 p).n 7) (hi+(C.x4 p).n 8) _ _ _ VU.out (by omega) (by omega) (by omega) (by omega))).mono ?_;rintro e w3⟨rfl,Hr,F⟩;have H:=(F.block v (by omega) (by omega)).trans Ce.out;obtain⟨R,S,T,U,f4,N⟩:=bf H;have I:=bi H;have K:=bi Hr;have o:=bi F;clear H Hr F)
    refine⟨⟨k+1,aH,by go_num,by rw[y.out];simp only[Ff];rw[if_pos HW.out];rfl,?_,⟨λq hq=>(o.out.block q (by omega) (by omega)).trans (qv.out q hq),by have:=o.out.size;omega,I.out,(o.out.block w (by omega) (by omega)).trans HGR.out⟩,by rw[y.out];exact K.out⟩,by simp only[intOf];omega⟩;rw[uM];exact HJ.out _ i w3 _ HJ'.out o.out.grown (λr e=>by cases e;exact⟨by omega,_,_,VU.out,by decide,by decide⟩)
   ·have i5:¬((p:Int)+1=C.n4):=by omega
    have HW:=bi hw;clear hw
    gi_wp2_with (refine⟨trivial,λ_=>(by omega),?_⟩;refine(callsIn_wide.2 (uL (W.heap.size+1) (a+(C.x4 p).n 7) (hi+(C.x4 p).n 8) _ _ _ VU.out (by omega) (by omega) (by omega) (by omega))).mono ?_;rintro e w3⟨rfl,Hr,F⟩;have H:=(F.block v (by omega) (by omega)).trans Ce.out;obtain⟨R,S,T,U,f4,N⟩:=bf H;have I:=bi H;have K:=bi Hr;have o:=bi F;clear H Hr F)
    refine⟨⟨k+1,aH,by go_num,by rw[y.out];simp only[Ff];rw[if_neg HW.out];go_num,?_,⟨λq hq=>(o.out.block q (by omega) (by omega)).trans (qv.out q hq),by have:=o.out.size;omega,I.out,(o.out.block w (by omega) (by omega)).trans HGR.out⟩,by rw[y.out];exact K.out⟩,by simp only[intOf];omega⟩;rw[uM];exact HJ.out _ i w3 _ HJ'.out o.out.grown (λr e=>by cases e;exact⟨by omega,_,_,VU.out,by decide,by decide⟩)
  ·have By:k=C.n4:=by omega
   have i2:¬((k:Int)<C.n4):=by omega
   clear aH
   gi_wp2
   go_end0
   exact⟨⟨_,rfl⟩,by have h:=HJk.out;first|(rw[By]at h;exact h)|exact h⟩
def yU{q:Type}{g:ac}{ps:Array Tmp}{assign body:Code}{Q:Exit->Act->World->Prop}{a:Act}{w:World}{n:Nat}(h1:1<=n){gf:Nat}{lb:Array Value}(hg:a.eval g=.func (.func gf) #[] lb)(eg:∀args w,(callFunc gf args).run PL w=.ok (.enter gf args) w)
 {N:q->Array Value} {u:World->World->Prop} {xs:List q} {St:World->Prop} (R:afQ (n-1) gf lb N u xs St) (XJ:∀W,Below w.heap.size w W->St W)
 (y:∀{A B C:World},u A B->u B C->u A C) (F:∀(W:World)(l:Nat)(o o':Obj),w.heap.size<=l->W.heap[l]?=some o->o.isCells=false->o.isWalk=false->u W (W.putObj l o')) (S:∀x,(N x).size=ps.size)
 (I:List q->World->Prop) (H:OwnFrom w.heap.size I) (T:AbT w.heap.size I) (h0:I [] w) (A:q->Act->World->Prop) (hA:∀x a W l o o',W.heap[l]?=some o->o.isCells=false->A x a W->A x a (W.putObj l o'))
 (U:∀{A B:World},w.heap.size<=A.heap.size->A.grownBy B none->u A B)
 (VV:∀(l:Nat)(x:q)(W:World)(K:Act->World->Prop),(∀a' z,W.grownBy z none->A x a' z->K a' z)->
   assign.wpIn (Fence.wide.inRound l) (n-1-1) PL (Exit.then K (λ_ _ _=>False)) { tmps:=(ps.zip (N x)).foldl (λt(p,v)=>t.setIfInBounds p v) a.tmps,defers:=[] } W)
 (V:∀(l:Nat)(b:List q)(x:q)(a':Act)(W:World),I b W->A x a' W->b++[x] <+: xs->body.wpIn (Fence.wide.inRound l) (n-1-1) PL (λe _ z=>match e with | .normal=>KeepsOthers W z/\u W z/\I (b++[x]) z|_=>False) a' W)
 (X:∀(D:Nat)(W:World),w.heap.size<=D->I xs W->W.heap[D]?=some (.deferred (some []))->Q .normal { a with defers:={ target:=.collected D,args:=#[] }::a.defers } W) :
 (Code.rangeFunc g ps assign body).wpIn Fence.wide n PL Q a w:=by
 refine wpIn_rangeFunc λfn tK=>?_;have LJ:Fence.wide.round=none:=rfl;rw[LJ];let m:LoopState->Loop:=λst=>{ state:=st,pending:=none,fn,tmps:=a.tmps,params:=ps,assign,body,defers:=w.heap.size }
 obtain⟨d,J⟩:∃d,d=(w.alloc (.deferred (some []))).alloc (.loop (m .ready)):=⟨_,rfl⟩
 have Y:d.heap[w.heap.size+1]?=some (.loop (m .ready)):=by
  have:=au (w.alloc (.deferred (some []))) (.loop (m .ready));rw[bM]at this;rw[J];exact this
 have hb:Below w.heap.size w d:=by rw[J];exact((bd _ _).alloc (ao _) _).alloc (by simp) _
 have Z:d.heap[w.heap.size]?=some (.deferred (some [])):=by
  rw[J];exact(((bd (w.alloc (.deferred (some []))).heap.size _).alloc (ao _) _).block _ (by simp)).trans (au w _)
 refine⟨w.heap.size+1,[{ target:=.collected w.heap.size,args:=#[] }],d,{ target:=.fn (.func gf) lb,args:=#[.func (.yield (w.heap.size+1)) #[] #[]] },d,gf,#[.func (.yield (w.heap.size+1)) #[] #[]]++lb,d,?_,?_,λf' hf'=>trivial,by simp[invoke,go_sem,eg],λ_=>h1,?_⟩
 ·rw[J];exact run_enterLoop_outer _ _ _ _ _
 ·simp only[resolve,hg];simp[go_sem]
 ·have book:∀{A B:World}{row:Option Nat}{k:Nat}{o:Obj},A.grownBy B row->(∀r,row=some r->d.heap.size<=r/\∃c t,A.heap[r]?=some (Obj.cells c t)/\t≠70/\t≠54)->A.heap[k]?=some o->o.isCells=false->B.heap[k]?=some o:=λ{A B row k o}L E f hc=>by
   refine(L.block k (bc f) λe=>?_).trans f;obtain⟨_,c,t,h,_⟩:=E k e.symm;rw[f]at h;cases h;cases hc
  refine(R (w.heap.size+1) (λb W=>I b W/\W.heap[w.heap.size+1]?=some (.loop (m .ready))/\W.heap[w.heap.size]?=some (.deferred (some []))) d (XJ _ hb) ?_ ?_ ⟨?_,Y,Z⟩).mono ?_
  ·rintro s A B row⟨hi,hl,f⟩L E;exact⟨T s A B row hi L λr e=>⟨aB hb.size (E r e).1,(E r e).2⟩,book L E hl rfl,book L E f rfl⟩
  ·rintro b x W⟨hi,hl,f⟩Nw;refine⟨fn,_,assign,body,run_yield (P:=PL) (args:=N x) hl (S x),roundIn_of_wpIn tK (VV _ x W _ λaa O i hA1=>?_)⟩;have acY:=bc hl;replace hl:=book i (λr e=>by cases e) hl rfl;replace f:=book i (λr e=>by cases e) f rfl;replace hi:=H b W O none hi i (λr e=>by cases e);have aH:=bc hl;refine⟨_,run_beginRound hl rfl,?_⟩;have hl2:(O.putObj (w.heap.size+1) (.loop (m .busy))).heap[w.heap.size+1]?=some (.loop (m .busy)):=bX aH;have ND:(O.putObj (w.heap.size+1) (.loop (m .busy))).heap[w.heap.size]?=some (.deferred (some [])):=(b1 (by omega)).trans f;refine wpIn_mono (V _ b x aa _ (H.putObj _ hi (by omega) hl rfl) (hA _ _ _ _ _ _ hl rfl hA1) Nw) ?_;rintro e a3 W3 hp
   cases e with
   |normal=>
    obtain⟨M,alT,hi3⟩:=hp;have j:=M.same _ _ hl2 rfl;refine⟨_,_,run_endRound (P:=PL) none j,rfl,⟨H.putObj _ hi3 (by omega) j rfl,bX (bc j),(b1 (by omega)).trans (M.same _ _ ND rfl)⟩,?_⟩;exact y (y (y (U (by omega) i) (F O (w.heap.size+1) _ _ (by omega) hl rfl rfl)) alT) (F _ _ _ _ (by omega) j rfl rfl)
   |_=>exact hp.elim
  ·exact H [] w d none h0 (by rw[J];exact(bT w _ none).trans (bT _ _ none)) (λr e=>by cases e)
  ·rintro e W2⟨⟨v,rfl⟩,hi,hl,f⟩;exact⟨none,_,run_endLoop (P:=PL) hl (by simp[m]),X _ _ (ao _) (H.putObj _ hi (by omega) hl rfl) ((b1 (by omega)).trans f)⟩
def Fi(C:CD)(g:Int)(m5:C.n5<=3)(w:World):Calls PL 46 #[.agg C.val,.int .i64 g] w λe w'=>e=.returned (.bool (bO g 0 (C.n5-1)))/\Below w.heap.size w w':=by
 obtain⟨b,c,d,f,f4,h⟩:=bf (au w (.cells C.val 27));have a:=bi (((bd w.heap.size w).alloc (ao _) (.cells C.val 27)))
 go_enter (fx (by decide) Tryz.func46),Tryz.ntmps46
 go_wp2_with (go_at_call 41;refine(ij _ _ _ _).mono ?_;rintro e w'⟨rfl,rfl⟩)
 go_ret
 exact⟨rfl,a.out⟩
def AX(C:CD)(g:Nat)(w:World):Calls PL 48 #[.agg C.val,.int .i64 g] w λe w'=>e=.returned (.func (.func 67) #[] #[.pointer (some ⟨w.heap.size,0,none⟩),.pointer (some ⟨w.heap.size+1,0,none⟩)])/\w'=(w.alloc (.cells C.val 78)).alloc (.cells #[.int .i64 g] 3):=by
 go_enter (fx (by decide) Tryz.func48),Tryz.ntmps48
 go_wp2
 go_ret
 exact⟨rfl,rfl⟩
def vV(x:nR):List Value:=[.int .i64 x.1,.int .i64 x.2.1,.int .i64 x.2.2.1,.int .i64 x.2.2.2.1,.int .i64 x.2.2.2.2]
def AY(W:World)(base:Nat)(v:Value)(l:List nR):Prop:=W.ownsRow base 70 5 v l.length (l.flatMap vV)
def Sf(w:World)(a:List nR)(W:World):Prop:=∃v,W.heap[w.heap.size]?=some (.cells #[v] 54)/\AY W (w.heap.size+1) v a/\Below w.heap.size w W
def Fj{w W j:World}{row:Option Nat}{a:List nR}(h:Sf w a W)(hg:W.grownBy j row)(b:∀r,row=some r->w.heap.size+1<=r/\∀c,W.heap[r]?≠some (.cells c 70)):Sf w a j:=by
 obtain⟨v,hb,⟨hl,d⟩,l⟩:=h;refine⟨v,(hg.block _ (bc hb) λe=>by have:=(b _ e.symm).1;omega).trans hb,⟨hl,?_⟩,l.grown hg l.size λk e=>by have:=(b _ e).1;omega⟩
 rcases d with d|⟨g,cap,f,e1,m,i,n⟩
 ·exact .inl d
 ·exact .inr ⟨g,cap,f,e1,m,(hg.block _ (bc i) λe=>(b _ e.symm).2 _ i).trans i,n⟩
def Fl(w:World):OwnFrom (w.heap.size+1) (Sf w):=λs W d row hs hg a=>Fj hs hg λr e=>⟨(a r e).1,λc h=>by
 obtain⟨_,o,b,hc⟩:=a r e
 rw[b]at h;cases h;cases hc⟩
def Sg(w:World):AbT (w.heap.size+1) (Sf w):=λs W d row hs hg a=>Fj hs hg λr e=>⟨(a r e).1,λc h=>by
 obtain⟨_,f,t,b,hc,_⟩:=a r e
 rw[b]at h;cases h;exact hc rfl⟩
def qO{w:World}{k:Nat}{x0 x1 x2 x3 x4:Value}{t:ab}(h:w.heap[k]?=some (.cells #[x0,x1,x2,x3,x4] t)) :
 w.cell? ⟨k,0,none⟩=some x0/\w.cell? ⟨k,1,none⟩=some x1/\w.cell? ⟨k,2,none⟩=some x2/\w.cell? ⟨k,3,none⟩=some x3/\w.cell? ⟨k,4,none⟩=some x4:=by
 simp[bC,h]
def afX:PL.underlying 54=some (.slice 70):=by kernel_rfl
def aaV:(PL.info? 70).map (λi=>(i.zero,i.size,i.bytes))=some (some (.agg #[.int .i64 0,.int .i64 0,.int .i64 0,.int .i64 0,.int .i64 0]),5,40):=by kernel_rfl
def Ny{W:World}{base e size n:Nat}{v:Value}{xs:List Value}(h:W.ownsRow base e size v n xs):∃b m c,v=.slice b m c:=by
 rcases h.2 with⟨rfl,_⟩|⟨g,cap,a,rfl,_⟩<;>exact⟨_,_,_,rfl⟩
def qm{W:World}{base e size n:Nat}{v:Value}{xs:List Value}(h:W.ownsRow base e size v n xs):∀j,v.ownBlock=some j->∃cur,W.heap[j]?=some (.cells cur e):=by
 rcases h.2 with⟨rfl,_⟩|⟨g,cap,cur,rfl,_,hg,_⟩
 ·intro j e;cases e
 ·intro j e;cases e;exact⟨_,hg⟩
def yV{w:World}{B:Nat}{x u:Value}{t:ab}(h:w.heap[B]?=some (.cells #[x] t)):(w.setCell ⟨B,0,none⟩ u).heap[B]?=some (.cells #[u] t):=by
 simp only[bA,b8,if_pos,h,cf];rfl
def VW{W:World}{b:Nat}{x:nR}(h:W.heap[b]?=some (.cells #[.int .i64 x.1,.int .i64 x.2.1,.int .i64 x.2.2.1,.int .i64 x.2.2.2.1,.int .i64 x.2.2.2.2] 70)):∀(j:Nat)(u:Value),(vV x)[j]?=some u->W.cell? ((⟨b,0,none⟩:Addr).add j)=some u:=by
 intro j u e
 match j,e with
 |0,e=>cases e;simp[bC,bg,h]
 |1,e=>cases e;simp[bC,bg,h]
 |2,e=>cases e;simp[bC,bg,h]
 |3,e=>cases e;simp[bC,bg,h]
 |4,e=>cases e;simp[bC,bg,h]
 |j+5,e=>simp[vV]at e
def Nz{r u:Nat}(C:CD)(g:Nat)(O:yR C g)(w:World)(hA:C.At w)(c1:w.heap[r]?=some (.cells C.val 78))(P:w.heap[u]?=some (.cells #[.int .i64 g] 3)) :
 Calls PL 66 #[.slice none 0 0,.func (.func 67) #[] #[.pointer (some ⟨r,0,none⟩),.pointer (some ⟨u,0,none⟩)]] w λe w'=>∃v,e=.returned v/\AY w' (w.heap.size+1) v (mD C g C.n4)/\Below w.heap.size w w':=by
 have HA:=bi hA;have Q:=bi O;have R:=bi c1;have S:=bi P;clear hA O c1 P;refine(callsIn_wide (n:=9)).1 (callsIn_of_wp_marks (fx (by decide) Tryz.func66) rfl trivial ?_ rfl);simp only[Tryz.ntmps66,c7,cm,c8,a9,ba,cd,ce,c9,da,db,co];refine wpIn_wide.2 ?_
 go_wp2
 obtain⟨i0,hi,mF,dx,wD⟩:=info_parts aaV;refine(wpIn_wide (n:=9)).1 ?_;refine yU (by omega) (gf:=67) (lb:=#[.pointer (some ⟨r,0,none⟩),.pointer (some ⟨u,0,none⟩)]) rfl (enters_of (fx (by decide) bx) (by kernel_rfl) rfl)
  (yT 8 (by omega) r u w.heap.size g C Q.out w rfl HA.out)
  (λW T=>?_) Li (λW l o U hl ho hc hw=>Lj (n:=w.heap.size) (s:=w.heap.size+1) (by omega) W l o U (by simpa using hl) ho hc hw) (λ_=>rfl)
  (Sf w) (by rw[bM];exact Fl w) (by rw[bM];exact Sg w) ⟨_,au _ _,⟨rfl,.inl ⟨rfl,rfl⟩⟩,(bd _ _).alloc (ao _) _⟩
  (λx a W=>∃k,W.heap[k]?=some (.cells #[.int .i64 x.1,.int .i64 x.2.1,.int .i64 x.2.2.1,.int .i64 x.2.2.2.1,.int .i64 x.2.2.2.2] 70)/\a={ tmps:=#[.slice none 0 0,.func (.func 67) #[] #[.pointer (some ⟨r,0,none⟩),.pointer (some ⟨u,0,none⟩)],.pointer (some ⟨w.heap.size,0,none⟩),undef,.slice none 0 0,.pointer (some ⟨k,0,none⟩),.func (.func 67) #[] #[.pointer (some ⟨r,0,none⟩),.pointer (some ⟨u,0,none⟩)],.agg #[.int .i64 x.1,.int .i64 x.2.1,.int .i64 x.2.2.1,.int .i64 x.2.2.2.1,.int .i64 x.2.2.2.2],undef,undef,undef,undef,undef],defers:=[] })
  ?A ?kg ?assign ?body ?done
 ·have hb:=((bd w.heap.size w).alloc (ao _) (.cells #[.slice none 0 0] 54))
  have e:∀k,k<w.heap.size->W.heap[k]?=w.heap[k]?:=λk d=>(T.block k (by simp;omega)).trans (hb.block k d);exact⟨e,by have:=T.size;simp at this;omega,(e _ (bc R.out)).trans R.out,(e _ (bc S.out)).trans S.out⟩
 case A=>
  rintro x a W l o U hl hc⟨k,d,ha⟩;refine⟨k,(b1 (λe=>?_)).trans d,ha⟩;subst e;rw[hl]at d;cases d;cases hc
 case kg=>
  intro A B hs hg;rw[bM]at hs;exact⟨λk d=>hg.block k (by omega) (by simp),λk c t h _ _=>(hg.block k (bc h) (by simp)).trans h,hg.size⟩
 case assign=>
  intro l x W K F;dsimp only[VS]
  gi_wp2
  refine F _ _ (bT W _ none) ⟨W.heap.size,au _ _,rfl⟩
 case body=>
  rintro l p x a W⟨v,i,V,X⟩⟨k,d,rfl⟩Nw;have hlen:p.length<5:=by have:=Nw.length_le;have:=Q.out.m4;rw[R7]at *;simp at *;omega
  have aH:=bc i;have Ll:=bc d;have b0:W.cell? ⟨w.heap.size,0,none⟩=some v:=by simp[bC,i]
  obtain⟨k0,k1,k2,k3,k4⟩:=qO d;have fb:=tO i;have H:=bi V;have Y:=bi X;have Z:=bi i;clear i d V X
  gi_wp2_with (gi_at_builtin;refine wpListIn_append_own _ rfl _ _ _ rfl (w.heap.size+1) 70 i0 _ 5 40 afX hi mF dx wD rfl (by decide) v p.length (p.flatMap vV) rfl (World.ownsRow.alloc H.out _) ⟨W.heap.size,0,none⟩ 1 1 (vV x) rfl rfl (VW (au W _)) (by simp[vV,Value.oneCell']) (by simp only[maxLen];omega) (by omega) (by simp;omega) ?_;intro v' w2 m f _;have I:=cZ H.out;have J:w2.heap[w.heap.size]?=some (.cells #[v] 54):=(f.block _ (by simp;omega) (λe=>by have:=I _ e.symm;omega)).trans ((((bd W.heap.size W).alloc (ao _) _).block _ aH).trans Z.out);have fb2:=tO J;have b2:w2.cell? ⟨w.heap.size,0,none⟩=some v:=(by simp[bC,J]);obtain⟨bb,nn,cc,rfl⟩:=Ny m;have H1:=bi m;have L:=bi f;have M:=bi J;clear m f J)
  have y:∀j,v.ownBlock=some j->∃b,W.heap[j]?=some (.cells b 70):=qm H.out;have I:=cZ H.out;have z:=(bd W.heap.size W).alloc (ao _) (.cells #[.int .i64 x.1,.int .i64 x.2.1,.int .i64 x.2.2.1,.int .i64 x.2.2.2.1,.int .i64 x.2.2.2.2] 70);have yp:W.heap.size<=w2.heap.size:=by have:=L.out.size;simp at this;omega
  have blk:∀q,q<W.heap.size->q≠w.heap.size->some q≠v.ownBlock->(w2.setCell ⟨w.heap.size,0,none⟩ (.slice bb nn cc)).heap[q]?=W.heap[q]?:=λq m f h3=>by
   rw[aZ (Ne.symm f),L.out.block q (by simp;omega) h3,z.block q m]
  refine⟨(KeepsOthers.alloc W _).trans ((KeepsOthers.of_grownBy L.out λj o m f=>?_).trans (KeepsOthers.setCell _ _ _)),⟨λq hq=>blk q (by omega) (by omega) (λe=>by have:=I _ e.symm;omega),λq c t h m f=>(blk q (bc h) (λe=>?_) (λe=>?_)).trans h,by simpa using yp⟩,?_⟩
  ·obtain⟨b,hc⟩:=y _ m;rw[z.block _ (bc hc),hc]at f;cases f;rfl
  ·subst e;rw[Z.out]at h;cases h;exact f rfl
  ·obtain⟨b,hc⟩:=y _ e.symm;rw[hc]at h;cases h;exact m rfl
  ·refine⟨_,yV M.out,?_,?_⟩
   ·unfold AY;rw[cl,List.flatMap_append,cg,List.flatMap_nil,List.append_nil];obtain⟨e1,E⟩:=H1.out;refine⟨e1,?_⟩
    rcases E with E|⟨gg,cap,b,e2,hb,hg,E⟩
    ·exact .inl E
    ·exact .inr ⟨gg,cap,b,e2,hb,(aZ (by omega)).trans hg,E⟩
   ·exact((Y.out.alloc Y.out.size _).grown L.out (by simp;omega) (λk e=>by have:=I _ e;omega)).setCell (ao _) _
 case done=>
  intro D W hD hI F;rw[bM]at hD;have gE:=bi ((Fl w).putObj (.deferred none) hI (by omega) F rfl);obtain⟨v,i,-,-⟩:=hI;have b0:W.cell? ⟨w.heap.size,0,none⟩=some v:=by simp[bC,i]
  have Ce:=bi i;clear i
  go_wp2
  refine⟨by simp,.inl ⟨_,_,rfl,run_takeDeferred F,?_⟩⟩;obtain⟨v2,eP,N,qA⟩:=gE.out;have e:v=v2:=by
   have h:=(b1 (by omega:w.heap.size≠D)).symm.trans eP |>.symm
   rw[Ce.out]at h;cases h;rfl
  subst e;refine⟨v,?_,v,rfl,N,qA⟩;simp[ai,Tryz.results66,go_sem]
def NA{a b:Nat}(C:CD)(g:Nat)(c:yR C g)(w:World)(hA:C.At w)(c1:w.heap[a]?=some (.cells C.val 78))(d:w.heap[b]?=some (.cells #[.int .i64 g] 3)) :
 Calls PL 47 #[.func (.func 67) #[] #[.pointer (some ⟨a,0,none⟩),.pointer (some ⟨b,0,none⟩)]] w λe w'=>∃v,e=.returned v/\AY w' (w.heap.size+1) v (mD C g C.n4)/\Below w.heap.size w w':=by
 have i:=bi hA;have j:=bi c;have k:=bi c1;have l:=bi d;clear hA c c1 d
 go_enter (fx (by decide) Tryz.func47),Tryz.ntmps47
 go_wp2_with (go_at_call 66;refine(Nz C g j.out w i.out k.out l.out).mono ?_;rintro e w'⟨v,rfl,f,h⟩;have m:=bi f;have n:=bi h;clear f h)
 go_ret
 exact⟨_,rfl,m.out,n.out⟩
def Six(W:World)(k:Nat):Prop:=∃x0 x1 x2 x3 x4 a,W.heap[k]?=some (.cells #[x0,x1,x2,x3,x4,a] 78)
def Fo(C:CD)(W a:World):Prop:=∀k:Nat,(W.heap[k]?=some (.cells C.val 78)->a.heap[k]?=some (.cells C.val 78))/\(Six W k->Six a k)
def Fo.on{C:CD}{W a:World}(h:Below W.heap.size W a):Fo C W a:=λk=>⟨λe=>(h.block _ (bc e)).trans e,fun⟨x0,x1,x2,x3,x4,b,e⟩=>⟨x0,x1,x2,x3,x4,b,(h.block _ (bc e)).trans e⟩⟩
def alU(C:CD)(w:World)(j:Nat)(vs:Nat->Value)(W:World):Prop:=
 (j=8->∃k,vs 8=.pointer (some ⟨k,0,none⟩)/\w.heap.size<k/\Six W k)/\(j=9->∃k,vs 8=.pointer (some ⟨k,0,none⟩)/\w.heap.size<k/\W.heap[k]?=some (.cells C.val 78))
def AZ(C:CD)(g:Nat)(hg:g<C.n5)(m5:C.n5<=3)(w:World):Calls PL 46 #[.agg C.val,.int .i64 g] w λe w'=>e=.returned (.bool true)/\Below w.heap.size w w':=by
 have h:=Fi C g m5 w;have e:bO (g:Int) 0 (C.n5-1)=true:=by simp[bO];omega
 rwa[e]at h
def IC{C:CD}{b:Bool}(h:C.b6 b=0):C.cx=0:=by
 unfold CD.b6 at h
 split at h
 ·rename_i a;exact a
 ·rename_i a;exact absurd h a
def ID(C:CD)(g:Nat)(w:World)(h:C.At w)(hg:g<C.n5)(m5:C.n5<=3)(hf:C.b6 true=0)(n:yR C g) :
 Calls PL 18 #[.agg C.val,.int .i64 g] w λe w'=>∃v,e=.returned (.tuple #[v,.int .i64 0])/\AY w' w.heap.size v (mD C g C.n4)/\Below w.heap.size w w':=by
 have p:=bi h;have M:=bi hf;have N:=bi n;have r:Hid (KB C w (w.alloc (.cells C.val 27))):=bi ⟨au _ _,(bd _ _).alloc (ao _) _⟩;clear h hf n
 go_enter (fx (by decide) Tryz.func18),Tryz.ntmps18
 go_upto_region 1 with fail
 refine cT 10 (KB C w) (Fo C) (λj=>j != 8&&j != 9) (alU C w) rfl (by kernel_rfl) (by kernel_rfl)
  (λi vs W s f h=>⟨λe=>(h.1 e).imp λk a=>⟨a.1,a.2.1,(f k).2 a.2.2⟩,λe=>(h.2 e).imp λk a=>⟨a.1,a.2.1,(f k).1 a.2.2⟩⟩) (λi o t vs O W P hd h=>⟨λe=>?_,λe=>?_⟩) ?_ ?_
 ·subst e;rw[<-P];exact h.1 rfl
 ·subst e;have Q:vs 8=O 8:=by
   simp only[List.getElem?_toArray,List.getElem?_cons_succ,List.getElem?_cons_zero,Option.some.injEq]at t;subst t;exact hd ⟨8,.data⟩ (cH.2 ⟨by simp,rfl⟩)
  rw[<-Q];exact h.2 rfl
 ·exact⟨r.out.box,r.out.low.drew⟩
 ·iterate 8 (
   apply aY
   case hE=>rfl
   case h=>
    intro vs W b hd;obtain⟨u,x,y,z,f4,A⟩:=bf b.box
    go_simp
    first
    |(go_at_call 46;refine(AZ C g hg m5 _).mono ?_;rintro e s⟨rfl,d⟩;exact⟨_,rfl,rfl,b.on d,Fo.on d⟩)
    |(go_at_call 35;refine(kF M.out (p.out.below b.low)).mono ?_;rintro e s⟨rfl,d⟩;exact⟨_,rfl,rfl,b.on d,Fo.on d⟩)
    |exact⟨rfl,Fo.on (bd _ _)⟩
   case hb=>exact hbT)
  apply eH
  case hE=>rfl
  case hb=>exact hbT
  case h=>
   intro vs W b hd
   go_simp
   have d:=(bd W.heap.size W).alloc (ao _) (.cells #[.int .i64 0,.int .i64 0,.slice none 0 0,.slice none 0 0,.slice none 0 0,.slice none 0 0] 78)
   first
   |exact⟨b.on d,Fo.on d,⟨λ_=>⟨W.heap.size,by simp[upd],b.lt,_,_,_,_,_,_,au W _⟩,λe=>absurd e (by decide)⟩⟩
  apply eH
  case hE=>rfl
  case hb=>exact hbT
  case h=>
   intro vs W b hd;obtain⟨k,a,B,x0,x1,x2,x3,x4,V,c⟩:=(hd ⟨8,.data⟩ (cH.2 ⟨by simp,rfl⟩) rfl).1 rfl;obtain⟨u,x,y,z,f4,A⟩:=bf c;have X:=tO c;rw[a]
   go_simp
   refine⟨⟨(cM (by omega)).trans b.box,de b.low (by omega) _ _ _ _ _ _⟩,λq=>?_,⟨λe=>absurd e (by decide),λ_=>⟨k,by simp[upd,a],B,nC c⟩⟩⟩;by_cases m:q=k
   ·subst m;exact⟨λ_=>nC c,λ_=>⟨_,_,_,_,_,_,nC c⟩⟩
   ·exact⟨λe=>(cM m).trans e,fun⟨_,_,_,_,_,_,e⟩=>⟨_,_,_,_,_,_,(cM m).trans e⟩⟩
  refine cP λvs W b hd=>?_;obtain⟨k,a,B,c⟩:=(hd 9 (by omega) rfl).2 rfl;rw[a];obtain⟨u,x,y,z,f4,A⟩:=bf c;have Y:=bi c;have D:=bi b;clear c b hd a
  go_wp2_with (first
   |(go_at_call 48;refine(AX C g _).mono ?_;rintro e w'⟨rfl,l⟩;have E:Below W.heap.size W w':=(by rw[l];exact((bd _ _).alloc (ao _) _).alloc (by simp) _);have F:w'.heap[W.heap.size+1]?=some (.cells #[.int .i64 g] 3):=(by have H:=au (W.alloc (.cells C.val 78)) (.cells #[.int .i64 g] 3);rw[bM]at H;rw[l];exact H);have c1:w'.heap[W.heap.size]?=some (.cells C.val 78):=(by rw[l];exact(((bd (W.alloc (.cells C.val 78)).heap.size _).alloc (ao _) _).block _ (by simp)).trans (au W _));have I:=bi E;have R:=bi c1;have S:=bi F;clear l E c1 F)
   |(go_at_call 47;refine(NA C g N.out _ (p.out.below (dd D.out.low I.out)) R.out S.out).mono ?_;rintro e w3⟨v,rfl,J,K⟩;have T:=bi J;have U:=bi K;clear J K))
  have L:=dd D.out.low I.out;refine ag (v:=.tuple #[v,.int .i64 0]) ?_ rfl ⟨v,rfl,dJ T.out (by have:=L.size;omega),dd L U.out⟩;simp[ai,Tryz.results18,go_sem]
end Go.Proofs
