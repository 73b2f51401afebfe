/- Part of the proof of FieldDelays. -/
import Derived.Test.YtlilmeaaoeemdaaGreatU17
import Derived.Maps.RangeWalk
set_option linter.all false
open Go.Proofs renaming getElem?_lt'->aa
open Go.Proofs.Below renaming on->ab
open Go.Lib renaming hid->ac
open Go.RowKit.Below renaming refl->ad
open Nat renaming le_refl->ae,zero_le->ag,lt_or_ge->ai,lt_irrefl->ao
open Go.World renaming size_alloc->ap,cell?->aq,setCell->ar
open Go.IntWalk renaming i64_in->aw,wrap64_in->aB
open Go renaming bodyPost_ret->aF,results->aI,MapEntry->aJ,underlying->aP,Operand->aS,wpList->aT,wpList_plain->a5,execOp->a6,TypeId->a7
open Go.Instr renaming findNow->a8,lookup->a9,mapUpdate->ba,field->bc
open List renaming find?_cons->bg,range->bi,mem_mapIdx->bj,map_cons->bm,map_nil->bo,map_append->bp,range_succ->bq,filter_append->br,mem_range->bs,getD_eq_getElem?_getD->bt,getElem?_map->bv,mem_of_find?_eq_some->bw,getElem?_toArray->bA,getElem?_cons_succ->bC,getElem?_cons_zero->bL,getElem?_eq_getElem->bM
open Go.MapKept renaming run_getObj_map->bR
open Array renaming getElem?_setIfInBounds_ne->bT,mem_filter->bX,getElem?_modify->b1
open Option.some renaming injEq->b2
open Bool renaming and_eq_true->b5,or_eq_true->b8
open Go.aU renaming of_heap->cc
namespace Go.Proofs
open Go.RowKit Go.Shelf
set_option maxRecDepth 100000
set_option maxHeartbeats 4000000
def Cw{P:Program}{w:World}{a:Addr}{m:Mode}(f:Fn)(ts b:Array Value):(store a (.func f ts b) m).run P w=stored P w a (.func f ts b) m:=run_store P w a _ m rfl
attribute [local go_sem] Cw
structure KDl(V:Array Value)(w:World)(W:World):Prop where
 c:W.heap[w.heap.size]?=some (.cells V 27)
 d:W.heap[w.heap.size+1]?=some (.cells #[.slice none 0 0] 31)
 low:Below w.heap.size w W
def KDl.on{V:Array Value}{w W b:World}(h:KDl V w W)(a:Below W.heap.size W b):KDl V w b:=
 ⟨(a.block _ (aa h.c)).trans h.c,(a.block _ (aa h.d)).trans h.d,ab h.low a⟩
def ao8(r:Option (List Int))(w:World)(e:Ending)(w':World):Prop:=
 (match r with
   |some r=>∃b c,e=.returned (.tuple #[.slice b r.length c,.bool true,.int .i64 0])/\bB w' (.slice b r.length c) r
   |none=>e=.returned (.tuple #[.slice none 0 0,.bool false,.int .i64 0]))/\Below w.heap.size w w'
def abx(C:CD)(w:World)(h:C.At w)(hc:C.cx=0):Calls PL 6 #[.agg C.val] w (ao8 C.dly w):=by
 have HA:Hid (∀W,Below w.heap.size w W->C.At W):=ac λW hB=>h.below hB;have h5:=s8 hc
 have H:Hid (KDl C.val w ((w.alloc (.cells C.val 27)).alloc (.cells #[.slice none 0 0] 31))):=ac (by
  refine⟨(((ad (w.alloc _).heap.size _).alloc (ae _) _).block _ (by simp)).trans (au w _),?_,((ad _ _).alloc (ae _) _).alloc (by simp) _⟩;have h:=au (w.alloc (.cells C.val 27)) (.cells #[.slice none 0 0] 31);rw[ap]at h
  exact h)
 have CK:Hid (∀W,Below w.heap.size w W->Calls PL 29 #[.agg C.val] W (aO (.int .i64 0) W)):=ac λW hW=>by have:=uC C W (HA.out W hW);rwa[hc]at this
 obtain⟨f,hf⟩:∃f:Nat->Option (List Int),f=λs=>FT (sfC C) C.n5 [] s:=⟨_,rfl⟩
 have hs:C.dly=j9 f (12*C.n5+1-0) 0:=by rw[hf];rfl
 rw[hs];have TR:Hid (∀I J K P W(i:Nat),i<=36->DG C w I J K P W->Calls PL 30 #[.slice none 0 0,.int .i64 i,.pointer (some ⟨I,0,none⟩),.pointer (some ⟨J,0,none⟩),.pointer (some ⟨K,0,none⟩)] W (TP C w I J K P (.slice none 0 0) [] (f i) W)):=ac λI J K P W i hi L=>by
  rw[hf];exact afw hc HA.out C.n5 [] i (.slice none 0 0) W (by simp) (λi hi=>by simp at hi) (by omega) L ⟨rfl,.inl ⟨rfl,rfl⟩⟩
 clear h hc hf hs
 go_enter (fx (by decide) Tryz.func6),Tryz.ntmps6
 go_upto_region 1 with fail
 obtain⟨W0,kS⟩:∃W0:World,W0=((w.alloc (.cells C.val 27)).alloc (.cells #[.slice none 0 0] 31)):=⟨_,rfl⟩
 rw[<-kS]at H ⊢;clear kS;obtain⟨o,q,x,y,f4,z⟩:=bf H.out.c
 go_upto_region 4 with(go_at_call 29;go_must (refine(CK.out _ H.out.low).mono ?_);rintro e w1⟨rfl,A⟩;have Q:=ac (H.out.on A);clear A o q x y f4 z;obtain⟨o,q,x,y,f4,z⟩:=bf Q.out.c)
 go_upto_region 5 with fail
 obtain⟨n,M⟩:∃n:World,n=w1.alloc (.cells #[.nilFunc] 75):=⟨_,rfl⟩
 have A:Below w1.heap.size w1 n:=by rw[M];exact(ad _ _).alloc (ae _) _
 have b:n.heap[w1.heap.size]?=some (.cells #[.nilFunc] 75):=by rw[M];exact au _ _
 rw[<-M];clear M o q x y f4 z;have R:=ac (Q.out.on A);have HT:=ac b;have t0:n.cell? ⟨w1.heap.size,0,none⟩=some .nilFunc:=by simp[aq,b]
 have S:=tO b;clear b A
 go_upto_region 6 with fail
 obtain⟨B,N⟩:∃B:World,B=n.setCell ⟨w1.heap.size,0,none⟩ (So w.heap.size (w.heap.size+1) w1.heap.size):=⟨_,rfl⟩
 rw[<-N];have T:=aa Q.out.d
 have O:Hid (KDl C.val w B):=ac (by
  rw[N]
  exact⟨(aZ (by omega)).trans R.out.c,(aZ (by omega)).trans R.out.d,R.out.low.setCell (p:=⟨w1.heap.size,0,none⟩) (by simp only;omega) _⟩)
 have D3:Hid (DG C w w.heap.size (w.heap.size+1) w1.heap.size (w1.heap.size+1) B):=ac (by
  have Q6:B.heap[w1.heap.size]?=some (.cells #[So w.heap.size (w.heap.size+1) w1.heap.size] 75):=by rw[N];exact yV HT.out
  exact⟨⟨by omega,by omega,by omega,by omega,by omega⟩,aa Q6,O.out.c,⟨_,O.out.d⟩,Q6,O.out.low⟩)
 obtain⟨o,q,x,y,f4,z⟩:=bf O.out.c;clear N t0 S T;have m1:IntKind.i64.wrap (12*(C.n5:Int))=12*(C.n5:Int):=aw _ (by omega);have m2:IntKind.i64.wrap (12*(C.n5:Int)+1)=12*(C.n5:Int)+1:=aw _ (by omega);have m3:wrap64 (12*(C.n5:Int))=12*(C.n5:Int):=aB _ (by omega);have m4:wrap64 (12*(C.n5:Int)+1)=12*(C.n5:Int)+1:=aB _ (by omega)
 go_wp2
 go_loopw [19] (λg wr=>∃i:Nat,i<=12*C.n5+1/\g=.int .i64 i/\j9 f (12*C.n5+1-0) 0=j9 f (12*C.n5+1-i) i/\DG C w w.heap.size (w.heap.size+1) w1.heap.size (w1.heap.size+1) wr) (λg _=>12*C.n5+1-(intOf g).toNat)
 case atStart=>exact⟨0,ag _,rfl,rfl,D3.out⟩
 case round=>
  obtain⟨i,hi,rfl,D,L⟩:=hrel;have JD:=ac L;have U:=ac D;clear D L o q x y f4 z;by_cases aH:i<=12*C.n5
  ·have i1:(i:Int)<12*(C.n5:Int)+1:=by omega
   have b:=JD.out.t;have t1:wr.cell? ⟨w1.heap.size,0,none⟩=some (So w.heap.size (w.heap.size+1) w1.heap.size):=by simp[aq,b]
   obtain⟨r,V⟩:∃r,r=f i:=⟨_,rfl⟩
   have T2:=ac (TR.out _ _ _ _ wr i (by omega) JD.out);rw[<-V]at T2;have HR:=ac V;clear V b
   cases r with
   |some r=>
    go_wp2_with (go_at_call 30;(with_reducible refine(T2.out).mono ?_);rintro e w3⟨rfl,E,X,j,a⟩;obtain⟨l,m,hv,F⟩:=a _ rfl;have y0:w3.cell? ⟨w.heap.size+1,0,none⟩=some (.slice l r.length m):=(by simp[aq,hv]);have S:=tO hv;have Y:=ac (And.intro hv (And.intro F E.low));clear hv F E X j a)
    obtain⟨hv,F,qv⟩:=Y.out
    have hs:Below w3.heap.size w3 (w3.setCell ⟨w.heap.size+1,0,none⟩ (.slice l r.length m)):=⟨rfl,rfl,rfl,by simp,λk _=>by
     by_cases e:k=w.heap.size+1
     ·subst e;rw[yV hv,hv]
     ·exact aZ (Ne.symm e)⟩
    have hy:=yV (u:=.slice l r.length m) hv;have e:j9 f (12*C.n5+1-0) 0=some r:=by rw[U.out,H9 aH,<-HR.out]
    refine aF (v:=.tuple #[.slice l r.length m,.bool true,.int .i64 0]) ?_ rfl (by rw[e];exact⟨⟨l,m,rfl,F.on hs⟩,ab qv hs⟩);have hz:=aa hy;have Z:(w3.setCell ⟨w.heap.size+1,0,none⟩ (.slice l r.length m)).cell? ⟨w.heap.size+1,0,none⟩=some (.slice l r.length m):=by simp[aq,hy]
    clear hs e hv F qv;simp[aI,Tryz.results6,go_sem,Z]
   |none=>
    go_wp2_with (go_at_call 30;(with_reducible refine(T2.out).mono ?_);rintro e w3⟨rfl,E,X,j,a⟩;have HP:=ac E;clear E X j a)
    exact⟨⟨i+1,by omega,by go_num,by rw[U.out,H9 aH,<-HR.out],HP.out⟩,by simp only[intOf];omega⟩
  ·have i1:¬(i:Int)<12*(C.n5:Int)+1:=by omega
   have Um:j9 f (12*C.n5+1-0) 0=none:=by rw[U.out,show 12*C.n5+1-i=0 by omega];rfl
   have HE:=ac Um;clear Um;obtain⟨v0,hv⟩:=JD.out.d;have y0:wr.cell? ⟨w.heap.size+1,0,none⟩=some v0:=by simp[aq,hv]
   have S:=tO hv;have Y:=ac hv;clear hv
   go_wp2_with fail
   have hy:=yV (u:=.slice none 0 0) Y.out;have hz:=aa hy;refine aF (v:=.tuple #[.slice none 0 0,.bool false,.int .i64 0]) ?_ rfl (by rw[show j9 f (12*C.n5+1) 0=none from HE.out];exact⟨rfl,JD.out.low.setCell (p:=⟨w.heap.size+1,0,none⟩) (Nat.le_succ _) _⟩);have Z:(wr.setCell ⟨w.heap.size+1,0,none⟩ (.slice none 0 0)).cell? ⟨w.heap.size+1,0,none⟩=some (.slice none 0 0):=by simp[aq,hy]
   simp[aI,Tryz.results6,go_sem,Z]
def am2{k2 a k3 c3 b c d e f ca lb g:Nat}:(ir k2 a k3 c3 b c d e f ca lb g 1).dly=some [0,0]:=by kernel_rfl
def II{k2 i k3 c3 a j d k f ca lb g:Nat}(w:World)(h:CJ w k2 k3 a d f ca lb g 1) :
 Calls PL 6 #[.agg (ir k2 i k3 c3 a j d k f ca lb g 1).val] w λe w'=>∃v,e=.returned (.tuple #[v,.bool true,.int .i64 0])/\bB w' v [0,0]/\Below w.heap.size w w':=by
 refine(abx (ir k2 i k3 c3 a j d k f ca lb g 1) w h.at (yQ (.inr rfl))).mono ?_;rintro e w'⟨l,m⟩;rw[am2]at l;obtain⟨b,c,n,o⟩:=l;exact⟨_,n,o,m⟩
end Go.Proofs
namespace Go.Proofs
open Go.RowKit Go.Instr
open Go.ChangeMaps (setBlock)
set_option maxRecDepth 100000
abbrev WE:=Int×Value×List Int×Int
def nD(x:WE):Value:=.agg #[x.2.1,.int .i64 x.2.2.2]
def Cx(i:Nat)(x:WE):aJ:={ key:=.int .i64 x.1,val:=nD x,born:=i }
def gi(R:List WE):Array aJ:=(R.mapIdx Cx).toArray
structure jy(W:World)(b:Nat)(R:List WE):Prop where
 map:W.heap[b]?=some (.map (gi R) R.length)
 reads:∀x∈R,bB W x.2.1 x.2.2.1
 ne:∀x∈R,x.2.2.1≠[]
def jy.on{W a:World}{b:Nat}{R:List WE}(h:jy W b R)(c:Below W.heap.size W a):jy a b R:=
 ⟨(c.block _ (aa h.map)).trans h.map,λx d=>(h.reads x d).on c,h.ne⟩
def jy.made(w:World):jy (w.alloc (.map #[] 0)) w.heap.size []:=⟨au _ _,λ_ h=>(by cases h),λ_ h=>(by cases h)⟩
def yY:PL.underlying 109=some (.map 3 108):=by kernel_rfl
def V3(w:World):(zeroValue 108).run PL w=.ok (.agg #[.slice none 0 0,.int .i64 0]) w:=by kernel_rfl
def Sv(k:Int):∀(R:List WE)(f:Nat->WE->aJ)(a:Nat),(∀i x,(f i x).key=.int .i64 x.1)->(∀i x,(f i x).val=nD x)->
 ∃r,a8 (.int .i64) (.int .i64 k) (R.mapIdx f) a=some r/\(∀x,R.find? (λx=>x.1==k)=some x->∃j,r=some (j,nD x))/\(R.find? (λx=>x.1==k)=none->r=none)
 |[],f,a,_,_=>⟨none,rfl,λx h=>by simp at h,λ_=>rfl⟩
 |y::R,f,a,b,hv=>by
  rw[List.mapIdx_cons];by_cases e:y.1=k
  ·refine⟨some (a,nD y),by simp[a8,b,hv,sameNow,e],λx h=>?_,λh=>?_⟩
   ·simp[e]at h;subst h;exact⟨a,rfl⟩
   ·simp[e]at h
  ·obtain⟨r,c,d,g⟩:=Sv k R (λi=>f (i+1)) (a+1) (λi x=>b _ x) (λi x=>hv _ x);refine⟨r,?_,λx h=>d x ?_,λh=>g ?_⟩
   ·have l:(k==y.1)=false:=by simpa using λh=>e h.symm
    simp only[a8,b,sameNow,l,if_true];simpa using c
   ·simpa[bg,e]using h
   ·simpa[bg,e]using h
def qn(k:Int)(R:List WE)(w:World):∃r,(findKey 3 (.int .i64 k) (gi R).toList).run PL w=.ok r w/\(∀x,R.find? (λx=>x.1==k)=some x->∃j,r=some (j,nD x))/\(R.find? (λx=>x.1==k)=none->r=none):=by
 obtain⟨r,a,b,c⟩:=Sv k R Cx 0 (λ_ _=>rfl) (λ_ _=>rfl);exact⟨r,by simp[findKey,aP,aaj,gi,a],b,c⟩
def IJ{W:World}{b:Nat}{R:List WE}{k:Int}{x:WE}(h:W.heap[b]?=some (.map (gi R) R.length))(a:R.find? (λx=>x.1==k)=some x):(a9 109 (.map (some b)) (.int .i64 k) false).run PL W=.ok (nD x) W:=by
 obtain⟨r,c,d,_⟩:=qn k R W;obtain⟨j,rfl⟩:=d x a;simp[a9,aP,yY,bR h,qz.check,c]
def Sw{W:World}{b:Nat}{R:List WE}{k:Int}{x:WE}(h:W.heap[b]?=some (.map (gi R) R.length))(a:R.find? (λx=>x.1==k)=some x):(a9 109 (.map (some b)) (.int .i64 k) true).run PL W=.ok (.tuple #[nD x,.bool true]) W:=by
 obtain⟨r,c,d,_⟩:=qn k R W;obtain⟨j,rfl⟩:=d x a;simp[a9,aP,yY,bR h,qz.check,c]
def Sx{W:World}{b:Nat}{R:List WE}{k:Int}(h:W.heap[b]?=some (.map (gi R) R.length))(c:R.find? (λx=>x.1==k)=none):(a9 109 (.map (some b)) (.int .i64 k) true).run PL W=.ok (.tuple #[.agg #[.slice none 0 0,.int .i64 0],.bool false]) W:=by
 obtain⟨r,a,_,d⟩:=qn k R W;rw[d c]at a;simp[a9,aP,yY,bR h,qz.check,a,V3]
def jN{W d:World}{b:Nat}{o:Obj}{v:Value}{l:List Int}(hv:bB W v l)(hl:l≠[])(h:gv W d b)(hb:W.heap[b]?=some o)(e:∀c t f,o≠.cells c t f):bB d v l:=by
 obtain⟨p,c,rfl,g⟩:=hv;refine⟨p,c,rfl,λi=>?_⟩;obtain⟨k,q,rfl,m,hc⟩:=g i;have n:k≠b:=by
  rintro rfl;have:=hc 0 (by omega);simp only[aq,hb]at this
  cases o with
  |cells c t f=>exact e c t f rfl
  |_=>simp at this
 exact⟨k,q,rfl,by rw[h.size];exact m,λj r=>(h.cell (a:=⟨k,q+j,none⟩) n).trans (hc j r)⟩
def jy.put{W:World}{b:Nat}{R:List WE}(h:jy W b R){x:WE}(f:R.find? (λy=>y.1==x.1)=none)(g:bB W x.2.1 x.2.2.1)(c:x.2.2.1≠[]) :
 ∃w',(ba 109 (.map (some b)) (.int .i64 x.1) (nD x)).run PL W=.ok () w'/\jy w' b (R++[x])/\gv W w' b:=by
 obtain⟨r,d,_,i⟩:=qn x.1 R W;rw[i f]at d;have hb:=aa h.map
 have a:gv W { W with heap:=W.heap.setIfInBounds b (.map ((gi R).push { key:=.int .i64 x.1,val:=nD x,born:=R.length }) (R.length+1)) } b:=⟨rfl,rfl,rfl,by simp,λk j=>by
  show(W.heap.setIfInBounds b _)[k]?=_
  rw[bT (Ne.symm j)]⟩
 have l:gi (R++[x])=(gi R).push { key:=.int .i64 x.1,val:=nD x,born:=R.length }:=by
  simp[gi,Cx,List.mapIdx_append]
 refine⟨_,?_,⟨?_,λy hy=>?_,λy hy=>?_⟩,a⟩
 ·simp[ba,aP,yY,bR h.map,qz.check,d,MapKept.run_setObj_map _ h.map]
 ·rw[l];simp[hb]
 ·rcases List.mem_append.1 hy with hy|hy
  ·exact jN (h.reads y hy) (h.ne y hy) a h.map (λ_ _ _ e=>by cases e)
  ·rw[List.mem_singleton.1 hy];exact jN g c a h.map (λ_ _ _ e=>by cases e)
 ·rcases List.mem_append.1 hy with hy|hy
  ·exact h.ne y hy
  ·rw[List.mem_singleton.1 hy];exact c
def ag6(R:List WE):(gi R).toList.map (·.born)=bi R.length:=by
 apply List.ext_getElem
 ·simp[gi]
 ·intro i a b;simp[gi,Cx]
def A5{R:List WE}{e:aJ}(h:e∈(gi R).toList):∃j x,R[j]?=some x/\e=Cx j x:=by
 simp only[gi,bj]at h;obtain⟨j,a,rfl⟩:=h;exact⟨j,R[j],by simp[a],rfl⟩
def tE(W:World)(r b n:Nat)(seen:Array Nat):Prop:=W.heap[r]?=some (.mapIter (some b) n seen n)
def V4{W:World}{b:Nat}{R:List WE}(h:jy W b R):(Instr.range 109 (.map (some b))).run PL W=.ok (.pointer (some ⟨W.heap.size,0,none⟩)) (W.alloc (.mapIter (some b) R.length #[] R.length)):=
 run_range_map W 109 3 108 b _ _ yY h.map
def Fs(n:Nat)(seen:Array Nat):Nat:=((bi n).filter λj=>!seen.contains j).length
def IK{n j:Nat}{seen:Array Nat}(a:j<n)(hs:seen.contains j=false):Fs n (seen.push j)<Fs n seen:=by
 unfold Fs;have b:(bi n).filter (λq=>!(seen.push j).contains q)=((bi n).filter λq=>!seen.contains q).filter λq=>decide (¬q=j):=by
  rw[List.filter_filter];refine List.filter_congr λq _=>?_;by_cases e:q=j<;>simp[e]
 rw[b];refine List.length_filter_lt_length_iff_exists.2 ⟨j,?_,by simp⟩;have c:j∉seen:=by simpa using hs
 simp[a,c]
def zX{ops:Array Oper}{rest:List Oper}{o:Oper}{a:Act}{Q:Exit->Act->World->Prop}(w:World)(hg:o.guard=none)(it:aS)(t:o.op=Op.next it false)(r b:Nat)(R:List WE)(seen:Array Nat)
 (u:a.eval it=.pointer (some ⟨r,0,none⟩)) (g:tE w r b R.length seen) (c:jy w b R)
 (A:(∀j,j<R.length->seen.contains j=true)->aT PL ops Q rest (a.put o.dst (.tuple #[.bool false])) w)
 (i:∀j x w',R[j]?=some x->seen.contains j=false->tE w' r b R.length (seen.push j)->gv w w' r->jy w' b R->(Instr.entry (.pointer (some ⟨r,0,none⟩))).run PL w'=.ok (.tuple #[.int .i64 x.1,nD x]) w'->
   aT PL ops Q rest (a.put o.dst (.tuple #[.bool true,.int .i64 x.1,nD x])) w'):aT PL ops Q (o::rest) a w:=by
 refine a5 hg λF hK'=>?_;unfold Oper.wp
 rcases run_next_at (P:=PL) w o.type r b R.length R.length seen (gi R) R.length g c.map (λx B=>by
  obtain⟨j,y,d,rfl⟩:=A5 B
  exact(List.getElem?_eq_some_iff.1 d).1) (ae _) with⟨hl,l⟩|⟨e,m,w1,h,l⟩
 ·simp[a6,t,u,l,Result.andThen];refine hK' _ _ (A λj d=>?_);have f:Cx j R[j]∉leftOf (gi R) seen:=by rw[Array.eq_empty_of_size_eq_zero hl];simp
  have C:Cx j R[j]∈gi R:=by
   simp only[gi,List.mem_toArray,bj];exact⟨j,d,rfl⟩
  simp only[leftOf,bX,not_and]at f;have:=f C;simpa[Cx]using this
 ·have n:e∈(gi R).toList/\seen.contains e.born=false:=by
   simp only[leftOf,Array.mem_toList_iff,bX]at m;exact⟨Array.mem_toList_iff.2 m.1,by simpa using m.2⟩
  obtain⟨j,x,d,rfl⟩:=A5 n.1;have hs:seen.contains j=false:=n.2;simp[a6,t,u,l,Result.andThen];have p:=aa g
  have q:w1.heap=w.heap:=by rcases h with rfl|rfl<;>rfl
  have D:b≠r:=by rintro rfl;have i:=c.map;have f:w.heap[b]?=_:=g;rw[i]at f;cases f
  have s:gv w (setBlock w1 r (.mapIter (some b) R.length (seen.push j) R.length)) r:=by
   refine⟨by rcases h with rfl|rfl<;>rfl,by rcases h with rfl|rfl<;>rfl,by rcases h with rfl|rfl<;>rfl,by simp[setBlock,q],λk E=>?_⟩;show(w1.heap.setIfInBounds r _)[k]?=_;rw[q,bT (Ne.symm E)]
  have v:tE (setBlock w1 r (.mapIter (some b) R.length (seen.push j) R.length)) r b R.length (seen.push j):=by
   show(w1.heap.setIfInBounds r _)[r]?=_;rw[q];simp[p]
  have z:jy (setBlock w1 r (.mapIter (some b) R.length (seen.push j) R.length)) b R:=⟨(s.block _ D).trans c.map,λy hy=>jN (c.reads y hy) (c.ne y hy) s g (λ_ _ _ e=>by cases e),c.ne⟩
  refine hK' _ _ (i j x _ d hs v s z ?_);exact run_entry_at _ r b R.length seen (gi R) R.length (Cx j x) v z.map n.1 (by rw[ag6];exact List.nodup_range)
def tF{ops:Array Oper}{rest:List Oper}{o:Oper}{a:Act}{Q:Exit->Act->World->Prop}(w:World)(hg:o.guard=none)(m x v:aS)(c:o.op=Op.mapUpdate 109 m x v\/o.op=Op.insert 109 m x v)(b:Nat)(R:List WE)(y:WE)
 (d:a.eval m=.map (some b)) (e:a.eval x=.int .i64 y.1) (hv:a.eval v=nD y) (h:jy w b R) (hy:R.find? (λz=>z.1==y.1)=none) (f:bB w y.2.1 y.2.2.1) (g:y.2.2.1≠[])
 (i:∀w',jy w' b (R++[y])->gv w w' b->aT PL ops Q rest (a.put o.dst undef) w'):aT PL ops Q (o::rest) a w:=by
 refine a5 hg λn hK'=>?_;obtain⟨w',j,k,l⟩:=h.put hy f g;unfold Oper.wp
 rcases c with c|c<;>
 ·simp[a6,c,d,e,hv,j,Result.andThen];exact hK' _ _ (i w' k l)
abbrev SW:=List (Int×List Int×Int)
def V6(b:List Int)(a:Int)(q:Nat):Bool:=decide ((q:Int)∈b)||(decide ((zU q).1≠a)&&decide ((zU q).2.1≠a))
def XN(a:Int)(q:Nat):Int:=(zU q).1+(zU q).2.1-a
def stepW(b c:List Int)(a:Int)(S:SW)(q:Nat):SW:=if V6 b a q then S else if XN a q∈c then S else match S.find? (λx=>x.1==a) with
 |none=>S
 |some x=>S++[(XN a q,x.2.1++[XN a q],x.2.2+(zU q).2.2)]
def N0(a b:List Int)(c:Int)(S:SW):Nat->SW
 |0=>S
 |q+1=>stepW a b c (N0 a b c S q) q
def okQ(b c:List Int)(a:Int)(S:SW):Bool:=(bi 4).all λq=>match(N0 b c a S q).find? (λx=>x.1==a) with
 |none=>false
 |some x=>decide (x.2.1.length<=10)&&decide (0<=x.2.2)&&decide (x.2.2<=1000)&&(V6 b a q||decide (XN a q∈c)||((N0 b c a S q).find? λx=>x.1==XN a q).isNone)
def strip(x:WE):Int×List Int×Int:=(x.1,x.2.2)
def nE{R:List WE}{S:SW}(h:R.map strip=S)(k:Int):S.find? (λx=>x.1==k)=(R.find? λx=>x.1==k).map strip:=by
 rw[<-h,List.find?_map];rfl
end Go.Proofs
namespace Go.Proofs
open Go.RowKit Go.Shelf
attribute [local go_sem] Oper.semAt_some
set_option maxRecDepth 100000
set_option maxHeartbeats 1000000
def yX{T e:a7}(a:PL.underlying T=some (.slice e))(c:(PL.info? e).map (λi=>(i.zero,i.size,i.bytes))=some (some (.int .i64 0),1,8)){ops:Array Oper}{o:Oper}{b:Act}{K:Value->World->Prop}{W:World}(d:o.guard=none)(s x:aS)
 (f:o.op=.call { callee:=.builtin .append,args:=#[s,x],argTypes:=#[T,T] }) (base:Nat) (v:Value) (l:List Int) (j:Int) (k:Nat) (hs:b.eval s=v) (g:eO e W base v l)
 (m:b.eval x=.slice (some ⟨k,0,none⟩) 1 1) (hc:W.cell? ⟨k,0,none⟩=some (.int .i64 j)) (hl:l.length<=1000) (n:base<=W.heap.size)
 (h:∀v' w',eO e w' base v' (l++[j])->W.grownBy w' v.ownBlock->K v' w'):fC PL ops K o b W:=by
 obtain⟨p,hi,r,t,y⟩:=info_parts c
 obtain⟨v',w',z,A,B,_⟩:=run_append_own (P:=PL) (w:=W) base T o.type e p (.int .i64 0) 1 8 a hi r t y rfl (by decide) v l.length _ g ⟨k,0,none⟩ 1 1 [.int .i64 j] rfl (λq u e=>by
  match q,e with
  |0,e=>cases e;exact hc) (by simp[Value.oneCell']) (by simp only[maxLen];omega) (by omega) n
 unfold fC;rw[if_pos (by simp[Region.wanted,d])];unfold a6;simp only[f,resolve,invoke,builtin,Sem.run_bind,Sem.run_pure,Result.andThen_ok,List.map_toArray,bm,bo,hs,m,z];refine h v' w' ?_ B;unfold eO;rw[List.length_append,bp];exact A
def ao9(C:CD)(w:World)(j:Nat)(vs:Nat->Value)(W:World):Prop:=
 (j=10->∃k,vs 10=.pointer (some ⟨k,0,none⟩)/\w.heap.size<k/\Six W k)/\(j=11->∃k,vs 10=.pointer (some ⟨k,0,none⟩)/\w.heap.size<k/\W.heap[k]?=some (.cells C.val 78))
def yZ(m:Int)(p:Nat):Int:=kU je p m 2 0 false
def uN(m:Int)(p:Nat):List Int:=((bi p).filter λq=>yZ m q != 2).map fun(q:Nat)=>(q:Int)+1
def IL{m:Int}{p:Nat}(h:yZ m p=2):uN m (p+1)=uN m p:=by
 simp[uN,bq,br,h]
def IM{m:Int}{p:Nat}(h:yZ m p≠2):uN m (p+1)=uN m p++[(p:Int)+1]:=by
 simp[uN,bq,br,h]
def V7{m:Int}{p:Nat}:(p:Int)+1∉uN m p:=by
 simp only[uN,List.mem_map,List.mem_filter,bs,not_exists,not_and,and_imp];intro q a _ e;omega
abbrev zn:Int->Value:=λn=>.int .i64 n
structure KQ(C:CD)(w:World)(kx kt:Nat)(W:World):Prop where
 box:W.heap[w.heap.size]?=some (.cells C.val 27)
 bx:W.heap[kx]?=some (.cells C.val 78)
 row:Row W kt (je.map bh)
 low:Below w.heap.size w W
def KQ.on{C:CD}{w W b:World}{c d:Nat}(h:KQ C w c d W)(a:Below W.heap.size W b):KQ C w c d b:=
 ⟨(a.block _ (aa h.box)).trans h.box,(a.block _ (aa h.bx)).trans h.bx,h.row.on a,ab h.low a⟩
def KQ.turned{C:CD}{w W l:World}{m i b:Nat}{o:Obj}(h:KQ C w m i W)(d:gv W l b)(hb:W.heap[b]?=some o)(n:∀c t f,o≠.cells c t f)(q:w.heap.size<=b):KQ C w m i l:=by
 have p:∀{k:Nat}{c:Array Value}{t:a7}{f:Nat×Nat},W.heap[k]?=some (.cells c t f)->k≠b:=λ{k c t f}e g=>by
  rw[g,hb]at e;cases e;exact n _ _ _ rfl
 refine⟨(d.block _ (p h.box)).trans h.box,(d.block _ (p h.bx)).trans h.bx,⟨by rw[d.size];exact h.row.1,λj v e=>(d.cell (a:=⟨i,j,none⟩) λg=>?_).trans (h.row.2 j v e)⟩,h.low.trans (d.below q)⟩;have:=h.row.2 j v e;simp only at g;subst g;simp only[aq,hb]at this
 cases o with
 |cells c t f=>exact n c t f rfl
 |_=>simp at this
def Sy:Ir je:=by
 have h:∀j,j<75->-10000<=je.getD j 0/\je.getD j 0<=10000:=by decide
 have k:∀j,¬j<75->je.getD j 0=0:=λj a=>by
  rw[bt,List.getElem?_eq_none (by show je.length<=j;have:je.length=75:=rfl;omega)];rfl
 exact⟨rfl,λj=>by by_cases a:j<75;exact(h j a).1;rw[k j a];decide,λj=>by by_cases a:j<75;exact(h j a).2;rw[k j a];decide⟩
def Sz(C:CD)(k p:Nat)(m:Int)(w:World)(a:Row w k (je.map bh))(b:C.n5=2)(c:p<5) :
 Calls PL 52 #[.agg C.val,.pointer (some ⟨k,0,none⟩),.int .i64 p,.int .i64 m] w (aO (.int .i64 (yZ m p)) w):=by
 have h:=Fa C k p m je Sy w a (by omega) c;have e:kU je p m C.n5 0 false=yZ m p:=by rw[b];rfl
 rw[e]at h;exact h
def XO(m:Int):List Int:=if m=5 then[2,3,0] else[]
def A6(m:Int):Int:=if m=5 then 110 else 0
def SC(m:Int):Bool:=decide (m=5)
def zb(m:Int):Nat:=if m=5 then 2 else 1
def Ln(m:Int)(i:Nat):SW:=if i=0 then[(2,[2],0)] else if m=5 then(if i=1 then[(2,[2],0),(3,[2,3],30)] else[(2,[2],0),(3,[2,3],30),(0,[2,3,0],110)]) else[(2,[2],0)]
def tP(_:Int)(i:Nat):List Int:=if i=0 then[] else if i=1 then[2] else[2,3]
def stA(m:Int)(i:Nat):Int:=if i=0 then 2 else if m=5 then(if i=1 then 3 else 0) else -1
def V8{m:Int}(b:m=5\/m=3){i:Nat}(hi:i<=zb m):(∀j x,(Ln m i)[j]?=some x->x.1∉tP m i->x.1=stA m i/\j=i)/\(stA m i = -1\/∃x,(Ln m i)[i]?=some x/\x.1∉tP m i):=by
 rcases b with rfl|rfl
 ·obtain rfl|rfl|rfl:i=0\/i=1\/i=2:=by have:zb 5=2:=rfl;omega
  ·exact⟨λj x h _=>by match j,h with
    |0,h=>cases h;exact⟨rfl,rfl⟩,.inr ⟨_,rfl,by decide⟩⟩
  ·exact⟨λj x h a=>by match j,h with
    |0,h=>cases h;exact absurd (by decide) a
    |1,h=>cases h;exact⟨rfl,rfl⟩,.inr ⟨_,rfl,by decide⟩⟩
  ·exact⟨λj x h a=>by match j,h with
    |0,h=>cases h;exact absurd (by decide) a
    |1,h=>cases h;exact absurd (by decide) a
    |2,h=>cases h;exact⟨rfl,rfl⟩,.inr ⟨_,rfl,by decide⟩⟩
 ·obtain rfl|rfl:i=0\/i=1:=by have:zb 3=1:=rfl;omega
  ·exact⟨λj x h _=>by match j,h with
    |0,h=>cases h;exact⟨rfl,rfl⟩,.inr ⟨_,rfl,by decide⟩⟩
  ·exact⟨λj x h a=>by match j,h with
    |0,h=>cases h;exact absurd (by decide) a,.inl rfl⟩
def uO{R:List WE}{S:SW}(h:R.map strip=S){j:Nat}{x:WE}(a:R[j]?=some x):S[j]?=some (strip x):=by rw[<-h,bv,a];rfl
def SD{m:Int}(j:m=5\/m=3){i:Nat}(hi:i<=zb m)(a:stA m i<=0){W:World}{b:Nat}{R:List WE}(f:R.map strip=Ln m i)(h:jy W b R) :
 ∃p n c,(a9 109 (.map (some b)) (.int .i64 0) true).run PL W=.ok (.tuple #[.agg #[.slice p n c,.int .i64 (A6 m)],.bool (SC m)]) W/\bB W (.slice p n c) (XO m):=by
 rcases j with rfl|rfl
 ·obtain rfl:i=2:=by
   have k:zb 5=2:=rfl
   match i,a with
   |0,a=>exact absurd a (by decide)
   |1,a=>exact absurd a (by decide)
   |2,_=>rfl
   |i+3,_=>omega
  have hf:=nE f 0
  cases e:R.find? (λx=>x.1==0) with
  |none=>rw[e]at hf;cases hf
  |some x=>
   rw[e]at hf;have d:some ((0:Int),[(2:Int),3,0],(110:Int))=some (strip x):=hf;obtain⟨x1,x2,x3,x4⟩:=x;simp only[strip,b2,Prod.mk.injEq]at d;obtain⟨rfl,rfl,rfl⟩:=d;have g:=h.reads _ (bw e);have hl:=Sw h.map e;simp only[nD]at hl;have l:bB W x2 [2,3,0]:=g;obtain⟨p,c,rfl,_⟩:=l;exact⟨p,_,c,hl,g⟩
 ·obtain rfl:i=1:=by
   have k:zb 3=1:=rfl
   match i,a with
   |0,a=>exact absurd a (by decide)
   |1,_=>rfl
   |i+2,_=>omega
  have hf:=nE f 0;have e:R.find? (λx=>x.1==0)=none:=by
   cases e:R.find? (λx=>x.1==0) with
   |none=>rfl
   |some x=>rw[e]at hf;cases hf
  exact⟨none,0,0,Sx h.map e,⟨none,0,rfl,λh=>absurd h (by decide)⟩⟩
def V9{m:Int}{i:Nat}(b:(∀j x,(Ln m i)[j]?=some x->x.1∉tP m i->x.1=stA m i/\j=i)/\(stA m i = -1\/∃x,(Ln m i)[i]?=some x/\x.1∉tP m i)){R:List WE}(c:R.map strip=Ln m i){seen:Array Nat}{f:Bool}{u:Value}
 (hv:u=.int .i64 (if f then stA m i else -1)) (hf:f=true↔∃j x,R[j]?=some x/\seen.contains j=true/\x.1∉tP m i) (al:∀j,j<R.length->seen.contains j=true):u=.int .i64 (stA m i):=by
 rw[hv]
 rcases b.2 with h|⟨x,a,d⟩
 ·cases f<;>simp[h]
 ·have:f=true:=by
   rw[<-c,bv]at a
   cases e:R[i]? with
   |none=>rw[e]at a;cases a
   |some y=>
    rw[e]at a;cases a;exact hf.2 ⟨i,y,e,al i (List.getElem?_eq_some_iff.1 e).1,d⟩
  rw[this];rfl
def ab2{m:Int}{i:Nat}(a:(∀j x,(Ln m i)[j]?=some x->x.1∉tP m i->x.1=stA m i/\j=i)/\(stA m i = -1\/∃x,(Ln m i)[i]?=some x/\x.1∉tP m i))(d:0<stA m i):stA m i∉tP m i:=by
 rcases a.2 with h|⟨x,c,b⟩
 ·omega
 ·rw[<-(a.1 i x c b).1];exact b
def jy.turned{W a:World}{b c:Nat}{R:List WE}(h:jy W b R)(d:gv W a c)(hc:∃o,W.heap[c]?=some o/\∀x t f,o≠.cells x t f)(g:b≠c):jy a b R:=by
 obtain⟨o,i,j⟩:=hc;exact⟨(d.block _ g).trans h.map,λx e=>jN (h.reads x e) (h.ne x e) d i j,h.ne⟩
def Lo{m:Int}(b:m=5\/m=3){i:Nat}(hi:i<=zb m)(a:0<stA m i):i+1<=zb m/\tP m i++[stA m i]=tP m (i+1)/\N0 (uN m 3) (tP m (i+1)) (stA m i) (Ln m i) 4=Ln m (i+1)/\okQ (uN m 3) (tP m (i+1)) (stA m i) (Ln m i)=true/\stA m i<=3:=by
 rcases b with rfl|rfl
 ·obtain rfl|rfl|rfl:i=0\/i=1\/i=2:=by have:zb 5=2:=rfl;omega
  ·exact⟨by decide,by decide,by decide +kernel,by decide +kernel,by decide⟩
  ·exact⟨by decide,by decide,by decide +kernel,by decide +kernel,by decide⟩
  ·exact absurd a (by decide)
 ·obtain rfl|rfl:i=0\/i=1:=by have:zb 3=1:=rfl;omega
  ·exact⟨by decide,by decide,by decide +kernel,by decide +kernel,by decide⟩
  ·exact absurd a (by decide)
def ab3{c d:List Int}{a:Int}{S:SW}(h:okQ c d a S=true){q:Nat}(f:q<4):∃x,(N0 c d a S q).find? (λx=>x.1==a)=some x/\x.2.1.length<=10/\0<=x.2.2/\x.2.2<=1000/\(V6 c a q=false->XN a q∉d->(N0 c d a S q).find? (λx=>x.1==XN a q)=none):=by
 simp only[okQ,List.all_eq_true,bs]at h;have h:=h q f
 cases e:(N0 c d a S q).find? (λx=>x.1==a) with
 |none=>rw[e]at h;cases h
 |some x=>
  rw[e]at h;simp only[b5,b8,decide_eq_true_eq,Option.isNone_iff_eq_none]at h;obtain⟨⟨⟨g,i⟩,j⟩,b⟩:=h;refine⟨x,rfl,g,i,j,λk1 k2=>?_⟩
  rcases b with(b|b)|b
  ·rw[k1]at b;cases b
  ·exact absurd b k2
  ·exact b
def Ft(W:World)(r:Nat):Nat:=match W.heap[r]? with
 |some (.mapIter _ n seen _)=>Fs n seen
 |_=>0
def Fu{W:World}{r b n:Nat}{seen:Array Nat}(h:tE W r b n seen):Ft W r=Fs n seen:=by
 have a:W.heap[r]?=some (.mapIter (some b) n seen n):=h;simp only[Ft,a]
def tE.on{W a:World}{r b n:Nat}{seen:Array Nat}(h:tE W r b n seen)(c:Below W.heap.size W a):tE a r b n seen:=(c.block _ (aa h)).trans h
def ab4(W:World)(b:Nat):Nat:=match W.heap[b]? with
 |some (.map es _)=>es.size
 |_=>0
def Fv{W:World}{b:Nat}{l:List Int}(h:aU W zn b l):ab4 W b=l.length:=by
 obtain⟨es,c,a,d,_⟩:=h;have:=congrArg List.length d;simp only[ab4,a];simpa using this
structure Wb(n0:Nat)(xp:List Int)(tq n:Int)(b:Bool)(j:Nat)(vs:Nat->Value)(W:World):Prop where
 c4:j=4->b=false->eO 3 W n0 (vs 4) xp
 c6:j=6->b=false->∃k,vs 6=.slice (some ⟨k,0,none⟩) 1 1/\W.heap[k]?=some (.cells #[.int .i64 tq] 3)
 c7:j=7->eO 3 W n0 (vs 7) (xp++[tq])
 c15:j=15->vs 15=.agg #[vs 7,.int .i64 n]
 c16:j=16->∃k,vs 16=.pointer (some ⟨k,0,none⟩)/\n0<=k/\W.heap[k]?=some (.cells #[.slice none 0 0,.int .i64 0] 108)
def zc(a b:Value)(W:World):(bc 108 (.agg #[a,b]) 0).run PL W=.ok a W:=by kernel_rfl
def ze(a b:Value)(W:World):(bc 108 (.agg #[a,b]) 1).run PL W=.ok b W:=by kernel_rfl
def A8{W:World}{base e size n B o:Nat}{v u:Value}{xs:List Value}(h:W.ownsRow base e size v n xs)(c:∀j,v.ownBlock=some j->j≠B):(W.setCell ⟨B,o,none⟩ u).ownsRow base e size v n xs:=by
 obtain⟨b,h⟩:=h
 rcases h with h|⟨g,cap,a,rfl,hb,hg,d⟩
 ·exact⟨b,.inl h⟩
 ·refine⟨b,.inr ⟨g,cap,a,rfl,hb,?_,d⟩⟩;have f:g≠B:=c g rfl;simp only[ar,b1,if_neg (Ne.symm f)];exact hg
def Wc{W:World}{r:Nat}{x0 x1 u0 u1:Value}{t:a7}(h:W.heap[r]?=some (.cells #[x0,x1] t)):((W.setCell ⟨r,0,none⟩ u0).setCell ⟨r,1,none⟩ u1).heap[r]?=some (.cells #[u0,u1] t):=by
 simp only[ar,b1,if_pos,h,Option.map_some];rfl
def SE{W:World}{b:Nat}{R:List WE}(h:jy W b R)(k:Int):∃p n c l ok,(a9 109 (.map (some b)) (.int .i64 k) true).run PL W=.ok (.tuple #[.agg #[.slice p n c,.int .i64 l],.bool ok]) W/\(R.find? (λz=>z.1==k)=none->ok=false):=by
 cases e:R.find? (λz=>z.1==k) with
 |none=>exact⟨none,0,0,0,false,Sx h.map e,λ_=>rfl⟩
 |some x=>
  obtain⟨p,c,a,_⟩:=h.reads _ (bw e);have:=Sw h.map e;simp only[nD,a]at this;exact⟨p,_,c,_,true,this,λh=>by cases h⟩
def ExW(t:Nat):Bool:=t != 4&&t != 6&&t != 7&&t != 15&&t != 16
def Wb.le{n0:Nat}{d:List Int}{g n:Int}{b:Bool}{j:Nat}{vs:Nat->Value}{W i:World}(h:Wb n0 d g n b j vs W)(c:Below W.heap.size W i):Wb n0 d g n b j vs i:=
 ⟨λe f=>(h.c4 e f).on c,λe f=>(h.c6 e f).imp λ_ a=>⟨a.1,(c.block _ (aa a.2)).trans a.2⟩,λe=>(h.c7 e).on c,h.c15,λe=>(h.c16 e).imp λ_ a=>⟨a.1,a.2.1,(c.block _ (aa a.2.2)).trans a.2.2⟩⟩
def Ba{k2 c2 k3 c3 k4 c4 k5 c5 la ca lb cb:Nat}(C:CD)(m:Int)(hm:m=5\/m=3)(c:C=ir k2 c2 k3 c3 k4 c4 k5 c5 la ca lb cb 0)(w:World)(h:C.At w) :
 Calls PL 22 #[.agg C.val,.int .i64 2,.int .i64 m] w λe w'=>∃v,e=.returned (.tuple #[v,.int .i64 (A6 m),.bool (SC m),.int .i64 0])/\bB w' v (XO m)/\Below w.heap.size w w':=by
 have HA:=ac h;have HC:=ac c;have HM:=ac hm;have hf:C.b6 true=0:=by rw[c];kernel_rfl
 have HF:=ac hf;have hb:bO 2 0 (C.p-1)=true:=by rw[c];rfl
 have HB:=ac hb
 have eP:bO m 0 999=true:=by rcases hm with rfl|rfl<;>decide
 have Kf:=ac eP;have HT:Hid (∀W,C.At W->Calls PL 51 #[.agg C.val] W λe w'=>∃k,e=.returned (.pointer (some ⟨k,0,none⟩))/\Row w' k (je.map bh)/\Below W.heap.size W w'):=ac λW hW=>tA (.inl rfl) ⟨k2,c2,k3,c3,k4,c4,k5,c5,la,ca,lb,cb,c⟩ hW;have HP:Hid (-1000<=C.p/\C.p<=1000):=ac (by rw[c];exact⟨by show(-1000:Int)<=4;decide,by show(4:Int)<=1000;decide⟩);have K0:Hid (KB C w (w.alloc (.cells C.val 27))):=ac ⟨au _ _,(ad _ _).alloc (ae _) _⟩;clear h c hf hb eP hm
 go_enter (fx (by decide) Tryz.func22),Tryz.ntmps22
 go_upto_region 1 with fail
 have HW:Hid (IntKind.i64.wrap (C.p-1)=C.p-1):=ac (by obtain⟨J0,tL⟩:=HP.out;rw[HC.out];rfl);apply wp_scope_straight;apply wp_seq_k;intro _ _;refine cT 12 (KB C w) (Fo C) (λj=>j != 10&&j != 11) (ao9 C w) rfl (by kernel_rfl) (by kernel_rfl)
  (λi vs W W' hle h=>⟨λe=>(h.1 e).imp λk l=>⟨l.1,l.2.1,(hle k).2 l.2.2⟩,λe=>(h.2 e).imp λk l=>⟨l.1,l.2.1,(hle k).1 l.2.2⟩⟩) (λi o ho vs eX W he hd h=>⟨λe=>?_,λe=>?_⟩) ?_ ?_
 ·subst e;rw[<-he];exact h.1 rfl
 ·subst e;have e8:vs 10=eX 10:=by
   simp only[bA,bC,bL,b2]at ho;subst ho;exact hd ⟨10,.data⟩ (cH.2 ⟨by simp,rfl⟩)
  rw[<-e8];exact h.2 rfl
 ·exact⟨K0.out.box,K0.out.low.drew⟩
 ·iterate 10 (
   apply aY
   case hE=>rfl
   case h=>
    intro vs W c hd;obtain⟨f0,f1,f2,f3,f4,f5⟩:=bf c.box;have hwr:=HW.out
    go_simp
    first
    |(go_at_call 41;refine(rM HB.out _).mono ?_;rintro e W'⟨rfl,rfl⟩;exact⟨_,rfl,rfl,c,Fo.on (ad _ _)⟩)
    |(go_at_call 35;refine(kF HF.out (HA.out.below c.low)).mono ?_;rintro e W'⟨rfl,I⟩;exact⟨_,rfl,rfl,c.on I,Fo.on I⟩)
    |exact⟨rfl,Fo.on (ad _ _)⟩
   case hb=>exact hbT)
  apply eH
  case hE=>rfl
  case hb=>exact hbT
  case h=>
   intro vs W c hd
   go_simp
   have I:=(ad W.heap.size W).alloc (ae _) (.cells #[.int .i64 0,.int .i64 0,.slice none 0 0,.slice none 0 0,.slice none 0 0,.slice none 0 0] 78);exact⟨c.on I,Fo.on I,⟨λ_=>⟨W.heap.size,by simp[upd],c.lt,_,_,_,_,_,_,au W _⟩,λe=>absurd e (by decide)⟩⟩
  apply eH
  case hE=>rfl
  case hb=>exact hbT
  case h=>
   intro vs W c hd;obtain⟨k,l,Ll,x0,x1,x2,x3,x4,x5,J⟩:=(hd ⟨10,.data⟩ (cH.2 ⟨by simp,rfl⟩) rfl).1 rfl;obtain⟨f0,f1,f2,f3,f4,f5⟩:=bf J;have fz:=tO J;rw[l]
   go_simp
   refine⟨⟨(cM (by omega)).trans c.box,Below.zQ c.low (by omega) _ _ _ _ _ _⟩,λq=>?_,⟨λe=>absurd e (by decide),λ_=>⟨k,by simp[upd,l],Ll,nC J⟩⟩⟩;by_cases hq:q=k
   ·subst hq;exact⟨λ_=>nC J,λ_=>⟨_,_,_,_,_,_,nC J⟩⟩
   ·exact⟨λe=>(cM hq).trans e,fun⟨_,_,_,_,_,_,e⟩=>⟨_,_,_,_,_,_,(cM hq).trans e⟩⟩
  refine cP λvs W c hd=>?_;obtain⟨kx,l,Ll,J⟩:=(hd 11 (by omega) rfl).2 rfl;rw[l];obtain⟨f0,f1,f2,f3,f4,f5⟩:=bf J;have HX:=ac J;have HC1:=ac c;have HKL:=ac Ll;clear J c hd l Ll;have hmm:=@run_makeMap PL
  go_upto_region 8 with(first
   |(go_at_call 50;refine(yO Kf.out _).mono ?_;rintro e w'⟨rfl,rfl⟩)
   |(go_at_call 51;go_must (refine(HT.out _ (HA.out.below HC1.out.low)).mono ?_);rintro e w1⟨P,rfl,hR,aL⟩;have K1:Hid (KQ C w kx P w1):=ac ⟨(HC1.out.on aL).box,(aL.block _ (aa HX.out)).trans HX.out,hR,(HC1.out.on aL).low⟩;clear hR aL))
  obtain⟨N,hbM⟩:∃b,b=w1.heap.size:=⟨_,rfl⟩
  obtain⟨W0,kS⟩:∃W0:World,W0=w1.alloc (.map #[] 0):=⟨_,rfl⟩
  have K2:Hid (KQ C w kx P W0):=ac (by rw[kS];exact K1.out.on ((ad _ _).alloc (ae _) _));have S2:Hid (aU W0 zn N ([]:List Int)):=ac (by rw[kS,hbM];exact aU.made w1);have ZM:Hid (w.heap.size<=N):=ac (by rw[hbM];exact K1.out.low.size);rw[<-kS,<-hbM];clear kS hbM f0 f1 f2 f3 f4 f5;obtain⟨f0,f1,f2,f3,f4,f5⟩:=bf K2.out.box;have IB:Hid (C.b3=some ⟨C.k3,C.o3,none⟩):=ac (HA.out.s3 (by rw[HC.out];show 0<4;decide));have H3:Hid (C.n3=4):=ac (by rw[HC.out];rfl);have HX3:Hid (C.x3=zU):=ac (by rw[HC.out];rfl);have H4:Hid (C.n4=3):=ac (by rw[HC.out];rfl);have H5:Hid (C.n5=2):=ac (by rw[HC.out];rfl);have hb4:C.b4=some ⟨C.k4,C.o4,none⟩:=HA.out.s4 (by rw[H4.out];decide);have LN:Hid (∀p,p<2->(C.x4 p).ln=1/\(C.x4 p).lane 0=(p:Int)+1):=ac λp hp=>by
   rw[HC.out]
   match p,hp with
   |0,_=>exact⟨rfl,rfl⟩
   |1,_=>exact⟨rfl,rfl⟩
  have SH:Hid (yZ m 2=2):=ac (by rcases HM.out with rfl|rfl<;>rfl)
  go_wp2
  go_loopw [51] (λv51 wr=>∃p:Nat,p<=3/\v51=.int .i64 p/\aU wr zn N (uN m p)/\KQ C w kx P wr) (λv51 _=>3-(intOf v51).toNat)
  case atStart=>exact⟨0,by omega,rfl,S2.out,K2.out⟩
  case round=>
   obtain⟨p,hp,rfl,g,O⟩:=hrel;clear hb4;have HS:=ac g;have HK:=ac O;clear g O f0 f1 f2 f3 f4 f5 K2 S2;by_cases Q:p<3
   ·have i1:(p:Int)<C.n4:=by rw[H4.out];omega
    have hA:=HA.out.below HK.out.low;have s:p<C.n4:=by rw[H4.out];exact Q
    have p0:=hA.AD p s;have p1:=hA.dB p s 1 (by omega) (by omega);have p2:=hA.dB p s 2 (by omega) (by omega);have p3:=hA.dB p s 3 (by omega) (by omega);have p4:=hA.dB p s 4 (by omega) (by omega);have p5:=hA.dB p s 5 (by omega) (by omega);have p6:=hA.dB p s 6 (by omega) (by omega);have p7:=hA.dB p s 7 (by omega) (by omega);have p8:=hA.dB p s 8 (by omega) (by omega);have p9:=hA.dB p s 9 (by omega) (by omega);have Cz:=hA.dB p s 10 (by omega) (by omega);have Fy:=hA.nj p s;clear hA s;obtain⟨xb,hxb⟩:∃x,x=(C.x4 p).lb:=⟨_,rfl⟩
    obtain⟨xn,hxn⟩:∃x,x=(C.x4 p).ln:=⟨_,rfl⟩
    obtain⟨xc,hxc⟩:∃x,x=(C.x4 p).lc:=⟨_,rfl⟩
    rw[<-hxb,<-hxn,<-hxc]at Fy;have HXB:=ac hxb;have HXN:=ac hxn;clear hxb hxn hxc
    go_upto_region 11 with fail
    obtain⟨W1,mG⟩:∃W1:World,W1=wr.alloc (.cells #[.string (C.x4 p).name,.int .i64 ((C.x4 p).n 1),.int .i64 ((C.x4 p).n 2),.int .i64 ((C.x4 p).n 3),.int .i64 ((C.x4 p).n 4),.int .i64 ((C.x4 p).n 5),.int .i64 ((C.x4 p).n 6),.int .i64 ((C.x4 p).n 7),.int .i64 ((C.x4 p).n 8),.int .i64 ((C.x4 p).n 9),.int .i64 ((C.x4 p).n 10),.slice xb xn xc] 85):=⟨_,rfl⟩
    rw[<-mG];have iC:Below wr.heap.size wr W1:=by rw[mG];exact(ad _ _).alloc (ae _) _
    have hpk:W1.cell? ⟨wr.heap.size,11,none⟩=some (.slice xb xn xc):=by
     have h:=au wr (.cells #[.string (C.x4 p).name,.int .i64 ((C.x4 p).n 1),.int .i64 ((C.x4 p).n 2),.int .i64 ((C.x4 p).n 3),.int .i64 ((C.x4 p).n 4),.int .i64 ((C.x4 p).n 5),.int .i64 ((C.x4 p).n 6),.int .i64 ((C.x4 p).n 7),.int .i64 ((C.x4 p).n 8),.int .i64 ((C.x4 p).n 9),.int .i64 ((C.x4 p).n 10),.slice xb xn xc] 85);rw[mG];simp only[aq,h];rfl
    have Wf:wr.heap.size<W1.heap.size:=by rw[mG];simp
    have HPK:=ac (And.intro hpk Wf);have K3:=ac (HK.out.on iC);have S3:=ac (aG iC HS.out);clear mG iC hpk Wf p0 p1 p2 p3 p4 p5 p6 p7 p8 p9 Cz Fy;obtain⟨f0,f1,f2,f3,f4,f5⟩:=bf K3.out.bx;by_cases hs:yZ m p=2
    ·go_wp2_with (go_at_call 52;go_must (refine(Sz C P p m _ K3.out.row H5.out (by omega)).mono ?_);rintro e w3⟨rfl,qi⟩;have K4:=ac (K3.out.on qi);have S4:=ac (aG qi S3.out);clear qi)
     exact⟨⟨p+1,Q,by go_num,by rw[IL hs];exact S4.out,K4.out⟩,by simp only[intOf];omega⟩
    ·have d:p<2:=by
      rcases ai p 2 with h|h
      ·exact h
      ·exact absurd (by rw[show p=2 by omega];exact SH.out) hs
     have zi:xn=1:=by rw[HXN.out];exact(LN.out p d).1
     subst zi
     go_upto_region 12 with(go_at_call 52;go_must (refine(Sz C P p m _ K3.out.row H5.out (by omega)).mono ?_);rintro e w3⟨rfl,qi⟩;have K4:=ac (K3.out.on qi);have S4:=ac (aG qi S3.out);have am6:=ac ((qi.cell (p:=⟨wr.heap.size,11,none⟩) HPK.out.2).trans HPK.out.1);clear qi)
     have hA:=HA.out.below K4.out.low;have s:p<C.n4:=by rw[H4.out];exact Q
     obtain⟨el,ell⟩:=hA.l4 p s (by rw[<-HXN.out];decide);have ec:=hA.J5 p s 0 (by rw[<-HXN.out];decide);rw[(LN.out p d).2,Nat.add_zero]at ec;obtain⟨lk,FH⟩:∃x,x=(C.x4 p).lk:=⟨_,rfl⟩
     obtain⟨lo,Cu⟩:∃x,x=(C.x4 p).lo:=⟨_,rfl⟩
     rw[<-FH,<-Cu]at ec;rw[<-FH]at ell;rw[<-HXB.out,<-FH,<-Cu]at el;subst el;have EC:=ac ec;have ELL:=ac ell;have atU:=am6.out;clear hA s ec ell FH Cu
     go_wp2
     go_loopw [65] (λv65 K=>∃q:Nat,q<=1/\v65=.int .i64 q/\aU K zn N (if q=0 then uN m p else uN m p++[(p:Int)+1])/\KQ C w kx P K/\(q=0->K.cell? ⟨lk,lo,none⟩=some (.int .i64 ((p:Int)+1)))) (λv65 _=>1-(intOf v65).toNat)
     case atStart=>exact⟨0,by omega,rfl,S4.out,K4.out,λ_=>EC.out⟩
     case round=>
      obtain⟨q,hq,rfl,g,O,hc⟩:=hrel;have S5:=ac g;have K5:=ac O;clear g O
      match q,hq with
      |1,_=>
       clear hc
       go_wp2
       exact⟨⟨p+1,Q,by go_num,by rw[IM hs];exact S5.out,K5.out⟩,by simp only[intOf];omega⟩
      |0,_=>
       have ec:=hc rfl;clear hc
       go_wp2_with (at_mapUpdate;go_must (refine dH (enc:=zn) _ rfl _ _ _ 106 3 4 rfl qz ju N (uN m p) rfl S5.out ((p:Int)+1) rfl rfl V7 ?_);intro w5 g y;have S6:=ac g;have K6:=ac (by obtain⟨es,cl,hh,_⟩:=S5.out;exact K5.out.turned y hh (λ_ _ _ e=>by cases e) ZM.out:KQ C w kx P w5);clear g y;go_frame)
       exact⟨⟨1,by omega,rfl,S6.out,K6.out,λh=>absurd h (by decide)⟩,by simp[intOf]⟩
   ·have hp3:p=3:=by omega
    subst hp3;have i1:¬((3:Int)<C.n4):=by rw[H4.out];decide
    clear Q;have ag8:=aU.lt HS.out;have HSZ:=ac ag8;have hBa:=((ad wr.heap.size wr).alloc (ae _) (.map #[] 0)).alloc (by simp) (.cells #[.int .i64 2] 3);have M0:Hid (jy ((wr.alloc (.map #[] 0)).alloc (.cells #[.int .i64 2] 3)) wr.heap.size []):=ac ((jy.made wr).on ((ad _ _).alloc (ae _) _))
    have R0:Hid (bB ((wr.alloc (.map #[] 0)).alloc (.cells #[.int .i64 2] 3)) (.slice (some ⟨wr.heap.size+1,0,none⟩) 1 1) [2]):=ac ⟨_,_,rfl,λ_=>⟨_,_,rfl,by simp,λj H=>by
     obtain rfl:j=0:=by simp at H;omega
     have h:=au (wr.alloc (.map #[] 0)) (.cells #[.int .i64 2] 3);rw[ap]at h;show aq _ ⟨wr.heap.size+1,0+0,none⟩=some (.int .i64 2);simp only[aq,h]
     rfl⟩⟩
    have KA:=ac (HK.out.on hBa);have SA:=ac (aG hBa HS.out);clear hBa ag8
    go_upto_region 20 with(refine tF _ rfl _ _ _ (.inr rfl) wr.heap.size [] (2,.slice (some ⟨wr.heap.size+1,0,none⟩) 1 1,[2],0) rfl rfl rfl M0.out rfl R0.out (by simp) ?_;intro w5 hM y;have MB:=ac hM;have KB5:=ac (KA.out.turned y M0.out.map (λ_ _ _ e=>by cases e) HK.out.low.size);have SB:=ac (cc SA.out (y.block _ (by have:=HSZ.out;omega)));clear hM y)
    obtain⟨S,hbR⟩:∃b,b=wr.heap.size:=⟨_,rfl⟩
    obtain⟨T,hbL⟩:∃b,b=w5.heap.size:=⟨_,rfl⟩
    have ZR:Hid (N<S/\S<T):=ac (by have:=HSZ.out;have:=aa MB.out.map;rw[hbR,hbL];omega);obtain⟨W3,hW3⟩:∃W3:World,W3=w5.alloc (.map #[] 0):=⟨_,rfl⟩
    have hBb:Below w5.heap.size w5 W3:=by rw[hW3];exact(ad _ _).alloc (ae _) _
    have K6:=ac (KB5.out.on hBb);have S6:=ac (aG hBb SB.out);have M6:Hid (jy W3 S ([]++[(2,.slice (some ⟨S+1,0,none⟩) 1 1,[2],0)])):=ac (by rw[hbR];exact MB.out.on hBb);have L6:Hid (aU W3 zn T ([]:List Int)):=ac (by rw[hbL,hW3];exact aU.made w5);rw[<-hbR,<-hbL,<-hW3];clear hbR hbL hW3 hBb MB SB KB5 M0 R0 KA SA HK HS HSZ;have FJ:=IB.out;simp only[FJ];refine wp_label ?_
    go_wp2
    go_loopw [19] (λ_ wr=>∃(i:Nat)(R:List WE),i<=zb m/\R.map strip=Ln m i/\jy wr S R/\aU wr zn T (tP m i)/\aU wr zn N (uN m 3)/\KQ C w kx P wr) (λ_ wr=>4-ab4 wr T)
    case atStart=>exact⟨0,_,ag _,rfl,M6.out,L6.out,S6.out,K6.out⟩
    case round=>
     obtain⟨i,R,hi,hR,XP,hL,g,O⟩:=hrel;have Xn:=ac hR;have MM:=ac XP;have LL:=ac hL;have SS:=ac g;have KK:=ac O;have CO:=ac (V8 HM.out hi);have HI:=ac hi;clear hR XP hL g O hi K6 S6 M6 L6;have hrg:=V4 MM.out
     go_upto_region 22 with fail
     obtain⟨r,hr⟩:∃r,r=wr.heap.size:=⟨_,rfl⟩
     obtain⟨W4,Sn⟩:∃W4:World,W4=wr.alloc (.mapIter (some S) R.length #[] R.length):=⟨_,rfl⟩
     have Ts:Below wr.heap.size wr W4:=by rw[Sn];exact(ad _ _).alloc (ae _) _
     have I4:Hid (tE W4 r S R.length #[]):=ac (by rw[Sn,hr];exact au _ _);have M4:=ac (MM.out.on Ts);have L4:=ac (aG Ts LL.out);have S4:=ac (aG Ts SS.out);have K4:=ac (KK.out.on Ts);have ZI:Hid (S<r/\T<r/\N<r/\w.heap.size<=r):=ac (by have h1:=aa MM.out.map;have d:=aU.lt LL.out;have h3:=aU.lt SS.out;have s:=KK.out.low.size;rw[hr];exact⟨h1,d,h3,s⟩);rw[<-Sn,<-hr];clear Sn hr Ts hrg MM SS KK
     go_loopw [19] (λv19 K=>∃(seen:Array Nat)(f:Bool),tE K r S R.length seen/\jy K S R/\aU K zn T (tP m i)/\aU K zn N (uN m 3)/\KQ C w kx P K/\v19=.int .i64 (if f then stA m i else -1)/\(f=true↔∃j x,R[j]?=some x/\seen.contains j=true/\x.1∉tP m i)) (λ_ K=>Ft K r)
     case atStart=>exact⟨#[],false,I4.out,M4.out,L4.out,S4.out,K4.out,rfl,⟨λh=>(by cases h),fun⟨_,_,_,h,_⟩=>by simp at h⟩⟩
     case round=>
      obtain⟨seen,f,hI,XP,hL,g,O,hv,hf⟩:=hrel;have I5:=ac hI;have M5:=ac XP;have L5:=ac hL;have S5:=ac g;have K5:=ac O;have F5:=ac hf;have V5:=ac hv;clear hI XP hL g O hf hv I4 M4 L4 S4 K4
      go_upto_region 23 with(first|(at_mapUpdate;go_must (refine dH (enc:=zn) _ rfl _ _ _ 106 3 4 rfl qz ju T (tP m i) rfl L5.out (stA m i) rfl rfl (ab2 CO.out ha) ?_);intro w6 g y;go_must (have LP:=ac g;have MP:=ac (M5.out.turned y (by obtain⟨es,cl,hh,_⟩:=L5.out;exact⟨_,hh,λ_ _ _ e=>by cases e⟩) (by have:=ZR.out;omega));have SP:=ac (cc S5.out (y.block _ (by have:=ZR.out;omega)));have KP:Hid (KQ C w kx P w6):=ac (by obtain⟨es,cl,hh,_⟩:=L5.out;exact K5.out.turned y hh (λ_ _ _ e=>by cases e) (by have:=ZM.out;have:=ZR.out;omega)));clear g y;obtain⟨f0,f1,f2,f3,f4,f5⟩:=bf KP.out.box)|(at_next;go_must (refine zX _ rfl _ rfl r S R seen rfl I5.out M5.out ?_ ?_);rotate_left;intro j x w' H hs hI y OL hen;obtain⟨xk,xv,L,xl⟩:=x;have JJ:=ac H;have NS:=ac hs;have I6:=ac hI;have T6:=ac y;have M6:=ac OL;have hk6:=aa hI;obtain⟨yb,yc,hxv,hyy⟩:=OL.reads _ (List.mem_of_getElem? H);clear hyy;simp only at hxv;subst hxv;clear H hs hI y OL;simp only[nD]at hen ⊢;rotate_left;intro oh;go_must (have hu:=V9 CO.out Xn.out V5.out F5.out oh);clear oh;go_must (subst hu);rcases Int.lt_or_le 0 (stA m i) with ha|ha;rotate_left;go_must (obtain⟨fp,fn,fc,FH,hrd⟩:=SD HM.out HI.out ha Xn.out M5.out);have RD:=ac hrd;clear hrd))
      ·obtain⟨W7,hW7⟩:∃W7:World,W7=wr.alloc (.cells #[.slice fp fn fc,.int .i64 (A6 m)] 108):=⟨_,rfl⟩
       have hB7:Below wr.heap.size wr W7:=by rw[hW7];exact(ad _ _).alloc (ae _) _
       have hc7:W7.heap[wr.heap.size]?=some (.cells #[.slice fp fn fc,.int .i64 (A6 m)] 108):=by rw[hW7];exact au _ _
       have c0:W7.cell? ⟨wr.heap.size,0,none⟩=some (.slice fp fn fc):=by simp[aq,hc7]
       have c1:W7.cell? ⟨wr.heap.size,1,none⟩=some (.int .i64 (A6 m)):=by simp[aq,hc7]
       have RD7:=ac (RD.out.on hB7);have LO7:=ac (ab K5.out.low hB7);rw[<-hW7];clear hW7 hB7 hc7 FH
       go_quiet (fail)
       go_wp2
       rw[Exit.noGoto_ret];refine aF (v:=.tuple #[.slice fp fn fc,.int .i64 (A6 m),.bool (SC m),.int .i64 0]) ?_ rfl ⟨_,rfl,RD7.out.on (below_drewN (ad _ _) _),below_drewN LO7.out _⟩;simp[aI,Tryz.results22,go_sem]
      ·go_upto_region 24 with fail
       have L6:aU w' zn T (tP m i):=cc L5.out (T6.out.block _ (by have:=ZI.out;omega));have S6:aU w' zn N (uN m 3):=cc S5.out (T6.out.block _ (by have:=ZI.out;omega));have K6:KQ C w kx P w':=K5.out.turned T6.out I5.out (λ_ _ _ e=>by cases e) ZI.out.2.2.2;obtain⟨W8,hW8⟩:∃W8:World,W8=w'.alloc (.cells #[.slice yb L.length yc,.int .i64 xl] 108):=⟨_,rfl⟩
       have U:Below w'.heap.size w' W8:=by rw[hW8];exact(ad _ _).alloc (ae _) _
       have L8:=ac (aG U L6);have S8:=ac (aG U S6);have K8:=ac (K6.on U);have M8:=ac (M6.out.on U);have I8:=ac (I6.out.on U);rw[<-hW8];clear hW8 U L6 S6 K6 hen;have V:=uO Xn.out JJ.out;have XQ:Ft W8 r<Ft wr r:=by
        rw[Fu I8.out,Fu I5.out];exact IK (List.getElem?_eq_some_iff.1 JJ.out).1 NS.out
       have HME:=ac XQ;clear XQ;by_cases J:xk∈tP m i
       ·clear V
        go_wp2_with (at_lookup;go_must (refine aR (enc:=zn) _ rfl _ _ 106 3 4 rfl qz ju (mq _) T (tP m i) rfl L8.out xk rfl true (by simpa using J) ?_))
        refine⟨⟨seen.push j,f,I8.out,M8.out,L8.out,S8.out,K8.out,V5.out,F5.out.trans ⟨fun⟨a,x,h1,d,h3⟩=>⟨a,x,h1,by simp at d⊢;exact .inl d,h3⟩,fun⟨a,x,h1,d,h3⟩=>⟨a,x,h1,?_,h3⟩⟩⟩,HME.out⟩
        rcases Array.mem_push.1 (by simpa using d) with h|h
        ·simpa using h
        ·subst h;rw[JJ.out]at h1;cases h1;exact absurd J h3
       ·have hat:xk=stA m i:=(CO.out.1 j _ V J).1;have LQ:j=i:=(CO.out.1 j _ V J).2;have hf0:f=false:=by
         cases f with
         |false=>rfl
         |true=>
          obtain⟨a,x,h1,d,h3⟩:=F5.out.1 rfl;have e:=(CO.out.1 a _ (uO Xn.out h1) h3).2;rw[e,<-LQ]at d;rw[NS.out]at d;cases d
        have hu:u19=.int .i64 (-1):=by rw[V5.out,hf0];rfl
        subst hu;clear V hf0 hat;have HX:=ac J
        go_wp2_with (at_lookup;go_must (refine aR (enc:=zn) _ rfl _ _ 106 3 4 rfl qz ju (mq _) T (tP m i) rfl L8.out xk rfl false (by simpa using J) ?_))
        have hat:xk=stA m i:=(CO.out.1 j _ (uO Xn.out JJ.out) HX.out).1;exact⟨⟨seen.push j,true,I8.out,M8.out,L8.out,S8.out,K8.out,by rw[hat];rfl,⟨λ_=>⟨j,_,JJ.out,by simp,HX.out⟩,λ_=>rfl⟩⟩,HME.out⟩
      ·obtain⟨ni,nl,nq,nk,na⟩:=Lo HM.out HI.out ha;rw[nl]at LP;have NQ:=ac nq;have NK:=ac nk;have NI:=ac ni;clear nl nq nk ni;obtain⟨E,ab6⟩:∃a,a=stA m i:=⟨_,rfl⟩
       rw[<-ab6]at ha na NQ NK ⊢;have HAT:=ac ab6;clear ab6 f0 f1 f2 f3 f4 f5
       go_loopw [110] (λab7 K=>∃(q:Nat)(R':List WE),q<=4/\ab7=.int .i64 q/\R'.map strip=N0 (uN m 3) (tP m (i+1)) E (Ln m i) q/\jy K S R'/\aU K zn T (tP m (i+1))/\aU K zn N (uN m 3)/\KQ C w kx P K) (λab7 _=>4-(intOf ab7).toNat)
       case atStart=>exact⟨0,R,by omega,rfl,Xn.out,MP.out,LP.out,SP.out,KP.out⟩
       case round=>
        obtain⟨q,R',hq,rfl,hR,XP,hL,g,O⟩:=hrel;have X:=ac hR;have M7:=ac XP;have L7:=ac hL;have S7:=ac g;have K7:=ac O;clear hR XP hL g O MP LP SP KP
        rcases ai q 4 with Q|ve
        case inr=>
         obtain rfl:q=4:=by omega
         have j1:¬((4:Int)<C.n3):=by rw[H3.out];decide
         go_wp2
         refine⟨?_,?_⟩
         ·exact⟨i+1,R',NI.out,X.out.trans NQ.out,M7.out,L7.out,S7.out,K7.out⟩
         ·rw[Fv L7.out,Fv LL.out,<-(Lo HM.out HI.out (HAT.out▸ha)).2.1];have h5:(tP m i).length<=2:=by unfold tP;split;exact ag _;split;exact(by decide);exact(by decide)
          simp;omega
        have j1:((q:Int)<C.n3):=by rw[H3.out];omega
        have hq3:q<C.n3:=by rw[H3.out];exact Q
        have hA:=HA.out.below K7.out.low;have g0:=hA.Es q hq3;have g1:=hA.Et q hq3;have g2:=hA.Eu q hq3;rw[HX3.out]at g0 g1 g2;obtain⟨A,hAe⟩:∃x,x=(zU q).1:=⟨_,rfl⟩
        obtain⟨B,hBe⟩:∃x,x=(zU q).2.1:=⟨_,rfl⟩
        obtain⟨G,hGe⟩:∃x,x=(zU q).2.2:=⟨_,rfl⟩
        rw[<-hAe]at g0;rw[<-hBe]at g1;rw[<-hGe]at g2;have bd:0<=A/\A<=3/\0<=B/\B<=3/\0<=G/\G<=80:=by
         rw[hAe,hBe,hGe]
         match q,Q with
         |0,_=>decide
         |1,_=>decide
         |2,_=>decide
         |3,_=>decide
        obtain⟨bA0,bA1,bB0,bB1,bG0,bG1⟩:=bd;have EA:=ac hAe;have EB:=ac hBe;have EG:=ac hGe;clear hAe hBe hGe hA hq3
        go_upto_region 31 with fail
        obtain⟨M,hW9⟩:∃M:World,M=wr.alloc (.cells #[.int .i64 A,.int .i64 B,.int .i64 G] 92):=⟨_,rfl⟩
        have hB9:Below wr.heap.size wr M:=by rw[hW9];exact(ad _ _).alloc (ae _) _
        have P9:Hid (M.heap[wr.heap.size]?=some (.cells #[.int .i64 A,.int .i64 B,.int .i64 G] 92)):=ac (by rw[hW9];exact au _ _);have M9:=ac (M7.out.on hB9);have L9:=ac (aG hB9 L7.out);have S9:=ac (aG hB9 S7.out);have K9:=ac (K7.out.on hB9);rw[<-hW9];clear hW9 hB9 g0 g1 g2 M7 L7 S7 K7;have h0:M.cell? ⟨wr.heap.size,0,none⟩=some (.int .i64 A):=by have h:=P9.out;simp[aq,h]
        have h1:M.cell? ⟨wr.heap.size,1,none⟩=some (.int .i64 B):=by have h:=P9.out;simp[aq,h]
        have d:M.cell? ⟨wr.heap.size,2,none⟩=some (.int .i64 G):=by have h:=P9.out;simp[aq,h]
        have Wf:=aa P9.out;have skip:V6 (uN m 3) E q=true->R'.map strip=N0 (uN m 3) (tP m (i+1)) E (Ln m i) (q+1):=λe=>by rw[X.out,N0,stepW,if_pos e]
        have SK:=ac skip;clear skip;by_cases sB:(q:Int)∈uN m 3
        ·go_wp2_with (at_lookup;go_must (refine aR (enc:=zn) _ rfl _ _ 106 3 4 rfl qz ju (mq _) N (uN m 3) rfl S9.out (q:Int) rfl true (by simpa using sB) ?_))
         exact⟨⟨q+1,R',Q,by go_num,SK.out (by simp[V6,sB]),M9.out,L9.out,S9.out,K9.out⟩,by simp only[intOf];omega⟩
        have HCL:=ac sB;clear sB;by_cases hs:A≠E/\B≠E
        ·obtain⟨s1,s2⟩:=hs;have HS:=ac (And.intro s1 s2);have e1:(A != E)=true:=by simpa using s1
         have e2:(B != E)=true:=by simpa using s2
         clear s1 s2
         go_wp2_with (at_lookup;go_must (refine aR (enc:=zn) _ rfl _ _ 106 3 4 rfl qz ju (mq _) N (uN m 3) rfl S9.out (q:Int) rfl false (by simpa using HCL.out) ?_))
         exact⟨⟨q+1,R',Q,by go_num,SK.out (by have h:=HS.out;rw[EA.out,EB.out]at h;simp[V6,h]),M9.out,L9.out,S9.out,K9.out⟩,by simp only[intOf];omega⟩
        have NS:=ac hs
        have NSK:Hid (V6 (uN m 3) E q=false):=ac (by
         have h:=NS.out;rw[EA.out,EB.out]at h;have d:=HCL.out
         cases e:V6 (uN m 3) E q with
         |false=>rfl
         |true=>
          simp only[V6,b8,b5,decide_eq_true_eq]at e
          rcases e with e|e
          ·exact absurd e d
          ·exact absurd e h)
        have E12:((A != E)=false)\/((A != E)=true/\(B != E)=false):=by
         by_cases h:A=E
         ·exact .inl (by simpa using h)
         ·exact .inr ⟨by simpa using h,by have:B=E:=Classical.byContradiction λd=>hs ⟨h,d⟩;simpa using this⟩
        clear hs
        rcases E12 with e1|⟨e1,e2⟩
        all_goals go_upto_region 33 with(at_lookup;go_must (refine aR (enc:=zn) _ rfl _ _ 106 3 4 rfl qz ju (mq _) N (uN m 3) rfl S9.out (q:Int) rfl false (by simpa using HCL.out) ?_))
        all_goals (
         obtain⟨sx,ox1,ox2,ox3,ox4,ox5⟩:=ab3 NK.out Q;have Y:=nE X.out E;rw[ox1]at Y;obtain⟨x,hxf,V⟩:∃x,R'.find? (λx=>x.1==E)=some x/\sx=strip x:=by
          cases e:R'.find? (λx=>x.1==E) with
          |none=>rw[e]at Y;cases Y
          |some x=>rw[e]at Y;cases Y;exact⟨x,rfl,rfl⟩
         subst V;obtain⟨xk,xv,L,xl⟩:=x;simp only[strip]at ox2 ox3 ox4;have hrx:=M9.out.reads _ (bw hxf);have qH:=M9.out.ne _ (bw hxf);simp only at hrx qH;have HRX:=ac hrx;obtain⟨pb,pc,rfl,hyy⟩:=hrx;obtain⟨kp,op,rfl,Tt,hcp⟩:=hyy (by cases L with|nil=>exact absurd rfl qH|cons _ _=>simp);have HCP:=ac hcp;have HXF:=ac hxf;have OX1:=ac ox1;have OX5:=ac ox5;have OX2:=ac ox2;have HKP:=ac Tt;clear hyy hcp hxf ox1 ox5 Y qH ox2 Tt;obtain⟨F,hto⟩:∃t,t=A+B-E:=⟨_,rfl⟩
         have HTO:Hid (F=XN E q):=ac (by rw[hto,EA.out,EB.out];rfl);rw[<-hto];clear hto;refine iL 17 7 (λ_ W=>Below M.heap.size M W) (λW W'=>Below W.heap.size W W') ExW (Wb M.heap.size L F (xl+G)) (λ_ _ _ _=>True) (λ_ _ _ _ _=>trivial) rfl (by kernel_rfl) (by kernel_rfl) rfl
          (λb i vs W W' hle h=>h.le hle) (λi o ho vs eX W he aaZ b h=>⟨λe=>by subst e;rw[<-he];exact h.c4 rfl,λe=>by subst e;rw[<-he];exact h.c6 rfl,λe=>by subst e;rw[<-he];exact h.c7 rfl,λe=>?_,λe=>by subst e;rw[<-he];exact h.c16 rfl⟩) (ad _ _).drew ?_
         ·subst e;have e7:vs 7=eX 7:=by
           simp only[bA,bC,bL,b2]at ho;subst ho;exact aaZ ⟨7,.data⟩ (cH.2 ⟨by simp,rfl⟩)
          rw[<-he,<-e7];exact h.c15 rfl
         have HWR:Hid (IntKind.i64.wrap (xl+G)=xl+G):=ac (aw _ (by omega))
         iterate 4 (
          apply iK
          case hE=>rfl
          case h=>
           intro vs W b c hd;have hl:=IJ ((c.block _ (aa M9.out.map)).trans M9.out.map) HXF.out;have q0:=zc;have q1:=ze;have g2:=(c.cell (p:=⟨wr.heap.size,2,none⟩) Wf).trans d;have hw:=HWR.out;simp only[nD]at hl
           go_simp
           exact⟨rfl,ad _ _⟩
          case hb=>exact hbT)
         apply ey
         case hE=>rfl
         case hb=>exact hbT
         case h=>
          intro vs W D b hb c jw hi _ hd hP
          go_simp
          refine(tC kp op L.length pc (L.map λz=>.int .i64 z) _ (by simp) (λj u e=>?_) (by simp[Value.oneCell']) (by have:=OX2.out;omega) (Nat.lt_of_lt_of_le HKP.out c.size)).mono ?_
          ·obtain⟨z,hz,rfl⟩:∃z,L[j]?=some z/\u=.int .i64 z:=by
            rw[bv]at e
            cases h:L[j]? with
            |none=>rw[h]at e;cases e
            |some z=>rw[h]at e;cases e;exact⟨z,rfl,rfl⟩
           have H:=(List.getElem?_eq_some_iff.1 hz).1;rw[c.cell (p:=⟨kp,op+j,none⟩) HKP.out,HCP.out j (by omega)];simp[bt,hz]
          ·rintro e W'⟨v,rfl,_,hO,I⟩;exact⟨v,rfl,ab c I,λj H hE=>(hd j H hE).le I,⟨λ_ _=>by simp only[upd,if_pos];exact dJ hO c.size,λe=>absurd e (by decide),λe=>absurd e (by decide),λe=>absurd e (by decide),λe=>absurd e (by decide)⟩⟩
         iterate 1 (
          apply iK
          case hE=>rfl
          case h=>
           intro vs W b c hd;have hl:=IJ ((c.block _ (aa M9.out.map)).trans M9.out.map) HXF.out;have q0:=zc;have q1:=ze;have g2:=(c.cell (p:=⟨wr.heap.size,2,none⟩) Wf).trans d;have hw:=HWR.out;simp only[nD]at hl
           go_simp
           exact⟨rfl,ad _ _⟩
          case hb=>exact hbT)
         apply ey
         case hE=>rfl
         case hb=>exact hbT
         case h=>
          intro vs W D b hb c jw hi _ hd hP;have I:=(ad W.heap.size W).alloc (ae _) (.cells #[.int .i64 F] 3);have HBC:=ac (ab c I);clear c
          go_simp
          exact⟨HBC.out,λj H hE=>(hd j H hE).le I,⟨λe=>absurd e (by decide),λ_ _=>⟨W.heap.size,by simp[upd],au _ _⟩,λe=>absurd e (by decide),λe=>absurd e (by decide),λe=>absurd e (by decide)⟩⟩
         apply ey
         case hE=>rfl
         case hb=>exact hbT
         case h=>
          intro vs W D bb iC c jw hi _ hd hP;have hf:=iC rfl;have m4:4∈D:=jw ⟨4,.data⟩ (cH.2 ⟨by simp,rfl⟩);have m6:6∈D:=jw ⟨6,.data⟩ (cH.2 ⟨by simp,rfl⟩);have fO:=(hd 4 m4 rfl).c4 rfl hf;obtain⟨kq,hkq,hkc⟩:=(hd 6 m6 rfl).c6 rfl hf;have bu:=cZ fO;have hoc:=qm fO;refine yX Rz RE rfl _ _ rfl M.heap.size (vs 4) L F kq rfl fO hkq (by simp[aq,hkc]) (by have:=OX2.out;omega) c.size λv' w' e1 e2=>?_;have I:Below M.heap.size W w':=(ad _ W).grown e2 c.size bu;refine⟨c.trans I,λj H hE=>⟨λ_ e=>by simp at e,λ_ e=>by simp at e,λe=>absurd H (by rw[e];exact hi),(hd j H hE).c15,λe=>((hd j H hE).c16 e).imp λk l=>⟨l.1,l.2.1,(e2.block k (aa l.2.2) λe=>?_).trans l.2.2⟩⟩,⟨λe=>absurd e (by decide),λe=>absurd e (by decide),λ_=>by simpa[upd]using e1,λe=>absurd e (by decide),λe=>absurd e (by decide)⟩,λ_ _ _=>trivial⟩;obtain⟨cur,SF⟩:=hoc k e.symm;rw[l.2.2]at SF;cases SF
         iterate 7 (
          apply iK
          case hE=>rfl
          case h=>
           intro vs W b c hd;have hl:=IJ ((c.block _ (aa M9.out.map)).trans M9.out.map) HXF.out;have q0:=zc;have q1:=ze;have g2:=(c.cell (p:=⟨wr.heap.size,2,none⟩) Wf).trans d;have hw:=HWR.out;simp only[nD]at hl
           go_simp
           exact⟨rfl,ad _ _⟩
          case hb=>exact hbT)
         apply ey
         case hE=>rfl
         case hb=>exact hbT
         case h=>
          intro vs W D bb iC c jw hi _ hd hP;have m7:7∈D:=jw ⟨7,.data⟩ (cH.2 ⟨by simp,rfl⟩);obtain⟨vb,vc,h7⟩:=vB ((hd 7 m7 rfl).c7 rfl);rw[h7];have HD:=ac hd;clear hd
          go_simp
          exact⟨HD.out,⟨λe=>absurd e (by decide),λe=>absurd e (by decide),λe=>absurd e (by decide),λ_=>by simp[upd,h7],λe=>absurd e (by decide)⟩⟩
         apply ey
         case hE=>rfl
         case hb=>exact hbT
         case h=>
          intro vs W D b hb c jw hi _ hd hP;have I:=(ad W.heap.size W).alloc (ae _) (.cells #[.slice none 0 0,.int .i64 0] 108);have HBC:=ac (ab c I);have HSZ:=ac c.size;clear c
          go_simp
          exact⟨HBC.out,λj H hE=>(hd j H hE).le I,⟨λe=>absurd e (by decide),λe=>absurd e (by decide),λe=>absurd e (by decide),λe=>absurd e (by decide),λ_=>⟨W.heap.size,by simp[upd],HSZ.out,au _ _⟩⟩⟩
         refine nv λvs W bb _ c hd _=>?_;have hO7:=(hd 7 (by omega) rfl).c7 rfl;have ab8:=(hd 15 (by omega) rfl).c15 rfl;obtain⟨kw,h16,hkw,hcw⟩:=(hd 16 (by omega) rfl).c16 rfl;obtain⟨vb,vc,h7⟩:=vB hO7;rw[h7]at ab8 hO7;have HO7:=ac hO7;have HC1:=ac c;have HKW:=ac hkw;have HCW:=ac hcw;have y0:W.cell? ⟨kw,0,none⟩=some (.slice none 0 0):=by simp[aq,hcw]
         have y1:W.cell? ⟨kw,1,none⟩=some (.int .i64 0):=by simp[aq,hcw]
         have fz:=tO hcw;rw[h16,ab8];clear hd c hO7 ab8 h16 hkw hcw h7;obtain⟨nn,Va⟩:∃n,n=(L++[F]).length:=⟨_,rfl⟩
         have HNN:=ac Va;rw[<-Va];clear Va
         go_upto_region 34 with fail
         obtain⟨XR,SG⟩:∃XR:World,XR=(W.setCell ⟨kw,0,none⟩ (.slice vb nn vc)).setCell ⟨kw,1,none⟩ (.int .i64 (xl+G)):=⟨_,rfl⟩
         have SI:Below M.heap.size M XR:=by rw[SG];exact(HC1.out.setCell (p:=⟨kw,0,none⟩) HKW.out _).setCell (p:=⟨kw,1,none⟩) HKW.out _
         have P10:Hid (XR.heap[kw]?=some (.cells #[.slice vb nn vc,.int .i64 (xl+G)] 108)):=ac (by rw[SG];exact Wc HCW.out)
         have O10:Hid (eO 3 XR M.heap.size (.slice vb nn vc) (L++[F])):=ac (by
          have hoc:=qm HO7.out;rw[HNN.out];have bu:∀j,Value.ownBlock (.slice vb (L++[F]).length vc)=some j->j≠kw:=λj e H=>by
           obtain⟨cur,SF⟩:=hoc j e;rw[H,HCW.out]at SF;cases SF
          rw[SG]
          exact A8 (A8 HO7.out bu) bu)
         have M10:=ac (M9.out.on SI);have L10:=ac (aG SI L9.out);have S10:=ac (aG SI S9.out);have Ry:=ac (K9.out.on SI);rw[<-SG];clear SG SI y0 y1 fz;obtain⟨tp,tn,tc,tl,ok,FH,Ag⟩:=SE M10.out F;have HOK:=ac Ag;clear Ag h0 h1 d
         go_upto_region 35 with fail
         obtain⟨Z,ab9⟩:∃Z:World,Z=XR.alloc (.cells #[.slice tp tn tc,.int .i64 tl] 108):=⟨_,rfl⟩
         have IP:Below XR.heap.size XR Z:=by rw[ab9];exact(ad _ _).alloc (ae _) _
         have P11:=ac ((IP.block _ (aa P10.out)).trans P10.out);have O11:=ac (O10.out.on IP);have M11:=ac (M10.out.on IP);have L11:=ac (aG IP L10.out);have S11:=ac (aG IP S10.out);have Tr:=ac (Ry.out.on IP);rw[<-ab9];clear ab9 IP FH M10 L10 S10 Ry O10;by_cases ht:F∈tP m (i+1)
         ·have HT1:=ac ht;clear ht
          go_wp2_with (at_lookup;go_must (refine aR (enc:=zn) _ rfl _ _ 106 3 4 rfl qz ju (mq _) T (tP m (i+1)) rfl L11.out F rfl true (by simpa using HT1.out) ?_))
          exact⟨⟨q+1,R',Q,by go_num,by rw[X.out,N0,stepW,if_neg (by rw[NSK.out];decide),if_pos (by rw[<-HTO.out];exact HT1.out)],M11.out,L11.out,S11.out,Tr.out⟩,by simp only[intOf];omega⟩
         ·have HT1:=ac ht;clear ht;have hnf:R'.find? (λz=>z.1==F)=none:=by
           have e:=OX5.out NSK.out (by rw[<-HTO.out];exact HT1.out);rw[<-HTO.out]at e;have e2:=nE X.out F;rw[e]at e2
           cases e3:R'.find? (λz=>z.1==F) with
           |none=>rfl
           |some z=>rw[e3]at e2;cases e2
          have Ag:ok=false:=HOK.out hnf;subst Ag;have HNF:=ac hnf;clear hnf;have z0:Z.cell? ⟨kw,0,none⟩=some (.slice vb nn vc):=by have h:=P11.out;simp[aq,h]
          have z1:Z.cell? ⟨kw,1,none⟩=some (.int .i64 (xl+G)):=by have h:=P11.out;simp[aq,h]
          have RD:Hid (bB Z (.slice vb nn vc) (L++[F])):=ac (eO.reads O11.out)
          go_wp2_with (first
           |(at_lookup;go_must (refine aR (enc:=zn) _ rfl _ _ 106 3 4 rfl qz ju (mq _) T (tP m (i+1)) rfl L11.out F rfl false (by simpa using HT1.out) ?_))
           |(at_mapUpdate;go_must (refine tF _ rfl _ _ _ (.inl rfl) S R' (F,.slice vb nn vc,L++[F],xl+G) rfl rfl rfl M11.out HNF.out RD.out (by simp) ?_);intro w12 hM y;go_must (have M12:=ac hM;have L12:=ac (cc L11.out (y.block _ (by have:=ZR.out;omega)));have S12:=ac (cc S11.out (y.block _ (by have:=ZR.out;omega)));have VC:=ac (Tr.out.turned y M11.out.map (λ_ _ _ e=>by cases e) (by have:=ZM.out;have:=ZR.out;omega):KQ C w kx P w12));clear hM y;go_frame))
          refine⟨⟨q+1,R'++[(F,.slice vb nn vc,L++[F],xl+G)],Q,by go_num,?_,M12.out,L12.out,S12.out,VC.out⟩,by simp only[intOf];omega⟩;rw[bp,X.out,N0,stepW,if_neg (by rw[NSK.out];decide),if_neg (by rw[<-HTO.out];exact HT1.out),OX1.out]
          simp only[bm,bo,strip,HTO.out,EG.out])
end Go.Proofs
namespace Go.Proofs
open Go.RowKit Go.Shelf
set_option maxRecDepth 100000
set_option maxHeartbeats 1000000
def uP(d:Int)(C:CD)(W:World):Prop:=∃k2 g k3 c3 a h b i c e lb f,C=ir k2 g k3 c3 a h b i c e lb f d/\CJ W k2 k3 a b c e lb f d
def uP.on{d:Int}{C:CD}{W a:World}(h:uP d C W)(b:Below W.heap.size W a):uP d C a:=by
 obtain⟨k2,c,k3,c3,f,g,i,j,k,l,lb,m,e,h⟩:=h;exact⟨k2,c,k3,c3,f,g,i,j,k,l,lb,m,e,h.on b⟩
def uP.at{d:Int}{C:CD}{W:World}(h:uP d C W):C.At W:=by
 obtain⟨k2,a,k3,c3,b,c,e,f,g,i,lb,j,rfl,h⟩:=h;exact h.at
def uP.is{d:Int}{C:CD}{W:World}(h:uP d C W):VB d C:=by
 obtain⟨k2,a,k3,c3,b,c,e,f,g,i,lb,j,rfl,_⟩:=h;exact⟨k2,a,k3,c3,b,c,e,f,g,i,lb,j,rfl⟩
def tG{d:Int}{C:CD}(hd:d=0\/d=1)(h:VB d C):C.b6 true=0:=by
 obtain⟨k2,a,k3,c3,b,c,e,f,g,i,lb,j,rfl⟩:=h
 rcases hd with rfl|rfl<;>kernel_rfl
def IQ{d:Int}{C:CD}(hd:d=0\/d=1)(h:VB d C):C.cx=0:=IC (tG hd h)
def agd(w:World):Calls PL 15 #[.int .i64 13,.int .i64 (-5)] w λe w'=>e=.returned (.tuple #[.int .i64 12,.int .i64 0])/\w=w':=(uD 13 (-5) w).mono λ_ _ k=>⟨k.1.trans (by kernel_rfl),k.2.symm⟩
def age(w:World):Calls PL 15 #[.int .i64 20,.int .i64 11] w λe w'=>e=.returned (.tuple #[.int .i64 16,.int .i64 0])/\w=w':=(uD 20 11 w).mono λ_ _ k=>⟨k.1.trans (by kernel_rfl),k.2.symm⟩
def agf{C:CD}(w:World)(h:uP 0 C w):Calls PL 16 #[.agg C.val,.int .i64 0] w (aO (.tuple #[.agg #[.int .i64 16,.int .i64 20],.int .i64 0]) w):=by
 have k:=nB C 0 w h.at;have e:C.kR 0=.tuple #[.agg #[.int .i64 16,.int .i64 20],.int .i64 0]:=by
  obtain⟨k2,a,k3,c3,b,c,d,f,g,i,lb,j,rfl⟩:=h.is
  kernel_rfl
 rwa[e]at k
def agh{C:CD}(w:World)(h:uP 0 C w):Calls PL 16 #[.agg C.val,.int .i64 2] w (aO (.tuple #[.agg #[.int .i64 24,.int .i64 25],.int .i64 0]) w):=by
 have k:=nB C 2 w h.at;have e:C.kR 2=.tuple #[.agg #[.int .i64 24,.int .i64 25],.int .i64 0]:=by
  obtain⟨k2,a,k3,c3,b,c,d,f,g,i,lb,j,rfl⟩:=h.is
  kernel_rfl
 rwa[e]at k
def agi{C:CD}(w:World)(h:uP 0 C w):Calls PL 17 #[.agg C.val,.int .i64 0] w (aO (.tuple #[.int .i64 0,.int .i64 0]) w):=by
 have k:=pH C 0 w h.at;have e:C.iq 0=.tuple #[.int .i64 0,.int .i64 0]:=by
  obtain⟨k2,a,k3,c3,b,c,d,f,g,i,lb,j,rfl⟩:=h.is
  kernel_rfl
 rwa[e]at k
def agj{C:CD}(w:World)(h:uP 0 C w):Calls PL 17 #[.agg C.val,.int .i64 2] w (aO (.tuple #[.int .i64 2,.int .i64 0]) w):=by
 have k:=pH C 2 w h.at;have e:C.iq 2=.tuple #[.int .i64 2,.int .i64 0]:=by
  obtain⟨k2,a,k3,c3,b,c,d,f,g,i,lb,j,rfl⟩:=h.is
  kernel_rfl
 rwa[e]at k
def SJ:List Int:=[0,0,0,4,6,1,6,9,10,14,2,13,17,18,22]
def aax:List Int:=[0,1,2,0,13]
def ahc{W:World}{base e n:Nat}{v:Value}{xs:List Value}(h:W.ownsRow base e 5 v n xs)(l:List Int)(a:xs=l.map λz=>.int .i64 z):Reads W v n 5 λj=>.int .i64 (l.getD j 0):=by
 obtain⟨hl,h⟩:=h
 rcases h with⟨rfl,rfl⟩|⟨g,cap,b,rfl,hb,hg,hc,d,hs,c⟩
 ·exact⟨none,0,rfl,λh=>absurd h (ao _)⟩
 ·refine⟨_,_,rfl,λf=>⟨g,0,rfl,aa hg,λj i=>?_⟩⟩;have k:l.length=n*5:=by rw[<-hl,a,List.length_map]
  have e:xs[j]?=some (.int .i64 (l.getD j 0)):=by
   rw[a,bv,bM (by omega)];simp[bt,bM (show j<l.length by omega)]
  rw[<-c,List.getElem?_take_of_lt (by omega)]at e;simp only[aq,hg,Nat.zero_add];simpa using e
def e34{C:CD}(w:World)(h:uP 0 C w):Calls PL 18 #[.agg C.val,.int .i64 0] w λe w'=>∃v,e=.returned (.tuple #[v,.int .i64 0])/\(Reads w' v 3 5 λj=>.int .i64 (SJ.getD j 0))/\Below w.heap.size w w':=by
 have k:=ID C 0 w h.at (by obtain⟨k2,a,k3,c3,b,c,d,f,g,i,lb,l,rfl⟩:=h.is;show 0<2;decide) (by obtain⟨k2,a,k3,c3,b,c,d,f,g,i,lb,l,rfl⟩:=h.is;show 2<=3;decide) (tG (.inl rfl) h.is) (Sa C (IQ (.inl rfl) h.is) (by obtain⟨k2,a,k3,c3,b,c,d,f,g,i,lb,l,rfl⟩:=h.is;show 0<2;decide));refine k.mono ?_;rintro e w'⟨v,rfl,m,n⟩;have e:mD C 0 C.n4=[(0,0,0,4,6),(1,6,9,10,14),(2,13,17,18,22)]:=by
  obtain⟨k2,a,k3,c3,b,c,d,f,g,i,lb,l,rfl⟩:=h.is
  kernel_rfl
 unfold AY at m;rw[e]at m;exact⟨v,rfl,ahc m SJ rfl,n⟩
def e59{C:CD}(w:World)(h:uP 0 C w):Calls PL 19 #[.agg C.val,.int .i64 1] w (aO (.tuple #[.agg #[.int .i64 18,.int .i64 23],.int .i64 0]) w):=by
 have k:=Sj C 1 w h.at (by obtain⟨k2,a,k3,c3,b,c,d,f,g,i,lb,j,rfl⟩:=h.is;show 1<2;decide) (by obtain⟨k2,a,k3,c3,b,c,d,f,g,i,lb,j,rfl⟩:=h.is;show 2<=3;decide) (tG (.inl rfl) h.is) (Sa C (IQ (.inl rfl) h.is) (by obtain⟨k2,a,k3,c3,b,c,d,f,g,i,lb,j,rfl⟩:=h.is;show 1<2;decide));have e:nU C 1=(18,23):=by
  obtain⟨k2,a,k3,c3,b,c,d,f,g,i,lb,j,rfl⟩:=h.is
  kernel_rfl
 rwa[e]at k
def e36{C:CD}(w:World)(h:uP 0 C w):Calls PL 20 #[.agg C.val,.int .i64 8] w λe w'=>∃v,e=.returned (.tuple #[v,.int .i64 0])/\bB w' v [2,0,1]/\Below w.heap.size w w':=by
 have k:=RO C 8 je Sy w h.at (tG (.inl rfl) h.is) (by obtain⟨k2,a,k3,c3,b,c,d,f,g,i,lb,j,rfl⟩:=h.is;show 3<=5;decide) (by obtain⟨k2,a,k3,c3,b,c,d,f,g,i,lb,j,rfl⟩:=h.is;show 2<=3;decide) rfl λW l=>tA (.inl rfl) h.is l;have e:tB je 8 C.n5 C.n4=[2,0,1]:=by
  obtain⟨k2,a,k3,c3,b,c,d,f,g,i,lb,j,rfl⟩:=h.is
  kernel_rfl
 rwa[e]at k
def e37{C:CD}{d:Int}(hd:d=0\/d=1)(w:World)(h:uP d C w):Calls PL 21 #[.agg C.val] w λe w'=>∃v,e=.returned (.tuple #[v,.int .i64 0])/\(∃b c,v=.slice b (Cv d 3).length c)/\(Reads w' v (Cv d 3).length 5 λj=>.int .i64 (aax.getD j 0))/\Below w.heap.size w w':=by
 have l:C.n4=3/\C.n5=2:=by obtain⟨k2,o,k3,c3,p,q,r,s,t,u,lb,x,rfl⟩:=h.is;exact⟨rfl,rfl⟩
 have k:=Fp C (λW v=>(∃b c,v=.slice b (Cv d 3).length c)/\Reads W v (Cv d 3).length 5 λj=>.int .i64 (aax.getD j 0)) w h.at (tG hd h.is) λW m=>(vC C d hd l.1 l.2 W m λy f=>tA hd h.is f).mono λe w'⟨v,g,a,i⟩=>⟨v,g,⟨vB a,?_⟩,i⟩
 ·exact k.mono λe w'⟨v,g,a,i⟩=>⟨v,g,a.1,a.2,i⟩
 ·rcases hd with rfl|rfl
  ·have n:Cv 0 3=[]:=rfl;unfold kV at a;rw[n]at a⊢;obtain⟨b,c,rfl⟩:=vB a;exact⟨b,c,rfl,λh=>absurd h (ao _)⟩
  ·exact ahc a aax rfl
def e39{C:CD}{v:Value}(w:World)(h:uP 0 C w)(hv:bB w v [0,1]):Calls PL 8 #[.agg C.val,v] w λe w'=>∃a,e=.returned (.tuple #[.agg a.val,.int .i64 0])/\uP 1 a w'/\Below w.heap.size w w':=by
 obtain⟨k2,l,k3,c3,m,n,o,p,q,r,lb,s,rfl,b⟩:=h;exact(Iw w b hv).mono λe w'⟨q2,d2,q3,d3,q4,d4,q5,d5,c,d,f,g,i,j,k⟩=>⟨_,i,⟨q2,d2,q3,d3,q4,d4,q5,d5,c,d,f,g,rfl,j⟩,k⟩
def e52{C:CD}(w:World)(h:uP 1 C w):Calls PL 6 #[.agg C.val] w λe w'=>∃v,e=.returned (.tuple #[v,.bool true,.int .i64 0])/\bB w' v [0,0]/\Below w.heap.size w w':=by
 obtain⟨k2,b,k3,c3,c,d,f,g,i,j,lb,k,rfl,a⟩:=h;exact II w a
def agk{C:CD}(w:World)(h:uP 0 C w):Calls PL 22 #[.agg C.val,.int .i64 2,.int .i64 5] w λe w'=>∃v,e=.returned (.tuple #[v,.int .i64 110,.bool true,.int .i64 0])/\bB w' v [2,3,0]/\Below w.heap.size w w':=by
 have a:=h.at;obtain⟨k2,b,k3,c3,c,d,f,g,i,j,lb,k,e,_⟩:=h;exact Ba C 5 (.inl rfl) e w a
def agl{C:CD}(w:World)(h:uP 0 C w):Calls PL 22 #[.agg C.val,.int .i64 2,.int .i64 3] w λe w'=>∃v,e=.returned (.tuple #[v,.int .i64 0,.bool false,.int .i64 0])/\bB w' v []/\Below w.heap.size w w':=by
 have a:=h.at;obtain⟨k2,b,k3,c3,c,d,f,g,i,j,lb,k,e,_⟩:=h;exact Ba C 3 (.inr rfl) e w a
def e31{C:CD}(w:World)(h:uP 0 C w):Calls PL 23 #[.agg C.val] w λe w'=>∃v,e=.returned (.tuple #[v,.int .i64 0])/\bB w' v [0,2]/\Below w.heap.size w w':=by
 have k:=Cr C w h.at (IQ (.inl rfl) h.is);have e:(qC C C.p.toNat (2 ^ C.p.toNat)).getD []=[0,2]:=by
  obtain⟨k2,a,k3,c3,b,c,d,f,g,i,lb,j,rfl⟩:=h.is
  kernel_rfl
 rwa[e]at k
def agm{C:CD}(w:World)(h:uP 0 C w):Calls PL 21 #[.agg C.val] w λe w'=>∃b c,e=.returned (.tuple #[.slice b 0 c,.int .i64 0])/\Below w.heap.size w w':=
 (e37 (.inl rfl) w h).mono λe w'⟨v,a,⟨b,c,d⟩,_,f⟩=>⟨b,c,by rw[a,d];rfl,f⟩
def agn{C:CD}(w:World)(h:uP 1 C w):Calls PL 21 #[.agg C.val] w λe w'=>∃v,e=.returned (.tuple #[v,.int .i64 0])/\(Reads w' v 1 5 λj=>.int .i64 (aax.getD j 0))/\Below w.heap.size w w':=
 (e37 (.inr rfl) w h).mono λe w'⟨v,a,_,b,c⟩=>⟨v,a,b,c⟩
def iO(W:World)(t:a7)(m:Nat)(l:List Int)(n:Nat)(hl:l.length=n*m):Reads (W.alloc (.cells (l.map λz=>Value.int .i64 z).toArray t)) (.slice (some ⟨W.heap.size,0,none⟩) n n) n m λj=>.int .i64 (l.getD j 0):=by
 refine⟨_,_,rfl,λ_=>⟨_,_,rfl,by simp,λj b=>?_⟩⟩;have h:=au W (.cells (l.map λz=>Value.int .i64 z).toArray t);have a:j<l.length:=by omega
 simp only[aq,h];simp[bt,a]
attribute [local go_sem] Oper.semAt_some
def NC(P:World->Prop):Prop:=∀W a,P W->Below W.heap.size W a->P a
def iy(W:World):List (World->Prop)->Prop
 |[]=>True
 |P::l=>(P W/\NC P)/\iy W l
def iy.on{W a:World}:∀{l:List (World->Prop)},iy W l->Below W.heap.size W a->iy a l
 |[],_,_=>trivial
 |_::_,h,b=>⟨⟨h.1.2 _ _ h.1.1 b,h.1.2⟩,iy.on h.2 b⟩
def iy.add{W:World}{l:List (World->Prop)}(h:iy W l)(P:World->Prop)(a:P W)(b:NC P):iy W (P::l):=⟨⟨a,b⟩,h⟩
def mE(k:Nat)(x:Obj):NC λW=>W.heap[k]?=some x:=λ_ _ h a=>(a.block _ (aa h)).trans h
def gz(v:Value)(n m:Nat)(f:Nat->Value):NC λW=>Reads W v n m f:=λ_ _ h a=>Reads.on h a
def Lp(d:Int)(C:CD):NC (uP d C):=λ_ _ h a=>h.on a
def SU(w:World):NC λW=>Below w.heap.size w W:=λ_ _ h a=>ab h a
def IV(w:World):Calls PL 5 #[] w (aO (.bool true) w):=by
 go_enter (fx (by decide) Tryz.func5),Tryz.ntmps5
 go_upto_region 2 with(go_at_call 14;go_must (refine(EV _).mono ?_);rintro e w0⟨k2,L,k3,c3,M,q,N,r,O,P,lb,Q,rfl,⟨r2,r3,r4,r5,ra,rb⟩,a⟩;have z:Hid (uP 0 (ir k2 L k3 c3 M q N r O P lb Q 0) w0):=ac ⟨k2,L,k3,c3,M,q,N,r,O,P,lb,Q,rfl,⟨r2,r3,r4,r5,ra,rb⟩⟩;have HB:=ac a;clear r2 r3 r4 r5 ra rb a;obtain⟨C,m⟩:∃C,C=ir k2 L k3 c3 M q N r O P lb Q 0:=⟨_,rfl⟩;rw[<-m]at z ⊢;clear m)
 obtain⟨kb,R⟩:∃k,k=w0.heap.size:=⟨_,rfl⟩
 obtain⟨W2,i⟩:∃W:World,W=w0.alloc (.cells C.val 27):=⟨_,rfl⟩
 have s:Below w0.heap.size w0 W2:=by rw[i];exact(ad _ _).alloc (ae _) _
 have S:Hid (iy W2 [λW=>W.heap[kb]?=some (.cells C.val 27),uP 0 C,λW=>Below w.heap.size w W]):=ac ⟨⟨by rw[i,R];exact au _ _,mE _ _⟩,⟨z.out.on s,Lp _ _⟩,⟨ab HB.out s,SU _⟩,trivial⟩;rw[<-i,<-R];clear i R s z HB
 go_upto_region 3 with(go_at_call 15;go_must (refine(agd _).mono ?_);rintro e w'⟨rfl,rfl⟩)
 go_upto_region 4 with(go_at_call 15;go_must (refine(age _).mono ?_);rintro e w'⟨rfl,rfl⟩)
 obtain⟨b,c,d,f,f4,g⟩:=bf S.out.1.1
 go_upto_region 5 with(go_at_call 16;go_must (refine(agf _ (S.out.2.1.1)).mono ?_);rintro e n⟨rfl,a⟩;have A:=ac (S.out.on a);clear a b c d f f4 g)
 obtain⟨T,hb⟩:∃k,k=n.heap.size:=⟨_,rfl⟩
 obtain⟨W4,i⟩:∃W:World,W=n.alloc (.cells #[.int .i64 16,.int .i64 20] 48):=⟨_,rfl⟩
 have U:=ac ((A.out.on (show Below n.heap.size n W4 by rw[i];exact(ad _ _).alloc (ae _) _)).add (λW=>W.heap[T]?=some (.cells #[.int .i64 16,.int .i64 20] 48)) (by rw[i,hb];exact au _ _) (mE _ _));rw[<-i,<-hb];clear i hb A;obtain⟨b,c,d,f,f4,g⟩:=bf (U.out.2.1.1)
 go_upto_region 6 with(go_at_call 16;go_must (refine(agh _ (U.out.2.2.1.1)).mono ?_);rintro e o⟨rfl,a⟩;have B:=ac (U.out.on a);clear a b c d f f4 g)
 obtain⟨V,hb⟩:∃k,k=o.heap.size:=⟨_,rfl⟩
 obtain⟨W5,i⟩:∃W:World,W=o.alloc (.cells #[.int .i64 24,.int .i64 25] 48):=⟨_,rfl⟩
 have X:=ac ((B.out.on (show Below o.heap.size o W5 by rw[i];exact(ad _ _).alloc (ae _) _)).add (λW=>W.heap[V]?=some (.cells #[.int .i64 24,.int .i64 25] 48)) (by rw[i,hb];exact au _ _) (mE _ _));rw[<-i,<-hb];clear i hb B;obtain⟨b,c,d,f,f4,g⟩:=bf (X.out.2.2.1.1)
 go_upto_region 7 with(go_at_call 17;go_must (refine(agi _ (X.out.2.2.2.1.1)).mono ?_);rintro e w6x⟨rfl,a⟩;have Y:=ac (X.out.on a);clear a b c d f f4 g;obtain⟨b,c,d,f,f4,g⟩:=bf (Y.out.2.2.1.1))
 go_upto_region 8 with(go_at_call 17;go_must (refine(agj _ (Y.out.2.2.2.1.1)).mono ?_);rintro e w7x⟨rfl,a⟩;have Z:=ac (Y.out.on a);clear a b c d f f4 g;obtain⟨b,c,d,f,f4,g⟩:=bf (Z.out.2.2.1.1))
 go_upto_region 9 with(go_at_call 18;go_must (refine(e34 _ (Z.out.2.2.2.1.1)).mono ?_);rintro e w8x⟨v8,rfl,l,a⟩;have K8:=ac ((Z.out.on a).add (λW=>Reads W v8 3 5 λj=>.int .i64 (SJ.getD j 0)) l (gz _ _ _ _));clear l;clear a b c d f f4 g;obtain⟨b,c,d,f,f4,g⟩:=bf (K8.out.2.2.2.1.1))
 go_upto_region 10 with(go_at_call 19;go_must (refine(e59 _ (K8.out.2.2.2.2.1.1)).mono ?_);rintro e p⟨rfl,a⟩;have D:=ac (K8.out.on a);clear a b c d f f4 g)
 obtain⟨b9,hb⟩:∃k,k=p.heap.size:=⟨_,rfl⟩
 obtain⟨W9,i⟩:∃W:World,W=p.alloc (.cells #[.int .i64 18,.int .i64 23] 48):=⟨_,rfl⟩
 have K9:=ac ((D.out.on (show Below p.heap.size p W9 by rw[i];exact(ad _ _).alloc (ae _) _)).add (λW=>W.heap[b9]?=some (.cells #[.int .i64 18,.int .i64 23] 48)) (by rw[i,hb];exact au _ _) (mE _ _));rw[<-i,<-hb];clear i hb D;obtain⟨b,c,d,f,f4,g⟩:=bf (K9.out.2.2.2.2.1.1)
 go_upto_region 11 with(go_at_call 20;go_must (refine(e36 _ (K9.out.2.2.2.2.2.1.1)).mono ?_);rintro e aul⟨E,rfl,l,a⟩;have Ry:=ac ((K9.out.on a).add (λW=>bB W E [2,0,1]) l (gz _ _ _ _));clear l;clear a b c d f f4 g;obtain⟨b,c,d,f,f4,g⟩:=bf (Ry.out.2.2.2.2.2.1.1))
 go_upto_region 12 with(go_at_call 21;go_must (refine(agm _ (Ry.out.2.2.2.2.2.2.1.1)).mono ?_);rintro e aum⟨Fy,q11,rfl,a⟩;have Tr:=ac (Ry.out.on a);clear a b c d f f4 g;obtain⟨b,c,d,f,f4,g⟩:=bf (Tr.out.2.2.2.2.2.1.1))
 go_upto_region 13 with(go_at_call 8;go_must (refine(e39 _ ((Tr.out.2.2.2.2.2.2.1.1).on ((ad _ _).alloc (ae _) _)) (iO _ 3 1 [0,1] 2 rfl)).mono ?_);rintro e K⟨C1,rfl,hE,a⟩;have F:=ac ((Tr.out.on ((ad _ _).alloc (ae _) _)).on a);have z:=ac hE;clear hE;clear a b c d f f4 g)
 obtain⟨Vv,hb⟩:∃k,k=K.heap.size:=⟨_,rfl⟩
 obtain⟨W12,i⟩:∃W:World,W=K.alloc (.cells C1.val 27):=⟨_,rfl⟩
 have t:Below K.heap.size K W12:=by rw[i];exact(ad _ _).alloc (ae _) _
 have VC:=ac (((F.out.on t).add (λW=>W.heap[Vv]?=some (.cells C1.val 27)) (by rw[i,hb];exact au _ _) (mE _ _)).add (uP 1 C1) (z.out.on t) (Lp _ _));rw[<-i,<-hb];clear i hb t F z;obtain⟨b,c,d,f,f4,g⟩:=bf (VC.out.2.1.1)
 go_upto_region 14 with(go_at_call 21;go_must (refine(agn _ (VC.out.1.1)).mono ?_);rintro e aun⟨UW,rfl,l,a⟩;have u:=ac ((VC.out.on a).add (λW=>Reads W UW 1 5 λj=>.int .i64 (aax.getD j 0)) l (gz _ _ _ _));clear l;clear a b c d f f4 g;obtain⟨b,c,d,f,f4,g⟩:=bf (u.out.2.2.1.1))
 go_upto_region 15 with(go_at_call 6;go_must (refine(e52 _ (u.out.2.1.1)).mono ?_);rintro e auo⟨UX,rfl,l,a⟩;have Tq:=ac ((u.out.on a).add (λW=>bB W UX [0,0]) l (gz _ _ _ _));clear l;clear a b c d f f4 g;obtain⟨b,c,d,f,f4,g⟩:=bf (Tq.out.2.2.2.2.2.2.2.2.2.1.1))
 go_upto_region 16 with(go_at_call 22;go_must (refine(agk _ (Tq.out.2.2.2.2.2.2.2.2.2.2.1.1)).mono ?_);rintro e aup⟨H,rfl,l,a⟩;have v:=ac ((Tq.out.on a).add (λW=>bB W H [2,3,0]) l (gz _ _ _ _));clear l;clear a b c d f f4 g;obtain⟨b,c,d,f,f4,g⟩:=bf (v.out.2.2.2.2.2.2.2.2.2.2.1.1))
 go_upto_region 17 with(go_at_call 22;go_must (refine(agl _ (v.out.2.2.2.2.2.2.2.2.2.2.2.1.1)).mono ?_);rintro e auq⟨v16,rfl,l,a⟩;have x:=ac ((v.out.on a).add (λW=>bB W v16 []) l (gz _ _ _ _));clear l;clear a b c d f f4 g;obtain⟨b,c,d,f,f4,g⟩:=bf (x.out.2.2.2.2.2.2.2.2.2.2.2.1.1))
 go_upto_region 18 with(go_at_call 23;go_must (refine(e31 _ (x.out.2.2.2.2.2.2.2.2.2.2.2.2.1.1)).mono ?_);rintro e y⟨I,rfl,l,a⟩;have J:=ac ((x.out.on a).add (λW=>bB W I [0,2]) l (gz _ _ _ _));clear l;clear a b c d f f4 g;obtain⟨b,c,d,f,f4,g⟩:=bf (J.out.2.2.2.2.2.2.2.2.2.2.2.2.1.1))
 clear b c d f f4 g
 go_upto_region 20 with fail
 have KK:=J;have e4:=KK.out.2.2.2.2.2.2.2.2.2.2.2.1.1;have e5:=KK.out.2.2.2.2.2.2.2.2.2.2.1.1;have e9:=KK.out.2.2.2.2.2.2.2.2.1.1;obtain⟨wq,hwq⟩:∃W:World,W=y:=⟨_,rfl⟩
 have E4:=ac e4;have E5:=ac e5;have E9:=ac e9;clear e4 e5 e9 hwq;refine ig (λW=>Below y.heap.size y W) (λ_ _=>True) (λ_=>true) (λ_ _ _=>True) rfl (by kernel_rfl) (λ_ _ _ _ _ _=>trivial) (λ_ _ _ _ _ _ _ _ _=>trivial) (ad _ _).drew ?_
 iterate 49 (
  apply aY
  case hE=>rfl
  case h=>
   intro vs W m hd;have q:=(m.block _ (aa E4.out)).trans E4.out;have r:=(m.block _ (aa E5.out)).trans E5.out;have c9:=(m.block _ (aa E9.out)).trans E9.out;have x0:W.cell? ⟨T,0,none⟩=some (.int .i64 16):=by simp[aq,q]
   have x1:W.cell? ⟨T,1,none⟩=some (.int .i64 20):=by simp[aq,q]
   have x2:W.cell? ⟨V,0,none⟩=some (.int .i64 24):=by simp[aq,r]
   have x3:W.cell? ⟨V,1,none⟩=some (.int .i64 25):=by simp[aq,r]
   have x4:W.cell? ⟨b9,0,none⟩=some (.int .i64 18):=by simp[aq,c9]
   have x5:W.cell? ⟨b9,1,none⟩=some (.int .i64 23):=by simp[aq,c9]
   have q1:=yM;have q2:=Co;clear q r c9
   go_simp
   first
   |(go_at_call 24;refine(fU _ _ _).mono ?_;rintro e W'⟨rfl,a⟩;exact⟨_,rfl,rfl,ab m a⟩)
   |exact rfl
  case hb=>exact hbT)
 refine cP λvs W m hd=>?_;have KK:=ac (KK.out.on m);clear hd m
 go_wp2_with (first
  |(go_at_call 24;go_must (refine(fU _ _ _).mono ?_);rintro e w'⟨rfl,a⟩;have KK:=ac (iy.on KK.out a);clear a)
  |(go_at_call 25;go_must (refine(zT v8 _ 3 (λj=>SJ.getD j 0) _ ((iy.on KK.out ((ad _ _).alloc (ae _) _)).2.2.2.2.2.2.2.2.2.1.1) (iO _ 70 5 SJ 3 rfl) (by decide)).mono ?_);rintro e w'⟨rfl,a⟩;have KK:=ac (iy.on (iy.on KK.out ((ad _ _).alloc (ae _) _)) a);clear a)
  |(go_at_call 26;go_must (refine(Cp E _ 3 (λj=>[2,0,1].getD j 0) _ ((iy.on KK.out ((ad _ _).alloc (ae _) _)).2.2.2.2.2.2.2.1.1) (iO _ 51 1 [2,0,1] 3 rfl) (by decide)).mono ?_);rintro e w'⟨rfl,a⟩;have KK:=ac (iy.on (iy.on KK.out ((ad _ _).alloc (ae _) _)) a);clear a)
  |(go_at_call 27;go_must (refine(vS UW _ 1 (λj=>aax.getD j 0) _ ((iy.on KK.out ((ad _ _).alloc (ae _) _)).2.2.2.2.1.1) (iO _ 74 5 aax 1 rfl) (by decide)).mono ?_);rintro e w'⟨rfl,a⟩;have KK:=ac (iy.on (iy.on KK.out ((ad _ _).alloc (ae _) _)) a);clear a))
 refine(pI UX _ 2 (λj=>[0,0].getD j 0) _ ((iy.on KK.out ((ad _ _).alloc (ae _) _)).2.2.2.1.1) (iO _ 3 1 [0,0] 2 rfl) (by decide)).mono ?_;rintro e w1x⟨rfl,a⟩;have KK:=ac (iy.on (iy.on KK.out ((ad _ _).alloc (ae _) _)) a);clear a;go_wp2;refine(pI H _ 3 (λj=>[2,3,0].getD j 0) _ ((iy.on KK.out ((ad _ _).alloc (ae _) _)).2.2.1.1) (iO _ 3 1 [2,3,0] 3 rfl) (by decide)).mono ?_;rintro e w2x⟨rfl,a⟩;have KK:=ac (iy.on (iy.on KK.out ((ad _ _).alloc (ae _) _)) a);clear a;go_wp2;refine(pI I _ 2 (λj=>[0,2].getD j 0) _ ((iy.on KK.out ((ad _ _).alloc (ae _) _)).1.1) (iO _ 3 1 [0,2] 2 rfl) (by decide)).mono ?_;rintro e w3x⟨rfl,a⟩;have KK:=ac (iy.on (iy.on KK.out ((ad _ _).alloc (ae _) _)) a);clear a;go_wp2
 go_ret
 exact⟨rfl,KK.out.2.2.2.2.2.2.2.2.2.2.2.2.2.2.1.1⟩
end Go.Proofs
