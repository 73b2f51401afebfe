/- Part of the proof of FieldRescue. -/
import Derived.Test.YtbdcjnlaemakmaaGreatV11
import Derived.Deep.DeepMust
import Derived.Maps.RangeWalk
import Derived.Shelf.SlSortCmp.InsertionK
set_option linter.all false
open Go renaming MapEntry->ab,underlying->ac,Operand->ad,wpList->ae,wpList_plain->ag,execOp->ai,resolve->ao,TypeId->ap,callsIn_wide->aq,callsIn_of_wp_marks->ar,info_parts->aw,maxLen->aB,run_takeDeferred->aF,results->aI,bodyPost_ret->aJ,grownBy_putObj'->aP,run_append_own->aS
open Go.Proofs renaming getElem?_lt'->aT,G0->a5
open Go.Instr renaming findNow->a6,sameNow->a7,findKey->a8,lookup->a9,mapUpdate->ba,keyThatStays->bc,field->bg
open Go.MapKept renaming run_getObj_map->bi,run_setObj_map->bj
open Go.World renaming cell?->bm,size_alloc->bo,grownBy_alloc->bp,putObj_heap_same->bq,putObj_heap_other->br,setCell->bs
open List renaming range->bv,ext_getElem->bw,mem_mapIdx->bA,filter_filter->bC,map_cons->bT,mem_of_getElem?->bX,getElem?_toArray->b1,mem_or_eq_of_mem_set->b5,find?_isSome->b7,mem_map_of_mem->b8,map_append->b9,getElem_of_mem->cd,mem_of_find?_eq_some->ce,find?_some->cf,mem_append_right->cg,size_toArray->ch,length_cons->ci,length_nil->cm,push_toArray->co,append_toArray->cp,nil_append->cq,cons_append->ct,length_append->cv,flatMap_append->cC,flatMap_cons->cQ,append_nil->c8,getElem?_cons_succ->c9,getElem?_cons_zero->da,foldl->db,append_assoc->dd,getD_eq_getElem?_getD->df,getElem?_map->di,map_toArray->dj,map_nil->dk
open Nat renaming le_refl->dp,zero_add->dq,reduceAdd->dt,reduceSub->du,zero_le->dv,lt_of_lt_of_le->dy,le_trans->dz,le_succ->dC,le_of_lt->dK,not_lt_zero->dL
open Go.Result renaming andThen->dO,andThen_ok->dPq,ok->dQ
open Array renaming mem_filter->dS,ext_getElem?->dT,getElem?_modify->dU,replicate_succ->d8,replicate_zero->d9
open Option renaming map_some->ea,none->eb,some->ed
open Go.Obj renaming cells->eh,map->ei,mapIter->ej,deferred->ek,loop->el
open Go.Lib renaming hid->em
open Go.Proofs.Tryz renaming func65->en,func68->ep,func4->eq,ntmps4->et,results6->eu,func51->ev,ntmps51->eA
open Go.RowKit.Below renaming refl->eD
open Go.Addr renaming add->eE
open Go.Value renaming oneCell'->eF,ownBlock->eI,agg->eM,int->eN,slice->eQ,map->eS,tuple->eT,bool->eV,pointer->e6,func->e9,string->fg,nilFunc->fi
open Go.KeepsOthers renaming alloc->fm,of_grownBy->fo,setCell->fp
open Option.some renaming injEq->ft,inj->fA
open Go.Proofs.Below renaming zQ->fB,on->fJ
open Go.Value.slice renaming inj->fP
open Go.IntWalk renaming i64_in->fV
open Go.aU renaming of_heap->fW
open Classical renaming byContradiction->fY
open Go.IntKind renaming i64->fZ
open Or renaming inl->f6,inr->f7
open Go.Ending renaming returned->f8
open Go.Fn renaming yield->f9,func->gb
open Go.Ground renaming data->gc
namespace Go.Proofs
open Go.RowKit Go.Instr
open Go.ChangeMaps (setBlock)
set_option maxRecDepth 100000
abbrev WE:=Int×Value×List Int×Int
def nD(x:WE):Value:=eM #[x.2.1,eN fZ x.2.2.2]
def Cx(i:Nat)(x:WE):ab:={ key:=eN fZ x.1,val:=nD x,born:=i }
def gi(R:List WE):Array ab:=(R.mapIdx Cx).toArray
structure jy(W:World)(b:Nat)(R:List WE):Prop where
 map:W.heap[b]?=some (ei (gi R) R.length)
 reads:∀x∈R,bB W x.2.1 x.2.2.1
 ne:∀x∈R,x.2.2.1≠[]
def jy.on{W a:World}{b:Nat}{R:List WE}(h:jy W b R)(c:Below W.heap.size W a):jy a b R:=
 ⟨(c.block _ (aT h.map)).trans h.map,λx d=>(h.reads x d).on c,h.ne⟩
def jy.made(w:World):jy (w.alloc (ei #[] 0)) w.heap.size []:=⟨au _ _,λ_ h=>(by cases h),λ_ h=>(by cases h)⟩
def yY:PL.underlying 89=some (.map 3 88):=by kernel_rfl
def V3(w:World):(zeroValue 88).run PL w=dQ (eM #[eQ none 0 0,eN fZ 0]) w:=by kernel_rfl
def Sv(k:Int):∀(R:List WE)(f:Nat->WE->ab)(a:Nat),(∀i x,(f i x).key=eN fZ x.1)->(∀i x,(f i x).val=nD x)->
 ∃r,a6 (.int fZ) (eN fZ k) (R.mapIdx f) a=some r/\(∀x,R.find? (λx=>x.1==k)=some x->∃j,r=some (j,nD x))/\(R.find? (λx=>x.1==k)=none->r=none)
 |[],f,a,_,_=>⟨none,rfl,λx h=>by simp at h,λ_=>rfl⟩
 |y::R,f,a,b,hv=>by
  rw[List.mapIdx_cons];by_cases e:y.1=k
  ·refine⟨some (a,nD y),by simp[a6,b,hv,a7,e],λx h=>?_,λh=>?_⟩
   ·simp_all
   ·simp[e]at h
  ·obtain⟨r,c,d,g⟩:=Sv k R (λi=>f (i+1)) (a+1) (λi x=>b _ x) (λi x=>hv _ x);refine⟨r,?_,λx h=>d x ?_,λh=>g ?_⟩
   ·have l:(k==y.1)=false:=by simpa using λh=>e h.symm
    simp only[a6,b,a7,l,if_true];simpa using c
   ·grind
   grind
def qn(k:Int)(R:List WE)(w:World):∃r,(a8 3 (eN fZ k) (gi R).toList).run PL w=dQ r w/\(∀x,R.find? (λx=>x.1==k)=some x->∃j,r=some (j,nD x))/\(R.find? (λx=>x.1==k)=none->r=none):=by
 obtain⟨r,a,b,c⟩:=Sv k R Cx 0 (λ_ _=>rfl) (λ_ _=>rfl);exact⟨r,by simp[a8,ac,aaj,gi,a],b,c⟩
def IJ{W:World}{b:Nat}{R:List WE}{k:Int}{x:WE}(h:W.heap[b]?=some (ei (gi R) R.length))(a:R.find? (λx=>x.1==k)=some x):(a9 89 (eS (some b)) (eN fZ k) false).run PL W=dQ (nD x) W:=by
 obtain⟨r,c,d,_⟩:=qn k R W;obtain⟨j,rfl⟩:=d x a;simp[a9,ac,yY,bi h,qz.check,c]
def Sw{W:World}{b:Nat}{R:List WE}{k:Int}{x:WE}(h:W.heap[b]?=some (ei (gi R) R.length))(a:R.find? (λx=>x.1==k)=some x):(a9 89 (eS (some b)) (eN fZ k) true).run PL W=dQ (eT #[nD x,eV true]) W:=by
 obtain⟨r,c,d,_⟩:=qn k R W;obtain⟨j,rfl⟩:=d x a;simp[a9,ac,yY,bi h,qz.check,c]
def Sx{W:World}{b:Nat}{R:List WE}{k:Int}(h:W.heap[b]?=some (ei (gi R) R.length))(c:R.find? (λx=>x.1==k)=none):(a9 89 (eS (some b)) (eN fZ k) true).run PL W=dQ (eT #[eM #[eQ none 0 0,eN fZ 0],eV false]) W:=by
 obtain⟨r,a,_,d⟩:=qn k R W;rw[d c]at a;simp[a9,ac,yY,bi h,qz.check,a,V3]
def jN{W d:World}{b:Nat}{o:Obj}{v:Value}{l:List Int}(hv:bB W v l)(hl:l≠[])(h:gv W d b)(hb:W.heap[b]?=some o)(e:∀c t f,o≠eh c t f):bB d v l:=by
 obtain⟨p,c,rfl,g⟩:=hv;refine⟨p,c,rfl,λi=>?_⟩;obtain⟨k,q,rfl,m,hc⟩:=g i;have n:k≠b:=by
  rintro rfl;have:=hc 0 (by omega);simp only[bm,hb]at this;cases o<;>first|exact e _ _ _ rfl|simp at this
 exact⟨k,q,rfl,by rw[h.size];exact m,λj r=>(h.cell (a:=⟨k,q+j,none⟩) n).trans (hc j r)⟩
def jy.put{W:World}{b:Nat}{R:List WE}(h:jy W b R){x:WE}(d:R.find? (λy=>y.1==x.1)=none)(f:bB W x.2.1 x.2.2.1)(g:x.2.2.1≠[]) :
 ∃w',(ba 89 (eS (some b)) (eN fZ x.1) (nD x)).run PL W=dQ () w'/\jy w' b (R++[x])/\gv W w' b:=by
 obtain⟨r,c,_,i⟩:=qn x.1 R W;rw[i d]at c;have hb:=aT h.map
 have a:gv W { W with heap:=W.heap.setIfInBounds b (ei ((gi R).push { key:=eN fZ x.1,val:=nD x,born:=R.length }) (R.length+1)) } b:=⟨rfl,rfl,rfl,by simp,λk l=>by
  grind⟩
 have j:gi (R++[x])=(gi R).push { key:=eN fZ x.1,val:=nD x,born:=R.length }:=by
  simp[gi,Cx,List.mapIdx_append]
 refine⟨_,?_,⟨?_,λy hy=>?_,λy hy=>?_⟩,a⟩
 ·simp[ba,ac,yY,bi h.map,qz.check,c,bj _ h.map]
 ·rw[j];simp[hb]
 ·rcases List.mem_append.1 hy with hy|hy
  ·exact jN (h.reads y hy) (h.ne y hy) a h.map (λ_ _ _ e=>by cases e)
  ·rw[List.mem_singleton.1 hy];exact jN f g a h.map (λ_ _ _ e=>by cases e)
 ·rcases List.mem_append.1 hy with hy|hy
  ·exact h.ne y hy
  grind
def ag6(R:List WE):(gi R).toList.map (·.born)=bv R.length:=by
 apply bw
 ·simp[gi]
 ·intro i a b;simp[gi,Cx]
def A5{R:List WE}{e:ab}(h:e∈(gi R).toList):∃j x,R[j]?=some x/\e=Cx j x:=by
 simp only[gi,bA]at h
 grind
def tE(W:World)(r b n:Nat)(seen:Array Nat):Prop:=W.heap[r]?=some (ej (some b) n seen n)
def V4{W:World}{b:Nat}{R:List WE}(h:jy W b R):(Instr.range 89 (eS (some b))).run PL W=dQ (e6 (some ⟨W.heap.size,0,none⟩)) (W.alloc (ej (some b) R.length #[] R.length)):=
 run_range_map W 89 3 88 b _ _ yY h.map
def Fs(n:Nat)(seen:Array Nat):Nat:=((bv n).filter λj=>!seen.contains j).length
def IK{n j:Nat}{seen:Array Nat}(b:j<n)(hs:seen.contains j=false):Fs n (seen.push j)<Fs n seen:=by
 unfold Fs;have a:(bv n).filter (λq=>!(seen.push j).contains q)=((bv n).filter λq=>!seen.contains q).filter λq=>decide (¬q=j):=by
  rw[bC]
  grind
 rw[a];refine List.length_filter_lt_length_iff_exists.2 ⟨j,?_,by simp⟩
 grind
def zX{ops:Array Oper}{rest:List Oper}{o:Oper}{a:Act}{Q:Exit->Act->World->Prop}(w:World)(hg:o.guard=none)(it:ad)(q:o.op=Op.next it false)(r b:Nat)(R:List WE)(seen:Array Nat)
 (s:a.eval it=e6 (some ⟨r,0,none⟩)) (g:tE w r b R.length seen) (c:jy w b R)
 (z:(∀j,j<R.length->seen.contains j=true)->ae PL ops Q rest (a.put o.dst (eT #[eV false])) w)
 (i:∀j x w',R[j]?=some x->seen.contains j=false->tE w' r b R.length (seen.push j)->gv w w' r->jy w' b R->(Instr.entry (e6 (some ⟨r,0,none⟩))).run PL w'=dQ (eT #[eN fZ x.1,nD x]) w'->
   ae PL ops Q rest (a.put o.dst (eT #[eV true,eN fZ x.1,nD x])) w'):ae PL ops Q (o::rest) a w:=by
 refine ag hg λE hK'=>?_;unfold Oper.wp
 rcases run_next_at (P:=PL) w o.type r b R.length R.length seen (gi R) R.length g c.map (λx A=>by
  obtain⟨j,y,d,rfl⟩:=A5 A
  exact(List.getElem?_eq_some_iff.1 d).1) (dp _) with⟨hl,l⟩|⟨e,B,w1,h,l⟩
 ·simp[ai,q,s,l,dO];refine hK' _ _ (z λj d=>?_);have f:Cx j R[j]∉leftOf (gi R) seen:=by grind
  have C:Cx j R[j]∈gi R:=by
   simp only[gi,List.mem_toArray,bA];exact⟨j,d,rfl⟩
  simp only[leftOf,dS,not_and]at f;have:=f C;simpa[Cx]using this
 ·have m:e∈(gi R).toList/\seen.contains e.born=false:=by
   simp only[leftOf,Array.mem_toList_iff,dS]at B
   grind
  obtain⟨j,x,d,rfl⟩:=A5 m.1;have hs:seen.contains j=false:=m.2;simp[ai,q,s,l,dO];have n:=aT g
  have t:w1.heap=w.heap:=by rcases h with rfl|rfl<;>rfl
  have D:b≠r:=by rintro rfl;have i:=c.map;have f:w.heap[b]?=_:=g;rw[i]at f;cases f
  have p:gv w (setBlock w1 r (ej (some b) R.length (seen.push j) R.length)) r:=by
   refine⟨by rcases h with rfl|rfl<;>rfl,by rcases h with rfl|rfl<;>rfl,by rcases h with rfl|rfl<;>rfl,by simp[setBlock,t],λk F=>?_⟩;show(w1.heap.setIfInBounds r _)[k]?=_
   grind
  have u:tE (setBlock w1 r (ej (some b) R.length (seen.push j) R.length)) r b R.length (seen.push j):=by
   show(w1.heap.setIfInBounds r _)[r]?=_;rw[t];simp[n]
  have v:jy (setBlock w1 r (ej (some b) R.length (seen.push j) R.length)) b R:=⟨(p.block _ D).trans c.map,λy hy=>jN (c.reads y hy) (c.ne y hy) p g (λ_ _ _ e=>by cases e),c.ne⟩
  refine hK' _ _ (i j x _ d hs u p v ?_);exact run_entry_at _ r b R.length seen (gi R) R.length (Cx j x) u v.map m.1 (by rw[ag6];exact List.nodup_range)
def tF{ops:Array Oper}{rest:List Oper}{o:Oper}{a:Act}{Q:Exit->Act->World->Prop}(w:World)(hg:o.guard=none)(m x v:ad)(c:o.op=Op.mapUpdate 89 m x v\/o.op=Op.insert 89 m x v)(b:Nat)(R:List WE)(y:WE)
 (d:a.eval m=eS (some b)) (e:a.eval x=eN fZ y.1) (hv:a.eval v=nD y) (h:jy w b R) (hy:R.find? (λz=>z.1==y.1)=none) (f:bB w y.2.1 y.2.2.1) (g:y.2.2.1≠[])
 (i:∀w',jy w' b (R++[y])->gv w w' b->ae PL ops Q rest (a.put o.dst undef) w'):ae PL ops Q (o::rest) a w:=by
 refine ag hg λn hK'=>?_;obtain⟨w',j,k,l⟩:=h.put hy f g;unfold Oper.wp
 rcases c with c|c<;>
 ·simp[ai,c,d,e,hv,j,dO];exact hK' _ _ (i w' k l)
def strip(x:WE):Int×List Int×Int:=(x.1,x.2.2)
def ac2(k:Int):∀(es:List ab)(a:List Int)(b:Nat),es.map (·.key)=a.map (λn=>eN fZ n)->k∈a->∃j e,a6 (.int fZ) (eN fZ k) es b=some (some (b+j,e.val))/\es[j]?=some e/\e.key=eN fZ k/\a[j]?=some k
 |[],a,b,h,c=>by
  simp_all
 |e::es,[],b,h,c=>by cases c
 |e::es,y::a,b,h,c=>by
  rw[bT,bT]at h;obtain⟨d,f⟩:=List.cons.inj h;by_cases e1:y=k
  ·subst e1;exact⟨0,e,by simp[a6,d,a7],rfl,d,rfl⟩
  ·have g:k∈a:=by
    grind
   obtain⟨j,i,q,l,m,o⟩:=ac2 k es a (b+1) f g;have p:(k==y)=false:=by grind
   refine⟨j+1,i,?_,by simpa using l,m,by simpa using o⟩;simp only[a6,d,a7,p,if_true]
   grind
def ad8(k:Int):sameBits 10000 (eN fZ k) (eN fZ k)=true:=by simp[sameBits]
def agZ{w:World}{b:Nat}{l:List Int}(h:aU w (λn:Int=>eN fZ n) b l){x:Int}(r:x∈l)(s:PL.underlying 85=some (.map 3 4)) :
 ∃w',(ba 85 (eS (some b)) (eN fZ x) (eV true)).run PL w=dQ () w'/\aU w' (λn:Int=>eN fZ n) b l/\gv w w' b:=by
 obtain⟨es,c,d,m,o⟩:=h;obtain⟨j,e,p,t,q,_⟩:=ac2 x es.toList l 0 m r;rw[dq]at p;have hf:(a8 3 (eN fZ x) es.toList).run PL w=dQ (some (j,e.val)) w:=by simp[a8,ac,aaj,p]
 have a:es[j]?=some e:=by grind
 have u:es.modify j (λe=>{ e with key:=eN fZ x,val:=eV true })=es:=by
  apply dT;intro i;rw[dU]
  split
  ·rename_i f;subst f;rw[a,ea];have hv:=o e (bX t);rw[<-hv,<-q]
  ·rfl
 have hb:b<w.heap.size:=(Array.getElem?_eq_some_iff.1 d).1;refine⟨{ w with heap:=w.heap.setIfInBounds b (ei es c) },?_,⟨es,c,by simp[hb],m,o⟩,rfl,rfl,rfl,by simp,λk v=>?_⟩
 ·have g:=ad8 x;simp[ba,ac,s,bi d,qz.check,hf,a,q,bc,g,bj _ d,u]
 grind
def ad9{w:World}{b:Nat}{l:List Int}(h:aU w (λn:Int=>eN fZ n) b l)(x:Int)(a:PL.underlying 85=some (.map 3 4)) :
 ∃w',(ba 85 (eS (some b)) (eN fZ x) (eV true)).run PL w=dQ () w'/\(∃l',aU w' (λn:Int=>eN fZ n) b l'/\∀y,y∈l'↔y∈l\/y=x)/\gv w w' b:=by
 by_cases c:x∈l
 ·obtain⟨w',d,e,f⟩:=agZ h c a
  grind
 ·obtain⟨w',d,e,f⟩:=h.put qz a c
  grind
def aby(w:World){ops:Array Oper}{rest:List Oper}{o:Oper}{a:Act}{Q:Exit->Act->World->Prop}
 (hg:o.guard=none) (m x v:ad) (c:o.op=Op.mapUpdate 85 m x v) (d:PL.underlying 85=some (.map 3 4))
 (b:Nat) (l:List Int) (e:a.eval m=eS (some b)) (h:aU w (λn:Int=>eN fZ n) b l) (y:Int) (f:a.eval x=eN fZ y) (hv:a.eval v=eV true)
 (g:∀w' l',aU w' (λn:Int=>eN fZ n) b l'->(∀z,z∈l'↔z∈l\/z=y)->gv w w' b->ae PL ops Q rest (a.put o.dst undef) w'):ae PL ops Q (o::rest) a w:=by
 refine ag hg λq hK'=>?_;obtain⟨w',i,⟨l',j,k⟩,p⟩:=ad9 h y d;unfold Oper.wp;simp[ai,c,e,f,hv,i,dO];exact hK' _ _ (g w' l' j k p)
def ah0(R:List WE):(gi R).toList.map (·.key)=(R.map λx=>x.1).map λn=>eN fZ n:=by
 apply bw
 ·simp[gi]
 ·intro i a b;simp[gi,Cx]
def jy.G0{W:World}{b:Nat}{R:List WE}(h:jy W b R)(q:(R.map λx=>x.1).Nodup){x:WE}(r:bB W x.2.1 x.2.2.1)(l:x.2.2.1≠[]) :
 ∃w' R',(ba 89 (eS (some b)) (eN fZ x.1) (nD x)).run PL W=dQ () w'/\jy w' b R'/\R'.map strip=a5 (R.map strip) (strip x)/\gv W w' b:=by
 by_cases s:x.1∈R.map λx=>x.1
 ·obtain⟨j,e,g,t,m,C⟩:=ac2 x.1 (gi R).toList (R.map λx=>x.1) 0 (ah0 R) s;rw[dq]at g;have hf:(a8 3 (eN fZ x.1) (gi R).toList).run PL W=dQ (some (j,e.val)) W:=by simp[a8,ac,aaj,g]
  have f:(gi R)[j]?=some e:=by grind
  have c:j<R.length:=by
   grind
  have u:e=Cx j R[j]:=by
   have:(gi R)[j]?=some (Cx j R[j]):=by simp[gi,c]
   grind
  have d:R[j].1=x.1:=by
   grind
  have v:(gi R).modify j (λe=>{ e with key:=eN fZ x.1,val:=nD x })=gi (R.set j x):=by
   apply dT;intro i;rw[dU];by_cases a:j=i
   ·subst a;rw[if_pos rfl,f,ea,u];simp[gi,Cx,c]
   ·rw[if_neg a];simp only[gi,b1,List.getElem?_mapIdx,List.getElem?_set_ne a]
  have hb:=aT h.map
  have n:gv W { W with heap:=W.heap.setIfInBounds b (ei (gi (R.set j x)) R.length) } b:=⟨rfl,rfl,rfl,by simp,λk q=>by
   grind⟩
  refine⟨_,R.set j x,?_,⟨?_,λy hy=>?_,λy hy=>?_⟩,?_,n⟩
  ·have o:=ad8 x.1;have p:e.key=eN fZ x.1:=m;simp[ba,ac,yY,bi h.map,qz.check,hf,f,p,bc,o,bj _ h.map,v]
  ·simp[hb]
  ·rcases b5 hy with hy|rfl
   ·exact jN (h.reads y hy) (h.ne y hy) n h.map (λ_ _ _ e=>by cases e)
   ·exact jN r l n h.map (λ_ _ _ e=>by cases e)
  ·rcases b5 hy with hy|rfl
   ·exact h.ne y hy
   ·exact l
  ·unfold a5;have hs:((R.map strip).find? λy=>y.1==(strip x).1).isSome=true:=by
    rw[b7];exact⟨strip R[j],b8 (List.getElem_mem c),by simp[strip,d]⟩
   rw[if_pos hs,List.map_set];apply bw
   ·simp
   ·intro i w D;have hi:i<R.length:=by simpa using w
    by_cases a:j=i
    ·subst a;simp[strip,d]
    ·rw[List.getElem_set_ne a]
     have:R[i].1≠x.1:=λe=>a (by
      have:=aaJ q (i:=j) (j:=i) (by simpa using c) (by simpa using hi) (by simp[d,e])
      exact this)
     simp[strip,this]
 ·have A:R.find? (λy=>y.1==x.1)=none:=by
   grind
  obtain⟨w',g,t,m⟩:=h.put A r l;refine⟨w',R++[x],g,t,?_,m⟩;unfold a5;rw[if_neg,b9]
  ·rfl
  ·rw[b7];rintro⟨y,hy,e⟩;obtain⟨z,B,rfl⟩:=List.mem_map.1 hy;exact s (List.mem_map.2 ⟨z,B,by simpa[strip]using e⟩)
def abi{ops:Array Oper}{rest:List Oper}{o:Oper}{a:Act}{Q:Exit->Act->World->Prop}(w:World)(hg:o.guard=none)(m x v:ad)(c:o.op=Op.mapUpdate 89 m x v\/o.op=Op.insert 89 m x v)(b:Nat)(R:List WE)(y:WE)
 (d:a.eval m=eS (some b)) (e:a.eval x=eN fZ y.1) (hv:a.eval v=nD y) (h:jy w b R) (f:(R.map λx=>x.1).Nodup) (g:bB w y.2.1 y.2.2.1) (i:y.2.2.1≠[])
 (j:∀w' R',jy w' b R'->R'.map strip=G0 (R.map strip) (strip y)->gv w w' b->ae PL ops Q rest (a.put o.dst undef) w'):ae PL ops Q (o::rest) a w:=by
 refine ag hg λq hK'=>?_;obtain⟨w',R',k,l,n,p⟩:=h.G0 f g i;unfold Oper.wp
 rcases c with c|c<;>
 ·simp[ai,c,d,e,hv,k,dO];exact hK' _ _ (j w' R' l n p)
end Go.Proofs
namespace Go.Proofs
open Go.RowKit
set_option maxRecDepth 100000
set_option maxHeartbeats 4000000
def NK{C:CD}(hc:C.cx=0){i:Nat}(hi:i<C.n3):(0<=(C.x3 i).1/\(C.x3 i).1<C.p)/\(0<=(C.x3 i).2.1/\(C.x3 i).2.1<C.p)/\(C.x3 i).1≠(C.x3 i).2.1/\(1<=(C.x3 i).2.2/\(C.x3 i).2.2<=999)/\∀j,j<i->eB (C.x3 j).1 (C.x3 j).2.1≠eB (C.x3 i).1 (C.x3 i).2.1:=by
 have b:kz C.p C.n3 C.x3=0:=ck hc 2 (by omega);unfold kz at b
 split at b
 ·cases b
 ·have a:=ck b i hi;unfold fQ at a
  split at a
  ·rename_i hb
   split at a
   ·cases a
   ·rename_i c
    split at a
    ·rename_i hl
     split at a
     ·cases a
     ·rename_i d;simp only[Bool.and_eq_true,bO,decide_eq_true_eq]at hb hl
      grind
    ·cases a
  ·cases a
def afF{C:CD}(hc:C.cx=0):C.n3<=9:=by
 have a:kz C.p C.n3 C.x3=0:=ck hc 2 (by omega);unfold kz at a
 grind
def H9{C:CD}(hc:C.cx=0):1<=C.p/\C.p<=6:=cK (ck hc 0 (by omega))
def CD.edge(C:CD)(P:Int->Prop)(a b d:Int):Prop:=∃i,i<C.n3/\¬P (i:Nat)/\(C.x3 i).2.2=d/\((C.x3 i).1=a/\(C.x3 i).2.1=b\/(C.x3 i).1=b/\(C.x3 i).2.1=a)
def sx{C:CD}(hc:C.cx=0){P:Int->Prop}:∀a b d,C.edge P a b d->0<d:=λa b d⟨i,hi,_,e,_⟩=>by have:=(NK hc hi).2.2.2.1;omega
def NQ{C:CD}(hc:C.cx=0){P:Int->Prop}{a b d:Int}(h:C.edge P a b d):(0<=a/\a<C.p)/\(0<=b/\b<C.p)/\d<=999/\a≠b:=by
 obtain⟨i,hi,_,e,h⟩:=h;have:=NK hc hi;omega
theorem ah1(a b:Int):eB a b=eB b a:=by simp only[eB];grind
def abl{C:CD}(hc:C.cx=0){P:Int->Prop}:∀a b d d',C.edge P a b d->C.edge P a b d'->d=d':=λa b d d'⟨i,hi,_,e,h⟩⟨j,f,_,g,k⟩=>by
 have c:eB (C.x3 i).1 (C.x3 i).2.1=eB (C.x3 j).1 (C.x3 j).2.1:=by
  grind[ah1]
 have:i=j:=by
  rcases Nat.lt_trichotomy i j with h|h|h
  ·exact absurd c ((NK hc f).2.2.2.2 i h)
  ·exact h
  ·exact absurd c.symm ((NK hc hi).2.2.2.2 j h)
 subst this;omega
def abO(L:List Int):Nat:=((bv 6).filter fun(a:Nat)=>!(decide ((a:Int)∈L))).length
def aaS{L:List Int}{a:Int}(c:0<=a)(d:a<6)(e:a∉L):abO (L++[a])<abO L:=by
 unfold abO;have b:((bv 6).filter fun(q:Nat)=>!(decide ((q:Int)∈L++[a])))=((bv 6).filter fun(q:Nat)=>!(decide ((q:Int)∈L))).filter fun(q:Nat)=>decide (¬(q:Int)=a):=by
  rw[bC]
  grind
 rw[b];refine List.length_filter_lt_length_iff_exists.2 ⟨a.toNat,?_,by simp;omega⟩
 grind
structure RDx(C:CD)(P:Int->Prop)(s:Int)(R:List WE)(L:List Int):Prop where
 dij:Dij (C.edge P) s (R.map strip) L
 bd:∀x∈R,x.2.2.1.length<=L.length+1/\0<=x.2.2.2/\x.2.2.2<=999*L.length/\0<=x.1/\x.1<C.p
 lb:∀a∈L,0<a
 cnt:L.length+abO L<=6
def RDx.first{C:CD}(P:Int->Prop){s:Int}(hs:0<=s/\s<C.p)(v:Value):RDx C P s [(s,v,[s],0)] []:=
 ⟨Dij.first _ _,λx a=>by grind,λ_ h=>(by cases h),by decide⟩
structure Sel(L:List Int)(R:List WE)(seen:Array Nat)(cur:Option WE):Prop where
 no:cur=none->∀j x,R[j]?=some x->seen.contains j=true->x.1∈L
 yes:∀x,cur=some x->x∈R/\x.1∉L/\∀j y,R[j]?=some y->seen.contains j=true->y.1∉L->N5 x.2.2 y.2.2
def aoM:Option WE->Int
 |none=>-1
 |some x=>x.1
def Sel.start(L:List Int)(R:List WE):Sel L R #[] none:=⟨λ_ _ _ _ h=>by simp at h,λ_ h=>by cases h⟩
def abm{seen:Array Nat}{i j:Nat}(h:(seen.push j).contains i=true):seen.contains i=true\/i=j:=by
 grind
def Sel.skip{L:List Int}{R:List WE}{seen:Array Nat}{cur:Option WE}(h:Sel L R seen cur){j:Nat}{x:WE}(a:R[j]?=some x)(b:x.1∈L):Sel L R (seen.push j) cur:=
 ⟨λe i y hi hs=>by
   rcases abm hs with hs|rfl
   ·exact h.no e i y hi hs
   grind,λy e=>by
   obtain⟨c,d,f⟩:=h.yes y e
   grind⟩
def Sel.first{L:List Int}{R:List WE}{seen:Array Nat}(h:Sel L R seen none){j:Nat}{x:WE}(a:R[j]?=some x)(b:x.1∉L):Sel L R (seen.push j) (some x):=
 ⟨λe=>by(cases e),λy e=>by
   cases e;refine⟨bX a,b,λi z hi hs c=>?_⟩
   rcases abm hs with hs|rfl
   ·exact absurd (h.no rfl i z hi hs) c
   ·rw[a]at hi;cases hi;exact nq _⟩
def Sel.better{L:List Int}{R:List WE}{seen:Array Nat}{y:WE}(h:Sel L R seen (some y)){j:Nat}{x:WE}(a:R[j]?=some x)(b:x.1∉L)(hb:wlt x.2.2 y.2.2=true):Sel L R (seen.push j) (some x):=
 ⟨λe=>by(cases e),λz e=>by
   cases e;refine⟨bX a,b,λi z hi hs c=>?_⟩
   rcases abm hs with hs|rfl
   ·exact nk (NI hb) ((h.yes y rfl).2.2 i z hi hs c)
   ·rw[a]at hi;cases hi;exact nq _⟩
def Sel.AW{L:List Int}{R:List WE}{seen:Array Nat}{y:WE}(h:Sel L R seen (some y)){j:Nat}{x:WE}(a:R[j]?=some x)(hb:wlt x.2.2 y.2.2=false):Sel L R (seen.push j) (some y):=
 ⟨λe=>by(cases e),λz e=>by
   cases e;obtain⟨b,c,d⟩:=h.yes y rfl;refine⟨b,c,λi z hi hs f=>?_⟩
   rcases abm hs with hs|rfl
   ·exact d i z hi hs f
   ·rw[a]at hi;cases hi;exact hb⟩
def Sel.all{L:List Int}{R:List WE}{seen:Array Nat}{cur:Option WE}(h:Sel L R seen cur)(b:∀j,j<R.length->seen.contains j=true):(cur=none->∀x∈R,x.1∈L)/\∀x,cur=some x->x∈R/\x.1∉L/\∀y∈R,y.1∉L->N5 x.2.2 y.2.2:=
 ⟨λe x c=>by
   obtain⟨j,a,rfl⟩:=cd c;exact h.no e j _ (List.getElem?_eq_getElem a) (b j a),λx e=>by
   obtain⟨d,f,g⟩:=h.yes x e;refine⟨d,f,λy hy i=>?_⟩;obtain⟨j,a,rfl⟩:=cd hy
   grind⟩
def abz(R:List WE):((R.map strip).map λx=>x.1)=R.map λx=>x.1:=by rw[List.map_map];rfl
def RDx.nodup{C:CD}{P:Int->Prop}{s:Int}{R:List WE}{L:List Int}(h:RDx C P s R L):(R.map λx=>x.1).Nodup:=by
 have:=h.dij.key;rwa[abz]at this
def aax{R:List WE}(h:(R.map λx=>x.1).Nodup){x:WE}(a:x∈R):R.find? (λy=>y.1==x.1)=some x:=by
 cases e:R.find? (λy=>y.1==x.1) with
 |none=>
  grind
 |some y=>
  have hy:=ce e;have b:y.1=x.1:=by simpa using cf e
  obtain⟨i,hi,rfl⟩:=cd a;obtain⟨j,c,rfl⟩:=cd hy;have:j=i:=aaJ h (i:=j) (j:=i) (by simpa using c) (by simpa using hi) (by simpa using b);subst this;rfl
structure SCx(C:CD)(P:Int->Prop)(s:Int)(R0:List WE)(L:List Int)(x:WE)(q:Nat)(R:List WE):Prop where
 scan:Scan (C.edge P) s (R0.map strip) (L++[x.1]) (strip x) (λb d=>∃i,i<q/\i<C.n3/\¬P (i:Nat)/\(C.x3 i).2.2=d/\((C.x3 i).1=x.1/\(C.x3 i).2.1=b\/(C.x3 i).1=b/\(C.x3 i).2.1=x.1)) (R.map strip)
 bd:∀y∈R,y.2.2.1.length<=L.length+2/\0<=y.2.2.2/\y.2.2.2<=999*(L.length+1)/\0<=y.1/\y.1<C.p
section
variable {C:CD}{P:Int->Prop}{s:Int}{R0 R:List WE}{L:List Int}{x:WE}{q:Nat}
def SCx.nodup(h:SCx C P s R0 L x q R):(R.map λx=>x.1).Nodup:=by
 have:=h.scan.key;rwa[abz]at this
def SCx.start(h:RDx C P s R L)(x:WE):SCx C P s R L x 0 R:=
 ⟨(Scan.start h.dij (L++[x.1]) (strip x)).more λb d⟨i,hi,_⟩=>by omega,λy hy=>by have:=h.bd y hy;omega⟩
def SCx.at_(a:x∈R0)(h:SCx C P s R0 L x q R):∃y,R.find? (λy=>y.1==x.1)=some y/\strip y=strip x:=by
 have:=h.scan.kept (strip x) (b8 a) (cg _ (List.mem_singleton.2 rfl));obtain⟨y,hy,e⟩:=List.mem_map.1 this;have e1:y.1=x.1:=congrArg (λz:Int×List Int×Int=>z.1) e;have:=aax h.nodup hy
 grind
def SCx.skip(h:SCx C P s R0 L x q R)(a:P (q:Nat)\/((C.x3 q).1≠x.1/\(C.x3 q).2.1≠x.1)):SCx C P s R0 L x (q+1) R:=
 ⟨h.scan.more λb d⟨i,hi,c,e,f,g⟩=>by
   grind,h.bd⟩
def agt(a:q<C.n3)(b:¬P (q:Nat))(c:(C.x3 q).1=x.1\/(C.x3 q).2.1=x.1):C.edge P x.1 ((C.x3 q).1+(C.x3 q).2.1-x.1) (C.x3 q).2.2:=by
 refine⟨q,a,b,rfl,?_⟩
 grind
def ac3(a:(C.x3 q).1=x.1\/(C.x3 q).2.1=x.1)(b d:Int)(h:∃i,i<q+1/\i<C.n3/\¬P (i:Nat)/\(C.x3 i).2.2=d/\((C.x3 i).1=x.1/\(C.x3 i).2.1=b\/(C.x3 i).1=b/\(C.x3 i).2.1=x.1)) :
 (∃i,i<q/\i<C.n3/\¬P (i:Nat)/\(C.x3 i).2.2=d/\((C.x3 i).1=x.1/\(C.x3 i).2.1=b\/(C.x3 i).1=b/\(C.x3 i).2.1=x.1))\/b=(C.x3 q).1+(C.x3 q).2.1-x.1/\d=(C.x3 q).2.2:=by
 grind
def SCx.old(hc:C.cx=0)(a:RDx C P s R0 L)(j:x∈R0)(h:SCx C P s R0 L x q R)(k:q<C.n3)(l:¬P (q:Nat))(c:(C.x3 q).1=x.1\/(C.x3 q).2.1=x.1)(f:(C.x3 q).1+(C.x3 q).2.1-x.1∈L++[x.1]):SCx C P s R0 L x (q+1) R:=by
 have g:=agt k l c;have i:(C.x3 q).1+(C.x3 q).2.1-x.1∈L:=by
  rcases List.mem_append.1 f with h|h
  ·exact h
  ·exact absurd (List.mem_singleton.1 h).symm (NQ hc g).2.2.2
 obtain⟨y,hy,e⟩:=a.dij.sub _ i;refine⟨h.scan.more λb d hd=>?_,h.bd⟩
 rcases ac3 c b d hd with m|⟨rfl,rfl⟩
 ·exact f6 m
 ·refine f7 ⟨y,h.scan.kept y hy (by rw[e];exact f),e,a.dij.EZ y hy (by rw[e];exact i) _ _ ?_⟩;rw[e];exact(a.dij.walk _ (b8 j)).step g
def SCx.AW(hc:C.cx=0)(h:SCx C P s R0 L x q R)(a:(C.x3 q).1=x.1\/(C.x3 q).2.1=x.1){y:WE}(hy:y∈R)(e:y.1=(C.x3 q).1+(C.x3 q).2.1-x.1)(hb:wlt (x.2.2.1++[(C.x3 q).1+(C.x3 q).2.1-x.1],x.2.2.2+(C.x3 q).2.2) y.2.2=false):SCx C P s R0 L x (q+1) R:=by
 refine⟨h.scan.more λb d hd=>?_,h.bd⟩
 rcases ac3 a b d hd with c|⟨rfl,rfl⟩
 ·exact f6 c
 ·exact f7 ⟨strip y,b8 hy,e,hb⟩
def SCx.put(hc:C.cx=0)(l:RDx C P s R0 L)(i:x∈R0)(h:SCx C P s R0 L x q R)(m:q<C.n3)(n:¬P (q:Nat))(j:(C.x3 q).1=x.1\/(C.x3 q).2.1=x.1)(o:(C.x3 q).1+(C.x3 q).2.1-x.1∉L++[x.1])
 (c:∀y∈R,y.1=(C.x3 q).1+(C.x3 q).2.1-x.1->wlt (x.2.2.1++[(C.x3 q).1+(C.x3 q).2.1-x.1],x.2.2.2+(C.x3 q).2.2) y.2.2=true) {R':List WE}
 (k:R'.map strip=G0 (R.map strip) ((C.x3 q).1+(C.x3 q).2.1-x.1,x.2.2.1++[(C.x3 q).1+(C.x3 q).2.1-x.1],x.2.2.2+(C.x3 q).2.2)):SCx C P s R0 L x (q+1) R':=by
 have f:=agt m n j;have p:strip x∈R.map strip:=h.scan.kept (strip x) (b8 i) (cg _ (List.mem_singleton.2 rfl));refine⟨?_,λy hy=>?_⟩
 ·rw[k];refine h.scan.put (b:=(C.x3 q).1+(C.x3 q).2.1-x.1) (d:=(C.x3 q).2.2) f p o (λy hy e=>?_) (ac3 j);obtain⟨z,g,rfl⟩:=List.mem_map.1 hy;exact NI (c z g e)
 ·have a:strip y∈R'.map strip:=b8 hy;rw[k]at a
  rcases acO a with e|⟨a,_⟩
  ·have e1:y.1=(C.x3 q).1+(C.x3 q).2.1-x.1:=congrArg Prod.fst e;have r:y.2.2.1=x.2.2.1++[(C.x3 q).1+(C.x3 q).2.1-x.1]:=congrArg (λz=>z.2.1) e;have t:y.2.2.2=x.2.2.2+(C.x3 q).2.2:=congrArg (λz=>z.2.2) e;have hb:=l.bd x i;have hi:=NQ hc f;have u:=sx hc _ _ _ f
   grind
  ·obtain⟨z,g,e⟩:=List.mem_map.1 a;have hb:=h.bd z g;have e1:z.1=y.1:=congrArg (λz:Int×List Int×Int=>z.1) e;have r:z.2.2=y.2.2:=congrArg (λz:Int×List Int×Int=>z.2) e
   grind
def SCx.stop(hc:C.cx=0)(e:RDx C P s R0 L)(g:x∈R0)(c:x.1∉L)(o:0<x.1)(k:∀y∈R0,y.1∉L->N5 x.2.2 y.2.2)(h:SCx C P s R0 L x q R)(p:C.n3<=q):RDx C P s R (L++[x.1]):=by
 have l:=(e.bd x g).2.2.2;have r:=H9 hc;refine⟨Scan.stop (sx hc) (abl hc) e.dij (b8 g) c (λy hy m=>?_) h.scan (λb d⟨i,hi,j⟩=>⟨i,by omega,hi,j⟩),λy hy=>?_,λa f=>?_,?_⟩
 ·obtain⟨z,n,rfl⟩:=List.mem_map.1 hy;exact k z n m
 ·have:=h.bd y hy
  grind
 ·rcases List.mem_append.1 f with f|f
  ·exact e.lb a f
  grind
 ·have j:=aaS (L:=L) (a:=x.1) (by omega) (by omega) c;have t:=e.cnt
  grind
end
def RDx.none{C:CD}{P:Int->Prop}{s:Int}{R:List WE}{L:List Int}(hc:C.cx=0)(h:RDx C P s R L)(b:∀x∈R,x.1∈L):R.find? (λx=>x.1==0)=eb/\s9 (C.edge P) s 0 eb:=by
 have c:∀x∈R,x.1≠0:=λx d e=>by have:=h.lb _ (b x d);omega
 refine⟨by grind,λl n=>h.dij.none (sx hc) (abl hc) (λy hy=>?_) (λy hy=>?_)⟩
 ·obtain⟨z,a,rfl⟩:=List.mem_map.1 hy;exact b z a
 ·obtain⟨z,a,rfl⟩:=List.mem_map.1 hy;exact c z a
def RDx.some{C:CD}{P:Int->Prop}{s:Int}{R:List WE}{L:List Int}(hc:C.cx=0)(h:RDx C P s R L){x:WE}(a:x∈R)(b:x.1∉L)(e:∀y∈R,y.1∉L->N5 x.2.2 y.2.2)(j:x.1<=0):R.find? (λx=>x.1==0)=ed x/\s9 (C.edge P) s 0 (ed x.2.2):=by
 have c:x.1=0:=by have:=h.bd x a;omega
 have hf:=aax h.nodup a;rw[c]at hf;have d:=h.dij.walk _ (b8 a);refine⟨hf,?_,λl n f=>?_⟩
 ·have:(strip x).1=0:=c;rw[this]at d;exact d
 ·refine h.dij.top (sx hc) (abl hc) (x:=strip x) b (λy hy g=>?_) (by rw[show(strip x).1=0 from c];exact f);obtain⟨z,i,rfl⟩:=List.mem_map.1 hy;exact e z i g
def s9.unique{E:Int->Int->Int->Prop}{s a:Int}{r b:Option F5}(h:s9 E s a r)(c:s9 E s a b):r=b:=by
 cases r with
 |none=>
  cases b with
  |none=>rfl
  |some y=>exact absurd c.1 (h _ _)
 |some x=>
  cases b with
  |none=>exact absurd h.1 (c _ _)
  |some y=>exact congrArg _ (ahy (h.2 _ _ c.1) (c.2 _ _ h.1))
open Go.Shelf
def AbT{b:Type}(B:Nat)(J:b->World->Prop):Prop:=
 ∀s W a row,J s W->W.grownBy a row->(∀r,row=some r->B<=r/\∃c t,W.heap[r]?=some (eh c t)/\t≠71/\t≠56)->J s a
def afQ{c:Type}(n:Nat)(gf:Nat)(lb:Array Value)(f:c->Array Value)(g:World->World->Prop)(xs:List c)(St:World->Prop):Prop:=
 ∀(l:Nat)(J:List c->World->Prop)(W:World),St W->AbT W.heap.size J->
  (∀a x d,J a d->a++[x] <+: xs->YieldAt Fence.wide (n-1) PL l (f x) d λe b=>e=f8 (eV true)/\J (a++[x]) b/\g d b)->
  J [] W->CallsIn Fence.wide n PL gf (#[e9 (f9 l) #[] #[]]++lb) W λe b=>(∃v,e=f8 v)/\J xs b
attribute [local go_sem] Oper.semAt_some
def aaR.grown{B:Nat}{w w':World}(h:aaR B w w'):w.grownBy w' (some B):=
 ⟨h.os,h.tape,h.output,h.size,λk a b=>h.block k a (λe=>b (by rw[e]))⟩
structure StV(C:CD)(g n0 Bc Bg:Nat)(wb W:World):Prop where
 low:∀k,k<n0->W.heap[k]?=wb.heap[k]?
 size:n0<=W.heap.size
 box:W.heap[Bc]?=some (eh C.val 78)
 PM:W.heap[Bg]?=some (eh #[eN fZ g] 3)
def yT(n:Nat)(hn:2<=n)(v w n0 g:Nat)(C:CD)(s:yR C g)(P:World)(j:P.heap.size=n0)(hA:C.At P):afQ n 65 #[e6 (some ⟨v,0,none⟩),e6 (some ⟨w,0,none⟩)] VS (Fg n0) (mD C g C.n4) (StV C g n0 v w P):=by
 intro l J W L hJ hY h0;have HA:=em hA;have Q:=em s;have M:=em L;have HJ:=em hJ;have HY:=em hY;have hA0:=em (hA.keep (by rw[j];exact L.low) (by rw[j];exact L.size));have c1:=L.box;have c2:=L.PM;clear hA L hJ hY;refine callsIn_of_wp (fx (by decide) en) rfl trivial ?_ rfl;simp only[Tryz.ntmps65,ch,ci,cm,dt,du,d8,d9,co,cp,cq,ct];obtain⟨R,S,T,U,f4,N⟩:=bf c1;obtain⟨g0,g1⟩:=aaA c2;have x5:=hA0.out.s5 (by have:=s.g5;omega);have x50:=hA0.out.FI g s.g5;have x51:=hA0.out.HU g s.g5;have x52:=hA0.out.J6 g s.g5;have hg5:=s.g5;rw[x5]at N;have Ts:=aT c1;have hBg:=aT c2;have hh5:=hA0.out.h5;have y:=s.start;have HST:=em y;clear c1 c2 s y
 gi_wp2
 obtain⟨O,kS⟩:∃O:World,O=(W.alloc (eh #[fg (C.x5 g).1,eN fZ (C.x5 g).2.1,eN fZ (C.x5 g).2.2] 94)).alloc (eh #[eN fZ (C.x5 g).2.2,eN fZ (C.x5 g).2.2] 40):=⟨_,rfl⟩
 have b:Below W.heap.size W O:=by rw[kS];exact((eD _ _).alloc (dp _) _).alloc (by simp) _
 have V:O.heap[W.heap.size+1]?=some (eh #[eN fZ (C.x5 g).2.2,eN fZ (C.x5 g).2.2] 40):=by
  grind[au,bo]
 have X:J [] O:=HJ.out [] W O none h0 (by rw[kS];exact(bp W _ none).trans (bp _ _ none)) (λr e=>by cases e);have HN:=em V;have HJ0:=em X;have HBW:=em b;rw[<-kS];clear kS V X h0
 gi_loopw [7,28] (λv7 z wr=>∃k:Nat,k<=C.n4/\z=eN fZ k/\v7=eN fZ (nT C g k).1/\J (mD C g k) wr/\StV C g n0 v w P wr/\wr.heap[W.heap.size+1]?=some (eh #[eN fZ (nT C g k).2.1,eN fZ (nT C g k).2.2] 40)) (λ_ z _=>C.n4-(intOf z).toNat)
 case atStart=>
  refine⟨0,dv _,rfl,by rw[nT,<-HST.out],HJ0.out,⟨λk f=>(b.block k (dy f M.out.size)).trans (M.out.low k f),dz M.out.size b.size,(b.block _ Ts).trans M.out.box,(b.block _ hBg).trans M.out.PM⟩,HN.out⟩
 case round=>
  obtain⟨k,f,rfl,rfl,Y,hS,hN⟩:=hrel;have Z:=em Y;have t:=em hS;have c:=em hN;clear Y hS hN R S T U f4 N g0 g1 x5 x50 x51 x52 b;by_cases aH:k<C.n4
  ·have i2:(k:Int)<C.n4:=by omega
   have Xi:=Q.out.p4 k;have Cu:=Q.out.lo k (by omega);have hhi:=Q.out.hi k (by omega);have hm4:=Q.out.m4;obtain⟨p,hp⟩:∃p,p=(nT C g k).1:=⟨_,rfl⟩
   obtain⟨a,Sc⟩:∃x,x=(nT C g k).2.1:=⟨_,rfl⟩
   obtain⟨hi,Se⟩:∃x,x=(nT C g k).2.2:=⟨_,rfl⟩
   have alK:Hid (Nu C g k=(p,a,hi,a+(C.x4 p).n 7,hi+(C.x4 p).n 8)):=em (by rw[Nu,<-hp,<-Sc,<-Se]);have y:Hid (nT C g (k+1)=(Ff C p,a+(C.x4 p).n 7+(C.x4 p).n 9,hi+(C.x4 p).n 8+(C.x4 p).n 10)):=em (by rw[nT,<-hp,<-Sc,<-Se]);rw[<-hp]at Xi ⊢;rw[<-Sc]at Cu;rw[<-Se]at hhi;rw[<-Sc,<-Se]at c;clear hp Sc Se;obtain⟨⟨n7,n7'⟩,⟨n8,n8'⟩,⟨n9,n9'⟩,⟨n10,atn⟩⟩:=Q.out.nn p Xi;have hAk:=em (HA.out.keep (by rw[j];exact t.out.low) (by rw[j];exact t.out.size));obtain⟨s4,y0,y1,y2,y3,y4,y5,y6,y7,y8,y9,y10,y11,ER⟩:=yK hAk.out Xi;obtain⟨R,S,T,U,f4,N⟩:=bf t.out.box;rw[s4]at f4;obtain⟨t0,t1,u0,u1⟩:=uJ c.out;have alL:=aT t.out.box;have hNl:=aT c.out;have att:(p:Int)<C.n4:=by omega
   have sv:Hid (((wr.alloc (eh (C.x4 p).val 42)).alloc (eh #[eN fZ p,eN fZ a,eN fZ hi,eN fZ 0,eN fZ 0] 71)).heap[W.heap.size+1]?=some (eh #[eN fZ a,eN fZ hi] 40)):=em ((((eD wr.heap.size wr).alloc (dp _) _).alloc (by simp) _ |>.block _ hNl).trans c.out)
   have sv2:Hid (((wr.alloc (eh (C.x4 p).val 42)).alloc (eh #[eN fZ p,eN fZ a,eN fZ hi,eN fZ 0,eN fZ 0] 71)).heap[wr.heap.size+1]?=some (eh #[eN fZ p,eN fZ a,eN fZ hi,eN fZ 0,eN fZ 0] 71)):=em (by
    have h1:=au (wr.alloc (eh (C.x4 p).val 42)) (eh #[eN fZ p,eN fZ a,eN fZ hi,eN fZ 0,eN fZ 0] 71)
    simp_all)
   have sp:Hid (((wr.alloc (eh (C.x4 p).val 42)).alloc (eh #[eN fZ p,eN fZ a,eN fZ hi,eN fZ 0,eN fZ 0] 71)).heap[wr.heap.size]?=some (eh (C.x4 p).val 42)):=em ((((eD (wr.alloc (eh (C.x4 p).val 42)).heap.size _).alloc (dp _) _).block _ (by simp)).trans (au wr _));have so:Hid (∀k,k<wr.heap.size->((wr.alloc (eh (C.x4 p).val 42)).alloc (eh #[eN fZ p,eN fZ a,eN fZ hi,eN fZ 0,eN fZ 0] 71)).heap[k]?=wr.heap[k]?):=em λk f=>(((eD wr.heap.size wr).alloc (dp _) _).alloc (by simp) _).block k f;clear s4
   gi_wp2_with (refine⟨trivial,λ_=>(by omega),?_⟩;refine(callsIn_wide.2 (uL (W.heap.size+1) a hi _ _ _ sv.out (by omega) (by omega) (by omega) (by omega))).mono ?_;rintro e w2⟨rfl,Vb,iC⟩;have yp:wr.heap.size+2<=w2.heap.size:=(by have:=iC.size;simp at this;omega);have u:=(iC.block (wr.heap.size+1) (by simp) (by omega)).trans sv2.out;have tL:=(iC.block wr.heap.size (by simp;omega) (by omega)).trans sp.out;have fz:=tO u;have v0:w2.cell? ⟨wr.heap.size+1,0,none⟩=some (eN fZ p):=(by simp[bm,u]);have v1:w2.cell? ⟨wr.heap.size+1,1,none⟩=some (eN fZ a):=(by simp[bm,u]);have v2:w2.cell? ⟨wr.heap.size+1,2,none⟩=some (eN fZ hi):=(by simp[bm,u]);have v3:w2.cell? ⟨wr.heap.size+1,3,none⟩=some (eN fZ 0):=(by simp[bm,u]);have v4:w2.cell? ⟨wr.heap.size+1,4,none⟩=some (eN fZ 0):=(by simp[bm,u]);have HN2:=em Vb;have Kf:=em iC;have HV2:=em u;have HP2:=em tL;clear Vb iC u tL;obtain⟨Wy,m⟩:∃W:World,W=(w2.setCell ⟨wr.heap.size+1,3,none⟩ (eN fZ (a+(C.x4 p).n 7))).setCell ⟨wr.heap.size+1,4,none⟩ (eN fZ (hi+(C.x4 p).n 8)):=⟨_,rfl⟩;have A:wr.grownBy Wy (some (W.heap.size+1)):=(by rw[m];exact⟨Kf.out.os,Kf.out.tape,Kf.out.output,by simp only[World.size_setCell];omega,λk f bu=>by rw[aZ (by omega),aZ (by omega),Kf.out.block k (by simp;omega) (λe=>bu (by rw[e]))];exact so.out k f⟩);obtain⟨fn,tmps,assign,body,hy,hR⟩:=HY.out (mD C g k) (Nu C g k) Wy (HJ.out _ wr Wy _ Z.out A (λr e=>by cases e;exact⟨by omega,_,_,c.out,by decide,by decide⟩)) (R8 C g aH);rw[alK.out,m]at hy;dsimp only[VS]at hy;have B:=em A;have d:=em m;clear A m)
   refine⟨λ_=>(by omega),?_⟩;refine RoundIn.mono (by have h:=hR;rw[d.out]at h;exact h) ?_;rintro e i⟨rfl,hJ',D⟩;rw[<-d.out]at D;have hWs:=M.out.size;have E:i.heap[W.heap.size+1]?=some (eh #[eN fZ (a+(C.x4 p).n 7),eN fZ (hi+(C.x4 p).n 8)] 40):=D.2.1 _ _ _ (by rw[d.out,aZ (by omega),aZ (by omega)];exact HN2.out) (by decide) (by decide);have VT:i.heap[wr.heap.size]?=some (eh (C.x4 p).val 42):=D.2.1 _ _ _ (by rw[d.out,aZ (by omega),aZ (by omega)];exact HP2.out) (by decide) (by decide);have sW:i.heap[v]?=some (eh C.val 78):=D.2.1 _ _ _ ((B.out.block v alL (λe=>by injection e with e;omega)).trans t.out.box) (by decide) (by decide);have afU:i.heap[w]?=some (eh #[eN fZ g] 3):=D.2.1 _ _ _ ((B.out.block w (by have:=t.out.PM;exact aT this) (λe=>by injection e with e;omega)).trans t.out.PM) (by decide) (by decide);have qv:Hid (∀k,k<n0->i.heap[k]?=P.heap[k]?):=em λk f=>(D.1 k f).trans ((B.out.block k (by omega) (λe=>by injection e with e;omega)).trans (t.out.low k f));have atv:W.heap.size+2<=i.heap.size:=by have:=aT E;omega
   have z9:i.cell? ⟨wr.heap.size,9,none⟩=some (eN fZ ((C.x4 p).n 9)):=by simp[bm,VT]
   have UZ:i.cell? ⟨wr.heap.size,10,none⟩=some (eN fZ ((C.x4 p).n 10)):=by simp[bm,VT]
   have fz9:=tO VT;have VU:=em E;have Ce:=em sW;have HGR:=em afU;have HJ':=em hJ';clear E VT sW afU hJ' D hR hy HY R S T U f4 N t0 t1 u0 u1 y0 y1 y2 y3 y4 y5 y6 y7 y8 y9 y10 y11 v0 v1 v2 v3 v4 fz sv sv2 sp so Kf HN2 HV2 HP2 d yp;by_cases hw:p+1=C.n4
   ·have i5:((p:Int)+1=C.n4):=by omega
    have HW:=em hw;clear hw
    gi_wp2_with (refine⟨trivial,λ_=>(by omega),?_⟩;refine(callsIn_wide.2 (uL (W.heap.size+1) (a+(C.x4 p).n 7) (hi+(C.x4 p).n 8) _ _ _ VU.out (by omega) (by omega) (by omega) (by omega))).mono ?_;rintro e w3⟨rfl,Hr,F⟩;have H:=(F.block v (by omega) (by omega)).trans Ce.out;obtain⟨R,S,T,U,f4,N⟩:=bf H;have I:=em H;have K:=em Hr;have o:=em F;clear H Hr F)
    refine⟨⟨k+1,aH,by go_num,by rw[y.out];simp only[Ff];rw[if_pos HW.out];rfl,?_,⟨λq hq=>(o.out.block q (by omega) (by omega)).trans (qv.out q hq),by have:=o.out.size;omega,I.out,(o.out.block w (by omega) (by omega)).trans HGR.out⟩,by rw[y.out];exact K.out⟩,by simp only[intOf];omega⟩;rw[uM];exact HJ.out _ i w3 _ HJ'.out o.out.grown (λr e=>by cases e;exact⟨by omega,_,_,VU.out,by decide,by decide⟩)
   ·have i5:¬((p:Int)+1=C.n4):=by omega
    have HW:=em hw;clear hw
    gi_wp2_with (refine⟨trivial,λ_=>(by omega),?_⟩;refine(callsIn_wide.2 (uL (W.heap.size+1) (a+(C.x4 p).n 7) (hi+(C.x4 p).n 8) _ _ _ VU.out (by omega) (by omega) (by omega) (by omega))).mono ?_;rintro e w3⟨rfl,Hr,F⟩;have H:=(F.block v (by omega) (by omega)).trans Ce.out;obtain⟨R,S,T,U,f4,N⟩:=bf H;have I:=em H;have K:=em Hr;have o:=em F;clear H Hr F)
    refine⟨⟨k+1,aH,by go_num,by rw[y.out];simp only[Ff];rw[if_neg HW.out];go_num,?_,⟨λq hq=>(o.out.block q (by omega) (by omega)).trans (qv.out q hq),by have:=o.out.size;omega,I.out,(o.out.block w (by omega) (by omega)).trans HGR.out⟩,by rw[y.out];exact K.out⟩,by simp only[intOf];omega⟩;rw[uM];exact HJ.out _ i w3 _ HJ'.out o.out.grown (λr e=>by cases e;exact⟨by omega,_,_,VU.out,by decide,by decide⟩)
  ·have By:k=C.n4:=by omega
   have i2:¬((k:Int)<C.n4):=by omega
   clear aH
   gi_wp2
   go_end0
   exact⟨⟨_,rfl⟩,by have h:=Z.out;first|(rw[By]at h;exact h)|exact h⟩
def yU{m:Type}{g:ad}{ps:Array Tmp}{assign body:Code}{Q:Exit->Act->World->Prop}{a:Act}{w:World}{n:Nat}(h1:1<=n){gf:Nat}{lb:Array Value}(hg:a.eval g=e9 (gb gf) #[] lb)(eg:∀args w,(callFunc gf args).run PL w=dQ (.enter gf args) w)
 {M:m->Array Value} {q:World->World->Prop} {xs:List m} {St:World->Prop} (R:afQ (n-1) gf lb M q xs St) (XJ:∀W,Below w.heap.size w W->St W)
 (u:∀{A B C:World},q A B->q B C->q A C) (F:∀(W:World)(l:Nat)(o o':Obj),w.heap.size<=l->W.heap[l]?=some o->o.isCells=false->o.isWalk=false->q W (W.putObj l o')) (S:∀x,(M x).size=ps.size)
 (I:List m->World->Prop) (H:OwnFrom w.heap.size I) (T:AbT w.heap.size I) (h0:I [] w) (A:m->Act->World->Prop) (hA:∀x a W l o o',W.heap[l]?=some o->o.isCells=false->A x a W->A x a (W.putObj l o'))
 (U:∀{A B:World},w.heap.size<=A.heap.size->A.grownBy B none->q A B)
 (VV:∀(l:Nat)(x:m)(W:World)(K:Act->World->Prop),(∀a' y,W.grownBy y none->A x a' y->K a' y)->
   assign.wpIn (Fence.wide.inRound l) (n-1-1) PL (Exit.then K (λ_ _ _=>False)) { tmps:=(ps.zip (M x)).foldl (λt(p,v)=>t.setIfInBounds p v) a.tmps,defers:=[] } W)
 (V:∀(l:Nat)(b:List m)(x:m)(a':Act)(W:World),I b W->A x a' W->b++[x] <+: xs->body.wpIn (Fence.wide.inRound l) (n-1-1) PL (λe _ y=>match e with | .normal=>KeepsOthers W y/\q W y/\I (b++[x]) y|_=>False) a' W)
 (X:∀(D:Nat)(W:World),w.heap.size<=D->I xs W->W.heap[D]?=some (ek (some []))->Q .normal { a with defers:={ target:=.collected D,args:=#[] }::a.defers } W) :
 (Code.rangeFunc g ps assign body).wpIn Fence.wide n PL Q a w:=by
 refine wpIn_rangeFunc λfn tK=>?_;have LJ:Fence.wide.round=none:=rfl;rw[LJ];let z:LoopState->Loop:=λst=>{ state:=st,pending:=none,fn,tmps:=a.tmps,params:=ps,assign,body,defers:=w.heap.size }
 obtain⟨d,N⟩:∃d,d=(w.alloc (ek (some []))).alloc (el (z .ready)):=⟨_,rfl⟩
 have Y:d.heap[w.heap.size+1]?=some (el (z .ready)):=by
  grind[au,bo]
 have hb:Below w.heap.size w d:=by rw[N];exact((eD _ _).alloc (dp _) _).alloc (by simp) _
 have Z:d.heap[w.heap.size]?=some (ek (some [])):=by
  rw[N];exact(((eD (w.alloc (ek (some []))).heap.size _).alloc (dp _) _).block _ (by simp)).trans (au w _)
 refine⟨w.heap.size+1,[{ target:=.collected w.heap.size,args:=#[] }],d,{ target:=.fn (gb gf) lb,args:=#[e9 (f9 (w.heap.size+1)) #[] #[]] },d,gf,#[e9 (f9 (w.heap.size+1)) #[] #[]]++lb,d,?_,?_,λf' hf'=>trivial,by simp[invoke,go_sem,eg],λ_=>h1,?_⟩
 ·rw[N];exact run_enterLoop_outer _ _ _ _ _
 ·simp only[ao,hg];simp[go_sem]
 ·have book:∀{A B:World}{row:Option Nat}{k:Nat}{o:Obj},A.grownBy B row->(∀r,row=some r->d.heap.size<=r/\∃c t,A.heap[r]?=some (eh c t)/\t≠71/\t≠56)->A.heap[k]?=some o->o.isCells=false->B.heap[k]?=some o:=λ{A B row k o}J E f hc=>by
   refine(J.block k (aT f) λe=>?_).trans f;obtain⟨_,c,t,h,_⟩:=E k e.symm;rw[f]at h;cases h;cases hc
  refine(R (w.heap.size+1) (λb W=>I b W/\W.heap[w.heap.size+1]?=some (el (z .ready))/\W.heap[w.heap.size]?=some (ek (some []))) d (XJ _ hb) ?_ ?_ ⟨?_,Y,Z⟩).mono ?_
  ·rintro s A B row⟨hi,hl,f⟩J E;exact⟨T s A B row hi J λr e=>⟨dz hb.size (E r e).1,(E r e).2⟩,book J E hl rfl,book J E f rfl⟩
  ·rintro b x W⟨hi,hl,f⟩Nw;refine⟨fn,_,assign,body,run_yield (P:=PL) (args:=M x) hl (S x),roundIn_of_wpIn tK (VV _ x W _ λaa O i hA1=>?_)⟩;have acY:=aT hl;replace hl:=book i (λr e=>by cases e) hl rfl;replace f:=book i (λr e=>by cases e) f rfl;replace hi:=H b W O none hi i (λr e=>by cases e);have aH:=aT hl;refine⟨_,run_beginRound hl rfl,?_⟩;have hl2:(O.putObj (w.heap.size+1) (el (z .busy))).heap[w.heap.size+1]?=some (el (z .busy)):=bq aH;have ND:(O.putObj (w.heap.size+1) (el (z .busy))).heap[w.heap.size]?=some (ek (some [])):=(br (by omega)).trans f;refine wpIn_mono (V _ b x aa _ (H.putObj _ hi (by omega) hl rfl) (hA _ _ _ _ _ _ hl rfl hA1) Nw) ?_;rintro e a3 W3 hp
   cases e with
   |normal=>
    obtain⟨L,alT,hi3⟩:=hp;have j:=L.same _ _ hl2 rfl;refine⟨_,_,run_endRound (P:=PL) none j,rfl,⟨H.putObj _ hi3 (by omega) j rfl,bq (aT j),(br (by omega)).trans (L.same _ _ ND rfl)⟩,?_⟩;exact u (u (u (U (by omega) i) (F O (w.heap.size+1) _ _ (by omega) hl rfl rfl)) alT) (F _ _ _ _ (by omega) j rfl rfl)
   |_=>exact hp.elim
  ·exact H [] w d none h0 (by rw[N];exact(bp w _ none).trans (bp _ _ none)) (λr e=>by cases e)
  ·rintro e W2⟨⟨v,rfl⟩,hi,hl,f⟩;exact⟨none,_,run_endLoop (P:=PL) hl (by simp[z]),X _ _ (dp _) (H.putObj _ hi (by omega) hl rfl) ((br (by omega)).trans f)⟩
def Fi(C:CD)(g:Int)(m5:C.n5<=3)(w:World):Calls PL 43 #[eM C.val,eN fZ g] w λe w'=>e=f8 (eV (bO g 0 (C.n5-1)))/\Below w.heap.size w w':=by
 obtain⟨b,c,d,f,f4,h⟩:=bf (au w (eh C.val 27));have a:=em (((eD w.heap.size w).alloc (dp _) (eh C.val 27)))
 go_enter (fx (by decide) Tryz.func43),Tryz.ntmps43
 go_wp2_with (go_at_call 28;refine(ij _ _ _ _).mono ?_;rintro e w'⟨rfl,rfl⟩)
 go_ret
 exact⟨rfl,a.out⟩
def AX(C:CD)(g:Nat)(w:World):Calls PL 45 #[eM C.val,eN fZ g] w λe w'=>e=f8 (e9 (gb 65) #[] #[e6 (some ⟨w.heap.size,0,none⟩),e6 (some ⟨w.heap.size+1,0,none⟩)])/\w'=(w.alloc (eh C.val 78)).alloc (eh #[eN fZ g] 3):=by
 go_enter (fx (by decide) Tryz.func45),Tryz.ntmps45
 go_wp2
 go_ret
 exact⟨rfl,rfl⟩
def vV(x:nR):List Value:=[eN fZ x.1,eN fZ x.2.1,eN fZ x.2.2.1,eN fZ x.2.2.2.1,eN fZ x.2.2.2.2]
def AY(W:World)(base:Nat)(v:Value)(l:List nR):Prop:=W.ownsRow base 71 5 v l.length (l.flatMap vV)
def Sf(w:World)(a:List nR)(W:World):Prop:=∃v,W.heap[w.heap.size]?=some (eh #[v] 56)/\AY W (w.heap.size+1) v a/\Below w.heap.size w W
def Fj{w W j:World}{row:Option Nat}{a:List nR}(h:Sf w a W)(hg:W.grownBy j row)(b:∀r,row=some r->w.heap.size+1<=r/\∀c,W.heap[r]?≠some (eh c 71)):Sf w a j:=by
 obtain⟨v,hb,⟨hl,d⟩,l⟩:=h;refine⟨v,(hg.block _ (aT hb) λe=>by have:=(b _ e.symm).1;omega).trans hb,⟨hl,?_⟩,l.grown hg l.size λk e=>by have:=(b _ e).1;omega⟩
 rcases d with d|⟨g,cap,f,e1,m,i,n⟩
 ·exact f6 d
 ·exact f7 ⟨g,cap,f,e1,m,(hg.block _ (aT i) λe=>(b _ e.symm).2 _ i).trans i,n⟩
def Fl(w:World):OwnFrom (w.heap.size+1) (Sf w):=λs W d row hs hg a=>Fj hs hg λr e=>⟨(a r e).1,λc h=>by
 obtain⟨_,o,b,hc⟩:=a r e
 rw[b]at h;cases h;cases hc⟩
def Sg(w:World):AbT (w.heap.size+1) (Sf w):=λs W d row hs hg a=>Fj hs hg λr e=>⟨(a r e).1,λc h=>by
 obtain⟨_,f,t,b,hc,_⟩:=a r e
 rw[b]at h;cases h;exact hc rfl⟩
def qO{w:World}{k:Nat}{x0 x1 x2 x3 x4:Value}{t:ap}(h:w.heap[k]?=some (eh #[x0,x1,x2,x3,x4] t)) :
 w.cell? ⟨k,0,none⟩=some x0/\w.cell? ⟨k,1,none⟩=some x1/\w.cell? ⟨k,2,none⟩=some x2/\w.cell? ⟨k,3,none⟩=some x3/\w.cell? ⟨k,4,none⟩=some x4:=by
 simp[bm,h]
def afX:PL.underlying 56=some (.slice 71):=by kernel_rfl
def aaV:(PL.info? 71).map (λi=>(i.zero,i.size,i.bytes))=some (some (eM #[eN fZ 0,eN fZ 0,eN fZ 0,eN fZ 0,eN fZ 0]),5,40):=by kernel_rfl
def Ny{W:World}{base e size n:Nat}{v:Value}{xs:List Value}(h:W.ownsRow base e size v n xs):∃b m c,v=eQ b m c:=by
 rcases h.2 with⟨rfl,_⟩|⟨g,cap,a,rfl,_⟩<;>exact⟨_,_,_,rfl⟩
def qm{W:World}{base e size n:Nat}{v:Value}{xs:List Value}(h:W.ownsRow base e size v n xs):∀j,v.ownBlock=some j->∃cur,W.heap[j]?=some (eh cur e):=by
 rcases h.2 with⟨rfl,_⟩|⟨g,cap,cur,rfl,_,hg,_⟩
 ·intro j e;cases e
 ·intro j e;cases e;exact⟨_,hg⟩
def yV{w:World}{B:Nat}{x u:Value}{t:ap}(h:w.heap[B]?=some (eh #[x] t)):(w.setCell ⟨B,0,none⟩ u).heap[B]?=some (eh #[u] t):=by
 simp only[bs,dU,if_pos,h,ea];rfl
def VW{W:World}{b:Nat}{x:nR}(h:W.heap[b]?=some (eh #[eN fZ x.1,eN fZ x.2.1,eN fZ x.2.2.1,eN fZ x.2.2.2.1,eN fZ x.2.2.2.2] 71)):∀(j:Nat)(u:Value),(vV x)[j]?=some u->W.cell? ((⟨b,0,none⟩:Addr).add j)=some u:=by
 intro j u e
 match j,e with
 |0,e=>cases e;simp[bm,eE,h]
 |1,e=>cases e;simp[bm,eE,h]
 |2,e=>cases e;simp[bm,eE,h]
 |3,e=>cases e;simp[bm,eE,h]
 |4,e=>cases e;simp[bm,eE,h]
 |j+5,e=>simp[vV]at e
def Nz{r u:Nat}(C:CD)(g:Nat)(O:yR C g)(w:World)(hA:C.At w)(c1:w.heap[r]?=some (eh C.val 78))(P:w.heap[u]?=some (eh #[eN fZ g] 3)) :
 Calls PL 64 #[eQ none 0 0,e9 (gb 65) #[] #[e6 (some ⟨r,0,none⟩),e6 (some ⟨u,0,none⟩)]] w λe w'=>∃v,e=f8 v/\AY w' (w.heap.size+1) v (mD C g C.n4)/\Below w.heap.size w w':=by
 have HA:=em hA;have Q:=em O;have R:=em c1;have S:=em P;clear hA O c1 P;refine(aq (n:=9)).1 (ar (fx (by decide) Tryz.func64) rfl trivial ?_ rfl);simp only[Tryz.ntmps64,ch,ci,cm,dt,du,d8,d9,co,cp,cq,ct];refine wpIn_wide.2 ?_
 go_wp2
 obtain⟨i0,hi,mF,dx,wD⟩:=aw aaV;refine(wpIn_wide (n:=9)).1 ?_;refine yU (by omega) (gf:=65) (lb:=#[e6 (some ⟨r,0,none⟩),e6 (some ⟨u,0,none⟩)]) rfl (enters_of (fx (by decide) en) (by kernel_rfl) rfl)
  (yT 8 (by omega) r u w.heap.size g C Q.out w rfl HA.out)
  (λW T=>?_) Li (λW l o U hl ho hc hw=>Lj (n:=w.heap.size) (s:=w.heap.size+1) (by omega) W l o U (by simpa using hl) ho hc hw) (λ_=>rfl)
  (Sf w) (by rw[bo];exact Fl w) (by rw[bo];exact Sg w) ⟨_,au _ _,⟨rfl,f6 ⟨rfl,rfl⟩⟩,(eD _ _).alloc (dp _) _⟩
  (λx a W=>∃k,W.heap[k]?=some (eh #[eN fZ x.1,eN fZ x.2.1,eN fZ x.2.2.1,eN fZ x.2.2.2.1,eN fZ x.2.2.2.2] 71)/\a={ tmps:=#[eQ none 0 0,e9 (gb 65) #[] #[e6 (some ⟨r,0,none⟩),e6 (some ⟨u,0,none⟩)],e6 (some ⟨w.heap.size,0,none⟩),undef,eQ none 0 0,e6 (some ⟨k,0,none⟩),e9 (gb 65) #[] #[e6 (some ⟨r,0,none⟩),e6 (some ⟨u,0,none⟩)],eM #[eN fZ x.1,eN fZ x.2.1,eN fZ x.2.2.1,eN fZ x.2.2.2.1,eN fZ x.2.2.2.2],undef,undef,undef,undef,undef],defers:=[] })
  ?A ?kg ?assign ?body ?done
 ·have hb:=((eD w.heap.size w).alloc (dp _) (eh #[eQ none 0 0] 56))
  have e:∀k,k<w.heap.size->W.heap[k]?=w.heap[k]?:=λk d=>(T.block k (by simp;omega)).trans (hb.block k d);exact⟨e,by have:=T.size;simp at this;omega,(e _ (aT R.out)).trans R.out,(e _ (aT S.out)).trans S.out⟩
 case A=>
  rintro x a W l o U hl hc⟨k,d,ha⟩;refine⟨k,(br (λe=>?_)).trans d,ha⟩;subst e;rw[hl]at d;cases d;cases hc
 case kg=>
  intro A B hs hg;rw[bo]at hs;exact⟨λk d=>hg.block k (by omega) (by simp),λk c t h _ _=>(hg.block k (aT h) (by simp)).trans h,hg.size⟩
 case assign=>
  intro l x W K F;dsimp only[VS]
  gi_wp2
  refine F _ _ (bp W _ none) ⟨W.heap.size,au _ _,rfl⟩
 case body=>
  rintro l p x a W⟨v,i,V,X⟩⟨k,d,rfl⟩Nw;have hlen:p.length<5:=by have:=Nw.length_le;have:=Q.out.m4;rw[R7]at *;simp at *;omega
  have aH:=aT i;have Ll:=aT d;have b0:W.cell? ⟨w.heap.size,0,none⟩=some v:=by simp[bm,i]
  obtain⟨k0,k1,k2,k3,k4⟩:=qO d;have fb:=tO i;have H:=em V;have Y:=em X;have Z:=em i;clear i d V X
  gi_wp2_with (gi_at_builtin;refine wpListIn_append_own _ rfl _ _ _ rfl (w.heap.size+1) 71 i0 _ 5 40 afX hi mF dx wD rfl (by decide) v p.length (p.flatMap vV) rfl (World.ownsRow.alloc H.out _) ⟨W.heap.size,0,none⟩ 1 1 (vV x) rfl rfl (VW (au W _)) (by simp[vV,eF]) (by simp only[aB];omega) (by omega) (by simp;omega) ?_;intro v' w2 m f _;have I:=cZ H.out;have J:w2.heap[w.heap.size]?=some (eh #[v] 56):=(f.block _ (by simp;omega) (λe=>by have:=I _ e.symm;omega)).trans ((((eD W.heap.size W).alloc (dp _) _).block _ aH).trans Z.out);have fb2:=tO J;have b2:w2.cell? ⟨w.heap.size,0,none⟩=some v:=(by simp[bm,J]);obtain⟨bb,nn,cc,rfl⟩:=Ny m;have H1:=em m;have L:=em f;have M:=em J;clear m f J)
  have y:∀j,v.ownBlock=some j->∃b,W.heap[j]?=some (eh b 71):=qm H.out;have I:=cZ H.out;have z:=(eD W.heap.size W).alloc (dp _) (eh #[eN fZ x.1,eN fZ x.2.1,eN fZ x.2.2.1,eN fZ x.2.2.2.1,eN fZ x.2.2.2.2] 71);have yp:W.heap.size<=w2.heap.size:=by have:=L.out.size;simp at this;omega
  have blk:∀q,q<W.heap.size->q≠w.heap.size->some q≠v.ownBlock->(w2.setCell ⟨w.heap.size,0,none⟩ (eQ bb nn cc)).heap[q]?=W.heap[q]?:=λq m f h3=>by
   rw[aZ (Ne.symm f),L.out.block q (by simp;omega) h3,z.block q m]
  refine⟨(fm W _).trans ((fo L.out λj o m f=>?_).trans (fp _ _ _)),⟨λq hq=>blk q (by omega) (by omega) (λe=>by have:=I _ e.symm;omega),λq c t h m f=>(blk q (aT h) (λe=>?_) (λe=>?_)).trans h,by simpa using yp⟩,?_⟩
  ·obtain⟨b,hc⟩:=y _ m;rw[z.block _ (aT hc),hc]at f;cases f;rfl
  ·subst e;rw[Z.out]at h;cases h;exact f rfl
  ·obtain⟨b,hc⟩:=y _ e.symm;rw[hc]at h;cases h;exact m rfl
  ·refine⟨_,yV M.out,?_,?_⟩
   ·unfold AY;rw[cv,cC,cQ,List.flatMap_nil,c8];obtain⟨e1,E⟩:=H1.out;refine⟨e1,?_⟩
    rcases E with E|⟨gg,cap,b,e2,hb,hg,E⟩
    ·exact f6 E
    ·exact f7 ⟨gg,cap,b,e2,hb,(aZ (by omega)).trans hg,E⟩
   ·exact((Y.out.alloc Y.out.size _).grown L.out (by simp;omega) (λk e=>by have:=I _ e;omega)).setCell (dp _) _
 case done=>
  intro D W hD hI F;rw[bo]at hD;have gE:=em ((Fl w).putObj (ek none) hI (by omega) F rfl);obtain⟨v,i,-,-⟩:=hI;have b0:W.cell? ⟨w.heap.size,0,none⟩=some v:=by simp[bm,i]
  have Ce:=em i;clear i
  go_wp2
  refine⟨by simp,f6 ⟨_,_,rfl,aF F,?_⟩⟩;obtain⟨v2,eP,N,qA⟩:=gE.out;have e:v=v2:=by
   have h:=(br (by omega:w.heap.size≠D)).symm.trans eP |>.symm
   rw[Ce.out]at h;cases h;rfl
  subst e;refine⟨v,?_,v,rfl,N,qA⟩;simp[aI,Tryz.results64,go_sem]
def NA{a b:Nat}(C:CD)(g:Nat)(c:yR C g)(w:World)(hA:C.At w)(c1:w.heap[a]?=some (eh C.val 78))(d:w.heap[b]?=some (eh #[eN fZ g] 3)) :
 Calls PL 44 #[e9 (gb 65) #[] #[e6 (some ⟨a,0,none⟩),e6 (some ⟨b,0,none⟩)]] w λe w'=>∃v,e=f8 v/\AY w' (w.heap.size+1) v (mD C g C.n4)/\Below w.heap.size w w':=by
 have i:=em hA;have j:=em c;have k:=em c1;have l:=em d;clear hA c c1 d
 go_enter (fx (by decide) Tryz.func44),Tryz.ntmps44
 go_wp2_with (go_at_call 64;refine(Nz C g j.out w i.out k.out l.out).mono ?_;rintro e w'⟨v,rfl,f,h⟩;have m:=em f;have n:=em h;clear f h)
 go_ret
 exact⟨_,rfl,m.out,n.out⟩
def Six(W:World)(k:Nat):Prop:=∃x0 x1 x2 x3 x4 a,W.heap[k]?=some (eh #[x0,x1,x2,x3,x4,a] 78)
def Fo(C:CD)(W a:World):Prop:=∀k:Nat,(W.heap[k]?=some (eh C.val 78)->a.heap[k]?=some (eh C.val 78))/\(Six W k->Six a k)
def Fo.on{C:CD}{W a:World}(h:Below W.heap.size W a):Fo C W a:=λk=>⟨λe=>(h.block _ (aT e)).trans e,fun⟨x0,x1,x2,x3,x4,b,e⟩=>⟨x0,x1,x2,x3,x4,b,(h.block _ (aT e)).trans e⟩⟩
def alU(C:CD)(w:World)(j:Nat)(vs:Nat->Value)(W:World):Prop:=
 (j=8->∃k,vs 8=e6 (some ⟨k,0,none⟩)/\w.heap.size<k/\Six W k)/\(j=9->∃k,vs 8=e6 (some ⟨k,0,none⟩)/\w.heap.size<k/\W.heap[k]?=some (eh C.val 78))
def AZ(C:CD)(g:Nat)(hg:g<C.n5)(m5:C.n5<=3)(w:World):Calls PL 43 #[eM C.val,eN fZ g] w λe w'=>e=f8 (eV true)/\Below w.heap.size w w':=by
 have h:=Fi C g m5 w;have e:bO (g:Int) 0 (C.n5-1)=true:=by simp[bO];omega
 rwa[e]at h
def IC{C:CD}{b:Bool}(h:C.b6 b=0):C.cx=0:=by
 unfold CD.b6 at h
 split at h
 ·rename_i a;exact a
 ·rename_i a;exact absurd h a
def ID(C:CD)(g:Nat)(w:World)(h:C.At w)(hg:g<C.n5)(m5:C.n5<=3)(hf:C.b6 true=0)(n:yR C g) :
 Calls PL 16 #[eM C.val,eN fZ g] w λe w'=>∃v,e=f8 (eT #[v,eN fZ 0])/\AY w' w.heap.size v (mD C g C.n4)/\Below w.heap.size w w':=by
 have p:=em h;have M:=em hf;have N:=em n;have r:Hid (KB C w (w.alloc (eh C.val 27))):=em ⟨au _ _,(eD _ _).alloc (dp _) _⟩;clear h hf n
 go_enter (fx (by decide) Tryz.func16),Tryz.ntmps16
 go_upto_region 1 with fail
 refine cT 10 (KB C w) (Fo C) (λj=>j != 8&&j != 9) (alU C w) rfl (by kernel_rfl) (by kernel_rfl)
  (λi vs W s f h=>⟨λe=>(h.1 e).imp λk a=>⟨a.1,a.2.1,(f k).2 a.2.2⟩,λe=>(h.2 e).imp λk a=>⟨a.1,a.2.1,(f k).1 a.2.2⟩⟩) (λi o t vs O W P hd h=>⟨λe=>?_,λe=>?_⟩) ?_ ?_
 ·subst e;rw[<-P];exact h.1 rfl
 ·subst e;have Q:vs 8=O 8:=by
   simp only[b1,c9,da,ft]at t;subst t;exact hd ⟨8,gc⟩ (cH.2 ⟨by simp,rfl⟩)
  rw[<-Q];exact h.2 rfl
 ·exact⟨r.out.box,r.out.low.drew⟩
 ·iterate 8 (
   apply aY
   case hE=>rfl
   case h=>
    intro vs W b hd;obtain⟨u,x,y,z,f4,A⟩:=bf b.box
    go_simp
    first
    |(go_at_call 43;refine(AZ C g hg m5 _).mono ?_;rintro e s⟨rfl,d⟩;exact⟨_,rfl,rfl,b.on d,Fo.on d⟩)
    |(go_at_call 27;refine(kF M.out (p.out.below b.low)).mono ?_;rintro e s⟨rfl,d⟩;exact⟨_,rfl,rfl,b.on d,Fo.on d⟩)
    |exact⟨rfl,Fo.on (eD _ _)⟩
   case hb=>exact P0)
  apply eH
  case hE=>rfl
  case hb=>exact P0
  case h=>
   intro vs W b hd
   go_simp
   have d:=(eD W.heap.size W).alloc (dp _) (eh #[eN fZ 0,eN fZ 0,eQ none 0 0,eQ none 0 0,eQ none 0 0,eQ none 0 0] 78)
   first
   |exact⟨b.on d,Fo.on d,⟨λ_=>⟨W.heap.size,by simp[upd],b.lt,_,_,_,_,_,_,au W _⟩,λe=>absurd e (by decide)⟩⟩
  apply eH
  case hE=>rfl
  case hb=>exact P0
  case h=>
   intro vs W b hd;obtain⟨k,a,B,x0,x1,x2,x3,x4,V,c⟩:=(hd ⟨8,gc⟩ (cH.2 ⟨by simp,rfl⟩) rfl).1 rfl;obtain⟨u,x,y,z,f4,A⟩:=bf c;have X:=tO c;rw[a]
   go_simp
   refine⟨⟨(cM (by omega)).trans b.box,fB b.low (by omega) _ _ _ _ _ _⟩,λq=>?_,⟨λe=>absurd e (by decide),λ_=>⟨k,by simp[upd,a],B,nC c⟩⟩⟩;by_cases m:q=k
   ·subst m;exact⟨λ_=>nC c,λ_=>⟨_,_,_,_,_,_,nC c⟩⟩
   ·exact⟨λe=>(cM m).trans e,fun⟨_,_,_,_,_,_,e⟩=>⟨_,_,_,_,_,_,(cM m).trans e⟩⟩
  refine cP λvs W b hd=>?_;obtain⟨k,a,B,c⟩:=(hd 9 (by omega) rfl).2 rfl;rw[a];obtain⟨u,x,y,z,f4,A⟩:=bf c;have Y:=em c;have D:=em b;clear c b hd a
  go_wp2_with (first
   |(go_at_call 45;refine(AX C g _).mono ?_;rintro e w'⟨rfl,l⟩;have E:Below W.heap.size W w':=(by rw[l];exact((eD _ _).alloc (dp _) _).alloc (by simp) _);have F:w'.heap[W.heap.size+1]?=some (eh #[eN fZ g] 3):=(by have H:=au (W.alloc (eh C.val 78)) (eh #[eN fZ g] 3);rw[bo]at H;rw[l];exact H);have c1:w'.heap[W.heap.size]?=some (eh C.val 78):=(by rw[l];exact(((eD (W.alloc (eh C.val 78)).heap.size _).alloc (dp _) _).block _ (by simp)).trans (au W _));have I:=em E;have R:=em c1;have S:=em F;clear l E c1 F)
   |(go_at_call 44;refine(NA C g N.out _ (p.out.below (fJ D.out.low I.out)) R.out S.out).mono ?_;rintro e w3⟨v,rfl,J,K⟩;have T:=em J;have U:=em K;clear J K))
  have L:=fJ D.out.low I.out;refine aJ (v:=eT #[v,eN fZ 0]) ?_ rfl ⟨v,rfl,dJ T.out (by have:=L.size;omega),fJ L U.out⟩;simp[aI,Tryz.results16,go_sem]
def tD{W:World}{r:Nat}{x0 x1 x2 x3 x4 u0 u1 u2 u3 u4:Value}{t:ap}(h:W.heap[r]?=some (eh #[x0,x1,x2,x3,x4] t)):(((((W.setCell ⟨r,0,none⟩ u0).setCell ⟨r,1,none⟩ u1).setCell ⟨r,2,none⟩ u2).setCell ⟨r,3,none⟩ u3).setCell ⟨r,4,none⟩ u4).heap[r]?=some (eh #[u0,u1,u2,u3,u4] t):=by
 simp only[bs,dU,if_pos,h,ea];rfl
def gh{W:World}{r b:Nat}{u0 u1 u2 u3 u4:Value}(hb:b≠r):(((((W.setCell ⟨r,0,none⟩ u0).setCell ⟨r,1,none⟩ u1).setCell ⟨r,2,none⟩ u2).setCell ⟨r,3,none⟩ u3).setCell ⟨r,4,none⟩ u4).heap[b]?=W.heap[b]?:=by
 simp only[bs,dU,if_neg (Ne.symm hb)]
def vA(l:List nR):nR:=l.getLast?.getD (0,0,0,0,0)
abbrev aaW(x:nR):Array Value:=#[eN fZ x.1,eN fZ x.2.1,eN fZ x.2.2.1,eN fZ x.2.2.2.1,eN fZ x.2.2.2.2]
def IE(l:List nR)(x:nR):vA (l++[x])=x:=by simp[vA]
def nU(C:CD)(g:Nat):Int×Int:=(vA (mD C g C.n4)).2.2.2
structure Si(w:World)(pre:List nR)(W:World):Prop where
 res:W.heap[w.heap.size+1]?=some (eh #[eN fZ 0,eN fZ 0] 40)
 last:W.heap[w.heap.size+2]?=some (eh (aaW (vA pre)) 71)
 low:Below w.heap.size w W
def yW{w W c:World}{row:Option Nat}{a:List nR}{B:Nat}(d:w.heap.size+3<=B)(h:Si w a W)(hg:W.grownBy c row)(b:∀r,row=some r->B<=r):Si w a c:=
 ⟨(hg.block _ (aT h.res) λe=>by have:=b _ e.symm;omega).trans h.res,(hg.block _ (aT h.last) λe=>by have:=b _ e.symm;omega).trans h.last,h.low.grown hg h.low.size λk e=>by have:=b _ e;omega⟩
def Lm(C:CD)(g:Nat)(P:yR C g)(w:World)(hA:C.At w) :
 Calls PL 46 #[eM C.val,eN fZ g] w (aO (eM #[eN fZ (nU C g).1,eN fZ (nU C g).2]) w):=by
 have U:=em hA;have V:=em P;clear hA P;refine(aq (n:=9)).1 (ar (fx (by decide) Tryz.func46) rfl trivial ?_ rfl);simp only[Tryz.ntmps46,ch,ci,cm,dt,du,d8,d9,co,cp,cq,ct];refine wpIn_wide.2 ?_;have y:Si w [] (((w.alloc (eh C.val 78)).alloc (eh #[eN fZ 0,eN fZ 0] 40)).alloc (eh #[eN fZ 0,eN fZ 0,eN fZ 0,eN fZ 0,eN fZ 0] 71)):=by
  refine⟨?_,?_,(((eD _ _).alloc (dp _) _).alloc (by simp) _).alloc (by simp;omega) _⟩
  ·have b:=au (w.alloc (eh C.val 78)) (eh #[eN fZ 0,eN fZ 0] 40);rw[bo]at b;exact(((eD ((w.alloc (eh C.val 78)).alloc (eh #[eN fZ 0,eN fZ 0] 40)).heap.size _).alloc (dp _) _).block _ (by simp)).trans b
  ·have b:=au ((w.alloc (eh C.val 78)).alloc (eh #[eN fZ 0,eN fZ 0] 40)) (eh #[eN fZ 0,eN fZ 0,eN fZ 0,eN fZ 0,eN fZ 0] 71);simp only[bo]at b;exact b
 have z:=em y;clear y
 go_wp2_with (go_at_call 45;refine(AX C g _).mono ?_;rintro e w'⟨rfl,m⟩)
 have X:=z.out.low;have J:∃Y:World,Y=(((w.alloc (eh C.val 78)).alloc (eh #[eN fZ 0,eN fZ 0] 40)).alloc (eh #[eN fZ 0,eN fZ 0,eN fZ 0,eN fZ 0,eN fZ 0] 71)):=⟨_,rfl⟩
 have E:w'.heap.size=w.heap.size+5:=by rw[m];simp
 have Q:w'.heap[w.heap.size+3]?=some (eh C.val 78):=by
  rw[m];have b:=au (((w.alloc (eh C.val 78)).alloc (eh #[eN fZ 0,eN fZ 0] 40)).alloc (eh #[eN fZ 0,eN fZ 0,eN fZ 0,eN fZ 0,eN fZ 0] 71)) (eh C.val 78);simp only[bo]at b;exact((((eD (World.alloc (((w.alloc (eh C.val 78)).alloc (eh #[eN fZ 0,eN fZ 0] 40)).alloc (eh #[eN fZ 0,eN fZ 0,eN fZ 0,eN fZ 0,eN fZ 0] 71)) (eh C.val 78)).heap.size _).alloc (dp _) _).block _ (by simp)).trans b)
 have F:w'.heap[w.heap.size+4]?=some (eh #[eN fZ g] 3):=by
  rw[m];have b:=au ((((w.alloc (eh C.val 78)).alloc (eh #[eN fZ 0,eN fZ 0] 40)).alloc (eh #[eN fZ 0,eN fZ 0,eN fZ 0,eN fZ 0,eN fZ 0] 71)).alloc (eh C.val 78)) (eh #[eN fZ g] 3);simp only[bo]at b;exact b
 have H:Si w [] w':=by
  rw[m];exact yW (dp _) z.out ((bp _ _ none).trans (bp _ _ none)) (λr e=>by cases e)
 have d:=em E;have L:=em Q;have M:=em F;rw[<-m];clear E Q F m X J;refine(wpIn_wide (n:=9)).1 ?_;refine yU (by omega) (gf:=65) (lb:=#[e6 (some ⟨w.heap.size+3,0,none⟩),e6 (some ⟨w.heap.size+4,0,none⟩)]) rfl (enters_of (fx (by decide) en) (by kernel_rfl) rfl)
  (yT 8 (by omega) (w.heap.size+3) (w.heap.size+4) w.heap.size g C V.out w rfl U.out)
  (λW I=>?_) Li (λW l o R hl Z hc hw=>Lj (n:=w.heap.size) (s:=w.heap.size+5) (by omega) W l o R (by have:=d.out;omega) Z hc hw) (λ_=>rfl)
  (Si w) (λs A B row hs hg N=>yW (B:=w'.heap.size) (by have:=d.out;omega) hs hg λr e=>(N r e).1) (λs A B row hs hg N=>yW (B:=w'.heap.size) (by have:=d.out;omega) hs hg λr e=>(N r e).1) H
  (λx a W=>∃k,W.heap[k]?=some (eh (aaW x) 71)/\a={ tmps:=#[eM C.val,eN fZ g,e6 (some ⟨w.heap.size,0,none⟩),undef,e6 (some ⟨w.heap.size+1,0,none⟩),e6 (some ⟨w.heap.size+2,0,none⟩),e6 (some ⟨k,0,none⟩),eM C.val,eN fZ g,e9 (gb 65) #[] #[e6 (some ⟨w.heap.size+3,0,none⟩),e6 (some ⟨w.heap.size+4,0,none⟩)],eM (aaW x),undef,undef,undef],defers:=[] })
  ?A ?kg ?assign ?body ?done
 ·have e:∀k,k<w.heap.size->W.heap[k]?=w.heap[k]?:=λk f=>(I.block k (by have:=d.out;omega)).trans (H.low.block k f);exact⟨e,by have:=I.size;have:=d.out;omega,(I.block _ (by have:=d.out;omega)).trans L.out,(I.block _ (by have:=d.out;omega)).trans M.out⟩
 case A=>
  rintro x a W l o R hl hc⟨k,f,ha⟩;refine⟨k,(br (λe=>?_)).trans f,ha⟩;subst e;rw[hl]at f;cases f;cases hc
 case kg=>
  intro A B hs hg;have:=d.out;exact⟨λk f=>hg.block k (by omega) (by simp),λk c t h _ _=>(hg.block k (aT h) (by simp)).trans h,hg.size⟩
 case assign=>
  intro l x W K O;dsimp only[VS]
  gi_wp2
  refine O _ _ (bp W _ none) ⟨W.heap.size,au _ _,rfl⟩
 case body=>
  rintro l pre x a W i⟨k,f,rfl⟩Nw;obtain⟨k0,k1,k2,k3,k4⟩:=qO f;obtain⟨l0,l1,l2,l3,l4⟩:=qO i.last;have fl:=tO i.last;have j:=em i;clear i f
  gi_wp2
  have Cu:=aT j.out.last;refine⟨((((fp W _ _).trans (fp _ _ _)).trans (fp _ _ _)).trans (fp _ _ _)).trans (fp _ _ _),⟨λq hq=>gh (by omega),λq c t h b h2=>(gh (λe=>?_)).trans h,by simp⟩,⟨(gh (by omega)).trans j.out.res,by rw[IE];exact tD j.out.last,((((j.out.low.setCell (p:=⟨w.heap.size+2,0,none⟩) (by simp) _).setCell (p:=⟨w.heap.size+2,1,none⟩) (by simp) _).setCell (p:=⟨w.heap.size+2,2,none⟩) (by simp) _).setCell (p:=⟨w.heap.size+2,3,none⟩) (by simp) _).setCell (p:=⟨w.heap.size+2,4,none⟩) (by simp) _⟩⟩;subst e;have S:=j.out.last;rw[h]at S;cases S;exact b rfl
 case done=>
  intro D W T i O;obtain⟨l0,l1,l2,l3,l4⟩:=qO i.last;obtain⟨t0,t1,u0,u1⟩:=uJ i.res;have j:=em i;have HD:=em T;clear i T
  go_wp2
  have hK':=((fp W ⟨w.heap.size+1,0,none⟩ (eN fZ (vA (mD C g C.n4)).2.2.2.1)).trans (fp _ ⟨w.heap.size+1,1,none⟩ (eN fZ (vA (mD C g C.n4)).2.2.2.2))).same D _ O rfl;obtain⟨d0,d1,_,_⟩:=yD (u:=eN fZ (vA (mD C g C.n4)).2.2.2.1) (v:=eN fZ (vA (mD C g C.n4)).2.2.2.2) t0 t1;have e0:=cell_kept d0 (aP _ D (ek none)) (λr e=>by cases e;exact⟨_,hK',rfl⟩);have e1:=cell_kept d1 (aP _ D (ek none)) (λr e=>by cases e;exact⟨_,hK',rfl⟩);refine⟨by simp,f6 ⟨_,_,rfl,aF hK',?_⟩⟩;refine⟨eM #[eN fZ (nU C g).1,eN fZ (nU C g).2],?_,rfl,(((j.out.low.setCell (p:=⟨w.heap.size+1,0,none⟩) (dC _) _).setCell (p:=⟨w.heap.size+1,1,none⟩) (dC _) _)).trans (belowK_b (w:=w) (dp _) _ D _ _ (by have:=HD.out;have:=d.out;omega) hK' rfl rfl)⟩;simp[aI,Tryz.results46,go_sem,e0,e1,nU]
structure KE(C:CD)(w W:World):Prop where
 box:W.heap[w.heap.size]?=some (eh C.val 27)
 res:W.heap[w.heap.size+1]?=some (eh #[eN fZ 0,eN fZ 0] 40)
 low:Below w.heap.size w W
def KE.on{C:CD}{w W b:World}(h:KE C w W)(a:Below W.heap.size W b):KE C w b:=
 ⟨(a.block _ (aT h.box)).trans h.box,(a.block _ (aT h.res)).trans h.res,fJ h.low a⟩
def KE.lt{C:CD}{w W:World}(h:KE C w W):w.heap.size+1<W.heap.size:=aT h.res
def alV(C:CD)(w:World)(j:Nat)(vs:Nat->Value)(W:World):Prop:=
 (j=8->∃k,vs 8=e6 (some ⟨k,0,none⟩)/\w.heap.size+1<k/\Six W k)/\(j=9->∃k,vs 8=e6 (some ⟨k,0,none⟩)/\w.heap.size+1<k/\W.heap[k]?=some (eh C.val 78))
def Sj(C:CD)(g:Nat)(w:World)(h:C.At w)(hg:g<C.n5)(m5:C.n5<=3)(hf:C.b6 true=0)(x:yR C g) :
 Calls PL 17 #[eM C.val,eN fZ g] w (aO (eT #[eM #[eN fZ (nU C g).1,eN fZ (nU C g).2],eN fZ 0]) w):=by
 have y:=em h;have K:=em hf;have L:=em x
 have n:Hid (KE C w ((w.alloc (eh C.val 27)).alloc (eh #[eN fZ 0,eN fZ 0] 40))):=em ⟨(((eD (w.alloc (eh C.val 27)).heap.size _).alloc (dp _) _).block _ (by simp)).trans (au w _),by
  have z:=au (w.alloc (eh C.val 27)) (eh #[eN fZ 0,eN fZ 0] 40);rw[bo]at z
  exact z,((eD _ _).alloc (dp _) _).alloc (by simp) _⟩
 clear h hf x
 go_enter (fx (by decide) Tryz.func17),Tryz.ntmps17
 go_upto_region 1 with fail
 refine cT 10 (KE C w) (Fo C) (λj=>j != 8&&j != 9) (alV C w) rfl (by kernel_rfl) (by kernel_rfl)
  (λi vs W A l h=>⟨λe=>(h.1 e).imp λk b=>⟨b.1,b.2.1,(l k).2 b.2.2⟩,λe=>(h.2 e).imp λk b=>⟨b.1,b.2.1,(l k).1 b.2.2⟩⟩) (λi o B vs M W N hd h=>⟨λe=>?_,λe=>?_⟩) ?_ ?_
 ·subst e;rw[<-N];exact h.1 rfl
 ·subst e;have O:vs 8=M 8:=by
   simp only[b1,c9,da,ft]at B;subst B;exact hd ⟨8,gc⟩ (cH.2 ⟨by simp,rfl⟩)
  rw[<-O];exact h.2 rfl
 ·exact⟨n.out.box,n.out.res,n.out.low.drew⟩
 ·iterate 8 (
   apply aY
   case hE=>rfl
   case h=>
    intro vs W a hd;obtain⟨D,E,F,H,f4,I⟩:=bf a.box
    go_simp
    first
    |(go_at_call 43;refine(AZ C g hg m5 _).mono ?_;rintro e A⟨rfl,d⟩;exact⟨_,rfl,rfl,a.on d,Fo.on d⟩)
    |(go_at_call 27;refine(kF K.out (y.out.below a.low)).mono ?_;rintro e A⟨rfl,d⟩;exact⟨_,rfl,rfl,a.on d,Fo.on d⟩)
    |exact⟨rfl,Fo.on (eD _ _)⟩
   case hb=>exact P0)
  apply eH
  case hE=>rfl
  case hb=>exact P0
  case h=>
   intro vs W a hd
   go_simp
   have d:=(eD W.heap.size W).alloc (dp _) (eh #[eN fZ 0,eN fZ 0,eQ none 0 0,eQ none 0 0,eQ none 0 0,eQ none 0 0] 78)
   first
   |exact⟨a.on d,Fo.on d,⟨λ_=>⟨W.heap.size,by simp[upd],a.lt,_,_,_,_,_,_,au W _⟩,λe=>absurd e (by decide)⟩⟩
  apply eH
  case hE=>rfl
  case hb=>exact P0
  case h=>
   intro vs W a hd;obtain⟨k,b,J,x0,x1,x2,x3,x4,S,c⟩:=(hd ⟨8,gc⟩ (cH.2 ⟨by simp,rfl⟩) rfl).1 rfl;obtain⟨D,E,F,H,f4,I⟩:=bf c;have T:=tO c;rw[b]
   go_simp
   refine⟨⟨(cM (by omega)).trans a.box,(cM (by omega)).trans a.res,fB a.low (by omega) _ _ _ _ _ _⟩,λq=>?_,⟨λe=>absurd e (by decide),λ_=>⟨k,by simp[upd,b],J,nC c⟩⟩⟩;by_cases r:q=k
   ·subst r;exact⟨λ_=>nC c,λ_=>⟨_,_,_,_,_,_,nC c⟩⟩
   ·exact⟨λe=>(cM r).trans e,fun⟨_,_,_,_,_,_,e⟩=>⟨_,_,_,_,_,_,(cM r).trans e⟩⟩
  refine cP λvs W a hd=>?_;obtain⟨k,b,J,c⟩:=(hd 9 (by omega) rfl).2 rfl;rw[b];obtain⟨D,E,F,H,f4,I⟩:=bf c;have U:=em c;have f:=em a;clear c a hd b;obtain⟨V,t1,u0,u1⟩:=uJ f.out.res;have fr:=tO f.out.res
  go_wp2_with (go_at_call 46;refine(Lm C g L.out _ (y.out.below f.out.low)).mono ?_;rintro e w3⟨rfl,s⟩;have m:=(s.block _ (aT f.out.res)).trans f.out.res;obtain⟨X,v1,Y,Z⟩:=uJ m;have P:=tO m;have Q:=em s;have t:=em m;clear s m)
  have R:=fJ f.out.low Q.out;refine aJ (v:=eT #[eM #[eN fZ (nU C g).1,eN fZ (nU C g).2],eN fZ 0]) ?_ rfl ⟨rfl,(R.setCell (p:=⟨w.heap.size+1,0,none⟩) (dC _) _).setCell (p:=⟨w.heap.size+1,1,none⟩) (dC _) _⟩;obtain⟨a0,a1,_,_⟩:=uJ (yL (u:=eN fZ (nU C g).1) (v:=eN fZ (nU C g).2) t.out);simp[aI,Tryz.results17,go_sem,a0,a1]
def Fp(C:CD)(R:World->Value->Prop)(w:World)(h:C.At w)(hf:C.b6 true=0)
 (b:∀W,C.At W->Calls PL 47 #[eM C.val] W λe w'=>∃v,e=f8 v/\R w' v/\Below W.heap.size W w') :
 Calls PL 18 #[eM C.val] w λe w'=>∃v,e=f8 (eT #[v,eN fZ 0])/\R w' v/\Below w.heap.size w w':=by
 have c:=em h;have k:=em hf;have a:=em b;have d:Hid (KB C w (w.alloc (eh C.val 27))):=em ⟨au _ _,(eD _ _).alloc (dp _) _⟩;clear h hf b
 go_enter (fx (by decide) Tryz.func18),Tryz.ntmps18
 go_wp2_with (first
  |(go_at_call 27;refine(kF k.out (c.out.below d.out.low)).mono ?_;rintro e w1⟨rfl,f⟩;have g:=em (d.out.on f);clear f)
  |(go_at_call 47;refine(a.out _ (c.out.below (g.out.alloc (eh C.val 78)).low)).mono ?_;rintro e w2⟨v,rfl,i,j⟩;have l:=em ((g.out.alloc (eh C.val 78)).on j);have m:=em i;clear j i))
 refine aJ (v:=eT #[v,eN fZ 0]) ?_ rfl ⟨v,rfl,m.out,l.out.low⟩;simp[aI,Tryz.results18,go_sem]
structure KT(C:CD)(w W:World):Prop where
 box:W.heap[w.heap.size]?=some (eh C.val 78)
 low:Below w.heap.size w W
def KT.on{C:CD}{w W a:World}(h:KT C w W)(b:Below W.heap.size W a):KT C w a:=
 ⟨(b.block _ (aT h.box)).trans h.box,fJ h.low b⟩
def qP(C:CD)(p:Nat):Bool:=decide (∀g,g<p->(nU C g).2<=C.l)
def IF{C:CD}{p:Nat}(h:qP C p=true)(k:(nU C p).2<=C.l):qP C (p+1)=true:=by
 simp only[qP,decide_eq_true_eq]at *;intro g hg
 rcases Nat.lt_succ_iff_lt_or_eq.1 hg with a|rfl
 ·exact h g a
 ·exact k
def Sk{C:CD}{p n:Nat}(a:p<n)(k:¬(nU C p).2<=C.l):qP C n=false:=by
 simp only[qP,decide_eq_false_iff_not];exact λh=>k (h p a)
def ag1(a b:Int)(W:World):Sem.run PL (bg 40 (eM #[eN fZ a,eN fZ b]) 1) W=dQ (eN fZ b) W:=by kernel_rfl
def VY(C:CD)(n:Nat)(w:World)(h:C.At w)(hc:C.cx=0)(m5:C.n5<=3)
 (q:∀W,C.At W->Calls PL 47 #[eM C.val] W λe w'=>∃b c,e=f8 (eQ b n c)/\Below W.heap.size W w') :
 Calls PL 52 #[eM C.val] w (aO (eV (qP C C.n5&&decide (n=0))) w):=by
 have r:=em h;have j:=em q;have v:=em hc;have x:Hid (KT C w (w.alloc (eh C.val 78))):=em ⟨au _ _,(eD _ _).alloc (dp _) _⟩;clear h q hc
 go_enter (fx (by decide) Tryz.func52),Tryz.ntmps52
 go_wp2
 go_loopw [8] (λk wr=>∃p:Nat,p<=C.n5/\k=eN fZ p/\qP C p=true/\KT C w wr) (λk _=>C.n5-(intOf k).toNat)
 case atStart=>exact⟨0,dv _,rfl,by simp[qP],x.out⟩
 case round=>
  obtain⟨p,K,rfl,hs,s⟩:=hrel;have f:=em s;have t:=em hs;clear s hs;by_cases i:p<C.n5
  ·have y:(p:Int)<C.n5:=by omega
   have z:=em (Sa C v.out i)
   go_upto_region 4 with fail
   refine ig (KT C w) (λ_ _=>True) (λ_=>true) (λ_ _ _=>True) rfl (by kernel_rfl) (λ_ _ _ _ _ _=>trivial) (λ_ _ _ _ _ _ _ _ _=>trivial) ⟨f.out.box,f.out.low.drew⟩ ?_
   iterate 8 (
    apply aY
    case hE=>rfl
    case h=>
     intro vs W d hd;obtain⟨A,B,D,E,f4,F⟩:=bf d.box;have q1:=ag1
     go_simp
     first
     |(go_at_call 46;refine(Lm C p z.out _ (r.out.below d.low)).mono ?_;rintro e L⟨rfl,H⟩;exact⟨_,rfl,rfl,d.on H⟩)
     |exact rfl
    case hb=>exact P0)
   refine cP λvs W d hd=>?_;have g:=em d;clear hd d;by_cases a:(nU C p).2<=C.l
   ·have m:=em a;have I:¬(C.l<(nU C p).2):=by omega
    clear a
    go_wp2
    exact⟨⟨p+1,i,by go_num,IF t.out m.out,g.out⟩,by simp only[intOf];omega⟩
   ·have m:=em a;have I:C.l<(nU C p).2:=by omega
    clear a
    go_wp2
    go_ret
    have hs:=Sk i (Int.not_le.2 m.out);refine⟨?_,g.out.low⟩;rw[hs,Bool.false_and];rfl
  ·have o:p=C.n5:=by omega
   have y:¬((p:Int)<C.n5):=by omega
   clear i;obtain⟨A,B,D,E,f4,F⟩:=bf f.out.box
   go_wp2_with (go_at_call 47;refine(j.out _ (r.out.below f.out.low)).mono ?_;rintro e w2⟨b,c,rfl,u⟩;have J:=em (f.out.on u);clear u)
   go_ret
   have hs:qP C C.n5=true:=by have h:=t.out;first|(rw[o]at h;exact h)|exact h
   have e:((n:Int)==0)=decide (n=0):=by by_cases h:n=0<;>simp[h]
   refine⟨?_,J.out.low⟩;rw[hs,e,Bool.true_and];rfl
end Go.Proofs
namespace Go.Proofs
open Go.RowKit
def ahA(l:List nR)(i j:Nat)(hi:i<l.length)(a:j<5):(l.flatMap vV)[i*5+j]?=(vV l[i])[j]?:=by
 induction l generalizing i with
 |nil=>cases hi
 |cons x l b=>
  rw[cQ];have e:(vV x).length=5:=rfl
  grind
def abH{a:Type}(b:a->a->Bool)(x:a):List a->List a
 |[]=>[x]
 |y::P=>if b x y then y::abH b x P else x::y::P
def aay{a:Type}(b:a->a->Bool):List a->List a:=db (λP x=>abH b x P) []
def u7{a:Type}(b:a->a->Bool)(l:List a):List a:=(aay b l).reverse
def ahB{a:Type}(b:a->a->Bool)(x:a)(P:List a):(abH b x P).length=P.length+1:=by
 induction P with
 |nil=>rfl
 |cons y P c=>rw[abH];split<;>simp[c]
def afH{a:Type}(b:a->a->Bool)(l:List a)(x:a):aay b (l++[x])=abH b x (aay b l):=by simp[aay,List.foldl_append]
def abP{a:Type}(b:a->a->Bool)(l:List a):(aay b l).length=l.length:=by
 have key:∀(l P:List a),(db (λP x=>abH b x P) P l).length=P.length+l.length:=by
  intro l
  induction l with
  |nil=>intro P;simp
  |cons x l c=>intro P;rw[List.foldl_cons,c,ahB,ci];omega
 rw[aay,key];simp
def ah2{a:Type}(b:a->a->Bool)(l:List a):(u7 b l).length=l.length:=by simp[u7,abP]
set_option maxRecDepth 100000
set_option maxHeartbeats 4000000
def Q2(x y:nR):Bool:=decide (x.2.2.2.2<y.2.2.2.2)
def afI(x y:nR)(w:World):Calls PL 68 #[eM (aaW x),eM (aaW y)] w λe w'=>e=f8 (eN fZ (Ip x.2.2.2.2 y.2.2.2.2))/\w'=(w.alloc (eh (aaW x) 75)).alloc (eh (aaW y) 75):=by
 go_enter (fx (by decide) ep),Tryz.ntmps68
 go_wp2_with (go_at_call 69;refine(Kw _ _ _).mono ?_;rintro e w'⟨rfl,rfl⟩)
 go_ret
 exact⟨rfl,rfl⟩
def amK(x y:nR):(Ip x.2.2.2.2 y.2.2.2.2<0)↔Q2 x y=true:=by
 unfold Ip Q2;rw[decide_eq_true_iff]
 split
 ·simp[*]
 ·split<;>simp[*]
open Go.Shelf Go.Sort
def al3{a:Type}[Inhabited a](P R:List a)(x y:a):(P++y::x::R).toArray[P.length]! = y/\(P++y::x::R).toArray[P.length+1]! = x:=by
 grind
def ahC{a:Type}[Inhabited a](P R:List a)(x y:a):swp (P++y::x::R).toArray (P.length+1) P.length=(P++x::y::R).toArray:=by
 unfold swp
 simp_all
def Q3{a:Type}[Inhabited a](b:a->a->Bool)(x:a):∀(P R:List a),insInner b 0 P.length (P.reverse++x::R).toArray=((abH b x P).reverse++R).toArray
 |[],R=>by rw[cm,insInner];simp[abH]
 |y::P,R=>by
  have h:(y::P).reverse++x::R=P.reverse++y::x::R:=by simp
  have e:=al3 P.reverse R x y;have hs:=ahC P.reverse R x y;rw[List.length_reverse]at e hs;rw[h,ci,insInner,e.1,e.2,abH];by_cases hl:b x y=true
  ·rw[if_pos (by simp[hl]),if_pos hl,hs,Q3 b x P (y::R)];simp
  grind
def R1{b:Type}[Inhabited b](a:b->b->Bool)(L:List b):∀(n i:Nat),L.length-i=n->insOuter a 0 L.length i (u7 a (L.take i)++L.drop i).toArray=(u7 a L).toArray
 |0,i,h=>by
  grind [insOuter_stop,List.take_of_length_le,List.drop_of_length_le]
 |n+1,i,h=>by
  have hi:i<L.length:=by omega
  have hl:(aay a (L.take i)).length=i:=by rw[abP];simp;omega
  rw[insOuter_go _ _ _ _ _ hi,<-R1 a L n (i+1) (by omega),List.drop_eq_getElem_cons hi];congr 1;have:=Q3 a L[i] (aay a (L.take i)) (L.drop (i+1));rw[hl]at this;rw[u7,this,u7,List.take_succ_eq_append_getElem hi,afH]
def Z0{b:Type}[Inhabited b](c:b->b->Bool)(L:List b):insertionSort c L.toArray 0 L.length=(u7 c L).toArray:=by
 unfold insertionSort;have:=R1 c L (L.length-1) 1 rfl;have e:u7 c (L.take 1)++L.drop 1=L:=by
  cases L with
  |nil=>rfl
  |cons a L=>simp[u7,aay,abH]
 rw[e]at this;exact this
def ag2:PL.underlying 59=some (.slice 75):=by kernel_rfl
def aaX:(PL.info? 75).map (λi=>(i.zero,i.size,i.bytes))=some (some (eM #[eN fZ 0,eN fZ 0,eN fZ 0,eN fZ 0,eN fZ 0]),5,40):=by kernel_rfl
def kV(W:World)(base:Nat)(v:Value)(l:List nR):Prop:=W.ownsRow base 75 5 v l.length (l.flatMap vV)
def kV.alloc{W:World}{base:Nat}{v:Value}{l:List nR}(h:kV W base v l)(o:Obj):kV (W.alloc o) base v l:=World.ownsRow.alloc h o
def kV.on{W b:World}{base:Nat}{v:Value}{l:List nR}(h:kV W base v l)(d:Below W.heap.size W b):kV b base v l:=by
 obtain⟨c,h⟩:=h
 rcases h with h|⟨g,cap,a,e1,hb,hg,e⟩
 ·exact⟨c,f6 h⟩
 ·exact⟨c,f7 ⟨g,cap,a,e1,hb,(d.block _ (aT hg)).trans hg,e⟩⟩
def vB{W:World}{base e size n:Nat}{v:Value}{xs:List Value}(h:W.ownsRow base e size v n xs):∃b c,v=eQ b n c:=by
 rcases h.2 with⟨rfl,d⟩|⟨g,cap,a,rfl,_⟩
 ·grind
 ·exact⟨_,_,rfl⟩
def ash:Ren:=⟨λ_=>126,λt=>if t=24 then 75 else if t=22 then 59 else if t=25 then 135 else t,λt=>t⟩
def asi:SlLaysF0.n20 PL ash where
 mixed:=rfl
 f20:=⟨ "slices.insertionSortCmpFunc[nock/api.FieldTrouble]",by decide,(fx (by decide) Tryz.func126).trans (by kernel_rfl)⟩
 t0:=by kernel_rfl
 a0:=by intro w;kernel_rfl
 z0:=by intro w;kernel_rfl
 v0:=by intro w;kernel_rfl
 t3:=by kernel_rfl
 a3:=by intro w;kernel_rfl
 z3:=by intro w;kernel_rfl
 v3:=by intro w;kernel_rfl
 t4:=by kernel_rfl
 a4:=by intro w;kernel_rfl
 z4:=by intro w;kernel_rfl
 v4:=by intro w;kernel_rfl
 t22:=by kernel_rfl
 a22:=by intro w;kernel_rfl
 z22:=by intro w;kernel_rfl
 v22:=by intro w;kernel_rfl
 t25:=by kernel_rfl
 a25:=by intro w;kernel_rfl
 z25:=by intro w;kernel_rfl
 v25:=by intro w;kernel_rfl
def adm(L:List nR)(t:Nat)(h:t<L.length*5):(L.flatMap vV)[t]?=some (flatK vV 5 L.toArray)[t]!:=by
 have a:t / 5<L.length:=by omega
 have e:=ahA L (t / 5) (t % 5) a (by omega);rw[show t / 5*5+t % 5=t by omega]at e;have b:L.toArray[t / 5]! = L[t / 5]:=by grind
 rw[e,get_flatK _ _ _ _ (by simpa using h),b];have c:t % 5<(vV L[t / 5]).length:=Nat.mod_lt _ (by decide)
 grind
def adn(L:List nR)(b c base:Nat)(w:World)(h:kV w base (eQ (some ⟨b,0,none⟩) L.length c) L)(hl:L.length<=20) :
 Calls PL 126 #[eQ (some ⟨b,0,none⟩) L.length c,eN fZ 0,eN fZ L.length,e9 (gb 68) #[] #[]] w λe w'=>(∃v,e=f8 v)/\kV w' base (eQ (some ⟨b,0,none⟩) L.length c) (u7 Q2 L)/\Below base w w':=by
 obtain⟨F,⟨z,_⟩|⟨g,cap,a,e,hb,hg,hc,A,hs,B⟩⟩:=h
 ·cases z
 obtain⟨e1,_,C⟩:=fP e;cases e1;cases C;have f:=aT hg;have D:HoldsK vV 5 w b 0 L.toArray:=by
  intro j p;have p:j<L.length*5:=by simpa using p
  refine⟨?_,tO hg _⟩;have:=adm L j p;rw[<-B,List.getElem?_take_of_lt p]at this;simp only[bm,hg,dq];simpa using this
 have q:CmpLays PL 68 #[] vV 5 (λx y=>Ip x.2.2.2.2 y.2.2.2.2) b 0 L.toArray.size w:=λm r H hd x y=>by
  refine(afI x y _).mono ?_;rintro e w'⟨rfl,rfl⟩;exact⟨rfl,0,_,by rw[alloc_eq_grow,alloc_eq_grow,grow_grow];rfl⟩
 refine(AnyQ.insertionSortCmpFunc asi 5 (by intro w;kernel_rfl) (by intro w;kernel_rfl) vV (λ_=>rfl) (λx v hv=>by simp only[vV,List.mem_cons,List.not_mem_nil,or_false]at hv;rcases hv with rfl|rfl|rfl|rfl|rfl<;>rfl) _ 68 #[] b 0 c 0 L.length L.toArray w (JZ (fx (by decide) ep) (by decide +kernel) rfl) q D f (dv _) (by simp) (by simp;omega)).mono ?_;rintro e w'⟨rfl,n,r,rfl⟩;have E:(ltOf λx y:nR=>Ip x.2.2.2.2 y.2.2.2.2)=Q2:=by
  funext x y;have:=amK x y;unfold ltOf
  grind
 rw[E,Z0];obtain⟨S,u⟩:∃S,S=u7 Q2 L:=⟨_,rfl⟩
 have d:S.length=L.length:=by rw[u,ah2]
 rw[<-u];have hF:(flatK vV 5 S.toArray).size=L.length*5:=by simp[d]
 have i:(sortWorldK vV 5 w b 0 n S.toArray r).heap=w.heap.modify b (onCells (putCells id 0 (flatK vV 5 S.toArray)))++r:=rfl;refine⟨⟨_,rfl⟩,⟨?_,f7 ⟨b,c,putCells id 0 (flatK vV 5 S.toArray) a,by rw[d],hb,?_,by rw[d];exact hc,A,?_,?_⟩⟩,?_⟩
 ·have:∀l:List nR,(l.flatMap vV).length=l.length*5:=λl=>by
   induction l with
   |nil=>rfl
   |cons x l s=>rw[cQ,cv,s];simp[vV];omega
  exact this S
 ·rw[i,Array.getElem?_append_left (by simpa using f),dU,if_pos rfl,hg];rfl
 ·simpa[putCells]using hs
 ·apply List.ext_getElem?;intro t;rw[List.getElem?_take];have hcs:L.length*5<=a.size:=by omega
  split
  ·rename_i o;rw[d]at o;rw[adm S t (by omega)];have:a[t]?=some a[t]:=Array.getElem?_eq_getElem (by omega);simp only[putCells,Array.getElem?_toList,Array.getElem?_mapIdx,this,ea]
   grind
  ·rename_i o;rw[List.getElem?_eq_none];have:∀l:List nR,(l.flatMap vV).length=l.length*5:=λl=>by
    induction l with
    |nil=>rfl
    |cons x l s=>rw[cQ,cv,s];simp[vV];omega
   rw[this];omega
 ·exact⟨rfl,rfl,rfl,by rw[i];simp,λk I=>by grind⟩
end Go.Proofs
namespace Go.Proofs
open Go.RowKit Go.Shelf
attribute [local go_sem] Oper.semAt_some
set_option maxRecDepth 100000
set_option maxHeartbeats 4000000
def ahD(a1 a2 a3 a4 a b c d:Int):Int:=Ej (decide (a1<d)&&decide (a<a4)) (decide (a3<=b)||decide (c<=a2))
def IU(L:List Int)(a b p:Nat):nR:=(a,(b:Nat),(p:Nat),ahD (L.getD (a*25+p*5+1) 0) (L.getD (a*25+p*5+2) 0) (L.getD (a*25+p*5+3) 0) (L.getD (a*25+p*5+4) 0) (L.getD (b*25+p*5+1) 0) (L.getD (b*25+p*5+2) 0) (L.getD (b*25+p*5+3) 0) (L.getD (b*25+p*5+4) 0),max (L.getD (a*25+p*5+1) 0) (L.getD (b*25+p*5+1) 0))
def ac4(L:List Int)(a b:Nat):Nat->List nR
 |0=>[]
 |p+1=>ac4 L a b p++if(IU L a b p).2.2.2.1=2 then[] else[IU L a b p]
def aaf(L:List Int)(n a:Nat):Nat->List nR
 |0=>[]
 |k+1=>aaf L n a k++ac4 L a (a+1+k) n
def aaY(L:List Int)(n m:Nat):Nat->List nR
 |0=>[]
 |a+1=>aaY L n m a++aaf L n a (m-(a+1))
def aoQ(L:List Int)(n m:Nat):List nR:=u7 Q2 (aaY L n m m)
def ado(L:List Int)(a b p:Nat):(ac4 L a b p).length<=p:=by
 induction p with
 |zero=>exact dp _
 |succ p c=>rw[ac4,cv];split<;>simp<;>omega
def s7(L:List Int){n:Nat}(b:n<=5)(a k:Nat):(aaf L n a k).length<=5*k:=by
 induction k with
 |zero=>exact dp _
 |succ k c=>have:=ado L a (a+1+k) n;rw[aaf,cv];omega
def ahE(L:List Int){n m:Nat}(b:n<=5)(c:m<=3)(a:Nat):(aaY L n m a).length<=15*a:=by
 induction a with
 |zero=>exact dp _
 |succ a d=>have:=s7 L b a (m-(a+1));rw[aaY,cv];omega
def ahF(L:List Int){n m:Nat}(a:n<=5)(c:m<=3):(aaY L n m m).length<=15:=by
 match m,c with
 |0,_=>exact dv _
 |1,_=>
  have b:=s7 L a 0 0;rw[show aaY L n 1 1=aaf L n 0 0 from rfl];omega
 |2,_=>
  have b:=s7 L a 0 1;have d:=s7 L a 1 0;rw[show aaY L n 2 2=aaf L n 0 1++aaf L n 1 0 from rfl,cv];omega
 |3,_=>
  have b:=s7 L a 0 2;have d:=s7 L a 1 1;have e:=s7 L a 2 0;rw[show aaY L n 3 3=aaf L n 0 2++aaf L n 1 1++aaf L n 2 0 from rfl,cv,cv];omega
def z61:Array Value:=#[eN fZ 0,eN fZ 0,eN fZ 0,eN fZ 0,eN fZ 0]
def IG(n0:Nat)(A:Array Value)(j:Nat)(vs:Nat->Value)(W:World):Prop:=
 (j=14->∃k,vs 14=e6 (some ⟨k,0,none⟩)/\n0<=k/\k<W.heap.size/\∃x0 x1 x2 x3 x4,W.heap[k]?=some (eh #[x0,x1,x2,x3,x4] 71))/\
 (j=15->∃k,vs 15=e6 (some ⟨k,0,none⟩)/\n0<=k/\k<W.heap.size/\W.heap[k]?=some (eh z61 71))/\
 (j=16->∃k,vs 14=e6 (some ⟨k,0,none⟩)/\W.heap[k]?=some (eh A 71))
def ExT(t:Nat):Bool:=t != 14&&t != 15&&t != 16
def neT(i j:Nat)(u v:Value):Prop:=(i=14/\j=15\/i=15/\j=14)->u≠v
def IG.le{n0:Nat}{A:Array Value}{j:Nat}{vs:Nat->Value}{W g:World}(h:IG n0 A j vs W)(b:Below W.heap.size W g):IG n0 A j vs g:=
 ⟨λe=>(h.1 e).imp λq⟨c,f,d,x0,x1,x2,x3,x4,a⟩=>⟨c,f,dy d b.size,x0,x1,x2,x3,x4,(b.block _ d).trans a⟩,
  λe=>(h.2.1 e).imp λq⟨c,f,d,a⟩=>⟨c,f,dy d b.size,(b.block _ d).trans a⟩,
  λe=>(h.2.2 e).imp λq⟨c,a⟩=>⟨c,(b.block _ (aT a)).trans a⟩⟩
def Sl{n0:Nat}{A:Array Value}{W:World}{vs:Nat->Value}{D:List Nat}{i:Nat}(f:n0<=W.heap.size)(hi:i=14\/i=15)(hd:∀j∈D,ExT j=false->IG n0 A j vs W) :
 (∀j∈D,ExT j=false->IG n0 A j vs (W.alloc (eh z61 71)))/\IG n0 A i (upd vs i (e6 (some ⟨W.heap.size,0,none⟩))) (W.alloc (eh z61 71))/\∀j∈D,ExT j=false->neT j i (vs j) (e6 (some ⟨W.heap.size,0,none⟩)):=by
 have g:=(eD W.heap.size W).alloc (dp _) (eh z61 71);refine⟨λj c d=>(hd j c d).le g,⟨λe=>⟨W.heap.size,by simp[upd,e],f,by simp,_,_,_,_,_,au _ _⟩,λe=>⟨W.heap.size,by simp[upd,e],f,by simp,au _ _⟩,λe=>by omega⟩,λj c d e1 e=>?_⟩;obtain⟨q,a,b⟩:∃q,vs j=e6 (some ⟨q,0,none⟩)/\q<W.heap.size:=by
  rcases e1 with⟨rfl,_⟩|⟨rfl,_⟩
  ·obtain⟨q,a,_,b,_⟩:=(hd _ c d).1 rfl;exact⟨q,a,b⟩
  ·obtain⟨q,a,_,b,_⟩:=(hd _ c d).2.1 rfl;exact⟨q,a,b⟩
 rw[a]at e;cases e;exact Nat.lt_irrefl _ b
structure KR(C:CD)(w:World)(k:Nat)(L:List Int)(B:Nat)(W:World):Prop where
 pK:B<=W.heap.size
 kl:k<B
 bl:w.heap.size<B
 box:W.heap[w.heap.size]?=some (eh C.val 78)
 row:Row W k (L.map bh)
 low:Below w.heap.size w W
def KR.on{C:CD}{w W b:World}{k:Nat}{L:List Int}{B:Nat}(h:KR C w k L B W)(a:Below W.heap.size W b):KR C w k L B b:=
 ⟨dz h.pK a.size,h.kl,h.bl,(a.block _ (aT h.box)).trans h.box,h.row.on a,fJ h.low a⟩
def Below.ag3{B:Nat}{a w:World}(h:Below B a w){k:Nat}(b:B<=k)(u0 u1 u2 u3 u4:Value):Below B a (((((w.setCell ⟨k,0,none⟩ u0).setCell ⟨k,1,none⟩ u1).setCell ⟨k,2,none⟩ u2).setCell ⟨k,3,none⟩ u3).setCell ⟨k,4,none⟩ u4):=
 ((((h.setCell (p:=⟨k,0,none⟩) b _).setCell (p:=⟨k,1,none⟩) b _).setCell (p:=⟨k,2,none⟩) b _).setCell (p:=⟨k,3,none⟩) b _).setCell (p:=⟨k,4,none⟩) b _
def Sm{W:World}{b:Nat}{x:nR}{t:ap}(h:W.heap[b]?=some (eh #[eN fZ x.1,eN fZ x.2.1,eN fZ x.2.2.1,eN fZ x.2.2.2.1,eN fZ x.2.2.2.2] t)):∀(j:Nat)(u:Value),(vV x)[j]?=some u->W.cell? ((⟨b,0,none⟩:Addr).add j)=some u:=by
 intro j u e
 match j,e with
 |0,e=>cases e;simp[bm,eE,h]
 |1,e=>cases e;simp[bm,eE,h]
 |2,e=>cases e;simp[bm,eE,h]
 |3,e=>cases e;simp[bm,eE,h]
 |4,e=>cases e;simp[bm,eE,h]
 |j+5,e=>simp[vV]at e
def KR.alloc{C:CD}{w W:World}{k:Nat}{L:List Int}{B:Nat}(h:KR C w k L B W)(o:Obj):KR C w k L B (W.alloc o):=h.on ((eD _ _).alloc (dp _) o)
def afK(v:Value)(L:List nR){base:Nat}{w:World}(h:kV w base v L)(hl:L.length<=15):Calls PL 67 #[v,e9 (gb 68) #[] #[]] w λe w'=>e=f8 v/\kV w' base v (u7 Q2 L)/\Below base w w':=by
 obtain⟨n,d⟩:∃n,n=L.length:=⟨_,rfl⟩
 obtain⟨b,c,rfl⟩:=vB h;rw[<-d]
 have H:Hid (Calls PL 126 #[eQ b n c,eN fZ 0,eN fZ n,e9 (gb 68) #[] #[]] w λe w'=>(∃v,e=f8 v)/\kV w' base (eQ b n c) (u7 Q2 L)/\Below base w w'):=em (by
  have k:=h
  rcases h.2 with⟨e,l⟩|⟨g,cap,m,e,_⟩
  ·obtain⟨rfl,_,rfl⟩:=fP e;obtain rfl:=List.length_eq_zero_iff.1 l;subst d;refine(zW none 0 0 0 _ w (by omega)).mono ?_;rintro e w'⟨a,rfl⟩;exact⟨a,k,eD _ _⟩
  ·obtain⟨rfl,_,rfl⟩:=fP e;rw[d]
   exact adn L g c base w k (by omega))
 rw[<-d]at hl;clear h d;have p:(n:Int)<20:=by omega
 have q:(n:Int)<=20:=by omega
 have i:Hid (Calls PL 117 #[eQ b n c,eN fZ n,e9 (gb 68) #[] #[]] w λe w'=>(∃v,e=f8 v)/\kV w' base (eQ b n c) (u7 Q2 L)/\Below base w w'):=em (by
  go_enter (fx (by decide) Tryz.func117),Tryz.ntmps117
  go_wp2
  go_loop [7,8] (λv7 o=>v7=eN fZ 0/\o=eN fZ 20) (λ_ _=>0)
  case atStart=>exact⟨rfl,rfl⟩
  case round=>
   obtain⟨rfl,rfl⟩:=hrel
   go_wp2_with (go_at_call 126;refine H.out.mono ?_;rintro e w3⟨⟨v,rfl⟩,a⟩;have f:=em a;clear a)
   go_loop [6] (λv=>v=eN fZ 20) (λ_=>0)
   case atStart=>rfl
   case round=>
    subst hrel
    go_wp2
    go_end0
    exact⟨⟨_,rfl⟩,f.out⟩)
 have j:Hid (Calls PL 98 #[eQ b n c,e9 (gb 68) #[] #[]] w λe w'=>(∃v,e=f8 v)/\kV w' base (eQ b n c) (u7 Q2 L)/\Below base w w'):=em (by
  go_enter (fx (by decide) Tryz.func98),Tryz.ntmps98
  go_wp2_with (go_at_call 117;refine i.out.mono ?_;rintro e w'⟨⟨v,rfl⟩,a⟩;have f:=em a;clear a)
  go_end0
  exact⟨⟨_,rfl⟩,f.out⟩)
 go_enter (fx (by decide) Tryz.func67),Tryz.ntmps67
 go_wp2_with (go_at_call 98;refine j.out.mono ?_;rintro e w'⟨⟨v,rfl⟩,a⟩;have f:=em a;clear a)
 go_ret
 exact⟨rfl,f.out⟩
def ac5(C:CD)(L:List Int)(hL:L.length=75)(h4:C.n4<=5)(h5:C.n5<=3)(w:World)(h:C.At w)
 (HT:∀W,C.At W->Calls PL 30 #[eM C.val] W λe w'=>∃k,e=f8 (e6 (some ⟨k,0,none⟩))/\Row w' k (L.map bh)/\Below W.heap.size W w') :
 Calls PL 47 #[eM C.val] w λe w'=>∃v,e=f8 v/\kV w' w.heap.size v (aoQ L C.n4 C.n5)/\Below w.heap.size w w':=by
 have HA:=em h;have HTT:=em HT;have HLL:=em hL;have K0:Hid (KT C w (w.alloc (eh C.val 78))):=em ⟨au _ _,(eD _ _).alloc (dp _) _⟩;clear h HT hL
 go_enter (fx (by decide) Tryz.func47),Tryz.ntmps47
 go_upto_region 1 with fail
 obtain⟨W0,kS⟩:∃W0:World,W0=w.alloc (eh C.val 78):=⟨_,rfl⟩
 rw[<-kS]at K0 ⊢;clear kS;obtain⟨r,s,t,y,f4,z⟩:=bf K0.out.box
 go_wp2_with (go_at_call 30;refine(HTT.out _ (HA.out.below K0.out.low)).mono ?_;rintro e w2⟨k,rfl,hR,qA⟩;have k2:=K0.out.on qA;clear qA r s t y f4 z;have K2:Hid (KR C w k L w2.heap.size w2):=em (KR.mk (dp _) hR.1 (aT k2.box) k2.box hR k2.low);clear k2 hR;obtain⟨r,s,t,y,f4,z⟩:=bf K2.out.box)
 go_loopw [4,19] (λv4 O wr=>∃a:Nat,a<=C.n5/\O=eN fZ a/\kV wr w2.heap.size v4 (aaY L C.n4 C.n5 a)/\KR C w k L w2.heap.size wr) (λ_ O _=>C.n5-(intOf O).toNat)
 case atStart=>exact⟨0,dv _,rfl,⟨rfl,f6 ⟨rfl,rfl⟩⟩,K2.out⟩
 case round=>
  obtain⟨a,ha,rfl,I,J⟩:=hrel;clear r s t y f4 z;have HO:=em I;have HK:=em J;clear I J K2;obtain⟨r,s,t,y,f4,z⟩:=bf HK.out.box;by_cases aH:a<C.n5
  ·have i1:(a:Int)<C.n5:=by omega
   have i3:(a:Int)<3:=by omega
   clear r s t y f4 z
   go_wp2
   go_loopw [4,6] (λv4 v6 wq=>∃b j:Nat,b=a+1+j/\b<=C.n5/\v6=eN fZ b/\kV wq w2.heap.size v4 (aaY L C.n4 C.n5 a++aaf L C.n4 a j)/\KR C w k L w2.heap.size wq) (λ_ v6 _=>C.n5-(intOf v6).toNat)
   case atStart=>exact⟨a+1,0,rfl,aH,by go_num,by simpa[aaf]using HO.out,HK.out⟩
   case round=>
    obtain⟨b,j,hb,eP,rfl,I,J⟩:=hrel;have A:=em hb;have hab:a<b:=by omega
    have P:=em I;have B:=em J;clear I J HO HK hb;obtain⟨r,s,t,y,f4,z⟩:=bf B.out.box;by_cases asp:b<C.n5
    ·have i2:(b:Int)<C.n5:=by omega
     have i6:(b:Int)<3:=by omega
     go_wp2
     go_loopw [4,36] (λv4 Q wp=>∃p:Nat,p<=C.n4/\Q=eN fZ p/\kV wp w2.heap.size v4 (aaY L C.n4 C.n5 a++aaf L C.n4 a j++ac4 L a b p)/\KR C w k L w2.heap.size wp) (λ_ Q _=>C.n4-(intOf Q).toNat)
     case atStart=>exact⟨0,dv _,rfl,by simpa[ac4]using P.out,B.out⟩
     case round=>
      obtain⟨p,hp,rfl,I,J⟩:=hrel;have HO3:=em I;have f:=em J;clear I J P B r s t y f4 z;by_cases aoS:p<C.n4
      ·have i4:(p:Int)<C.n4:=by omega
       have i5:(p:Int)<5:=by omega
       have cell:∀j,j<75->wr.cell? ⟨k,j,none⟩=some (eN fZ (L.getD j 0)):=λj hj=>f.out.row.getD (by rw[HLL.out];exact hj);obtain⟨a0,ea0⟩:∃x,x=L.getD (a*25+p*5) 0:=⟨_,rfl⟩
       obtain⟨a1,R⟩:∃x,x=L.getD (a*25+p*5+1) 0:=⟨_,rfl⟩
       obtain⟨a2,S⟩:∃x,x=L.getD (a*25+p*5+2) 0:=⟨_,rfl⟩
       obtain⟨a3,U⟩:∃x,x=L.getD (a*25+p*5+3) 0:=⟨_,rfl⟩
       obtain⟨a4,V⟩:∃x,x=L.getD (a*25+p*5+4) 0:=⟨_,rfl⟩
       obtain⟨b0,eb0⟩:∃x,x=L.getD (b*25+p*5) 0:=⟨_,rfl⟩
       obtain⟨g,X⟩:∃x,x=L.getD (b*25+p*5+1) 0:=⟨_,rfl⟩
       obtain⟨E,Y⟩:∃x,x=L.getD (b*25+p*5+2) 0:=⟨_,rfl⟩
       obtain⟨K,Z⟩:∃x,x=L.getD (b*25+p*5+3) 0:=⟨_,rfl⟩
       obtain⟨F,eb4⟩:∃x,x=L.getD (b*25+p*5+4) 0:=⟨_,rfl⟩
       have T:Hid (wr.cell? ⟨k,a*25+p*5,none⟩=some (eN fZ a0)/\wr.cell? ⟨k,a*25+p*5+1,none⟩=some (eN fZ a1)/\wr.cell? ⟨k,a*25+p*5+2,none⟩=some (eN fZ a2)/\wr.cell? ⟨k,a*25+p*5+3,none⟩=some (eN fZ a3)/\wr.cell? ⟨k,a*25+p*5+4,none⟩=some (eN fZ a4)/\
        wr.cell? ⟨k,b*25+p*5,none⟩=some (eN fZ b0)/\wr.cell? ⟨k,b*25+p*5+1,none⟩=some (eN fZ g)/\wr.cell? ⟨k,b*25+p*5+2,none⟩=some (eN fZ E)/\wr.cell? ⟨k,b*25+p*5+3,none⟩=some (eN fZ K)/\wr.cell? ⟨k,b*25+p*5+4,none⟩=some (eN fZ F)):=em
        ⟨by rw[ea0];exact cell _ (by omega),by rw[R];exact cell _ (by omega),by rw[S];exact cell _ (by omega),by rw[U];exact cell _ (by omega),by rw[V];exact cell _ (by omega),by rw[eb0];exact cell _ (by omega),by rw[X];exact cell _ (by omega),by rw[Y];exact cell _ (by omega),by rw[Z];exact cell _ (by omega),by rw[eb4];exact cell _ (by omega)⟩
       obtain⟨mt,hmt⟩:∃m,m=ahD a1 a2 a3 a4 g E K F:=⟨_,rfl⟩
       have ET:Hid (IU L a b p=(a,(b:Int),(p:Int),mt,max a1 g)):=em (by rw[IU,hmt,R,S,U,V,X,Y,Z,eb4]);have HMT:=em hmt;have Ll:=f.out.row.1;clear cell ea0 R S U V eb0 X Y Z eb4 hmt;obtain⟨r,s,t,y,f4,z⟩:=bf f.out.box
       go_upto_region 12 with fail
       clear r s t y f4 z;refine iL 17 14 (λ_ W=>Below wr.heap.size wr W) (λW W'=>Below W.heap.size W W') ExT (λ_=>IG wr.heap.size #[eN fZ a0,eN fZ a1,eN fZ a2,eN fZ a3,eN fZ a4]) neT (λ_ _ _ _ h e=>(h (e.symm.imp And.symm And.symm)).symm) rfl (by kernel_rfl) (by kernel_rfl) rfl
        (λ_ i vs W W' hle h=>h.le hle) (λi o ho vs eX W he aaZ _ h=>⟨λe=>by subst e;rw[<-he];exact h.1 rfl,λe=>by subst e;rw[<-he];exact h.2.1 rfl,λe=>?_⟩) (eD _ _).drew ?_
       ·subst e;have e14:vs 14=eX 14:=by
         simp only[b1,c9,da,ft]at ho;subst ho;exact aaZ ⟨14,gc⟩ (cH.2 ⟨by simp,rfl⟩)
        rw[<-e14];exact h.2.2 rfl
       iterate 14 (
        apply iK
        case hE=>rfl
        case h=>
         intro vs W _ l hd;obtain⟨t0,t1,t2,t3,t4,t5,t6,t7,t8,t9⟩:=T.out;rw[<-l.cell (p:=⟨k,_,none⟩) Ll]at t0 t1 t2 t3 t4 t5 t6 t7 t8 t9
         go_simp
         exact⟨rfl,eD _ _⟩
        case hb=>exact P0)
       iterate 2 (
        apply ey
        case hE=>rfl
        case hb=>exact P0
        case h=>
         intro vs W D _ _ l _ hi _ hd hP
         go_simp
         exact⟨l.alloc l.size _,Sl l.size (by simp) hd⟩)
       apply ey
       case hE=>rfl
       case hb=>exact P0
       case h=>
        intro vs W D _ _ l jw hi _ hd hP;have m14:14∈D:=jw ⟨14,gc⟩ (cH.2 ⟨by simp,rfl⟩);have m15:15∈D:=jw ⟨15,.phase⟩ (cH.2 ⟨by simp,rfl⟩);obtain⟨ka,H,hla,alY,x0,x1,x2,x3,x4,M⟩:=(hd 14 m14 rfl).1 rfl;obtain⟨n,NZ,Tg,ab0,iC⟩:=(hd 15 m15 rfl).2.1 rfl;have bu:n≠ka:=λe=>hP 14 m14 15 m15 (by decide) rfl rfl (f6 ⟨rfl,rfl⟩) (by rw[H,NZ,e]);have fz:=tO M;rw[H];obtain⟨y0,y1,y2,y3,y4⟩:=qO M
        go_simp
        refine⟨Below.ag3 l hla _ _ _ _ _,λj hj hE=>?_,⟨λe=>absurd e (by decide),λe=>absurd e (by decide),λ_=>⟨ka,by simp[upd,H],tD M⟩⟩,λj _ _ e=>by omega⟩;refine⟨λe=>⟨ka,H,hla,by simpa using alY,_,_,_,_,_,tD M⟩,λe=>⟨n,NZ,Tg,by simpa using ab0,(gh bu).trans iC⟩,λe=>⟨ka,H,tD M⟩⟩
       refine nv λvs W _ _ l hd hX=>?_;obtain⟨ka,H,M⟩:=(hd 16 (by omega) rfl).2.2 rfl;obtain⟨n,NZ,Tg,ab0,iC⟩:=(hd 15 (by omega) rfl).2.1 rfl;have bu:ka≠n:=λe=>hX 14 15 (by omega) (by omega) (by omega) rfl rfl (f6 ⟨rfl,rfl⟩) (by rw[H,NZ,e]);have NE:=em bu;have HBA:=em M;have wC:=em iC;have HC:=em l;have HLB:=em Tg;obtain⟨y0,y1,y2,y3,y4⟩:=qO iC;have fz:=tO iC;rw[H,NZ];clear M iC l hd hX H NZ bu Tg
       go_upto_region 13 with fail
       obtain⟨W2,vp⟩:∃W2:World,W2=((((W.setCell ⟨n,0,none⟩ (eN fZ b0)).setCell ⟨n,1,none⟩ (eN fZ g)).setCell ⟨n,2,none⟩ (eN fZ E)).setCell ⟨n,3,none⟩ (eN fZ K)).setCell ⟨n,4,none⟩ (eN fZ F):=⟨_,rfl⟩
       have BA:Hid (W2.heap[ka]?=some (eh #[eN fZ a0,eN fZ a1,eN fZ a2,eN fZ a3,eN fZ a4] 71)):=em (by rw[vp];exact(gh NE.out).trans HBA.out);have BB:Hid (W2.heap[n]?=some (eh #[eN fZ b0,eN fZ g,eN fZ E,eN fZ K,eN fZ F] 71)):=em (by rw[vp];exact tD wC.out);have HB:Hid (Below wr.heap.size wr W2):=em (by rw[vp];exact Below.ag3 HC.out HLB.out _ _ _ _ _);rw[<-vp];clear vp y0 y1 y2 y3 y4 fz HBA wC HC HLB NE;clear T Ll
       go_cut [10] from 37 to 111 (fun(v10:Value)(wx:World)=>v10=eN fZ mt/\wx=W2)
       case first=>
        obtain⟨z0,z1,z2,z3,z4⟩:=qO BA.out;obtain⟨y0,y1,y2,y3,y4⟩:=qO BB.out;have la:=aT BA.out;have lb:=aT BB.out;have s1:(a1<F/\g<a4)\/(a1<F/\¬g<a4)\/¬a1<F:=by omega
        have s2:(a3<=E)\/(¬a3<=E/\K<=a2)\/(¬a3<=E/\¬K<=a2):=by omega
        rcases s1 with⟨e1,e2⟩|⟨e1,e2⟩|e1<;>rcases s2 with e3|⟨e3,e4⟩|⟨e3,e4⟩
        all_goals (
         go_wp2_with (go_at_call 42;refine(yH _ _ _).mono ?_;rintro e w'⟨rfl,rfl⟩)
         go_meet
         case rel=>
          refine⟨?_,rfl⟩;rw[HMT.out,ahD]
          first|rw[show(decide (a1<F)&&decide (g<a4))=true by simp;omega]|rw[show(decide (a1<F)&&decide (g<a4))=false by simp;omega]
          first|rw[show(decide (a3<=E)||decide (K<=a2))=true by simp;omega]|rw[show(decide (a3<=E)||decide (K<=a2))=false by simp;omega])
       case rest=>
        obtain⟨rfl,rfl⟩:=hcut;obtain⟨z0,z1,z2,z3,z4⟩:=qO BA.out;obtain⟨y0,y1,y2,y3,y4⟩:=qO BB.out;have la:=aT BA.out;have lb:=aT BB.out;have q1:=Rw;have q2:=Kv;have O2:=em (HO3.out.on HB.out);have K2:=em (f.out.on HB.out)
        go_upto_region 16 with fail
        obtain⟨mx,hmx⟩:∃m,max a1 g=m:=⟨_,rfl⟩
        rw[hmx];have HMX:Hid (IU L a b p=(a,(b:Int),(p:Int),mt,mx)):=em (by rw[ET.out,hmx]);clear hmx z0 z1 z2 z3 z4 y0 y1 y2 y3 y4 la lb;obtain⟨N,Sn⟩:∃N:World,N=(wc.alloc (eh #[eN fZ a,eN fZ b,eN fZ p,eN fZ mt,eN fZ mx] 75)).alloc (eh #[eN fZ a,eN fZ b,eN fZ p,eN fZ 2,eN fZ mx] 75):=⟨_,rfl⟩
        have r1:N.heap[wc.heap.size]?=some (eh #[eN fZ a,eN fZ b,eN fZ p,eN fZ mt,eN fZ mx] 75):=by rw[Sn];exact(((eD _ (wc.alloc _)).alloc (dp _) _).block _ (by simp)).trans (au wc _)
        have r2:N.heap[wc.heap.size+1]?=some (eh #[eN fZ a,eN fZ b,eN fZ p,eN fZ 2,eN fZ mx] 75):=by
         have h:=au (wc.alloc (eh #[eN fZ a,eN fZ b,eN fZ p,eN fZ mt,eN fZ mx] 75)) (eh #[eN fZ a,eN fZ b,eN fZ p,eN fZ 2,eN fZ mx] 75);rw[bo]at h;rw[Sn];exact h
        have O4:=em (show kV N w2.heap.size u4 _ by rw[Sn];exact(O2.out.alloc _).alloc _);have K4:Hid (KR C w k L w2.heap.size N):=em (by rw[Sn];exact(K2.out.alloc _).alloc _);rw[<-Sn];clear Sn;have z1:=aT r1;have z2:=aT r2;obtain⟨c0,c1,c2,c3,c4⟩:=qO r1;obtain⟨d0,d1,d2,d3,d4⟩:=qO r2;clear r1 r2;by_cases hm2:mt=2
        ·subst hm2
         go_wp2
         exact⟨⟨p+1,aoS,by go_num,by rw[ac4,if_pos (by rw[HMX.out]),c8];exact O4.out,K4.out⟩,by simp only[intOf];omega⟩
        ·obtain⟨i0,hi,mF,dx,wD⟩:=aw aaX;have NB:=em K4.out.pK;have Tl:(aaY L C.n4 C.n5 a++aaf L C.n4 a j++ac4 L a b p).length<=80:=by
          have:=ahE L h4 h5 a;have:=s7 L h4 a j;have:=ado L a b p;have:=A.out;simp only[cv];omega
         have HLN:=em Tl;clear Tl
         go_wp2_with (at_builtin;refine wpList_append_own _ rfl _ _ _ rfl w2.heap.size 75 i0 _ 5 40 ag2 hi mF dx wD rfl (by decide) u4 _ _ rfl (O4.out.alloc _) ⟨N.heap.size,0,none⟩ 1 1 (vV (a,(b:Int),(p:Int),mt,mx)) rfl rfl (Sm (x:=(a,(b:Int),(p:Int),mt,mx)) (au N _)) (by simp[vV,eF]) (by have:=HLN.out;simp only[aB];omega) (by have:=HLN.out;omega) (by have:=NB.out;simp;omega) ?_;intro v' w4 h1 h2 _;have H1:=em h1;have H2:=em h2;clear h1 h2)
         have bu:=cZ O4.out;have d:=K4.out.alloc (eh #[eN fZ a,eN fZ b,eN fZ p,eN fZ mt,eN fZ mx] 75);have hg:=(eD w2.heap.size _).grown H2.out d.pK bu;refine⟨⟨p+1,aoS,by go_num,?_,dz d.pK H2.out.size,d.kl,d.bl,(hg.block _ d.bl).trans d.box,⟨dy d.row.1 H2.out.size,λj u e=>(hg.cell (p:=⟨k,j,none⟩) d.kl).trans (d.row.2 j u e)⟩,d.low.grown H2.out d.low.size λq e=>dz (dK d.bl) (bu q e)⟩,by simp only[intOf];omega⟩;rw[ac4,if_neg (by rw[HMX.out];exact hm2),HMX.out,<-dd];unfold kV;rw[cv,cC];simpa using H1.out
      ·obtain rfl:p=C.n4:=by omega
       go_wp2
       exact⟨⟨b+1,j+1,by rw[A.out];rfl,asp,by go_num,by rw[aaf,<-A.out,<-dd];exact HO3.out,f.out⟩,by simp only[intOf];omega⟩
    ·have hbn:b=C.n5:=by omega
     have i2:¬((b:Int)<C.n5):=by omega
     go_wp2
     exact⟨⟨a+1,aH,by go_num,by rw[aaY,show C.n5-(a+1)=j by have:=A.out;omega];exact P.out,B.out⟩,by simp only[intOf];omega⟩
  ·obtain rfl:a=C.n5:=by omega
   obtain⟨b,c,rfl⟩:=vB HO.out;have hm:=ahF L h4 h5
   go_wp2_with (go_at_call 67;refine(afK _ _ HO.out (by omega)).mono ?_;rintro e w3⟨rfl,hO3,qi⟩)
   go_ret
   exact⟨_,rfl,dJ hO3 (dK HK.out.bl),HK.out.low.trans (qi.mono (dK HK.out.bl))⟩
def Cv(d:Int)(p:Nat):List nR:=if d=1/\p=3 then[(0,1,2,0,13)] else[]
def amL{d:Int}(hd:d=0\/d=1):aoQ (mC d) 3 2=Cv d 3:=by
 rcases hd with rfl|rfl<;>decide +kernel
def vC(C:CD)(d:Int)(hd:d=0\/d=1)(a:C.n4=3)(b:C.n5=2)(w:World)(h:C.At w)
 (c:∀W,C.At W->Calls PL 30 #[eM C.val] W λe w'=>∃k,e=f8 (e6 (some ⟨k,0,none⟩))/\Row w' k ((mC d).map bh)/\Below W.heap.size W w') :
 Calls PL 47 #[eM C.val] w λe w'=>∃v,e=f8 v/\kV w' w.heap.size v (Cv d 3)/\Below w.heap.size w w':=by
 have:=ac5 C (mC d) (by rcases hd with rfl|rfl<;>rfl) (by omega) (by omega) w h c;rwa[a,b,amL hd]at this
end Go.Proofs
namespace Go.Proofs
open Go.RowKit
set_option maxRecDepth 100000
set_option maxHeartbeats 4000000
def CD.LR(C:CD):Bool:=C.small&&decide (C.cx=0)
def agu(C:CD)(w:World)(h:C.Mem w):Calls PL 4 #[eM C.val] w (aO (eV C.LR) w):=by
 have f:Hid (∀W,Below w.heap.size w W->C.Mem W):=em λW g=>h.below g;have b:=em (show KB C w (w.alloc (eh C.val 27)) from⟨au _ _,(eD _ _).alloc (dp _) _⟩);clear h;by_cases hs:C.small=true
 ·have r:Hid (∀W,Below w.heap.size w W->C.At W):=em λW g=>CD.At.Ri (f.out W g) hs;have a:(!C.small)=false:=by rw[hs];rfl
  have i:Hid (∀W,C.Mem W->Calls PL 10 #[eM C.val] W (aO (eV false) W)):=em λW j=>by have:=AK C W j;rwa[a]at this
  have k:=em hs;clear hs a;by_cases hc:C.cx=0
  all_goals
   have s:=em hc;clear hc
   go_enter (fx (by decide) eq),et
   obtain⟨l,m,n,o,f4,p⟩:=bf b.out.box
   go_wp2_with (first
    |(go_at_call 10;refine(i.out _ (f.out _ b.out.low)).mono ?_;rintro e w1⟨rfl,c⟩;have d:=em (b.out.on c);clear c;clear l m n o f4 p;obtain⟨l,m,n,o,f4,p⟩:=bf d.out.box)
    |(go_at_call 11;refine(rK C _ (r.out _ d.out.low)).mono ?_;rintro e w2⟨rfl,q⟩;have t:=em (d.out.on q);clear q))
   go_ret
   refine⟨?_,t.out.low⟩;have:=s.out;have:=k.out
   simp_all [CD.LR]
 ·have a:(!C.small)=true:=by simpa using hs
  have i:Hid (∀W,C.Mem W->Calls PL 10 #[eM C.val] W (aO (eV true) W)):=em λW j=>by have:=AK C W j;rwa[a]at this
  have k:=em hs;clear hs a
  go_enter (fx (by decide) eq),et
  go_wp2_with (first
   |(go_at_call 10;refine(i.out _ (f.out _ b.out.low)).mono ?_;rintro e w1⟨rfl,c⟩;have d:=em (b.out.on c);clear c))
  go_ret
  refine⟨?_,d.out.low⟩;have:=k.out
  simp_all [CD.LR]
open Go.Shelf
attribute [local go_sem] Oper.semAt_some
def CD.rp(C:CD)(g i:Nat):Nat:=j8 C.n4 (C.S g) i
end Go.Proofs
namespace Go.Proofs
open Go.RowKit
def abA{C:CD}(hc:C.cx=0){g:Nat}(hg:g<C.n5)(k:Nat):(nT C g k).1=C.rp g k:=by
 have b:=(Lf hc).1;have hs:=(aht hc hg).1
 induction k with
 |zero=>
  show C.S g=j8 C.n4 (C.S g) 0;unfold j8;rw[Nat.add_zero,Nat.mod_eq_of_lt];unfold CD.S;omega
 |succ k a=>
  show Ff C (nT C g k).1=j8 C.n4 (C.S g) (k+1);rw[a,aaG (by omega)];rfl
def amM{C:CD}(hc:C.cx=0){g:Nat}(hg:g<C.n5){r:Nat}(d:r<=C.n4):cmV C.pn C.n4 (C.S g) (C.dl g) r=(nT C g r).2:=by
 have a:=Sa C hc hg
 induction r with
 |zero=>rfl
 |succ r f=>
  have b:=a.lo (r+1) d;have c:=a.hi (r+1) d;have h:=a.lo r (by omega);have i:=a.hi r (by omega);have e:=a.nn _ (a.p4 r);have j:=a.m4;rw[cmV,f (by omega)];simp only[nT]at b c ⊢;rw[abA hc hg]at b c e ⊢;simp only[CD.rp]at b c e ⊢
  grind[fV]
def ab5(x:nR):Nat->Int
 |0=>(x.1:Nat)
 |1=>x.2.1
 |2=>x.2.2.1
 |3=>x.2.2.2.1
 |_=>x.2.2.2.2
def al5{C:CD}(hc:C.cx=0){g:Nat}(hg:g<C.n5){r:Nat}(c:r<C.n4)(j:Nat):vsV C.pn C.n4 (C.S g) (C.dl g) r j=ab5 (Nu C g r) j:=by
 have a:=Sa C hc hg;have d:=a.lo r (by omega);have f:=a.hi r (by omega);have b:=a.nn _ (a.p4 r);have h:=a.m4;rw[abA hc hg]at b;have e:=amM hc hg (show r<=C.n4 by omega)
 match j with
 |0=>simp only[vsV,ab5,Nu,abA hc hg];rfl
 |1=>simp only[vsV,ab5,Nu,e]
 |2=>simp only[vsV,ab5,Nu,e]
 |3=>
  simp only[vsV,ab5,Nu,e,abA hc hg];simp only[CD.rp,CD.pn]at b ⊢;exact fV _ (by omega)
 |j+4=>
  simp only[vsV,ab5,Nu,e,abA hc hg];simp only[CD.rp,CD.pn]at b ⊢;exact fV _ (by omega)
def al6{C:CD}(hc:C.cx=0){g:Nat}(hg:g<C.n5){r:Nat}(b:r<C.n4)(j:Nat):0<=ab5 (Nu C g r) j/\ab5 (Nu C g r) j<=1000:=by
 have a:=Sa C hc hg;have c:=a.lo r (by omega);have d:=a.hi r (by omega);have e:=a.nn _ (a.p4 r);have f:=a.m4;have h:=a.p4 r
 match j with
 |0=>simp only[ab5,Nu];omega
 |1=>simp only[ab5,Nu];omega
 |2=>simp only[ab5,Nu];omega
 |3=>simp only[ab5,Nu];omega
 |j+4=>simp only[ab5,Nu];omega
def CD.abc{C:CD}(hc:C.cx=0):Ir C.tab:=by
 have key:∀o,-10000<=C.tab.getD o 0/\C.tab.getD o 0<=10000:=λo=>by
  unfold CD.tab acv;rw[df,di]
  rcases Nat.lt_or_ge o 75 with a|a
  ·rw[List.getElem?_range a];simp only[ea,Option.getD_some];rw[ahu]
   split
   ·rename_i b;have:=al6 hc b.1 (abj (np:=C.n4) (s:=C.S (o / 25)) (p:=o % 25 / 5) (by omega)) (o % 5);rw[al5 hc b.1 (abj (by omega))];omega
   ·omega
  grind
 exact⟨by simp[CD.tab,acv],λj=>(key j).1,λj=>(key j).2⟩
open Go.Shelf
attribute [local go_sem] Oper.semAt_some
set_option maxRecDepth 100000
set_option maxHeartbeats 4000000
end Go.Proofs
namespace Go.Proofs
open Go.RowKit Go.Shelf
set_option maxRecDepth 100000
set_option maxHeartbeats 4000000
end Go.Proofs
namespace Go.Proofs
open Go.RowKit
set_option maxRecDepth 100000
set_option maxHeartbeats 4000000
open Go.Shelf
attribute [local go_sem] Oper.semAt_some
def amN:PL.underlying 31=some (.slice 3):=by kernel_rfl
def amO:(PL.info? 3).map (λi=>(i.zero,i.size,i.bytes))=some (some (eN fZ 0),1,8):=by kernel_rfl
def aoV(C:CD)(w:World)(j:Nat)(vs:Nat->Value)(W:World):Prop:=
 (j=10->∃k,vs 10=e6 (some ⟨k,0,none⟩)/\w.heap.size<k/\Six W k)/\(j=11->∃k,vs 10=e6 (some ⟨k,0,none⟩)/\w.heap.size<k/\W.heap[k]?=some (eh C.val 78))
abbrev zn:Int->Value:=λn=>eN fZ n
def CD.ClP(C:CD)(m:Int)(p:Nat)(n:Int):Prop:=∃i,i<p/\kU C.tab i m C.n5 0 false≠2/\∃j,j<(C.x4 i).ln/\(C.x4 i).lane j=n
abbrev CD.Cl(C:CD)(m:Int):Int->Prop:=C.ClP m C.n4
structure KQ(C:CD)(w:World)(kx kt:Nat)(W:World):Prop where
 box:W.heap[w.heap.size]?=some (eh C.val 27)
 bx:W.heap[kx]?=some (eh C.val 78)
 row:Row W kt (C.tab.map bh)
 low:Below w.heap.size w W
def KQ.on{C:CD}{w W b:World}{c d:Nat}(h:KQ C w c d W)(a:Below W.heap.size W b):KQ C w c d b:=
 ⟨(a.block _ (aT h.box)).trans h.box,(a.block _ (aT h.bx)).trans h.bx,h.row.on a,fJ h.low a⟩
def KQ.turned{C:CD}{w W l:World}{m i b:Nat}{o:Obj}(h:KQ C w m i W)(d:gv W l b)(hb:W.heap[b]?=some o)(n:∀c t f,o≠eh c t f)(q:w.heap.size<=b):KQ C w m i l:=by
 have p:∀{k:Nat}{c:Array Value}{t:ap}{f:Nat×Nat},W.heap[k]?=some (eh c t f)->k≠b:=λ{k c t f}e g=>by
  rw[g,hb]at e;cases e;exact n _ _ _ rfl
 refine⟨(d.block _ (p h.box)).trans h.box,(d.block _ (p h.bx)).trans h.bx,⟨by rw[d.size];exact h.row.1,λj v e=>(d.cell (a:=⟨i,j,none⟩) λg=>?_).trans (h.row.2 j v e)⟩,h.low.trans (d.below q)⟩;have:=h.row.2 j v e;simp only at g;subst g;simp only[bm,hb]at this
 cases o with
 |cells c t f=>exact n c t f rfl
 |_=>simp at this
def Sz(C:CD)(hc:C.cx=0)(k p:Nat)(m:Int)(w:World)(a:Row w k (C.tab.map bh))(b:p<5) :
 Calls PL 31 #[eM C.val,e6 (some ⟨k,0,none⟩),eN fZ p,eN fZ m] w (aO (eN fZ (kU C.tab p m C.n5 0 false)) w):=
 Fa C k p m C.tab (CD.abc hc) w a (SH hc) b
def jy.turned{W a:World}{b c:Nat}{R:List WE}(h:jy W b R)(d:gv W a c)(hc:∃o,W.heap[c]?=some o/\∀x t f,o≠eh x t f)(g:b≠c):jy a b R:=by
 obtain⟨o,i,j⟩:=hc;exact⟨(d.block _ g).trans h.map,λx e=>jN (h.reads x e) (h.ne x e) d i j,h.ne⟩
def Ft(W:World)(r:Nat):Nat:=match W.heap[r]? with
 |some (ej _ n seen _)=>Fs n seen
 |_=>0
def Fu{W:World}{r b n:Nat}{seen:Array Nat}(h:tE W r b n seen):Ft W r=Fs n seen:=by
 have a:W.heap[r]?=some (ej (some b) n seen n):=h;simp only[Ft,a]
def tE.on{W a:World}{r b n:Nat}{seen:Array Nat}(h:tE W r b n seen)(c:Below W.heap.size W a):tE a r b n seen:=(c.block _ (aT h)).trans h
def ab4(W:World)(b:Nat):Nat:=match W.heap[b]? with
 |some (ei es _)=>es.size
 |_=>0
def Fv{W:World}{b:Nat}{l:List Int}(h:aU W zn b l):ab4 W b=l.length:=by
 obtain⟨es,c,a,d,_⟩:=h;have:=congrArg List.length d;simp only[ab4,a];simpa using this
structure Wb(n0:Nat)(xp:List Int)(tq n:Int)(b:Bool)(j:Nat)(vs:Nat->Value)(W:World):Prop where
 c4:j=4->b=false->eO 3 W n0 (vs 4) xp
 c6:j=6->b=false->∃k,vs 6=eQ (some ⟨k,0,none⟩) 1 1/\W.heap[k]?=some (eh #[eN fZ tq] 3)
 c7:j=7->eO 3 W n0 (vs 7) (xp++[tq])
 c15:j=15->vs 15=eM #[vs 7,eN fZ n]
 c16:j=16->∃k,vs 16=e6 (some ⟨k,0,none⟩)/\n0<=k/\W.heap[k]?=some (eh #[eQ none 0 0,eN fZ 0] 88)
def zc(a b:Value)(W:World):(bg 88 (eM #[a,b]) 0).run PL W=dQ a W:=by kernel_rfl
def ze(a b:Value)(W:World):(bg 88 (eM #[a,b]) 1).run PL W=dQ b W:=by kernel_rfl
def A8{W:World}{base e size n B o:Nat}{v u:Value}{xs:List Value}(h:W.ownsRow base e size v n xs)(c:∀j,v.ownBlock=some j->j≠B):(W.setCell ⟨B,o,none⟩ u).ownsRow base e size v n xs:=by
 obtain⟨b,h⟩:=h
 rcases h with h|⟨g,cap,a,rfl,hb,hg,d⟩
 ·exact⟨b,f6 h⟩
 ·refine⟨b,f7 ⟨g,cap,a,rfl,hb,?_,d⟩⟩;have f:g≠B:=c g rfl;simp only[bs,dU,if_neg (Ne.symm f)];exact hg
def Wc{W:World}{r:Nat}{x0 x1 u0 u1:Value}{t:ap}(h:W.heap[r]?=some (eh #[x0,x1] t)):((W.setCell ⟨r,0,none⟩ u0).setCell ⟨r,1,none⟩ u1).heap[r]?=some (eh #[u0,u1] t):=by
 simp only[bs,dU,if_pos,h,ea];rfl
def yX{T e:ap}(a:PL.underlying T=some (.slice e))(c:(PL.info? e).map (λi=>(i.zero,i.size,i.bytes))=some (some (eN fZ 0),1,8)){ops:Array Oper}{o:Oper}{b:Act}{K:Value->World->Prop}{W:World}(d:o.guard=none)(s x:ad)
 (f:o.op=.call { callee:=.builtin .append,args:=#[s,x],argTypes:=#[T,T] }) (base:Nat) (v:Value) (l:List Int) (j:Int) (k:Nat) (hs:b.eval s=v) (g:eO e W base v l)
 (m:b.eval x=eQ (some ⟨k,0,none⟩) 1 1) (hc:W.cell? ⟨k,0,none⟩=some (eN fZ j)) (hl:l.length<=1000) (n:base<=W.heap.size)
 (h:∀v' w',eO e w' base v' (l++[j])->W.grownBy w' v.ownBlock->K v' w'):fC PL ops K o b W:=by
 obtain⟨p,hi,r,t,y⟩:=aw c
 obtain⟨v',w',z,A,B,_⟩:=aS (P:=PL) (w:=W) base T o.type e p (eN fZ 0) 1 8 a hi r t y rfl (by decide) v l.length _ g ⟨k,0,none⟩ 1 1 [eN fZ j] rfl (λq u e=>by
  match q,e with
  |0,e=>cases e;exact hc) (by simp[eF]) (by simp only[aB];omega) (by omega) n
 unfold fC;rw[if_pos (by simp[Region.wanted,d])];unfold ai;simp only[f,ao,invoke,builtin,Sem.run_bind,Sem.run_pure,dPq,dj,bT,dk,hs,m,z];refine h v' w' ?_ B;unfold eO;rw[cv,b9];exact A
def ahG{W:World}{b:Nat}{R:List WE}(h:jy W b R)(k:Int):∃p n c l ok,(a9 89 (eS (some b)) (eN fZ k) true).run PL W=dQ (eT #[eM #[eQ p n c,eN fZ l],eV ok]) W/\(R.find? (λz=>z.1==k)=none->ok=false)/\
 ∀z,R.find? (λz=>z.1==k)=some z->ok=true/\l=z.2.2.2/\n=z.2.2.1.length/\bB W (eQ p n c) z.2.2.1/\z∈R/\z.1=k:=by
 cases e:R.find? (λz=>z.1==k) with
 |none=>exact⟨none,0,0,0,false,Sx h.map e,λ_=>rfl,λz h=>by cases h⟩
 |some x=>
  have a:=ce e;have d:=h.reads _ a;obtain⟨p,c,f,_⟩:=h.reads _ a;have:=Sw h.map e;simp only[nD,f]at this;refine⟨p,_,c,_,true,this,λh=>(by cases h),λz g=>?_⟩;cases g;rw[f]at d;exact⟨rfl,rfl,rfl,d,a,by simpa using cf e⟩
def ExW(t:Nat):Bool:=t != 4&&t != 6&&t != 7&&t != 15&&t != 16
def Wb.le{n0:Nat}{d:List Int}{g n:Int}{b:Bool}{j:Nat}{vs:Nat->Value}{W i:World}(h:Wb n0 d g n b j vs W)(c:Below W.heap.size W i):Wb n0 d g n b j vs i:=
 ⟨λe f=>(h.c4 e f).on c,λe f=>(h.c6 e f).imp λ_ a=>⟨a.1,(c.block _ (aT a.2)).trans a.2⟩,λe=>(h.c7 e).on c,h.c15,λe=>(h.c16 e).imp λ_ a=>⟨a.1,a.2.1,(c.block _ (aT a.2.2)).trans a.2.2⟩⟩
def asC(r:Option F5)(w:World)(e:Ending)(w':World):Prop:=
 (match r with
   |some x=>∃b c,e=f8 (eT #[eQ b x.1.length c,eN fZ x.2,eV true,eN fZ 0])/\bB w' (eQ b x.1.length c) x.1
   |none=>e=f8 (eT #[eQ none 0 0,eN fZ 0,eV false,eN fZ 0]))/\Below w.heap.size w w'
def abB(C:CD)(s m:Int)(w:World)(h:C.At w)(hc:C.cx=0)(hs:0<=s/\s<C.p)(hm:bO m 0 999=true) :
 Calls PL 6 #[eM C.val,eN fZ s,eN fZ m] w λe w'=>∃r,s9 (C.edge (C.Cl m)) s 0 r/\asC r w e w':=by
 have HA:=em h;have HC:=em hc;have HF:Hid (C.b6 true=0):=em (by rw[CD.b6,if_pos hc];rfl);have HB:Hid (bO s 0 (C.p-1)=true):=em (by simp[bO];omega);have Kf:=em hm;have HT:Hid (∀W,C.At W->Calls PL 30 #[eM C.val] W λe w'=>∃k,e=f8 (e6 (some ⟨k,0,none⟩))/\Row w' k (C.tab.map bh)/\Below W.heap.size W w'):=em λW hW=>ag9 hW hc;have hp6:=H9 hc;have HW:Hid (IntKind.i64.wrap (C.p-1)=C.p-1):=em (fV _ (by omega));have HS:=em hs;have HP6:=em hp6;have H45:=em (Lf hc);have H39:=em (afF hc);obtain⟨b3,FJ⟩:∃b,b=C.b3:=⟨_,rfl⟩
 have IB:=em FJ;clear FJ;have K0:Hid (KB C w (w.alloc (eh C.val 27))):=em ⟨au _ _,(eD _ _).alloc (dp _) _⟩;clear h hc hm hp6 hs
 go_enter (fx (by decide) Tryz.func6),Tryz.ntmps6
 go_upto_region 1 with fail
 apply wp_scope_straight;apply wp_seq_k;intro _ _;refine cT 12 (KB C w) (Fo C) (λj=>j != 10&&j != 11) (aoV C w) rfl (by kernel_rfl) (by kernel_rfl)
  (λi vs W W' hle h=>⟨λe=>(h.1 e).imp λk P=>⟨P.1,P.2.1,(hle k).2 P.2.2⟩,λe=>(h.2 e).imp λk P=>⟨P.1,P.2.1,(hle k).1 P.2.2⟩⟩) (λi o ho vs eX W he hd h=>⟨λe=>?_,λe=>?_⟩) ?_ ?_
 ·subst e;rw[<-he];exact h.1 rfl
 ·subst e;have e8:vs 10=eX 10:=by
   simp only[b1,c9,da,ft]at ho;subst ho;exact hd ⟨10,gc⟩ (cH.2 ⟨by simp,rfl⟩)
  rw[<-e8];exact h.2 rfl
 ·exact⟨K0.out.box,K0.out.low.drew⟩
 ·iterate 10 (
   apply aY
   case hE=>rfl
   case h=>
    intro vs W d hd;obtain⟨f0,f1,f2,f3,f4,f5⟩:=bf d.box;have hwr:=HW.out
    go_simp
    first
    |(go_at_call 28;refine(rM HB.out _).mono ?_;rintro e W'⟨rfl,rfl⟩;exact⟨_,rfl,rfl,d,Fo.on (eD _ _)⟩)
    |(go_at_call 27;refine(kF HF.out (HA.out.below d.low)).mono ?_;rintro e W'⟨rfl,c⟩;exact⟨_,rfl,rfl,d.on c,Fo.on c⟩)
    |exact⟨rfl,Fo.on (eD _ _)⟩
   case hb=>exact P0)
  apply eH
  case hE=>rfl
  case hb=>exact P0
  case h=>
   intro vs W d hd
   go_simp
   have c:=(eD W.heap.size W).alloc (dp _) (eh #[eN fZ 0,eN fZ 0,eQ none 0 0,eQ none 0 0,eQ none 0 0,eQ none 0 0] 78);exact⟨d.on c,Fo.on c,⟨λ_=>⟨W.heap.size,by simp[upd],d.lt,_,_,_,_,_,_,au W _⟩,λe=>absurd e (by decide)⟩⟩
  apply eH
  case hE=>rfl
  case hb=>exact P0
  case h=>
   intro vs W d hd;obtain⟨k,P,Ll,x0,x1,x2,x3,x4,x5,hx⟩:=(hd ⟨10,gc⟩ (cH.2 ⟨by simp,rfl⟩) rfl).1 rfl;obtain⟨f0,f1,f2,f3,f4,f5⟩:=bf hx;have fz:=tO hx;rw[P]
   go_simp
   refine⟨⟨(cM (by omega)).trans d.box,fB d.low (by omega) _ _ _ _ _ _⟩,λq=>?_,⟨λe=>absurd e (by decide),λ_=>⟨k,by simp[upd,P],Ll,nC hx⟩⟩⟩;by_cases hq:q=k
   ·subst hq;exact⟨λ_=>nC hx,λ_=>⟨_,_,_,_,_,_,nC hx⟩⟩
   ·exact⟨λe=>(cM hq).trans e,fun⟨_,_,_,_,_,_,e⟩=>⟨_,_,_,_,_,_,(cM hq).trans e⟩⟩
  refine cP λvs W d hd=>?_;obtain⟨kx,P,Ll,hx⟩:=(hd 11 (by omega) rfl).2 rfl;rw[P];obtain⟨f0,f1,f2,f3,f4,f5⟩:=bf hx;have HX:=em hx;have HC1:=em d;have HKL:=em Ll;clear hx d hd P Ll;have hmm:=@run_makeMap PL
  go_upto_region 8 with(first
   |(go_at_call 29;refine(yO Kf.out _).mono ?_;rintro e w'⟨rfl,rfl⟩)
   |(go_at_call 30;go_must (refine(HT.out _ (HA.out.below HC1.out.low)).mono ?_);rintro e w1⟨kt,rfl,hR,aL⟩;have K1:Hid (KQ C w kx kt w1):=em ⟨(HC1.out.on aL).box,(aL.block _ (aT HX.out)).trans HX.out,hR,(HC1.out.on aL).low⟩;clear hR aL))
  obtain⟨bM,hbM⟩:∃b,b=w1.heap.size:=⟨_,rfl⟩
  obtain⟨W0,kS⟩:∃W0:World,W0=w1.alloc (ei #[] 0):=⟨_,rfl⟩
  have K2:Hid (KQ C w kx kt W0):=em (by rw[kS];exact K1.out.on ((eD _ _).alloc (dp _) _));have S2:Hid (aU W0 zn bM ([]:List Int)):=em (by rw[kS,hbM];exact aU.made w1);have ZM:Hid (w.heap.size<=bM):=em (by rw[hbM];exact K1.out.low.size);rw[<-kS,<-hbM];clear kS hbM f0 f1 f2 f3 f4 f5;obtain⟨f0,f1,f2,f3,f4,f5⟩:=bf K2.out.box;have hb4:C.b4=some ⟨C.k4,C.o4,none⟩:=HA.out.s4 (by have:=H45.out;omega)
  go_wp2
  go_loopw [51] (λv51 wr=>∃(p:Nat)(l:List Int),p<=C.n4/\v51=eN fZ p/\aU wr zn bM l/\(∀n,n∈l↔C.ClP m p n)/\KQ C w kx kt wr) (λv51 _=>C.n4-(intOf v51).toNat)
  case atStart=>exact⟨0,[],dv _,rfl,S2.out,λn=>⟨λh=>(by cases h),fun⟨i,h,_⟩=>by omega⟩,K2.out⟩
  case round=>
   obtain⟨p,l,hp,rfl,O,sB,hK⟩:=hrel;clear hb4;have HS1:=em O;have HCL:=em sB;have HK:=em hK;clear O hK sB f0 f1 f2 f3 f4 f5 K2 S2;by_cases f:p<C.n4
   ·have i1:(p:Int)<C.n4:=by omega
    have hp5:p<5:=by have:=H45.out;omega
    have hA:=HA.out.below HK.out.low;have p0:=hA.AD p f;have p1:=hA.dB p f 1 (by omega) (by omega);have p2:=hA.dB p f 2 (by omega) (by omega);have p3:=hA.dB p f 3 (by omega) (by omega);have p4:=hA.dB p f 4 (by omega) (by omega);have p5:=hA.dB p f 5 (by omega) (by omega);have p6:=hA.dB p f 6 (by omega) (by omega);have p7:=hA.dB p f 7 (by omega) (by omega);have p8:=hA.dB p f 8 (by omega) (by omega);have p9:=hA.dB p f 9 (by omega) (by omega);have Cz:=hA.dB p f 10 (by omega) (by omega);have Fy:=hA.nj p f;have asD:=(hA.cu p f).2;clear hA;obtain⟨xb,hxb⟩:∃x,x=(C.x4 p).lb:=⟨_,rfl⟩
    obtain⟨xn,hxn⟩:∃x,x=(C.x4 p).ln:=⟨_,rfl⟩
    obtain⟨xc,hxc⟩:∃x,x=(C.x4 p).lc:=⟨_,rfl⟩
    rw[<-hxb,<-hxn,<-hxc]at Fy;rw[<-hxn]at asD;have HXB:=em hxb;have HXN:=em hxn;clear hxb hxn hxc
    go_upto_region 11 with fail
    obtain⟨W1,mG⟩:∃W1:World,W1=wr.alloc (eh #[fg (C.x4 p).name,eN fZ ((C.x4 p).n 1),eN fZ ((C.x4 p).n 2),eN fZ ((C.x4 p).n 3),eN fZ ((C.x4 p).n 4),eN fZ ((C.x4 p).n 5),eN fZ ((C.x4 p).n 6),eN fZ ((C.x4 p).n 7),eN fZ ((C.x4 p).n 8),eN fZ ((C.x4 p).n 9),eN fZ ((C.x4 p).n 10),eQ xb xn xc] 42):=⟨_,rfl⟩
    rw[<-mG];have iC:Below wr.heap.size wr W1:=by rw[mG];exact(eD _ _).alloc (dp _) _
    have hpk:W1.cell? ⟨wr.heap.size,11,none⟩=some (eQ xb xn xc):=by
     have h:=au wr (eh #[fg (C.x4 p).name,eN fZ ((C.x4 p).n 1),eN fZ ((C.x4 p).n 2),eN fZ ((C.x4 p).n 3),eN fZ ((C.x4 p).n 4),eN fZ ((C.x4 p).n 5),eN fZ ((C.x4 p).n 6),eN fZ ((C.x4 p).n 7),eN fZ ((C.x4 p).n 8),eN fZ ((C.x4 p).n 9),eN fZ ((C.x4 p).n 10),eQ xb xn xc] 42);rw[mG];simp only[bm,h];rfl
    have Wf:wr.heap.size<W1.heap.size:=by rw[mG];simp
    have HPK:=em (And.intro hpk Wf);have K3:=em (HK.out.on iC);have S3:=em (aG iC HS1.out);clear mG iC hpk Wf p0 p1 p2 p3 p4 p5 p6 p7 p8 p9 Cz Fy;obtain⟨f0,f1,f2,f3,f4,f5⟩:=bf K3.out.bx;obtain⟨sg,hsg⟩:∃x,x=kU C.tab p m C.n5 0 false:=⟨_,rfl⟩
    have SG:Hid (∀W,Row W kt (C.tab.map bh)->Calls PL 31 #[eM C.val,e6 (some ⟨kt,0,none⟩),eN fZ p,eN fZ m] W (aO (eN fZ sg) W)):=em λW hR=>by rw[hsg];exact Sz C HC.out kt p m W hR hp5
    have HSG:=em hsg;clear hsg;by_cases hs:sg=2
    ·have CN:Hid (∀n,n∈l↔C.ClP m (p+1) n):=em λn=>(HCL.out n).trans ⟨fun⟨i,K,E⟩=>⟨i,by omega,E⟩,fun⟨i,K,E,h3⟩=>by
      rcases Nat.lt_succ_iff_lt_or_eq.1 K with K|rfl
      ·exact⟨i,K,E,h3⟩
      ·exact absurd (HSG.out.symm.trans hs) E⟩
     subst hs
     go_wp2_with (go_at_call 31;(with_reducible refine(SG.out _ K3.out.row).mono ?_);rintro e w3⟨rfl,qi⟩;have K4:=em (K3.out.on qi);have S4:=em (aG qi S3.out);clear qi)
     exact⟨⟨p+1,l,f,by go_num,S4.out,CN.out,K4.out⟩,by simp only[intOf];omega⟩
    ·have CN:Hid (∀n,C.ClP m (p+1) n↔(n∈l\/∃j,j<xn/\(C.x4 p).lane j=n)):=em λn=>⟨fun⟨i,K,E,h3⟩=>by
      rcases Nat.lt_succ_iff_lt_or_eq.1 K with K|rfl
      ·exact f6 ((HCL.out n).2 ⟨i,K,E,h3⟩)
      ·rw[HXN.out];exact f7 h3,λh=>by
      rcases h with h|h
      ·obtain⟨i,K,E⟩:=(HCL.out n).1 h;exact⟨i,by omega,E⟩
      ·exact⟨p,by omega,λe=>hs (HSG.out.trans e),by rw[HXN.out]at h;exact h⟩⟩
     have fR:(sg != 2)=true:=by simpa using hs
     have HLE:Hid (∀W,Below w.heap.size w W->0<xn->∃lk lo,xb=some ⟨lk,lo,none⟩/\∀q,q<xn->W.cell? ⟨lk,lo+q,none⟩=some (eN fZ ((C.x4 p).lane q))):=em λW c hn=>by
      have hA:=HA.out.below c;rw[HXN.out]at hn;exact⟨_,_,HXB.out.trans (hA.l4 p f hn).1,λq hq=>hA.J5 p f q (by rw[HXN.out]at hq;exact hq)⟩
     go_upto_region 12 with(go_at_call 31;(with_reducible refine(SG.out _ K3.out.row).mono ?_);rintro e w3⟨rfl,qi⟩;have K4:=em (K3.out.on qi);have S4:=em (aG qi S3.out);have am6:=em ((qi.cell (p:=⟨wr.heap.size,11,none⟩) HPK.out.2).trans HPK.out.1);clear qi)
     have atU:=am6.out;clear hs fR
     go_wp2
     go_loopw [65] (λv65 wq=>∃(q:Nat)(l2:List Int),q<=xn/\v65=eN fZ q/\aU wq zn bM l2/\(∀n,n∈l2↔(n∈l\/∃j,j<q/\(C.x4 p).lane j=n))/\KQ C w kx kt wq) (λv65 _=>xn-(intOf v65).toNat)
     case atStart=>exact⟨0,l,dv _,rfl,S4.out,λn=>⟨f6,λh=>h.elim id fun⟨j,Q,_⟩=>by omega⟩,K4.out⟩
     case round=>
      obtain⟨q,l2,hq,rfl,O,hm2,hK⟩:=hrel;have S5:=em O;have K5:=em hK;have M5:=em hm2;clear O hK hm2;by_cases hqn:q<xn
      ·have i2:(q:Int)<xn:=by omega
       obtain⟨lk,lo,rfl,hcc⟩:=HLE.out wr K5.out.low (by omega);have ec:=hcc q hqn;obtain⟨y,hy⟩:∃y,y=(C.x4 p).lane q:=⟨_,rfl⟩
       rw[<-hy]at ec;have HY:=em hy;clear hcc hy
       go_wp2_with (at_mapUpdate;go_must (refine aby _ rfl _ _ _ rfl ju bM l2 rfl S5.out y rfl rfl ?_);intro w5 l3 O T1 J;have S6:=em O;have M6:=em T1;have K6:=em (by obtain⟨es,cl,hh,_⟩:=S5.out;exact K5.out.turned J hh (λ_ _ _ e=>by cases e) ZM.out:KQ C w kx kt w5);clear O J T1;go_frame)
       refine⟨⟨q+1,l3,hqn,by go_num,S6.out,λn=>?_,K6.out⟩,by simp only[intOf];omega⟩;rw[M6.out n,M5.out n,HY.out];constructor
       ·rintro((h|⟨j,K,E⟩)|h)
        ·exact f6 h
        ·exact f7 ⟨j,by omega,E⟩
        ·exact f7 ⟨q,by omega,h.symm⟩
       ·rintro(h|⟨j,K,E⟩)
        ·exact f6 (f6 h)
        ·rcases Nat.lt_succ_iff_lt_or_eq.1 K with K|rfl
         ·exact f6 (f7 ⟨j,K,E⟩)
         ·exact f7 E.symm
      ·obtain rfl:q=xn:=by omega
       go_wp2
       exact⟨⟨p+1,l2,f,by go_num,S5.out,λn=>(M5.out n).trans (CN.out n).symm,K5.out⟩,by simp only[intOf];omega⟩
   ·obtain rfl:p=C.n4:=by omega
    obtain⟨cl,aoW⟩:∃cl,cl=l:=⟨_,rfl⟩
    rw[<-aoW]at HS1 HCL;clear f hp aoW;have ag8:=aU.lt HS1.out;have HSZ:=em ag8;have hBa:=((eD wr.heap.size wr).alloc (dp _) (ei #[] 0)).alloc (by simp) (eh #[eN fZ s] 3);have M0:Hid (jy ((wr.alloc (ei #[] 0)).alloc (eh #[eN fZ s] 3)) wr.heap.size []):=em ((jy.made wr).on ((eD _ _).alloc (dp _) _))
    have R0:Hid (bB ((wr.alloc (ei #[] 0)).alloc (eh #[eN fZ s] 3)) (eQ (some ⟨wr.heap.size+1,0,none⟩) 1 1) [s]):=em ⟨_,_,rfl,λ_=>⟨_,_,rfl,by simp,λj Q=>by
     obtain rfl:j=0:=by simp at Q;omega
     have h:=au (wr.alloc (ei #[] 0)) (eh #[eN fZ s] 3);rw[bo]at h;show bm _ ⟨wr.heap.size+1,0+0,none⟩=some (eN fZ s);simp only[bm,h]
     rfl⟩⟩
    have KA:=em (HK.out.on hBa);have SA:=em (aG hBa HS1.out);clear hBa ag8
    go_upto_region 20 with(refine tF _ rfl _ _ _ (f7 rfl) wr.heap.size [] (s,eQ (some ⟨wr.heap.size+1,0,none⟩) 1 1,[s],0) rfl rfl rfl M0.out rfl R0.out (by simp) ?_;intro w5 hM J;have MB:=em hM;have KB5:=em (KA.out.turned J M0.out.map (λ_ _ _ e=>by cases e) HK.out.low.size);have SB:=em (fW SA.out (J.block _ (by have:=HSZ.out;omega)));clear hM J)
    obtain⟨bR,hbR⟩:∃b,b=wr.heap.size:=⟨_,rfl⟩
    obtain⟨bL,hbL⟩:∃b,b=w5.heap.size:=⟨_,rfl⟩
    have ZR:Hid (bM<bR/\bR<bL):=em (by have:=HSZ.out;have:=aT MB.out.map;rw[hbR,hbL];omega);obtain⟨W3,hW3⟩:∃W3:World,W3=w5.alloc (ei #[] 0):=⟨_,rfl⟩
    have hBb:Below w5.heap.size w5 W3:=by rw[hW3];exact(eD _ _).alloc (dp _) _
    have K6:=em (KB5.out.on hBb);have S6:=em (aG hBb SB.out);have M6:Hid (jy W3 bR ([]++[(s,eQ (some ⟨bR+1,0,none⟩) 1 1,[s],0)])):=em (by rw[hbR];exact MB.out.on hBb);have L6:Hid (aU W3 zn bL ([]:List Int)):=em (by rw[hbL,hW3];exact aU.made w5);have D6:Hid (RDx C (C.Cl m) s ([]++[(s,eQ (some ⟨bR+1,0,none⟩) 1 1,[s],0)]) []):=em (RDx.first _ HS.out _);rw[<-hbR,<-hbL,<-hW3];clear hbR hbL hW3 hBb MB SB KB5 M0 R0 KA SA HK HS1 HSZ;refine wp_label ?_
    go_wp2
    go_loopw [19] (λ_ wr=>∃(R:List WE)(L:List Int),RDx C (C.Cl m) s R L/\jy wr bR R/\aU wr zn bL L/\aU wr zn bM cl/\KQ C w kx kt wr) (λ_ wr=>7-ab4 wr bL)
    case atStart=>exact⟨_,[],D6.out,M6.out,L6.out,S6.out,K6.out⟩
    case round=>
     obtain⟨R,L,hD,XP,hL,O,hK⟩:=hrel;have DD:=em hD;have MM:=em XP;have LL:=em hL;have SS:=em O;have KK:=em hK;clear hD XP hL O hK K6 S6 M6 L6 D6;have hrg:=V4 MM.out
     go_upto_region 22 with fail
     obtain⟨r,hr⟩:∃r,r=wr.heap.size:=⟨_,rfl⟩
     obtain⟨W4,Sn⟩:∃W4:World,W4=wr.alloc (ej (some bR) R.length #[] R.length):=⟨_,rfl⟩
     have Ts:Below wr.heap.size wr W4:=by rw[Sn];exact(eD _ _).alloc (dp _) _
     have I4:Hid (tE W4 r bR R.length #[]):=em (by rw[Sn,hr];exact au _ _);have M4:=em (MM.out.on Ts);have L4:=em (aG Ts LL.out);have S4:=em (aG Ts SS.out);have K4:=em (KK.out.on Ts);have ZI:Hid (bR<r/\bL<r/\bM<r/\w.heap.size<=r):=em (by have K:=aT MM.out.map;have E:=aU.lt LL.out;have h3:=aU.lt SS.out;have h4:=KK.out.low.size;rw[hr];exact⟨K,E,h3,h4⟩);rw[<-Sn,<-hr];clear Sn hr Ts hrg MM SS KK
     go_loopw [19] (λv19 wq=>∃(seen:Array Nat)(S:Option WE),tE wq r bR R.length seen/\jy wq bR R/\aU wq zn bL L/\aU wq zn bM cl/\KQ C w kx kt wq/\v19=eN fZ (aoM S)/\Sel L R seen S) (λ_ wq=>Ft wq r)
     case atStart=>exact⟨#[],none,I4.out,M4.out,L4.out,S4.out,K4.out,rfl,Sel.start _ _⟩
     case round=>
      obtain⟨seen,S,hI,XP,hL,O,hK,hv,aoY⟩:=hrel;have I5:=em hI;have M5:=em XP;have L5:=em hL;have S5:=em O;have K5:=em hK;have E5:=em aoY;clear hI XP hL O hK aoY I4 M4 L4 S4 K4;obtain⟨F,hca⟩:∃a,a=aoM S:=⟨_,rfl⟩
      rw[<-hca]at hv;have HCA:=em hca;clear hca;subst hv
      go_upto_region 23 with(first|(at_mapUpdate;go_must (refine dH (enc:=zn) _ rfl _ _ _ 85 3 4 rfl qz ju bL L rfl L5.out F rfl rfl HNA.out ?_);intro w6 O J;go_must (have LP:=em O;have MP:=em (M5.out.turned J (by obtain⟨es,cl,hh,_⟩:=L5.out;exact⟨_,hh,λ_ _ _ e=>by cases e⟩) (by have:=ZR.out;omega));have SP:=em (fW S5.out (J.block _ (by have:=ZR.out;omega)));have KP:Hid (KQ C w kx kt w6):=em (by obtain⟨es,cl,hh,_⟩:=L5.out;exact K5.out.turned J hh (λ_ _ _ e=>by cases e) (by have:=ZM.out;have:=ZR.out;omega)));clear O J;obtain⟨f0,f1,f2,f3,f4,f5⟩:=bf KP.out.box;rw[<-IB.out]at f3)|(at_next;go_must (refine zX _ rfl _ rfl r bR R seen rfl I5.out M5.out ?_ ?_);rotate_left;intro j x w' Q hs hI J OL hen;obtain⟨xk,xv,M,T⟩:=x;have JJ:=em Q;have NS:=em hs;have I6:=em hI;have T6:=em J;have M6:=em OL;have hk6:=aT hI;obtain⟨yb,yc,hxv,hyy⟩:=OL.reads _ (bX Q);clear hyy;simp only at hxv;subst hxv;clear Q hs hI J OL;simp only[nD]at hen ⊢;rotate_left;intro oh;have U:=em (E5.out.all oh);clear oh;rcases S with _|xa;rotate_left;rcases Int.lt_or_le 0 F with ha|ha;have HNA:Hid (F∉L):=em (by rw[HCA.out];exact(U.out.2 _ rfl).2.1);rotate_left;go_must (obtain⟨xk,xv,M,T⟩:=xa;have hre:=DD.out.some HC.out (U.out.2 _ rfl).1 (U.out.2 _ rfl).2.1 (U.out.2 _ rfl).2.2 (by rw[HCA.out]at ha;exact ha);have HRE:=em hre;have FH:=Sw M5.out.map hre.1;obtain⟨yb,yc,hxv,hyy⟩:=M5.out.reads _ (U.out.2 _ rfl).1;have RD:=em (M5.out.reads _ (U.out.2 _ rfl).1);clear hyy hre;simp only at hxv;subst hxv;simp only[nD]at FH);rotate_left;rotate_left;go_must (obtain rfl:F = -1:=HCA.out;have hre:=DD.out.none HC.out (U.out.1 rfl);have HRE:=em hre;have FH:=Sx M5.out.map hre.1;clear hre)))
      ·obtain⟨W7,V⟩:∃W7:World,W7=wr.alloc (eh #[eQ none 0 0,eN fZ 0] 88):=⟨_,rfl⟩
       have hB7:Below wr.heap.size wr W7:=by rw[V];exact(eD _ _).alloc (dp _) _
       have hc7:W7.heap[wr.heap.size]?=some (eh #[eQ none 0 0,eN fZ 0] 88):=by rw[V];exact au _ _
       have c0:W7.cell? ⟨wr.heap.size,0,none⟩=some (eQ none 0 0):=by simp[bm,hc7]
       have c1:W7.cell? ⟨wr.heap.size,1,none⟩=some (eN fZ 0):=by simp[bm,hc7]
       have LO7:=em (fJ K5.out.low hB7);rw[<-V];clear V hB7 hc7 FH
       go_quiet (fail)
       go_wp2
       rw[Exit.noGoto_ret];refine aJ (v:=eT #[eQ none 0 0,eN fZ 0,eV false,eN fZ 0]) ?_ rfl ⟨none,HRE.out.2,rfl,below_drewN LO7.out _⟩;simp[aI,eu,go_sem]
      ·obtain⟨xk,xv,M,T⟩:=xa;obtain rfl:F=xk:=HCA.out;have eW:Hid ((F,xv,M,T)∈R):=em (U.out.2 _ rfl).1;have HMI:Hid (∀y∈R,y.1∉L->N5 (M,T) y.2.2):=em (U.out.2 _ rfl).2.2;have SC0:Hid (SCx C (C.Cl m) s R L (F,xv,M,T) 0 R):=em (SCx.start DD.out _);obtain⟨bX0,bX1,bX2,bX3,bX4⟩:=DD.out.bd _ eW.out;simp only at bX0 bX1 bX2 bX3 bX4;have bC1:F<=5:=by have:=HP6.out;omega
       have bL5:L.length<=5:=by have K:=aaS (L:=L) (a:=F) (by omega) (by omega) HNA.out;have E:=DD.out.cnt;omega
       clear f0 f1 f2 f3 f4 f5 bX3 bX4
       go_loopw [110] (λab7 wq=>∃(q:Nat)(R':List WE),q<=C.n3/\ab7=eN fZ q/\SCx C (C.Cl m) s R L (F,xv,M,T) q R'/\jy wq bR R'/\aU wq zn bL (L++[F])/\aU wq zn bM cl/\KQ C w kx kt wq) (λab7 _=>C.n3-(intOf ab7).toNat)
       case atStart=>exact⟨0,R,dv _,rfl,SC0.out,MP.out,LP.out,SP.out,KP.out⟩
       case round=>
        obtain⟨q,R',hq,rfl,hsc,XP,hL,O,hK⟩:=hrel;have SC:=em hsc;have M7:=em XP;have L7:=em hL;have S7:=em O;have K7:=em hK;clear hsc XP hL O hK MP LP SP KP SC0;by_cases f:q<C.n3
        case neg=>
         obtain rfl:q=C.n3:=by omega
         go_wp2
         refine⟨?_,?_⟩
         ·exact⟨R',L++[F],SCx.stop HC.out DD.out eW.out HNA.out ha HMI.out SC.out (dp _),M7.out,L7.out,S7.out,K7.out⟩
         ·rw[Fv L7.out,Fv LL.out];simp;omega
        have j1:((q:Int)<C.n3):=by omega
        have h39:=H39.out;have hA:=HA.out.below K7.out.low;have g0:=hA.Es q f;have g1:=hA.Et q f;have g2:=hA.Eu q f;obtain rfl:b3=some ⟨C.k3,C.o3,none⟩:=IB.out.trans (HA.out.s3 (by omega));obtain⟨A,hAe⟩:∃x,x=(C.x3 q).1:=⟨_,rfl⟩
        obtain⟨B,hBe⟩:∃x,x=(C.x3 q).2.1:=⟨_,rfl⟩
        obtain⟨G,hGe⟩:∃x,x=(C.x3 q).2.2:=⟨_,rfl⟩
        rw[<-hAe]at g0;rw[<-hBe]at g1;rw[<-hGe]at g2;have bd:0<=A/\A<=5/\0<=B/\B<=5/\0<=G/\G<=999:=by
         have:=NK HC.out f;have:=HP6.out;rw[hAe,hBe,hGe];omega
        obtain⟨bA0,bA1,bB0,bB1,bG0,bG1⟩:=bd;have EA:=em hAe;have EB:=em hBe;have EG:=em hGe;clear hAe hBe hGe hA
        go_upto_region 31 with fail
        obtain⟨W9,hW9⟩:∃W9:World,W9=wr.alloc (eh #[eN fZ A,eN fZ B,eN fZ G] 45):=⟨_,rfl⟩
        have hB9:Below wr.heap.size wr W9:=by rw[hW9];exact(eD _ _).alloc (dp _) _
        have P9:Hid (W9.heap[wr.heap.size]?=some (eh #[eN fZ A,eN fZ B,eN fZ G] 45)):=em (by rw[hW9];exact au _ _);have M9:=em (M7.out.on hB9);have L9:=em (aG hB9 L7.out);have S9:=em (aG hB9 S7.out);have K9:=em (K7.out.on hB9);rw[<-hW9];clear hW9 hB9 g0 g1 g2 M7 L7 S7 K7;have h0:W9.cell? ⟨wr.heap.size,0,none⟩=some (eN fZ A):=by have h:=P9.out;simp[bm,h]
        have K:W9.cell? ⟨wr.heap.size,1,none⟩=some (eN fZ B):=by have h:=P9.out;simp[bm,h]
        have E:W9.cell? ⟨wr.heap.size,2,none⟩=some (eN fZ G):=by have h:=P9.out;simp[bm,h]
        have Wf:=aT P9.out;by_cases sB:(q:Int)∈cl
        ·have SK:=em (SC.out.skip (f6 ((HCL.out _).1 sB)))
         go_wp2_with (at_lookup;go_must (refine aR (enc:=zn) _ rfl _ _ 85 3 4 rfl qz ju (mq _) bM cl rfl S9.out (q:Int) rfl true (by simpa using sB) ?_))
         exact⟨⟨q+1,R',f,by go_num,SK.out,M9.out,L9.out,S9.out,K9.out⟩,by simp only[intOf];omega⟩
        have HCN:=em sB;clear sB;have HPN:Hid (¬C.Cl m (q:Nat)):=em λh=>HCN.out ((HCL.out _).2 h);by_cases hs:A≠F/\B≠F
        ·obtain⟨s1,s2⟩:=hs;have SK:=em (SC.out.skip (f7 (by rw[<-EA.out,<-EB.out];exact⟨s1,s2⟩)));have e1:(A != F)=true:=by simpa using s1
         have e2:(B != F)=true:=by simpa using s2
         clear s1 s2
         go_wp2_with (at_lookup;go_must (refine aR (enc:=zn) _ rfl _ _ 85 3 4 rfl qz ju (mq _) bM cl rfl S9.out (q:Int) rfl false (by simpa using HCN.out) ?_))
         exact⟨⟨q+1,R',f,by go_num,SK.out,M9.out,L9.out,S9.out,K9.out⟩,by simp only[intOf];omega⟩
        have HAB:Hid ((C.x3 q).1=F\/(C.x3 q).2.1=F):=em (by
         rw[<-EA.out,<-EB.out];by_cases h:A=F
         ·exact f6 h
         ·exact f7 (fY λE=>hs ⟨h,E⟩))
        have E12:((A != F)=false)\/((A != F)=true/\(B != F)=false):=by
         by_cases h:A=F
         ·exact f6 (by simpa using h)
         ·exact f7 ⟨by simpa using h,by have:B=F:=fY λE=>hs ⟨h,E⟩;simpa using this⟩
        clear hs
        rcases E12 with e1|⟨e1,e2⟩
        all_goals go_upto_region 33 with(at_lookup;go_must (refine aR (enc:=zn) _ rfl _ _ 85 3 4 rfl qz ju (mq _) bM cl rfl S9.out (q:Int) rfl false (by simpa using HCN.out) ?_))
        all_goals (
         obtain⟨⟨zk,zv,H,zl⟩,hxf,hsx⟩:=SC.out.at_ eW.out;simp only[strip,Prod.mk.injEq]at hsx;obtain⟨e3,e4,e5⟩:=hsx;subst e3 e4 e5;have hrx:=M9.out.reads _ (ce hxf);have qH:=M9.out.ne _ (ce hxf);simp only at hrx qH;have HRX:=em hrx;obtain⟨pb,pc,rfl,hyy⟩:=hrx;obtain⟨kp,op,rfl,Tt,hcp⟩:=hyy (by cases H with|nil=>exact absurd rfl qH|cons _ _=>simp);have HCP:=em hcp;have HXF:=em hxf;have HKP:=em Tt;clear hyy hcp hxf qH Tt;have OX2:Hid (H.length<=10):=em (by omega);obtain⟨g,hto⟩:∃t,t=A+B-zk:=⟨_,rfl⟩
         have HTO:Hid (g=(C.x3 q).1+(C.x3 q).2.1-zk):=em (by rw[hto,EA.out,EB.out]);rw[<-hto];clear hto;refine iL 17 7 (λ_ W=>Below W9.heap.size W9 W) (λW W'=>Below W.heap.size W W') ExW (Wb W9.heap.size H g (zl+G)) (λ_ _ _ _=>True) (λ_ _ _ _ _=>trivial) rfl (by kernel_rfl) (by kernel_rfl) rfl
          (λb i vs W W' hle h=>h.le hle) (λi o ho vs eX W he aaZ b h=>⟨λe=>by subst e;rw[<-he];exact h.c4 rfl,λe=>by subst e;rw[<-he];exact h.c6 rfl,λe=>by subst e;rw[<-he];exact h.c7 rfl,λe=>?_,λe=>by subst e;rw[<-he];exact h.c16 rfl⟩) (eD _ _).drew ?_
         ·subst e;have e7:vs 7=eX 7:=by
           simp only[b1,c9,da,ft]at ho;subst ho;exact aaZ ⟨7,gc⟩ (cH.2 ⟨by simp,rfl⟩)
          rw[<-he,<-e7];exact h.c15 rfl
         have HWR:Hid (IntKind.i64.wrap (zl+G)=zl+G):=em (fV _ (by omega))
         iterate 4 (
          apply iK
          case hE=>rfl
          case h=>
           intro vs W b d hd;have hl:=IJ ((d.block _ (aT M9.out.map)).trans M9.out.map) HXF.out;have q0:=zc;have q1:=ze;have g2:=(d.cell (p:=⟨wr.heap.size,2,none⟩) Wf).trans E;have hw:=HWR.out;simp only[nD]at hl
           go_simp
           exact⟨rfl,eD _ _⟩
          case hb=>exact P0)
         apply ey
         case hE=>rfl
         case hb=>exact P0
         case h=>
          intro vs W D b hb d jw hi _ hd hP
          go_simp
          refine(tC kp op H.length pc (H.map λz=>eN fZ z) _ (by simp) (λj u e=>?_) (by simp[eF]) (by have:=OX2.out;omega) (dy HKP.out d.size)).mono ?_
          ·obtain⟨z,hz,rfl⟩:∃z,H[j]?=some z/\u=eN fZ z:=by
            rw[di]at e
            cases h:H[j]? with
            |none=>rw[h]at e;cases e
            |some z=>rw[h]at e;cases e;exact⟨z,rfl,rfl⟩
           have Q:=(List.getElem?_eq_some_iff.1 hz).1;rw[d.cell (p:=⟨kp,op+j,none⟩) HKP.out,HCP.out j (by omega)];simp[df,hz]
          ·rintro e W'⟨v,rfl,_,hO,c⟩;exact⟨v,rfl,fJ d c,λj Q hE=>(hd j Q hE).le c,⟨λ_ _=>by simp only[upd,if_pos];exact dJ hO d.size,λe=>absurd e (by decide),λe=>absurd e (by decide),λe=>absurd e (by decide),λe=>absurd e (by decide)⟩⟩
         iterate 1 (
          apply iK
          case hE=>rfl
          case h=>
           intro vs W b d hd;have hl:=IJ ((d.block _ (aT M9.out.map)).trans M9.out.map) HXF.out;have q0:=zc;have q1:=ze;have g2:=(d.cell (p:=⟨wr.heap.size,2,none⟩) Wf).trans E;have hw:=HWR.out;simp only[nD]at hl
           go_simp
           exact⟨rfl,eD _ _⟩
          case hb=>exact P0)
         apply ey
         case hE=>rfl
         case hb=>exact P0
         case h=>
          intro vs W D b hb d jw hi _ hd hP;have c:=(eD W.heap.size W).alloc (dp _) (eh #[eN fZ g] 3);have HBC:=em (fJ d c);clear d
          go_simp
          exact⟨HBC.out,λj Q hE=>(hd j Q hE).le c,⟨λe=>absurd e (by decide),λ_ _=>⟨W.heap.size,by simp[upd],au _ _⟩,λe=>absurd e (by decide),λe=>absurd e (by decide),λe=>absurd e (by decide)⟩⟩
         apply ey
         case hE=>rfl
         case hb=>exact P0
         case h=>
          intro vs W D bb iC d jw hi _ hd hP;have hf:=iC rfl;have m4:4∈D:=jw ⟨4,gc⟩ (cH.2 ⟨by simp,rfl⟩);have m6:6∈D:=jw ⟨6,gc⟩ (cH.2 ⟨by simp,rfl⟩);have fO:=(hd 4 m4 rfl).c4 rfl hf;obtain⟨kq,hkq,hkc⟩:=(hd 6 m6 rfl).c6 rfl hf;have bu:=cZ fO;have hoc:=qm fO;refine yX amN amO rfl _ _ rfl W9.heap.size (vs 4) H g kq rfl fO hkq (by simp[bm,hkc]) (by have:=OX2.out;omega) d.size λv' w' e1 e2=>?_;have c:Below W9.heap.size W w':=(eD _ W).grown e2 d.size bu;refine⟨d.trans c,λj Q hE=>⟨λ_ e=>by simp at e,λ_ e=>by simp at e,λe=>absurd Q (by rw[e];exact hi),(hd j Q hE).c15,λe=>((hd j Q hE).c16 e).imp λk P=>⟨P.1,P.2.1,(e2.block k (aT P.2.2) λe=>?_).trans P.2.2⟩⟩,⟨λe=>absurd e (by decide),λe=>absurd e (by decide),λ_=>by simpa[upd]using e1,λe=>absurd e (by decide),λe=>absurd e (by decide)⟩,λ_ _ _=>trivial⟩;obtain⟨S,SF⟩:=hoc k e.symm;rw[P.2.2]at SF;cases SF
         iterate 7 (
          apply iK
          case hE=>rfl
          case h=>
           intro vs W b d hd;have hl:=IJ ((d.block _ (aT M9.out.map)).trans M9.out.map) HXF.out;have q0:=zc;have q1:=ze;have g2:=(d.cell (p:=⟨wr.heap.size,2,none⟩) Wf).trans E;have hw:=HWR.out;simp only[nD]at hl
           go_simp
           exact⟨rfl,eD _ _⟩
          case hb=>exact P0)
         apply ey
         case hE=>rfl
         case hb=>exact P0
         case h=>
          intro vs W D bb iC d jw hi _ hd hP;have m7:7∈D:=jw ⟨7,gc⟩ (cH.2 ⟨by simp,rfl⟩);obtain⟨vb,vc,h7⟩:=vB ((hd 7 m7 rfl).c7 rfl);rw[h7];have HD:=em hd;clear hd
          go_simp
          exact⟨HD.out,⟨λe=>absurd e (by decide),λe=>absurd e (by decide),λe=>absurd e (by decide),λ_=>by simp[upd,h7],λe=>absurd e (by decide)⟩⟩
         apply ey
         case hE=>rfl
         case hb=>exact P0
         case h=>
          intro vs W D b hb d jw hi _ hd hP;have c:=(eD W.heap.size W).alloc (dp _) (eh #[eQ none 0 0,eN fZ 0] 88);have HBC:=em (fJ d c);have HSZ:=em d.size;clear d
          go_simp
          exact⟨HBC.out,λj Q hE=>(hd j Q hE).le c,⟨λe=>absurd e (by decide),λe=>absurd e (by decide),λe=>absurd e (by decide),λe=>absurd e (by decide),λ_=>⟨W.heap.size,by simp[upd],HSZ.out,au _ _⟩⟩⟩
         refine nv λvs W bb _ d hd _=>?_;have hO7:=(hd 7 (by omega) rfl).c7 rfl;have ab8:=(hd 15 (by omega) rfl).c15 rfl;obtain⟨kw,h16,hkw,hcw⟩:=(hd 16 (by omega) rfl).c16 rfl;obtain⟨vb,vc,h7⟩:=vB hO7;rw[h7]at ab8 hO7;have HO7:=em hO7;have HC1:=em d;have HKW:=em hkw;have HCW:=em hcw;have y0:W.cell? ⟨kw,0,none⟩=some (eQ none 0 0):=by simp[bm,hcw]
         have y1:W.cell? ⟨kw,1,none⟩=some (eN fZ 0):=by simp[bm,hcw]
         have fz:=tO hcw;rw[h16,ab8];clear hd d hO7 ab8 h16 hkw hcw h7;obtain⟨nn,Va⟩:∃n,n=(H++[g]).length:=⟨_,rfl⟩
         have HNN:=em Va;rw[<-Va];clear Va
         go_upto_region 34 with fail
         obtain⟨XR,SG⟩:∃XR:World,XR=(W.setCell ⟨kw,0,none⟩ (eQ vb nn vc)).setCell ⟨kw,1,none⟩ (eN fZ (zl+G)):=⟨_,rfl⟩
         have SI:Below W9.heap.size W9 XR:=by rw[SG];exact(HC1.out.setCell (p:=⟨kw,0,none⟩) HKW.out _).setCell (p:=⟨kw,1,none⟩) HKW.out _
         have P10:Hid (XR.heap[kw]?=some (eh #[eQ vb nn vc,eN fZ (zl+G)] 88)):=em (by rw[SG];exact Wc HCW.out)
         have O10:Hid (eO 3 XR W9.heap.size (eQ vb nn vc) (H++[g])):=em (by
          have hoc:=qm HO7.out;rw[HNN.out];have bu:∀j,eI (eQ vb (H++[g]).length vc)=some j->j≠kw:=λj e Q=>by
           obtain⟨S,SF⟩:=hoc j e;rw[Q,HCW.out]at SF;cases SF
          rw[SG]
          exact A8 (A8 HO7.out bu) bu)
         have M10:=em (M9.out.on SI);have L10:=em (aG SI L9.out);have S10:=em (aG SI S9.out);have Ry:=em (K9.out.on SI);rw[<-SG];clear SG SI y0 y1 fz;obtain⟨tp,tn,tc,tl,ok,FH,Ag⟩:=ahG M10.out g;have HOK:=em Ag;clear Ag h0 K E
         go_upto_region 35 with fail
         obtain⟨I,ab9⟩:∃I:World,I=XR.alloc (eh #[eQ tp tn tc,eN fZ tl] 88):=⟨_,rfl⟩
         have IP:Below XR.heap.size XR I:=by rw[ab9];exact(eD _ _).alloc (dp _) _
         have P11:=em ((IP.block _ (aT P10.out)).trans P10.out);have Q11:Hid (I.heap[XR.heap.size]?=some (eh #[eQ tp tn tc,eN fZ tl] 88)):=em (by rw[ab9];exact au _ _);have O11:=em (O10.out.on IP);have M11:=em (M10.out.on IP);have L11:=em (aG IP L10.out);have S11:=em (aG IP S10.out);have Tr:=em (Ry.out.on IP);have B11:=em IP;rw[<-ab9];clear ab9 IP FH M10 L10 S10 Ry O10;by_cases ht:g∈L++[zk]
         ·have HT1:=em ht;clear ht;have SK:=em (SC.out.old HC.out DD.out eW.out f HPN.out HAB.out (by rw[<-HTO.out];exact HT1.out))
          go_wp2_with (at_lookup;go_must (refine aR (enc:=zn) _ rfl _ _ 85 3 4 rfl qz ju (mq _) bL (L++[zk]) rfl L11.out g rfl true (by simpa using HT1.out) ?_))
          exact⟨⟨q+1,R',f,by go_num,SK.out,M11.out,L11.out,S11.out,Tr.out⟩,by simp only[intOf];omega⟩
         ·have HT1:=em ht;clear ht;have z0:I.cell? ⟨kw,0,none⟩=some (eQ vb nn vc):=by have h:=P11.out;simp[bm,h]
          have z1:I.cell? ⟨kw,1,none⟩=some (eN fZ (zl+G)):=by have h:=P11.out;simp[bm,h]
          have z2:I.cell? ⟨XR.heap.size,0,none⟩=some (eQ tp tn tc):=by have h:=Q11.out;simp[bm,h]
          have z3:I.cell? ⟨XR.heap.size,1,none⟩=some (eN fZ tl):=by have h:=Q11.out;simp[bm,h]
          have RD:Hid (bB I (eQ vb nn vc) (H++[g])):=em (eO.reads O11.out);have PUT:Hid ((∀y∈R',y.1=g->wlt (H++[g],zl+G) y.2.2=true)->∀X,X.map strip=G0 (R'.map strip) (g,H++[g],zl+G)->SCx C (C.Cl m) s R L (zk,xv,H,zl) (q+1) X):=em λh X E=>by
           rw[HTO.out,EG.out]at h E;exact SC.out.put HC.out DD.out eW.out f HPN.out HAB.out (by rw[<-HTO.out];exact HT1.out) h E
          have NDR:=em SC.out.nodup
          cases hft:R'.find? (λz=>z.1==g) with
          |none=>
           have Ag:ok=false:=HOK.out.1 hft;subst Ag
           have PU:Hid (∀X,X.map strip=G0 (R'.map strip) (g,H++[g],zl+G)->SCx C (C.Cl m) s R L (zk,xv,H,zl) (q+1) X):=em (PUT.out λy hy e=>by
            rw[List.find?_eq_none]at hft
            exact absurd (by simpa using e) (hft y hy))
           clear hft
           go_wp2_with (first
            |(at_lookup;go_must (refine aR (enc:=zn) _ rfl _ _ 85 3 4 rfl qz ju (mq _) bL (L++[zk]) rfl L11.out g rfl false (by simpa using HT1.out) ?_))
            |(at_mapUpdate;go_must (refine abi _ rfl _ _ _ (f6 rfl) bR R' (g,eQ vb nn vc,H++[g],zl+G) rfl rfl rfl M11.out NDR.out RD.out (by simp) ?_);intro w12 R2 hM hRR J;go_must (have SN:=em (PU.out R2 hRR);have N:=em hM;have Y:=em (fW L11.out (J.block _ (by have:=ZR.out;omega)));have Z:=em (fW S11.out (J.block _ (by have:=ZR.out;omega)));have VC:=em (Tr.out.turned J M11.out.map (λ_ _ _ e=>by cases e) (by have:=ZM.out;have:=ZR.out;omega):KQ C w kx kt w12));clear hM J hRR;go_frame))
           exact⟨⟨q+1,R2,f,by go_num,SN.out,N.out,Y.out,Z.out,VC.out⟩,by simp only[intOf];omega⟩
          |some z=>
           obtain⟨Ag,k1,k2,k3,k4,k5⟩:=HOK.out.2 z hft;subst Ag;obtain⟨bt,hbt⟩:∃b,b=wlt (H++[g],zl+G) z.2.2:=⟨_,rfl⟩
           have BT:Hid (Calls PL 32 #[eM #[eQ vb nn vc,eN fZ (zl+G)],eM #[eQ tp tn tc,eN fZ tl]] I (aO (eV bt) I)):=em (by
            have hz:=SC.out.bd z k4;have K:=RD.out;have E:=k3.on B11.out;have hl:(H++[g]).length<=20:=by rw[cv];have:=OX2.out;simp;omega
            have:=abx vb tp vc tc (H++[g]) z.2.2.1 (zl+G) z.2.2.2 I (by rw[<-HNN.out];exact K) (by rw[<-k2];exact E) hl (by omega);rw[acH,<-HNN.out,<-k2]at this;have e2:z.2.2=(z.2.2.1,tl):=Prod.ext rfl k1.symm;rw[hbt,e2];rw[<-k1]at this
            exact this)
           have HBT:=em hbt;have HZZ:=em (And.intro k4 k5);have FM:Hid (∀y∈R',y.1=g->y=z):=em λy hy e=>by
            have:=aax NDR.out hy;rw[e,hft]at this;exact(fA this).symm
           clear hbt k1 k2 k3 k4 k5 hft
           cases bt with
           |false=>
            have SN:Hid (SCx C (C.Cl m) s R L (zk,xv,H,zl) (q+1) R'):=em (SC.out.AW HC.out HAB.out HZZ.out.1 (by rw[HZZ.out.2];exact HTO.out) (by have:=HBT.out;rw[HTO.out,EG.out]at this;exact this.symm))
            go_wp2_with (first
             |(at_lookup;go_must (refine aR (enc:=zn) _ rfl _ _ 85 3 4 rfl qz ju (mq _) bL (L++[zk]) rfl L11.out g rfl false (by simpa using HT1.out) ?_))
             |(go_at_call 32;(with_reducible refine(BT.out).mono ?_);rintro e w12⟨rfl,c⟩;have N:=em (M11.out.on c);have Y:=em (aG c L11.out);have Z:=em (aG c S11.out);have VC:=em (Tr.out.on c);clear c))
            exact⟨⟨q+1,R',f,by go_num,SN.out,N.out,Y.out,Z.out,VC.out⟩,by simp only[intOf];omega⟩
           |true=>
            have PU:Hid (∀X,X.map strip=G0 (R'.map strip) (g,H++[g],zl+G)->SCx C (C.Cl m) s R L (zk,xv,H,zl) (q+1) X):=em (PUT.out λy hy e=>by rw[FM.out y hy e];exact HBT.out.symm)
            go_wp2_with (first
             |(at_lookup;go_must (refine aR (enc:=zn) _ rfl _ _ 85 3 4 rfl qz ju (mq _) bL (L++[zk]) rfl L11.out g rfl false (by simpa using HT1.out) ?_))
             |(go_at_call 32;(with_reducible refine(BT.out).mono ?_);rintro e w12⟨rfl,c⟩;have N:=em (M11.out.on c);have Y:=em (aG c L11.out);have Z:=em (aG c S11.out);have VC:=em (Tr.out.on c);have RD2:=em (RD.out.on c);have y0:=(c.cell (p:=⟨kw,0,none⟩) (aT P11.out)).trans z0;have y1:=(c.cell (p:=⟨kw,1,none⟩) (aT P11.out)).trans z1;clear c)
             |(at_mapUpdate;go_must (refine abi _ rfl _ _ _ (f6 rfl) bR R' (g,eQ vb nn vc,H++[g],zl+G) rfl rfl rfl N.out NDR.out RD2.out (by simp) ?_);intro w13 R2 hM hRR J;go_must (have SN:=em (PU.out R2 hRR);have M13:=em hM;have L13:=em (fW Y.out (J.block _ (by have:=ZR.out;omega)));have S13:=em (fW Z.out (J.block _ (by have:=ZR.out;omega)));have K13:=em (VC.out.turned J N.out.map (λ_ _ _ e=>by cases e) (by have:=ZM.out;have:=ZR.out;omega):KQ C w kx kt w13));clear hM J hRR;go_frame))
            exact⟨⟨q+1,R2,f,by go_num,SN.out,M13.out,L13.out,S13.out,K13.out⟩,by simp only[intOf];omega⟩)
      ·obtain⟨W7,V⟩:∃W7:World,W7=wr.alloc (eh #[eQ yb M.length yc,eN fZ T] 88):=⟨_,rfl⟩
       have hB7:Below wr.heap.size wr W7:=by rw[V];exact(eD _ _).alloc (dp _) _
       have hc7:W7.heap[wr.heap.size]?=some (eh #[eQ yb M.length yc,eN fZ T] 88):=by rw[V];exact au _ _
       have c0:W7.cell? ⟨wr.heap.size,0,none⟩=some (eQ yb M.length yc):=by simp[bm,hc7]
       have c1:W7.cell? ⟨wr.heap.size,1,none⟩=some (eN fZ T):=by simp[bm,hc7]
       have RD7:=em (RD.out.on hB7);have LO7:=em (fJ K5.out.low hB7);rw[<-V];clear V hB7 hc7 FH
       go_quiet (fail)
       go_wp2
       rw[Exit.noGoto_ret];refine aJ (v:=eT #[eQ yb M.length yc,eN fZ T,eV true,eN fZ 0]) ?_ rfl ⟨some (M,T),HRE.out.2,⟨_,_,rfl,RD7.out.on (below_drewN (eD _ _) _)⟩,below_drewN LO7.out _⟩;simp[aI,eu,go_sem]
      ·go_upto_region 24 with fail
       have L6:aU w' zn bL L:=fW L5.out (T6.out.block _ (by have:=ZI.out;omega));have S6:aU w' zn bM cl:=fW S5.out (T6.out.block _ (by have:=ZI.out;omega));have K6:KQ C w kx kt w':=K5.out.turned T6.out I5.out (λ_ _ _ e=>by cases e) ZI.out.2.2.2;obtain⟨W8,hW8⟩:∃W8:World,W8=w'.alloc (eh #[eQ yb M.length yc,eN fZ T] 88):=⟨_,rfl⟩
       have hB8:Below w'.heap.size w' W8:=by rw[hW8];exact(eD _ _).alloc (dp _) _
       have L8:=em (aG hB8 L6);have S8:=em (aG hB8 S6);have K8:=em (K6.on hB8);have M8:=em (M6.out.on hB8);have I8:=em (I6.out.on hB8);have P8:Hid (W8.heap[w'.heap.size]?=some (eh #[eQ yb M.length yc,eN fZ T] 88)):=em (by rw[hW8];exact au _ _);rw[<-hW8];clear hW8 hB8 L6 S6 K6 hen;have XQ:Ft W8 r<Ft wr r:=by
        rw[Fu I8.out,Fu I5.out];exact IK (List.getElem?_eq_some_iff.1 JJ.out).1 NS.out
       have HME:=em XQ;clear XQ;by_cases hx:xk∈L
       ·have SN:=em (E5.out.skip JJ.out hx)
        go_wp2_with (at_lookup;go_must (refine aR (enc:=zn) _ rfl _ _ 85 3 4 rfl qz ju (mq _) bL L rfl L8.out xk rfl true (by simpa using hx) ?_))
        exact⟨⟨seen.push j,S,I8.out,M8.out,L8.out,S8.out,K8.out,by rw[HCA.out],SN.out⟩,HME.out⟩
       ·have HX:=em hx
        rcases S with _|y
        ·obtain rfl:F = -1:=HCA.out;have SN:=em (E5.out.first JJ.out hx);clear hx
         go_wp2_with (at_lookup;go_must (refine aR (enc:=zn) _ rfl _ _ 85 3 4 rfl qz ju (mq _) bL L rfl L8.out xk rfl false (by simpa using HX.out) ?_))
         exact⟨⟨seen.push j,some (xk,eQ yb M.length yc,M,T),I8.out,M8.out,L8.out,S8.out,K8.out,rfl,SN.out⟩,HME.out⟩
        ·obtain⟨yk,yv,yp,yl⟩:=y;obtain rfl:F=yk:=HCA.out;have hy:=(E5.out.yes _ rfl).1;have hyb:=DD.out.bd _ hy;have hxb:=DD.out.bd _ (bX JJ.out);simp only at hyb hxb;have hcn:¬F<0:=by omega
         have hl8:=DD.out.cnt;have FH:=IJ (k:=F) M8.out.map (aax DD.out.nodup hy);have hry:=M8.out.reads _ hy;have hrx:=M8.out.reads _ (bX JJ.out);simp only at hry hrx;have HRY:=em hry;obtain⟨zb,zc,rfl,XZ⟩:=hry;clear XZ;simp only[nD]at FH;obtain⟨bt,hbt⟩:∃b,b=wlt (M,T) (yp,yl):=⟨_,rfl⟩
         have BT:Hid (Calls PL 32 #[eM #[eQ yb M.length yc,eN fZ T],eM #[eQ zb yp.length zc,eN fZ yl]] W8 (aO (eV bt) W8)):=em (by
          have:=abx yb zb yc zc M yp T yl W8 hrx HRY.out (by omega) (by omega);rw[acH]at this;rw[hbt]
          exact this)
         have z0:W8.cell? ⟨w'.heap.size,0,none⟩=some (eQ yb M.length yc):=by have h:=P8.out;simp[bm,h]
         have z1:W8.cell? ⟨w'.heap.size,1,none⟩=some (eN fZ T):=by have h:=P8.out;simp[bm,h]
         have HBT:=em hbt;clear hbt hrx hyb hxb hl8 hy
         cases bt with
         |false=>
          have SN:=em (E5.out.AW JJ.out HBT.out.symm);clear hx
          go_wp2_with (first
           |(at_lookup;refine aR (enc:=zn) _ rfl _ _ 85 3 4 rfl qz ju (mq _) bL L rfl L8.out xk rfl false (by simpa using HX.out) ?_)
           |(go_at_call 32;(with_reducible refine(BT.out).mono ?_);rintro e w12⟨rfl,c⟩;have I12:=em (I8.out.on c);have N:=em (M8.out.on c);have Y:=em (aG c L8.out);have Z:=em (aG c S8.out);have VC:=em (K8.out.on c);clear c))
          exact⟨⟨seen.push j,some (F,eQ zb yp.length zc,yp,yl),I12.out,N.out,Y.out,Z.out,VC.out,rfl,SN.out⟩,by rw[Fu I12.out];have h:=HME.out;rw[Fu I8.out]at h;exact h⟩
         |true=>
          have SN:=em (E5.out.better JJ.out hx HBT.out.symm);clear hx
          go_wp2_with (first
           |(at_lookup;refine aR (enc:=zn) _ rfl _ _ 85 3 4 rfl qz ju (mq _) bL L rfl L8.out xk rfl false (by simpa using HX.out) ?_)
           |(go_at_call 32;(with_reducible refine(BT.out).mono ?_);rintro e w12⟨rfl,c⟩;have I12:=em (I8.out.on c);have N:=em (M8.out.on c);have Y:=em (aG c L8.out);have Z:=em (aG c S8.out);have VC:=em (K8.out.on c);clear c))
          exact⟨⟨seen.push j,some (xk,eQ yb M.length yc,M,T),I12.out,N.out,Y.out,Z.out,VC.out,rfl,SN.out⟩,by rw[Fu I12.out];have h:=HME.out;rw[Fu I8.out]at h;exact h⟩
abbrev adI(a b c:Nat):Value:=e9 (gb 51) #[] #[e6 (some ⟨a,0,none⟩),e6 (some ⟨b,0,none⟩),e6 (some ⟨c,0,none⟩)]
structure DE(V:Array Value)(k2 k3 k4 k5 la ca lb cb Bc Bd Bt B1:Nat)(W:World):Prop where
 lo:k2<B1/\k3<B1/\k4<B1/\k5<B1/\la<B1/\lb<B1/\Bc<B1/\Bd<B1/\Bt<B1
 hi:B1<=W.heap.size
 c:W.heap[Bc]?=some (eh V 27)
 d:∃v,W.heap[Bd]?=some (eh #[v] 31)
 t:W.heap[Bt]?=some (eh #[adI Bc Bd Bt] 46)
 ex:CJ W k2 k3 k4 k5 la ca lb cb 1
def Row.XM{W a:World}{k B:Nat}{l:List Value}(h:Row W k l)(c:k<B)(b:Below B W a):Row a k l:=
 ⟨dy h.1 b.size,λj v e=>(b.cell (p:=⟨k,j,none⟩) c).trans (h.2 j v e)⟩
def DE.XM{V:Array Value}{k2 k3 f g i ca lb j k l m b:Nat}{W n:World}(h:DE V k2 k3 f g i ca lb j k l m b W)(a:Below b W n):DE V k2 k3 f g i ca lb j k l m b n:=by
 obtain⟨a1,a2,a3,a4,o,p,q,r,s⟩:=h.lo;exact⟨h.lo,dz h.hi a.size,(a.block _ q).trans h.c,h.d.imp λ_ e=>(a.block _ r).trans e,(a.block _ s).trans h.t,⟨h.ex.r2.XM a1 a,h.ex.r3.XM a2 a,h.ex.r4.XM a3 a,h.ex.r5.XM a4 a,h.ex.ra.XM o a,h.ex.rb.XM p a⟩⟩
def DE.on{V:Array Value}{k2 k3 b f g ca lb i j k l m:Nat}{W n:World}(h:DE V k2 k3 b f g ca lb i j k l m W)(a:Below W.heap.size W n):DE V k2 k3 b f g ca lb i j k l m n:=
 ⟨h.lo,dz h.hi a.size,(a.block _ (aT h.c)).trans h.c,h.d.imp λ_ e=>(a.block _ (aT e)).trans e,(a.block _ (aT h.t)).trans h.t,h.ex.on a⟩
def DP(a b:Nat)(w:World)(e:Ending)(w':World):Prop:=e=f8 (eV true)/\(∃v,w'.heap[b]?=some (eh #[v] 31)/\bB w' v [0,0])/\Below a w w'
def Sr{k2 a k3 c3 b c d e f ca lb g:Nat}:qP (ir k2 a k3 c3 b c d e f ca lb g 0) (ir k2 a k3 c3 b c d e f ca lb g 0).n5=true:=by kernel_rfl
def Ss{k2 a k3 c3 d f g i j ca lb k:Nat}(w:World)(h:(ir k2 a k3 c3 d f g i j ca lb k 0).At w):Calls PL 52 #[eM (ir k2 a k3 c3 d f g i j ca lb k 0).val] w (aO (eV true) w):=by
 have m:=VY (ir k2 a k3 c3 d f g i j ca lb k 0) 0 w h (yQ (f6 rfl)) (by simp[ir]) λW n=>(vC _ 0 (f6 rfl) rfl rfl W n λq l=>tA (f6 rfl) ⟨k2,a,k3,c3,d,f,g,i,j,ca,lb,k,rfl⟩ l).mono ?_
 ·rw[Sr]at m;exact m
 ·rintro e w'⟨v,rfl,o,p⟩;obtain⟨b,c,rfl⟩:=vB o;exact⟨b,c,rfl,p⟩
def ahH{W:World}{base e size n B:Nat}{v u:Value}{xs:List Value}(h:W.ownsRow base e size v n xs)(d:B<base):(W.setCell ⟨B,0,none⟩ u).ownsRow base e size v n xs:=by
 obtain⟨b,h⟩:=h
 rcases h with h|⟨g,cap,a,e1,hb,hg,c⟩
 ·exact⟨b,f6 h⟩
 ·exact⟨b,f7 ⟨g,cap,a,e1,hb,(aZ (by omega)).trans hg,c⟩⟩
def ah3{k2 I k3 c3 o J q K r ca lb s L k M X N:Nat}{l:Value}(w:World)(h:DE (ir k2 I k3 c3 o J q K r ca lb s 1).val k2 k3 o q r ca lb s L k M X w)(hl:bB w l [0,0])(O:N<=k) :
 Calls PL 51 #[l,eN fZ 0,e6 (some ⟨L,0,none⟩),e6 (some ⟨k,0,none⟩),e6 (some ⟨M,0,none⟩)] w (DP N k w):=by
 have P:=em hl;obtain⟨b,c,rfl,Q⟩:=hl;obtain⟨g,m,rfl,t,x⟩:=Q (by simp);have y:=em h;have Y:=em (x 0 (by simp));have Z:=em (x 1 (by simp));simp only[ci,cm,dt]at P ⊢;have R:Hid (∀W,CJ W k2 k3 o q r ca lb s 1->bB W (eQ (some ⟨g,m,none⟩) 2 c) [0,0]->Calls PL 50 #[eM (ir k2 I k3 c3 o J q K r ca lb s 1).val,eQ (some ⟨g,m,none⟩) 2 c] W _):=em λW hW hR=>yP W hW hR;have z:=h.c;clear h Q x;simp only[ir,CD.val]at R z y;obtain⟨f0,f1,f2,f3,f4,f5⟩:=bf z;clear z
 go_enter (fx (by decide) ev),eA
 go_upto_region 4 with(first
  |(go_at_call 50;go_must (refine(R.out _ y.out.ex P.out).mono ?_);rintro e w1⟨q2,p2,q3,p3,q4,p4,q5,p5,xa,ya,xb,yb,rfl,S⟩;have i:=em S;clear S)
  |(go_at_call 52;go_must (refine(Ss _ (Rx i.out.rows.r2 i.out.rows.r3 i.out.rows.r4 i.out.rows.r5 i.out.rows.ra i.out.rows.rb)).mono ?_);rintro e w2⟨rfl,T⟩;have B2:=em T;clear T))
 have T2:=em (fJ i.out.low B2.out);have U:∀j u,[bh 0,bh 0][j]?=some u->w2.cell? ⟨g,m+j,none⟩=some u:=λj u e=>by
  match j,e with
  |0,e=>cases e;exact(T2.out.cell (p:=⟨g,m,none⟩) t).trans Y.out
  |1,e=>cases e;exact(T2.out.cell (p:=⟨g,m+1,none⟩) t).trans Z.out
 have CL:=em U;obtain⟨v0,a⟩:=y.out.d;have A:=em a;have n:=(T2.out.block _ (aT a)).trans a;have B:=em n;have V:g<w2.heap.size:=dy t T2.out.size;have C:=em V;clear U a n V
 go_wp2_with (go_at_call 33;go_must (refine(tC g m 2 c [bh 0,bh 0] _ rfl CL.out (by simp[eF]) (by omega) C.out).mono ?_);rintro e w3⟨v,rfl,hv,D,E⟩;have f:=(E.block _ (aT B.out)).trans B.out;have fz:=tO f;have y0:w3.cell? ⟨k,0,none⟩=some v0:=(by simp[bm,f]);obtain⟨bb,cc,rfl⟩:=vB D;have F:=em f;have HO:=em D;have B3:=em E;clear f D E hv)
 go_ret
 have H:k<w2.heap.size:=aT B.out;refine⟨rfl,⟨_,yV F.out,eO.reads (e:=3) (base:=w2.heap.size) (ahH HO.out H)⟩,((fJ T2.out B3.out).mono (dz O (dK (aT A.out)))).setCell O _⟩
def adS{T e:ap}(a:PL.underlying T=some (.slice e))(c:(PL.info? e).map (λi=>(i.zero,i.size,i.bytes))=some (some (eN fZ 0),1,8)){ops:Array Oper}{o:Oper}{b:Act}{K:Value->World->Prop}{W:World}(d:o.guard=none)(s x:ad)
 (f:o.op=.call { callee:=.builtin .append,args:=#[s,x],argTypes:=#[T,T] }) (base:Nat) (v:Value) (l:List Int) (j:Int) (k:Nat) (hs:b.eval s=v) (g:eO e W base v l)
 (m:b.eval x=eQ (some ⟨k,0,none⟩) 1 1) (hc:W.cell? ⟨k,0,none⟩=some (eN fZ j)) (hl:l.length<=1000) (n:base<=W.heap.size)
 (h:∀v' w',eO e w' base v' (l++[j])->W.grownBy w' v.ownBlock->K v' w'):fC PL ops K o b W:=by
 obtain⟨p,hi,r,t,y⟩:=aw c
 obtain⟨v',w',z,A,B,_⟩:=aS (P:=PL) (w:=W) base T o.type e p (eN fZ 0) 1 8 a hi r t y rfl (by decide) v l.length _ g ⟨k,0,none⟩ 1 1 [eN fZ j] rfl (λq u e=>by
  match q,e with
  |0,e=>cases e;exact hc) (by simp[eF]) (by simp only[aB];omega) (by omega) n
 unfold fC;rw[if_pos (by simp[Region.wanted,d])];unfold ai;simp only[f,ao,invoke,builtin,Sem.run_bind,Sem.run_pure,dPq,dj,bT,dk,hs,m,z];refine h v' w' ?_ B;unfold eO;rw[cv,b9];exact A
structure CT(V:Array Value)(k2 k3 k4 k5 la ca lb cb Bc Bd Bt B1:Nat)(w1:World)(b:Bool)(W:World):Prop where
 de:DE V k2 k3 k4 k5 la ca lb cb Bc Bd Bt B1 W
 low:Below B1 w1 W
 old:b=false->Below w1.heap.size w1 W
def V1(n0 a:Nat)(xs:List Int)(j:Nat)(vs:Nat->Value)(W:World):Prop:=
 (j=3->∃k,vs 3=eQ (some ⟨k,0,none⟩) 1 1/\n0<=k/\W.heap[k]?=some (eh #[eN fZ 0] 3))/\
 (j=4->eO 3 W a (vs 4) (xs++[0]))
def V1.le{n0 b:Nat}{xs:List Int}{j:Nat}{vs:Nat->Value}{W c:World}(h:V1 n0 b xs j vs W)(d:Below W.heap.size W c):V1 n0 b xs j vs c:=
 ⟨λe=>(h.1 e).imp λ_ a=>⟨a.1,a.2.1,(d.block _ (aT a.2.2)).trans a.2.2⟩,λe=>(h.2 e).on d⟩
def ExD(t:Nat):Bool:=t != 3&&t != 4
def abQ{k2 x k3 c3 f y g z m ca lb p v r s d F:Nat}{l:Value}(xs:List Int)(L:xs.length<2)(w:World)(h:DE (ir k2 x k3 c3 f y g z m ca lb p 1).val k2 k3 f g m ca lb p v r s d w)(hl:eO 3 w d l xs)(cB:F<=d)
 (M:∀W l',DE (ir k2 x k3 c3 f y g z m ca lb p 1).val k2 k3 f g m ca lb p v r s d W->eO 3 W d l' (xs++[0])->Calls PL 51 #[l',eN fZ 0,e6 (some ⟨v,0,none⟩),e6 (some ⟨r,0,none⟩),e6 (some ⟨s,0,none⟩)] W (DP F r W)) :
 Calls PL 51 #[l,eN fZ 0,e6 (some ⟨v,0,none⟩),e6 (some ⟨r,0,none⟩),e6 (some ⟨s,0,none⟩)] w (DP F r w):=by
 obtain⟨b,c,rfl⟩:=vB hl;have HX:=em h;have N:=em hl;have IH:=em M;have O:=h.c;have i1:¬((xs.length:Int)=2):=by omega
 have H:=em L;clear h hl M L;obtain⟨P,Q,R,S,f4,T⟩:=bf O;clear O;simp only[ir]at P Q R S f4 T
 go_enter (fx (by decide) ev),eA
 go_wp2
 go_loopw [8] (λv8 wr=>v8=eN fZ 0/\wr=w) (λ_ _=>0)
 case atStart=>exact⟨rfl,rfl⟩
 case round=>
  obtain⟨rfl,hw⟩:=hrel;subst hw
  go_upto_region 9 with(go_at_call 49;refine(uK (n:=0) rfl _).mono ?_;rintro e w'⟨rfl,rfl⟩)
  have C0:Hid (CT (ir k2 x k3 c3 f y g z m ca lb p 1).val k2 k3 f g m ca lb p v r s d wr false wr.drew):=em ⟨HX.out.on (eD _ _).drew,(eD _ _).drew,λ_=>(eD _ _).drew⟩;clear P Q R S f4 T i1;refine iL 8 4 (CT (ir k2 x k3 c3 f y g z m ca lb p 1).val k2 k3 f g m ca lb p v r s d wr) (λW U=>Below W.heap.size W U) ExD (λ_=>V1 wr.heap.size d xs) (λ_ _ _ _=>True) (λ_ _ _ _ _=>trivial) rfl (by kernel_rfl) (by kernel_rfl) rfl
   (λ_ i vs W U I h=>h.le I) (λi o ho vs eX W V _ _ h=>⟨λe=>by subst e;rw[<-V];exact h.1 rfl,λe=>by subst e;rw[<-V];exact h.2 rfl⟩) C0.out ?_
  iterate 3 (
   apply iK
   case hE=>rfl
   case h=>
    intro vs W b a hd;have A:=a.de.t;have t0:W.cell? ⟨s,0,none⟩=some (adI v r s):=by simp[bm,A]
    clear A
    go_simp
    first
    |exact⟨rfl,eD _ _⟩
    |exact⟨rfl,a,eD _ _⟩
   case hb=>exact P0)
  apply ey
  case hE=>rfl
  case hb=>exact P0
  case h=>
   intro vs W D b hb a X hi _ hd hP;have u:=(eD W.heap.size W).alloc (dp _) (eh #[eN fZ 0] 3);have B:Hid (CT (ir k2 x k3 c3 f y g z m ca lb p 1).val k2 k3 f g m ca lb p v r s d wr b (W.alloc (eh #[eN fZ 0] 3))):=em ⟨a.de.on u,a.low.trans (u.mono a.de.hi),λe=>fJ (a.old e) u⟩;have HW:=em (a.low.size);clear a
   go_simp
   exact⟨B.out,λj C J=>(hd j C J).le u,⟨λ_=>⟨W.heap.size,by simp[upd],HW.out,au _ _⟩,λe=>absurd e (by decide)⟩⟩
  apply ey
  case hE=>rfl
  case hb=>exact P0
  case h=>
   intro vs W D bb iC a X hi _ hd hP;have m3:3∈D:=X ⟨3,gc⟩ (cH.2 ⟨by simp,rfl⟩);obtain⟨q,hq,hql,K⟩:=(hd 3 m3 rfl).1 rfl;have hold:=a.old (iC rfl);have Y:=N.out.on hold;have bu:=cZ Y;have aH:∀j,eI (eQ b xs.length c)=some j->j<wr.heap.size:=λj e=>by
    obtain⟨cur,hc⟩:=qm N.out j e;exact aT hc
   refine adS Rz RE rfl _ _ rfl d (eQ b xs.length c) xs 0 q rfl Y hq (by simp[bm,K]) (by have:=H.out;omega) a.de.hi λv' w' h1 Z=>?_;have u:Below d W w':=(eD d W).grown Z a.de.hi bu;refine⟨⟨a.de.XM u,a.low.trans u,λe=>by simp at e⟩,λj C J=>⟨λe=>?_,λe=>absurd C (by rw[e];exact hi)⟩,⟨λe=>absurd e (by decide),λ_=>by simpa[upd]using h1⟩,λ_ _ _=>trivial⟩;refine((hd j C J).1 e).imp λk E=>⟨E.1,E.2.1,(Z.block k (aT E.2.2) λe=>?_).trans E.2.2⟩
   have:=aH _ e.symm;omega
  iterate 3 (
   apply iK
   case hE=>rfl
   case h=>
    intro vs W b a hd
    go_simp
    exact⟨rfl,eD _ _⟩
   case hb=>exact P0)
  refine nv λvs W bb _ a hd _=>?_;have hO:=(hd 4 (by omega) rfl).2 rfl;have HO:=em hO;have B:=em a;clear hd hO a
  go_wp2_with (go_at_call 51;go_must (refine(IH.out _ _ B.out.de HO.out).mono ?_);rintro e w2⟨rfl,hp,u⟩)
  go_ret
  exact⟨rfl,hp,(B.out.low.mono cB).trans u⟩
def ab1{k2 m k3 c3 d n e o f ca lb g i a j k b:Nat}(w:World)(h:DE (ir k2 m k3 c3 d n e o f ca lb g 1).val k2 k3 d e f ca lb g i a j k w)(p:b<=a)(l:b<=k) :
 Calls PL 51 #[eQ none 0 0,eN fZ 0,e6 (some ⟨i,0,none⟩),e6 (some ⟨a,0,none⟩),e6 (some ⟨j,0,none⟩)] w (DP b a w):=
 abQ [] (by decide) w h ⟨rfl,f6 ⟨rfl,rfl⟩⟩ l λW t q hl=>abQ [0] (by decide) W q hl l λr u s c=>ah3 r s (eO.reads c) p
end Go.Proofs
namespace Go.Proofs
open Go.RowKit Go.Shelf
set_option maxRecDepth 100000
set_option maxHeartbeats 4000000
def abI{P:Program}{w:World}{a:Addr}{m:Mode}(f:Fn)(ts b:Array Value):(store a (e9 f ts b) m).run P w=stored P w a (e9 f ts b) m:=run_store P w a _ m rfl
attribute [local go_sem] abI
def V2{w:World}{B:Nat}{v:Value}{t:ap}(h:w.heap[B]?=some (eh #[v] t)):Below w.heap.size w (w.setCell ⟨B,0,none⟩ v):=
 ⟨rfl,rfl,rfl,by simp,λk _=>by
   by_cases e:k=B
   ·subst e;rw[yV h,h]
   ·exact aZ (Ne.symm e)⟩
structure ahI(V:Array Value)(w:World)(W:World):Prop where
 c:W.heap[w.heap.size]?=some (eh V 27)
 d:W.heap[w.heap.size+1]?=some (eh #[eQ none 0 0] 31)
 low:Below w.heap.size w W
def ahI.on{V:Array Value}{w W b:World}(h:ahI V w W)(a:Below W.heap.size W b):ahI V w b:=
 ⟨(a.block _ (aT h.c)).trans h.c,(a.block _ (aT h.d)).trans h.d,fJ h.low a⟩
def II{k2 i k3 c3 a j b k f ca lb g:Nat}(w:World)(h:CJ w k2 k3 a b f ca lb g 1) :
 Calls PL 20 #[eM (ir k2 i k3 c3 a j b k f ca lb g 1).val] w λe w'=>∃v,e=f8 (eT #[v,eV true,eN fZ 0])/\bB w' v [0,0]/\Below w.heap.size w w':=by
 have l:=em h
 have q:Hid (ahI (ir k2 i k3 c3 a j b k f ca lb g 1).val w ((w.alloc (eh (ir k2 i k3 c3 a j b k f ca lb g 1).val 27)).alloc (eh #[eQ none 0 0] 31))):=em (by
  refine⟨(((eD (w.alloc _).heap.size _).alloc (dp _) _).block _ (by simp)).trans (au w _),?_,((eD _ _).alloc (dp _) _).alloc (by simp) _⟩;have h:=au (w.alloc (eh (ir k2 i k3 c3 a j b k f ca lb g 1).val 27)) (eh #[eQ none 0 0] 31);rw[bo]at h
  exact h)
 have M:Hid (∀W,CJ W k2 k3 a b f ca lb g 1->Calls PL 48 #[eM (ir k2 i k3 c3 a j b k f ca lb g 1).val] W (aO (eN fZ 0) W)):=em λW Y=>sY (yQ (f7 rfl)) Y.at;clear h;simp only[ir,CD.val]at q M ⊢
 go_enter (fx (by decide) Tryz.func20),Tryz.ntmps20
 go_upto_region 1 with fail
 obtain⟨N,O⟩:∃N:World,N=((w.alloc (eh #[eN fZ 60,eN fZ 4,eQ (some ⟨k2,0,none⟩) 2 i,eQ (some ⟨k3,0,none⟩) 4 c3,eQ (some ⟨a,0,none⟩) 3 j,eQ (some ⟨b,0,none⟩) 2 k] 27)).alloc (eh #[eQ none 0 0] 31)):=⟨_,rfl⟩
 rw[<-O]at q ⊢;clear O;obtain⟨z,A,B,C,f4,D⟩:=bf q.out.c
 go_upto_region 4 with(go_at_call 48;go_must (refine(M.out _ (l.out.on q.out.low)).mono ?_);rintro e w1⟨rfl,r⟩;have I:=em (q.out.on r);clear r z A B C f4 D;obtain⟨z,A,B,C,f4,D⟩:=bf I.out.c)
 go_upto_region 5 with fail
 obtain⟨n,E⟩:∃n:World,n=w1.alloc (eh #[fi] 46):=⟨_,rfl⟩
 have r:Below w1.heap.size w1 n:=by rw[E];exact(eD _ _).alloc (dp _) _
 have F:n.heap[w1.heap.size]?=some (eh #[fi] 46):=by rw[E];exact au _ _
 rw[<-E];clear E z A B C f4 D;have J:=em (I.out.on r);have Z:=em F;have t0:n.cell? ⟨w1.heap.size,0,none⟩=some fi:=by simp[bm,F]
 have P:=tO F;clear F r
 go_upto_region 6 with fail
 obtain⟨m,H⟩:∃m:World,m=n.setCell ⟨w1.heap.size,0,none⟩ (adI w.heap.size (w.heap.size+1) w1.heap.size):=⟨_,rfl⟩
 rw[<-H];have s:=aT I.out.d
 have o:Hid (ahI #[eN fZ 60,eN fZ 4,eQ (some ⟨k2,0,none⟩) 2 i,eQ (some ⟨k3,0,none⟩) 4 c3,eQ (some ⟨a,0,none⟩) 3 j,eQ (some ⟨b,0,none⟩) 2 k] w m):=em (by
  rw[H]
  exact⟨(aZ (by omega)).trans J.out.c,(aZ (by omega)).trans J.out.d,J.out.low.setCell (p:=⟨w1.heap.size,0,none⟩) (by simp only;omega) _⟩)
 have Q:Hid (DE (ir k2 i k3 c3 a j b k f ca lb g 1).val k2 k3 a b f ca lb g w.heap.size (w.heap.size+1) w1.heap.size (w1.heap.size+1) m):=em (by
  have e:=l.out.on o.out.low;have l2:=l.out.r2.1;have l3:=l.out.r3.1;have l4:=l.out.r4.1;have l5:=l.out.r5.1;have f:=l.out.ra.1;have lb:=l.out.rb.1;have R:m.heap[w1.heap.size]?=some (eh #[adI w.heap.size (w.heap.size+1) w1.heap.size] 46):=by rw[H];exact yV Z.out
  exact⟨⟨by omega,by omega,by omega,by omega,by omega,by omega,by omega,by omega,by omega⟩,aT R,o.out.c,⟨_,o.out.d⟩,R,e⟩)
 have S:=Q.out.t;have t1:m.cell? ⟨w1.heap.size,0,none⟩=some (adI w.heap.size (w.heap.size+1) w1.heap.size):=by simp[bm,S]
 obtain⟨z,A,B,C,f4,D⟩:=bf o.out.c;clear H t0 P S;have K:=em s;clear s
 go_wp2
 go_loopw [19] (λL wr=>L=eN fZ 0/\wr=m) (λ_ _=>0)
 case atStart=>exact⟨rfl,rfl⟩
 case round=>
  obtain⟨rfl,hw⟩:=hrel;subst hw
  go_wp2_with (go_at_call 51;go_must (refine(ab1 _ Q.out (dC _) (by have:=K.out;omega)).mono ?_);rintro e w3⟨rfl,⟨v,hv,T⟩,U⟩;have HR:=em T;obtain⟨x,y,rfl,Yc⟩:=T;clear Yc;have y0:w3.cell? ⟨w.heap.size+1,0,none⟩=some (eQ x 2 y):=(by simp[bm,hv]);have P:=tO hv;have V:=em hv;have X:=em U;clear hv U)
  have hs:=V2 V.out;have hy:=yV (u:=eQ x 2 y) V.out;refine aJ (v:=eT #[eQ x 2 y,eV true,eN fZ 0]) ?_ rfl ⟨_,rfl,HR.out.on hs,(o.out.low.trans X.out).trans (hs.mono (dz o.out.low.size X.out.size))⟩;have hz:=aT hy;have sB:(w3.setCell ⟨w.heap.size+1,0,none⟩ (eQ x 2 y)).cell? ⟨w.heap.size+1,0,none⟩=some (eQ x 2 y):=by simp[bm,hy]
  clear hs;simp[aI,Tryz.results20,go_sem,sB]
def Sy:Ir je:=by
 have:=CD.abc (C:=ir 0 0 0 0 0 0 0 0 0 0 0 0 0) (yQ (f6 rfl));rwa[abY]at this
def XO(m:Int):List Int:=if m=5 then[2,3,0] else[]
def A6(m:Int):Int:=if m=5 then 110 else 0
def SC(m:Int):Bool:=decide (m=5)
section
variable {k2 c2 k3 c3 k4 c4 k5 c5 la ca lb cb:Nat}
def ahJ(m:Int)(p:Nat)(a:p<2)(h:kU je p m 2 0 false≠2):(ir k2 c2 k3 c3 k4 c4 k5 c5 la ca lb cb 0).Cl m ((p:Int)+1):=by
 refine⟨p,by show p<3;omega,by rw[abY];exact h,0,?_,?_⟩
 ·match p,a with
  |0,_=>show 0<1;decide
  |1,_=>show 0<1;decide
 ·match p,a with
  |0,_=>rfl
  |1,_=>rfl
theorem agv{P:Int->Prop}{a b d:Int}(h:(ir k2 c2 k3 c3 k4 c4 k5 c5 la ca lb cb 0).edge P a b d)(e:P 1):(a=0/\b=1/\d=40\/a=1/\b=0/\d=40)\/(¬P 2/\(a=2/\b=3/\d=30\/a=3/\b=2/\d=30))\/(a=0/\b=3/\d=80\/a=3/\b=0/\d=80):=by
 obtain⟨i,hi,f,hd,c⟩:=h;have hi:i<4:=hi
 match i,hi with
 |0,_=>
  have c:((0:Int)=a/\(1:Int)=b\/(0:Int)=b/\(1:Int)=a):=c;have hd:(40:Int)=d:=hd;exact f6 (by omega)
 |1,_=>exact absurd e f
 |2,_=>
  have c:((2:Int)=a/\(3:Int)=b\/(2:Int)=b/\(3:Int)=a):=c;have hd:(30:Int)=d:=hd
  grind
 |3,_=>
  have c:((0:Int)=a/\(3:Int)=b\/(0:Int)=b/\(3:Int)=a):=c;have hd:(80:Int)=d:=hd;exact f7 (f7 (by omega))
def ahK:s9 ((ir k2 c2 k3 c3 k4 c4 k5 c5 la ca lb cb 0).edge ((ir k2 c2 k3 c3 k4 c4 k5 c5 la ca lb cb 0).Cl 5)) 2 0 (some ([2,3,0],110)):=by
 have k:(ir k2 c2 k3 c3 k4 c4 k5 c5 la ca lb cb 0).Cl 5 1:=ahJ 5 0 (by decide) (by decide);have f:¬(ir k2 c2 k3 c3 k4 c4 k5 c5 la ca lb cb 0).Cl 5 ((2:Nat):Int):=by
  rintro⟨i,hi,hs,j,c,e⟩;have hi:i<3:=hi;rw[abY]at hs
  match i,hi with
  |0,_=>
   have c:j<1:=c;obtain rfl:j=0:=by omega
   have e:(1:Int)=2:=e;omega
  |1,_=>exact absurd (show kU je 1 5 2 0 false=2 by decide) hs
  |2,_=>exact absurd c (dL _)
 have g:¬(ir k2 c2 k3 c3 k4 c4 k5 c5 la ca lb cb 0).Cl 5 ((3:Nat):Int):=by
  rintro⟨i,hi,hs,j,c,e⟩;have hi:i<3:=hi
  match i,hi with
  |0,_=>
   have c:j<1:=c;obtain rfl:j=0:=by omega
   have e:(1:Int)=3:=e;omega
  |1,_=>
   have c:j<1:=c;obtain rfl:j=0:=by omega
   have e:(2:Int)=3:=e;omega
  |2,_=>exact absurd c (dL _)
 refine⟨?_,λl n h=>?_⟩
 ·have w1:=xu.start (E:=(ir k2 c2 k3 c3 k4 c4 k5 c5 la ca lb cb 0).edge ((ir k2 c2 k3 c3 k4 c4 k5 c5 la ca lb cb 0).Cl 5)) (s:=2);have w2:=w1.step (b:=3) (d:=30) ⟨2,by show 2<4;decide,f,rfl,f6 ⟨rfl,rfl⟩⟩;exact w2.step (b:=0) (d:=80) ⟨3,by show 3<4;decide,g,rfl,f7 ⟨rfl,rfl⟩⟩
 ·have key:∀l a n,xu ((ir k2 c2 k3 c3 k4 c4 k5 c5 la ca lb cb 0).edge ((ir k2 c2 k3 c3 k4 c4 k5 c5 la ca lb cb 0).Cl 5)) 2 l a n->(a=2/\0<=n/\(n=0->l=[2]))\/(a=3/\30<=n/\(n=30->l=[2,3]))\/(a=0/\110<=n/\(n=110->l=[2,3,0]))\/(a=1/\150<=n):=by
   intro l a n h
   induction h with
   |start=>grind
   |@step l a n b d h m o=>
    rcases agv m k with(⟨rfl,rfl,rfl⟩|⟨rfl,rfl,rfl⟩)|⟨_,⟨rfl,rfl,rfl⟩|⟨rfl,rfl,rfl⟩⟩|(⟨rfl,rfl,rfl⟩|⟨rfl,rfl,rfl⟩)
    ·grind
    ·grind
    ·grind
    ·grind
    ·grind
    grind
  grind[nq,LN]
def ahP:s9 ((ir k2 c2 k3 c3 k4 c4 k5 c5 la ca lb cb 0).edge ((ir k2 c2 k3 c3 k4 c4 k5 c5 la ca lb cb 0).Cl 3)) 2 0 none:=by
 have e:(ir k2 c2 k3 c3 k4 c4 k5 c5 la ca lb cb 0).Cl 3 1:=ahJ 3 0 (by decide) (by decide);have f:(ir k2 c2 k3 c3 k4 c4 k5 c5 la ca lb cb 0).Cl 3 2:=ahJ 3 1 (by decide) (by decide);intro l n c;have key:∀l a n,xu ((ir k2 c2 k3 c3 k4 c4 k5 c5 la ca lb cb 0).edge ((ir k2 c2 k3 c3 k4 c4 k5 c5 la ca lb cb 0).Cl 3)) 2 l a n->a=2:=by
  intro l a n c
  induction c with
  |start=>rfl
  |@step l a n b d c g h=>
   grind[agv]
 have:=key l 0 n c;omega
def Ba(C:CD)(m:Int)(a:m=5\/m=3)(g:C=ir k2 c2 k3 c3 k4 c4 k5 c5 la ca lb cb 0)(w:World)(h:C.At w) :
 Calls PL 6 #[eM C.val,eN fZ 2,eN fZ m] w λe w'=>∃v,e=f8 (eT #[v,eN fZ (A6 m),eV (SC m),eN fZ 0])/\bB w' v (XO m)/\Below w.heap.size w w':=by
 subst g;refine(abB _ 2 m w h (yQ (f6 rfl)) ⟨by decide,by show(2:Int)<4;decide⟩ (by rcases a with rfl|rfl<;>decide)).mono ?_;rintro e w'⟨r,hb,d,f⟩
 rcases a with rfl|rfl
 ·obtain rfl:=hb.unique ahK;obtain⟨b,c,i,j⟩:=d;exact⟨_,i,j,f⟩
 ·obtain rfl:=hb.unique ahP;exact⟨_,d,⟨none,0,rfl,λh=>absurd h (by decide)⟩,f⟩
end
end Go.Proofs
