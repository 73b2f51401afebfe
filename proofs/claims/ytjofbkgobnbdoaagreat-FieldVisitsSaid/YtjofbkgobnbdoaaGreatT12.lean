/- Part of the proof of FieldVisits. -/
import Derived.Test.YtjofbkgobnbdoaaGreatT11
import Derived.Deep.DeepMust
import Derived.Maps.RangeWalk
import Derived.Shelf.SlSortCmp.InsertionK
set_option linter.all false
open Go.Lib renaming hid->aa
open Go.RowKit.Below renaming refl->ab
open Nat renaming le_refl->ac,zero_le->ad,zero_add->ae,lt_of_lt_of_le->ag,lt_irrefl->ai,le_trans->ao,le_of_lt->ap,lt_or_ge->aq,add_zero->ar
open Go renaming bodyPost_ret->aw,results->aB,TypeId->aI,info_parts->aJ,wpList_append_own->aP,Operand->aS,execOp->aT,MapEntry->a5,underlying->a6,wpList->a7,wpList_plain->a8
open Go.Proofs renaming getElem?_lt'->a9
open Go.Proofs.Below renaming on->ba,zQ->bc
open Go.Instr renaming field->bg,findNow->bi,lookup->bj,mapUpdate->bm
open List renaming flatMap_cons->bo,foldl->bp,length_cons->bq,setIfInBounds_toArray->br,set_append_right->bs,length_nil->bt,append_nil->bv,getElem?_eq_getElem->bw,getElem?_take_of_lt->bA,length_append->bC,getElem?_eq_none->bL,getElem?_toArray->bM,getElem?_cons_succ->bR,getElem?_cons_zero->bT,append_assoc->bX,flatMap_append->b1,map_cons->b2,map_nil->b5,map_append->b8,find?_cons->cd,range->ce,mem_mapIdx->cf,range_succ->cg,filter_append->ch,mem_range->ci,getD_eq_getElem?_getD->co,getElem?_map->cp,mem_of_find?_eq_some->cq,getElem?_range->ct
open Go.Proofs.Tryz renaming func75->cu,func52->cv,ntmps52->cC,func11->cQ,ntmps11->c8,results11->da,func37->db,ntmps37->dd,func32->df,ntmps32->di,func13->dj,ntmps13->dk,results13->dp,func7->dq,ntmps7->dt,results7->du,func10->dv,ntmps10->dy,results10->dz,func12->dC,ntmps12->dK,results12->dL,func14->dO,ntmps14->dP,results14->dQ
open Go.Value.slice renaming inj->dS
open Go.World renaming cell?->dT,size_alloc->dU,setCell->d8
open Array renaming getElem?_append_left->d9,getElem?_modify->ea,getElem?_setIfInBounds_ne->eb,mem_filter->ed
open Option renaming map_some->eg,getD_some->eh
open Option.some renaming injEq->ei
open Go.Value renaming oneCell'->ej,ownBlock->ek,int->em
open Go.MapKept renaming run_getObj_map->en
open Bool renaming and_eq_true->ep,or_eq_true->eq,not_eq_true->et,or_true->eu,or_false->ev
open Go.aU renaming of_heap->eA
open Go.IntWalk renaming i64_in->eD
open Int renaming natCast_emod->eE,tmod_eq_emod_of_nonneg->eF,toNat_natCast->eI
namespace Go.Proofs
open Go.RowKit Go.Shelf
attribute [local go_sem] Oper.semAt_some
set_option maxRecDepth 100000
set_option maxHeartbeats 4000000
def Fp(C:CD)(R:World->Value->Prop)(w:World)(h:C.At w)(hf:C.b6 true=0)
 (b:∀W,C.At W->Calls PL 48 #[.agg C.val] W λe w'=>∃v,e=.returned v/\R w' v/\Below W.heap.size W w') :
 Calls PL 20 #[.agg C.val] w λe w'=>∃v,e=.returned (.tuple #[v,.int .i64 0])/\R w' v/\Below w.heap.size w w':=by
 have c:=aa h;have k:=aa hf;have a:=aa b;have d:Hid (KB C w (w.alloc (.cells C.val 27))):=aa ⟨au _ _,(ab _ _).alloc (ac _) _⟩;clear h hf b
 go_enter (fx (by decide) Tryz.func20),Tryz.ntmps20
 go_wp2_with (first
  |(go_at_call 28;refine(kF k.out (c.out.below d.out.low)).mono ?_;rintro e w1⟨rfl,f⟩;have g:=aa (d.out.on f);clear f)
  |(go_at_call 48;refine(a.out _ (c.out.below (g.out.alloc (.cells C.val 74)).low)).mono ?_;rintro e w2⟨v,rfl,i,j⟩;have l:=aa ((g.out.alloc (.cells C.val 74)).on j);have m:=aa i;clear j i))
 refine aw (v:=.tuple #[v,.int .i64 0]) ?_ rfl ⟨v,rfl,m.out,l.out.low⟩;simp[aB,Tryz.results20,go_sem]
structure KT(C:CD)(w W:World):Prop where
 box:W.heap[w.heap.size]?=some (.cells C.val 74)
 low:Below w.heap.size w W
def KT.on{C:CD}{w W a:World}(h:KT C w W)(b:Below W.heap.size W a):KT C w a:=
 ⟨(b.block _ (a9 h.box)).trans h.box,ba h.low b⟩
def qP(C:CD)(p:Nat):Bool:=decide (∀g,g<p->(nU C g).2<=C.l)
def IF{C:CD}{p:Nat}(h:qP C p=true)(k:(nU C p).2<=C.l):qP C (p+1)=true:=by
 simp only[qP,decide_eq_true_eq]at *;intro g hg
 rcases Nat.lt_succ_iff_lt_or_eq.1 hg with a|rfl
 ·exact h g a
 ·exact k
def Sk{C:CD}{p n:Nat}(a:p<n)(k:¬(nU C p).2<=C.l):qP C n=false:=by
 simp only[qP,decide_eq_false_iff_not];exact λh=>k (h p a)
def ag1(a b:Int)(W:World):Sem.run PL (bg 36 (.agg #[.int .i64 a,.int .i64 b]) 1) W=.ok (.int .i64 b) W:=by kernel_rfl
def VY(C:CD)(n:Nat)(w:World)(h:C.At w)(hc:C.cx=0)(m5:C.n5<=3)
 (q:∀W,C.At W->Calls PL 48 #[.agg C.val] W λe w'=>∃b c,e=.returned (.slice b n c)/\Below W.heap.size W w') :
 Calls PL 53 #[.agg C.val] w (aO (.bool (qP C C.n5&&decide (n=0))) w):=by
 have r:=aa h;have j:=aa q;have v:=aa hc;have x:Hid (KT C w (w.alloc (.cells C.val 74))):=aa ⟨au _ _,(ab _ _).alloc (ac _) _⟩;clear h q hc
 go_enter (fx (by decide) Tryz.func53),Tryz.ntmps53
 go_wp2
 go_loopw [8] (λk wr=>∃p:Nat,p<=C.n5/\k=.int .i64 p/\qP C p=true/\KT C w wr) (λk _=>C.n5-(intOf k).toNat)
 case atStart=>exact⟨0,ad _,rfl,by simp[qP],x.out⟩
 case round=>
  obtain⟨p,K,rfl,hs,s⟩:=hrel;have f:=aa s;have t:=aa hs;clear s hs;by_cases i:p<C.n5
  ·have y:(p:Int)<C.n5:=by omega
   have z:=aa (Sa C v.out i)
   go_upto_region 4 with fail
   refine ig (KT C w) (λ_ _=>True) (λ_=>true) (λ_ _ _=>True) rfl (by kernel_rfl) (λ_ _ _ _ _ _=>trivial) (λ_ _ _ _ _ _ _ _ _=>trivial) ⟨f.out.box,f.out.low.drew⟩ ?_
   iterate 8 (
    apply aY
    case hE=>rfl
    case h=>
     intro vs W d hd;obtain⟨A,B,D,E,f4,F⟩:=bf d.box;have q1:=ag1
     go_simp
     first
     |(go_at_call 34;refine(Lm C p z.out _ (r.out.below d.low)).mono ?_;rintro e L⟨rfl,H⟩;exact⟨_,rfl,rfl,d.on H⟩)
     |exact rfl
    case hb=>exact H9)
   refine cP λvs W d hd=>?_;have g:=aa d;clear hd d;by_cases a:(nU C p).2<=C.l
   ·have m:=aa a;have I:¬(C.l<(nU C p).2):=by omega
    clear a
    go_wp2
    exact⟨⟨p+1,i,by go_num,IF t.out m.out,g.out⟩,by simp only[intOf];omega⟩
   ·have m:=aa a;have I:C.l<(nU C p).2:=by omega
    clear a
    go_wp2
    go_ret
    have hs:=Sk i (Int.not_le.2 m.out);refine⟨?_,g.out.low⟩;rw[hs,Bool.false_and];rfl
  ·have o:p=C.n5:=by omega
   have y:¬((p:Int)<C.n5):=by omega
   clear i;obtain⟨A,B,D,E,f4,F⟩:=bf f.out.box
   go_wp2_with (go_at_call 48;refine(j.out _ (r.out.below f.out.low)).mono ?_;rintro e w2⟨b,c,rfl,u⟩;have J:=aa (f.out.on u);clear u)
   go_ret
   have hs:qP C C.n5=true:=by have h:=t.out;first|(rw[o]at h;exact h)|exact h
   have e:((n:Int)==0)=decide (n=0):=by by_cases h:n=0<;>simp[h]
   refine⟨?_,J.out.low⟩;rw[hs,e,Bool.true_and];rfl
end Go.Proofs
namespace Go.Proofs
open Go.RowKit
def acj(l:List nR)(i j:Nat)(hi:i<l.length)(b:j<5):(l.flatMap vV)[i*5+j]?=(vV l[i])[j]?:=by
 induction l generalizing i with
 |nil=>cases hi
 |cons x l a=>
  rw[bo];have e:(vV x).length=5:=rfl
  match i with
  |0=>rw[Nat.zero_mul,ae,List.getElem?_append_left (by omega)];rfl
  |i+1=>
   rw[List.getElem?_append_right (by omega),e,show(i+1)*5+j-5=i*5+j by omega,a i (by simpa using hi)];rfl
def abH{a:Type}(b:a->a->Bool)(x:a):List a->List a
 |[]=>[x]
 |y::P=>if b x y then y::abH b x P else x::y::P
def abi{a:Type}(b:a->a->Bool):List a->List a:=bp (λP x=>abH b x P) []
def L0{a:Type}(b:a->a->Bool)(l:List a):List a:=(abi b l).reverse
def ah1{a:Type}(b:a->a->Bool)(x:a)(P:List a):(abH b x P).length=P.length+1:=by
 induction P with
 |nil=>rfl
 |cons y P c=>rw[abH];split<;>simp[c]
def ad9{a:Type}(b:a->a->Bool)(l:List a)(x:a):abi b (l++[x])=abH b x (abi b l):=by simp[abi,List.foldl_append]
def abM{a:Type}(b:a->a->Bool)(l:List a):(abi b l).length=l.length:=by
 have key:∀(l P:List a),(bp (λP x=>abH b x P) P l).length=P.length+l.length:=by
  intro l
  induction l with
  |nil=>intro P;simp
  |cons x l c=>intro P;rw[List.foldl_cons,c,ah1,bq];omega
 rw[abi,key];simp
def agz{a:Type}(b:a->a->Bool)(l:List a):(L0 b l).length=l.length:=by simp[L0,abM]
set_option maxRecDepth 100000
set_option maxHeartbeats 4000000
def aav(x y:nR):Bool:=decide (x.2.2.2.2<y.2.2.2.2)
def adm(x y:nR)(w:World):Calls PL 75 #[.agg (aaW x),.agg (aaW y)] w λe w'=>e=.returned (.int .i64 (Ip x.2.2.2.2 y.2.2.2.2))/\w'=(w.alloc (.cells (aaW x) 71)).alloc (.cells (aaW y) 71):=by
 go_enter (fx (by decide) cu),Tryz.ntmps75
 go_wp2_with (go_at_call 76;refine(Kw _ _ _).mono ?_;rintro e w'⟨rfl,rfl⟩)
 go_ret
 exact⟨rfl,rfl⟩
def alA(x y:nR):(Ip x.2.2.2.2 y.2.2.2.2<0)↔aav x y=true:=by
 unfold Ip aav;rw[decide_eq_true_iff]
 split
 ·simp[*]
 ·split<;>simp[*]
open Go.Shelf Go.Sort
def abS{a:Type}[Inhabited a](P R:List a)(x y:a):(P++y::x::R).toArray[P.length]! = y/\(P++y::x::R).toArray[P.length+1]! = x:=by
 refine⟨by simp,?_⟩;rw[show P++y::x::R=(P++[y])++x::R by simp,getElem!_pos _ _ (by simp),List.getElem_toArray,List.getElem_append_right (by simp)];simp
def ah2{a:Type}[Inhabited a](P R:List a)(x y:a):swp (P++y::x::R).toArray (P.length+1) P.length=(P++x::y::R).toArray:=by
 unfold swp;rw[(abS P R x y).1,(abS P R x y).2,br,br,bs _ _ (by omega),bs _ _ (by omega)];simp
def aax{a:Type}[Inhabited a](b:a->a->Bool)(x:a):∀(P R:List a),insInner b 0 P.length (P.reverse++x::R).toArray=((abH b x P).reverse++R).toArray
 |[],R=>by rw[bt,insInner];simp[abH]
 |y::P,R=>by
  have h:(y::P).reverse++x::R=P.reverse++y::x::R:=by simp
  have e:=abS P.reverse R x y;have hs:=ah2 P.reverse R x y;rw[List.length_reverse]at e hs;rw[h,bq,insInner,e.1,e.2,abH];by_cases hl:b x y=true
  ·rw[if_pos (by simp[hl]),if_pos hl,hs,aax b x P (y::R)];simp
  ·rw[if_neg (by simp[hl]),if_neg hl];simp
def aay{b:Type}[Inhabited b](a:b->b->Bool)(L:List b):∀(n i:Nat),L.length-i=n->insOuter a 0 L.length i (L0 a (L.take i)++L.drop i).toArray=(L0 a L).toArray
 |0,i,h=>by
  rw[insOuter_stop _ _ _ _ _ (by omega),List.take_of_length_le (by omega),List.drop_of_length_le (by omega),bv]
 |n+1,i,h=>by
  have hi:i<L.length:=by omega
  have hl:(abi a (L.take i)).length=i:=by rw[abM];simp;omega
  rw[insOuter_go _ _ _ _ _ hi,<-aay a L n (i+1) (by omega),List.drop_eq_getElem_cons hi];congr 1;have:=aax a L[i] (abi a (L.take i)) (L.drop (i+1));rw[hl]at this;rw[L0,this,L0,List.take_succ_eq_append_getElem hi,ad9]
def aaS{b:Type}[Inhabited b](c:b->b->Bool)(L:List b):insertionSort c L.toArray 0 L.length=(L0 c L).toArray:=by
 unfold insertionSort;have:=aay c L (L.length-1) 1 rfl;have e:L0 c (L.take 1)++L.drop 1=L:=by
  cases L with
  |nil=>rfl
  |cons a L=>simp[L0,abi,abH]
 rw[e]at this;exact this
def ag2:PL.underlying 55=some (.slice 71):=by kernel_rfl
def aaX:(PL.info? 71).map (λi=>(i.zero,i.size,i.bytes))=some (some (.agg #[.int .i64 0,.int .i64 0,.int .i64 0,.int .i64 0,.int .i64 0]),5,40):=by kernel_rfl
def kV(W:World)(base:Nat)(v:Value)(l:List nR):Prop:=W.ownsRow base 71 5 v l.length (l.flatMap vV)
def kV.alloc{W:World}{base:Nat}{v:Value}{l:List nR}(h:kV W base v l)(o:Obj):kV (W.alloc o) base v l:=World.ownsRow.alloc h o
def kV.on{W b:World}{base:Nat}{v:Value}{l:List nR}(h:kV W base v l)(d:Below W.heap.size W b):kV b base v l:=by
 obtain⟨c,h⟩:=h
 rcases h with h|⟨g,cap,a,e1,hb,hg,e⟩
 ·exact⟨c,.inl h⟩
 ·exact⟨c,.inr ⟨g,cap,a,e1,hb,(d.block _ (a9 hg)).trans hg,e⟩⟩
def vB{W:World}{base e size n:Nat}{v:Value}{xs:List Value}(h:W.ownsRow base e size v n xs):∃b c,v=.slice b n c:=by
 rcases h.2 with⟨rfl,a⟩|⟨g,cap,d,rfl,_⟩
 ·exact⟨none,0,by rw[a]⟩
 ·exact⟨_,_,rfl⟩
def ar6:Ren:=⟨λ_=>136,λt=>if t=24 then 71 else if t=22 then 55 else if t=25 then 137 else t,λt=>t⟩
def ar7:SlLaysF0.n20 PL ar6 where
 mixed:=rfl
 f20:=⟨ "slices.insertionSortCmpFunc[nock/api.FieldTrouble]",by decide,(fx (by decide) Tryz.func136).trans (by kernel_rfl)⟩
 t0:=by kernel_rfl
 a0:=by intro w;kernel_rfl
 z0:=by intro w;kernel_rfl
 v0:=by intro w;kernel_rfl
 t3:=by kernel_rfl
 a3:=by intro w;kernel_rfl
 z3:=by intro w;kernel_rfl
 v3:=by intro w;kernel_rfl
 t4:=by kernel_rfl
 a4:=by intro w;kernel_rfl
 z4:=by intro w;kernel_rfl
 v4:=by intro w;kernel_rfl
 t22:=by kernel_rfl
 a22:=by intro w;kernel_rfl
 z22:=by intro w;kernel_rfl
 v22:=by intro w;kernel_rfl
 t25:=by kernel_rfl
 a25:=by intro w;kernel_rfl
 z25:=by intro w;kernel_rfl
 v25:=by intro w;kernel_rfl
def ack(L:List nR)(t:Nat)(h:t<L.length*5):(L.flatMap vV)[t]?=some (flatK vV 5 L.toArray)[t]!:=by
 have a:t / 5<L.length:=by omega
 have e:=acj L (t / 5) (t % 5) a (by omega);rw[show t / 5*5+t % 5=t by omega]at e;have c:L.toArray[t / 5]! = L[t / 5]:=by rw[getElem!_pos _ _ (by simpa using a)];rfl
 rw[e,get_flatK _ _ _ _ (by simpa using h),c];have b:t % 5<(vV L[t / 5]).length:=Nat.mod_lt _ (by decide);rw[bw b,getElem!_pos (vV L[t / 5]) (t % 5) b]
def acn(L:List nR)(b c base:Nat)(w:World)(h:kV w base (.slice (some ⟨b,0,none⟩) L.length c) L)(hl:L.length<=20) :
 Calls PL 136 #[.slice (some ⟨b,0,none⟩) L.length c,.int .i64 0,.int .i64 L.length,.func (.func 75) #[] #[]] w λe w'=>(∃v,e=.returned v)/\kV w' base (.slice (some ⟨b,0,none⟩) L.length c) (L0 aav L)/\Below base w w':=by
 obtain⟨F,⟨z,_⟩|⟨g,cap,a,e,hb,hg,hc,A,hs,B⟩⟩:=h
 ·cases z
 obtain⟨e1,_,C⟩:=dS e;cases e1;cases C;have i:=a9 hg;have D:HoldsK vV 5 w b 0 L.toArray:=by
  intro j p;have p:j<L.length*5:=by simpa using p
  refine⟨?_,tO hg _⟩;have:=ack L j p;rw[<-B,bA p]at this;simp only[dT,hg,ae];simpa using this
 have q:CmpLays PL 75 #[] vV 5 (λx y=>Ip x.2.2.2.2 y.2.2.2.2) b 0 L.toArray.size w:=λm r H hd x y=>by
  refine(adm x y _).mono ?_;rintro e w'⟨rfl,rfl⟩;exact⟨rfl,0,_,by rw[alloc_eq_grow,alloc_eq_grow,grow_grow];rfl⟩
 refine(AnyQ.insertionSortCmpFunc ar7 5 (by intro w;kernel_rfl) (by intro w;kernel_rfl) vV (λ_=>rfl) (λx v hv=>by simp only[vV,List.mem_cons,List.not_mem_nil,or_false]at hv;rcases hv with rfl|rfl|rfl|rfl|rfl<;>rfl) _ 75 #[] b 0 c 0 L.length L.toArray w (JZ (fx (by decide) cu) (by decide +kernel) rfl) q D i (ad _) (by simp) (by simp;omega)).mono ?_;rintro e w'⟨rfl,n,r,rfl⟩;have E:(ltOf λx y:nR=>Ip x.2.2.2.2 y.2.2.2.2)=aav:=by
  funext x y;have:=alA x y;unfold ltOf;by_cases h:Ip x.2.2.2.2 y.2.2.2.2<0<;>simp_all
 rw[E,aaS];obtain⟨S,u⟩:∃S,S=L0 aav L:=⟨_,rfl⟩
 have d:S.length=L.length:=by rw[u,agz]
 rw[<-u];have hF:(flatK vV 5 S.toArray).size=L.length*5:=by simp[d]
 have f:(sortWorldK vV 5 w b 0 n S.toArray r).heap=w.heap.modify b (onCells (putCells id 0 (flatK vV 5 S.toArray)))++r:=rfl;refine⟨⟨_,rfl⟩,⟨?_,.inr ⟨b,c,putCells id 0 (flatK vV 5 S.toArray) a,by rw[d],hb,?_,by rw[d];exact hc,A,?_,?_⟩⟩,?_⟩
 ·have:∀l:List nR,(l.flatMap vV).length=l.length*5:=λl=>by
   induction l with
   |nil=>rfl
   |cons x l s=>rw[bo,bC,s];simp[vV];omega
  exact this S
 ·rw[f,d9 (by simpa using i),ea,if_pos rfl,hg];rfl
 ·simpa[putCells]using hs
 ·apply List.ext_getElem?;intro t;rw[List.getElem?_take];have hcs:L.length*5<=a.size:=by omega
  split
  ·rename_i o;rw[d]at o;rw[ack S t (by omega)];have:a[t]?=some a[t]:=Array.getElem?_eq_getElem (by omega);simp only[putCells,Array.getElem?_toList,Array.getElem?_mapIdx,this,eg];rw[if_pos (by omega)];rfl
  ·rename_i o;rw[bL];have:∀l:List nR,(l.flatMap vV).length=l.length*5:=λl=>by
    induction l with
    |nil=>rfl
    |cons x l s=>rw[bo,bC,s];simp[vV];omega
   rw[this];omega
 ·exact⟨rfl,rfl,rfl,by rw[f];simp,λk I=>by rw[f,d9 (by simp;omega),ea,if_neg (by omega)]⟩
end Go.Proofs
namespace Go.Proofs
open Go.RowKit Go.Shelf
attribute [local go_sem] Oper.semAt_some
set_option maxRecDepth 100000
set_option maxHeartbeats 4000000
def ah4(a1 a2 a3 a4 a b c d:Int):Int:=Ej (decide (a1<d)&&decide (a<a4)) (decide (a3<=b)||decide (c<=a2))
def IU(L:List Int)(a b p:Nat):nR:=(a,(b:Nat),(p:Nat),ah4 (L.getD (a*25+p*5+1) 0) (L.getD (a*25+p*5+2) 0) (L.getD (a*25+p*5+3) 0) (L.getD (a*25+p*5+4) 0) (L.getD (b*25+p*5+1) 0) (L.getD (b*25+p*5+2) 0) (L.getD (b*25+p*5+3) 0) (L.getD (b*25+p*5+4) 0),max (L.getD (a*25+p*5+1) 0) (L.getD (b*25+p*5+1) 0))
def abT(L:List Int)(a b:Nat):Nat->List nR
 |0=>[]
 |p+1=>abT L a b p++if(IU L a b p).2.2.2.1=2 then[] else[IU L a b p]
def aaY(L:List Int)(n a:Nat):Nat->List nR
 |0=>[]
 |k+1=>aaY L n a k++abT L a (a+1+k) n
def abo(L:List Int)(n m:Nat):Nat->List nR
 |0=>[]
 |a+1=>abo L n m a++aaY L n a (m-(a+1))
def anT(L:List Int)(n m:Nat):List nR:=L0 aav (abo L n m m)
def aco(L:List Int)(a b p:Nat):(abT L a b p).length<=p:=by
 induction p with
 |zero=>exact ac _
 |succ p c=>rw[abT,bC];split<;>simp<;>omega
def G0(L:List Int){n:Nat}(b:n<=5)(a k:Nat):(aaY L n a k).length<=5*k:=by
 induction k with
 |zero=>exact ac _
 |succ k c=>have:=aco L a (a+1+k) n;rw[aaY,bC];omega
def ah5(L:List Int){n m:Nat}(b:n<=5)(c:m<=3)(a:Nat):(abo L n m a).length<=15*a:=by
 induction a with
 |zero=>exact ac _
 |succ a d=>have:=G0 L b a (m-(a+1));rw[abo,bC];omega
def ah6(L:List Int){n m:Nat}(a:n<=5)(c:m<=3):(abo L n m m).length<=15:=by
 match m,c with
 |0,_=>exact ad _
 |1,_=>
  have b:=G0 L a 0 0;rw[show abo L n 1 1=aaY L n 0 0 from rfl];omega
 |2,_=>
  have b:=G0 L a 0 1;have d:=G0 L a 1 0;rw[show abo L n 2 2=aaY L n 0 1++aaY L n 1 0 from rfl,bC];omega
 |3,_=>
  have b:=G0 L a 0 2;have d:=G0 L a 1 1;have e:=G0 L a 2 0;rw[show abo L n 3 3=aaY L n 0 2++aaY L n 1 1++aaY L n 2 0 from rfl,bC,bC];omega
def z61:Array Value:=#[.int .i64 0,.int .i64 0,.int .i64 0,.int .i64 0,.int .i64 0]
def IG(n0:Nat)(A:Array Value)(j:Nat)(vs:Nat->Value)(W:World):Prop:=
 (j=14->∃k,vs 14=.pointer (some ⟨k,0,none⟩)/\n0<=k/\k<W.heap.size/\∃x0 x1 x2 x3 x4,W.heap[k]?=some (.cells #[x0,x1,x2,x3,x4] 68))/\
 (j=15->∃k,vs 15=.pointer (some ⟨k,0,none⟩)/\n0<=k/\k<W.heap.size/\W.heap[k]?=some (.cells z61 68))/\
 (j=16->∃k,vs 14=.pointer (some ⟨k,0,none⟩)/\W.heap[k]?=some (.cells A 68))
def ExT(t:Nat):Bool:=t != 14&&t != 15&&t != 16
def neT(i j:Nat)(u v:Value):Prop:=(i=14/\j=15\/i=15/\j=14)->u≠v
def IG.le{n0:Nat}{A:Array Value}{j:Nat}{vs:Nat->Value}{W g:World}(h:IG n0 A j vs W)(b:Below W.heap.size W g):IG n0 A j vs g:=
 ⟨λe=>(h.1 e).imp λq⟨c,f,d,x0,x1,x2,x3,x4,a⟩=>⟨c,f,ag d b.size,x0,x1,x2,x3,x4,(b.block _ d).trans a⟩,
  λe=>(h.2.1 e).imp λq⟨c,f,d,a⟩=>⟨c,f,ag d b.size,(b.block _ d).trans a⟩,
  λe=>(h.2.2 e).imp λq⟨c,a⟩=>⟨c,(b.block _ (a9 a)).trans a⟩⟩
def Sl{n0:Nat}{A:Array Value}{W:World}{vs:Nat->Value}{D:List Nat}{i:Nat}(f:n0<=W.heap.size)(hi:i=14\/i=15)(hd:∀j∈D,ExT j=false->IG n0 A j vs W) :
 (∀j∈D,ExT j=false->IG n0 A j vs (W.alloc (.cells z61 68)))/\IG n0 A i (upd vs i (.pointer (some ⟨W.heap.size,0,none⟩))) (W.alloc (.cells z61 68))/\∀j∈D,ExT j=false->neT j i (vs j) (.pointer (some ⟨W.heap.size,0,none⟩)):=by
 have g:=(ab W.heap.size W).alloc (ac _) (.cells z61 68);refine⟨λj c d=>(hd j c d).le g,⟨λe=>⟨W.heap.size,by simp[upd,e],f,by simp,_,_,_,_,_,au _ _⟩,λe=>⟨W.heap.size,by simp[upd,e],f,by simp,au _ _⟩,λe=>by omega⟩,λj c d e1 e=>?_⟩;obtain⟨q,a,b⟩:∃q,vs j=.pointer (some ⟨q,0,none⟩)/\q<W.heap.size:=by
  rcases e1 with⟨rfl,_⟩|⟨rfl,_⟩
  ·obtain⟨q,a,_,b,_⟩:=(hd _ c d).1 rfl;exact⟨q,a,b⟩
  ·obtain⟨q,a,_,b,_⟩:=(hd _ c d).2.1 rfl;exact⟨q,a,b⟩
 rw[a]at e;cases e;exact ai _ b
structure KR(C:CD)(w:World)(k:Nat)(L:List Int)(B:Nat)(W:World):Prop where
 pK:B<=W.heap.size
 kl:k<B
 bl:w.heap.size<B
 box:W.heap[w.heap.size]?=some (.cells C.val 74)
 row:Row W k (L.map bh)
 low:Below w.heap.size w W
def KR.on{C:CD}{w W b:World}{k:Nat}{L:List Int}{B:Nat}(h:KR C w k L B W)(a:Below W.heap.size W b):KR C w k L B b:=
 ⟨ao h.pK a.size,h.kl,h.bl,(a.block _ (a9 h.box)).trans h.box,h.row.on a,ba h.low a⟩
def Below.ag3{B:Nat}{a w:World}(h:Below B a w){k:Nat}(b:B<=k)(u0 u1 u2 u3 u4:Value):Below B a (((((w.setCell ⟨k,0,none⟩ u0).setCell ⟨k,1,none⟩ u1).setCell ⟨k,2,none⟩ u2).setCell ⟨k,3,none⟩ u3).setCell ⟨k,4,none⟩ u4):=
 ((((h.setCell (p:=⟨k,0,none⟩) b _).setCell (p:=⟨k,1,none⟩) b _).setCell (p:=⟨k,2,none⟩) b _).setCell (p:=⟨k,3,none⟩) b _).setCell (p:=⟨k,4,none⟩) b _
def Sm{W:World}{b:Nat}{x:nR}{t:aI}(h:W.heap[b]?=some (.cells #[.int .i64 x.1,.int .i64 x.2.1,.int .i64 x.2.2.1,.int .i64 x.2.2.2.1,.int .i64 x.2.2.2.2] t)):∀(j:Nat)(u:Value),(vV x)[j]?=some u->W.cell? ((⟨b,0,none⟩:Addr).add j)=some u:=by
 intro j u e
 match j,e with
 |0,e=>cases e;simp[dT,Addr.add,h]
 |1,e=>cases e;simp[dT,Addr.add,h]
 |2,e=>cases e;simp[dT,Addr.add,h]
 |3,e=>cases e;simp[dT,Addr.add,h]
 |4,e=>cases e;simp[dT,Addr.add,h]
 |j+5,e=>simp[vV]at e
def KR.alloc{C:CD}{w W:World}{k:Nat}{L:List Int}{B:Nat}(h:KR C w k L B W)(o:Obj):KR C w k L B (W.alloc o):=h.on ((ab _ _).alloc (ac _) o)
def adn(v:Value)(L:List nR){base:Nat}{w:World}(h:kV w base v L)(hl:L.length<=15):Calls PL 74 #[v,.func (.func 75) #[] #[]] w λe w'=>e=.returned v/\kV w' base v (L0 aav L)/\Below base w w':=by
 obtain⟨n,d⟩:∃n,n=L.length:=⟨_,rfl⟩
 obtain⟨b,c,rfl⟩:=vB h;rw[<-d]
 have H:Hid (Calls PL 136 #[.slice b n c,.int .i64 0,.int .i64 n,.func (.func 75) #[] #[]] w λe w'=>(∃v,e=.returned v)/\kV w' base (.slice b n c) (L0 aav L)/\Below base w w'):=aa (by
  have k:=h
  rcases h.2 with⟨e,l⟩|⟨g,cap,m,e,_⟩
  ·obtain⟨rfl,_,rfl⟩:=dS e;obtain rfl:=List.length_eq_zero_iff.1 l;subst d;refine(zW none 0 0 0 _ w (by omega)).mono ?_;rintro e w'⟨a,rfl⟩;exact⟨a,k,ab _ _⟩
  ·obtain⟨rfl,_,rfl⟩:=dS e;rw[d]
   exact acn L g c base w k (by omega))
 rw[<-d]at hl;clear h d;have p:(n:Int)<20:=by omega
 have q:(n:Int)<=20:=by omega
 have i:Hid (Calls PL 127 #[.slice b n c,.int .i64 n,.func (.func 75) #[] #[]] w λe w'=>(∃v,e=.returned v)/\kV w' base (.slice b n c) (L0 aav L)/\Below base w w'):=aa (by
  go_enter (fx (by decide) Tryz.func127),Tryz.ntmps127
  go_wp2
  go_loop [7,8] (λv7 o=>v7=.int .i64 0/\o=.int .i64 20) (λ_ _=>0)
  case atStart=>exact⟨rfl,rfl⟩
  case round=>
   obtain⟨rfl,rfl⟩:=hrel
   go_wp2_with (go_at_call 136;refine H.out.mono ?_;rintro e w3⟨⟨v,rfl⟩,a⟩;have f:=aa a;clear a)
   go_loop [6] (λv=>v=.int .i64 20) (λ_=>0)
   case atStart=>rfl
   case round=>
    subst hrel
    go_wp2
    go_end0
    exact⟨⟨_,rfl⟩,f.out⟩)
 have j:Hid (Calls PL 106 #[.slice b n c,.func (.func 75) #[] #[]] w λe w'=>(∃v,e=.returned v)/\kV w' base (.slice b n c) (L0 aav L)/\Below base w w'):=aa (by
  go_enter (fx (by decide) Tryz.func106),Tryz.ntmps106
  go_wp2_with (go_at_call 127;refine i.out.mono ?_;rintro e w'⟨⟨v,rfl⟩,a⟩;have f:=aa a;clear a)
  go_end0
  exact⟨⟨_,rfl⟩,f.out⟩)
 go_enter (fx (by decide) Tryz.func74),Tryz.ntmps74
 go_wp2_with (go_at_call 106;refine j.out.mono ?_;rintro e w'⟨⟨v,rfl⟩,a⟩;have f:=aa a;clear a)
 go_ret
 exact⟨rfl,f.out⟩
def abU(C:CD)(L:List Int)(hL:L.length=75)(h4:C.n4<=5)(h5:C.n5<=3)(w:World)(h:C.At w)
 (HT:∀W,C.At W->Calls PL 39 #[.agg C.val] W λe w'=>∃k,e=.returned (.pointer (some ⟨k,0,none⟩))/\Row w' k (L.map bh)/\Below W.heap.size W w') :
 Calls PL 48 #[.agg C.val] w λe w'=>∃v,e=.returned v/\kV w' w.heap.size v (anT L C.n4 C.n5)/\Below w.heap.size w w':=by
 have HA:=aa h;have HTT:=aa HT;have HLL:=aa hL;have K0:Hid (KT C w (w.alloc (.cells C.val 74))):=aa ⟨au _ _,(ab _ _).alloc (ac _) _⟩;clear h HT hL
 go_enter (fx (by decide) Tryz.func48),Tryz.ntmps48
 go_upto_region 1 with fail
 obtain⟨W0,kS⟩:∃W0:World,W0=w.alloc (.cells C.val 74):=⟨_,rfl⟩
 rw[<-kS]at K0 ⊢;clear kS;obtain⟨r,s,t,y,f4,z⟩:=bf K0.out.box
 go_wp2_with (go_at_call 39;refine(HTT.out _ (HA.out.below K0.out.low)).mono ?_;rintro e w2⟨k,rfl,hR,qA⟩;have k2:=K0.out.on qA;clear qA r s t y f4 z;have K2:Hid (KR C w k L w2.heap.size w2):=aa (KR.mk (ac _) hR.1 (a9 k2.box) k2.box hR k2.low);clear k2 hR;obtain⟨r,s,t,y,f4,z⟩:=bf K2.out.box)
 go_loopw [4,19] (λv4 O wr=>∃a:Nat,a<=C.n5/\O=.int .i64 a/\kV wr w2.heap.size v4 (abo L C.n4 C.n5 a)/\KR C w k L w2.heap.size wr) (λ_ O _=>C.n5-(intOf O).toNat)
 case atStart=>exact⟨0,ad _,rfl,⟨rfl,.inl ⟨rfl,rfl⟩⟩,K2.out⟩
 case round=>
  obtain⟨a,ha,rfl,I,J⟩:=hrel;clear r s t y f4 z;have HO:=aa I;have HK:=aa J;clear I J K2;obtain⟨r,s,t,y,f4,z⟩:=bf HK.out.box;by_cases aH:a<C.n5
  ·have i1:(a:Int)<C.n5:=by omega
   have i3:(a:Int)<3:=by omega
   clear r s t y f4 z
   go_wp2
   go_loopw [4,6] (λv4 v6 wq=>∃b j:Nat,b=a+1+j/\b<=C.n5/\v6=.int .i64 b/\kV wq w2.heap.size v4 (abo L C.n4 C.n5 a++aaY L C.n4 a j)/\KR C w k L w2.heap.size wq) (λ_ v6 _=>C.n5-(intOf v6).toNat)
   case atStart=>exact⟨a+1,0,rfl,aH,by go_num,by simpa[aaY]using HO.out,HK.out⟩
   case round=>
    obtain⟨b,j,hb,eP,rfl,I,J⟩:=hrel;have A:=aa hb;have hab:a<b:=by omega
    have P:=aa I;have B:=aa J;clear I J HO HK hb;obtain⟨r,s,t,y,f4,z⟩:=bf B.out.box;by_cases arc:b<C.n5
    ·have i2:(b:Int)<C.n5:=by omega
     have i6:(b:Int)<3:=by omega
     go_wp2
     go_loopw [4,36] (λv4 Q wp=>∃p:Nat,p<=C.n4/\Q=.int .i64 p/\kV wp w2.heap.size v4 (abo L C.n4 C.n5 a++aaY L C.n4 a j++abT L a b p)/\KR C w k L w2.heap.size wp) (λ_ Q _=>C.n4-(intOf Q).toNat)
     case atStart=>exact⟨0,ad _,rfl,by simpa[abT]using P.out,B.out⟩
     case round=>
      obtain⟨p,hp,rfl,I,J⟩:=hrel;have HO3:=aa I;have f:=aa J;clear I J P B r s t y f4 z;by_cases anV:p<C.n4
      ·have i4:(p:Int)<C.n4:=by omega
       have i5:(p:Int)<5:=by omega
       have cell:∀j,j<75->wr.cell? ⟨k,j,none⟩=some (.int .i64 (L.getD j 0)):=λj hj=>f.out.row.getD (by rw[HLL.out];exact hj);obtain⟨a0,ea0⟩:∃x,x=L.getD (a*25+p*5) 0:=⟨_,rfl⟩
       obtain⟨a1,R⟩:∃x,x=L.getD (a*25+p*5+1) 0:=⟨_,rfl⟩
       obtain⟨a2,S⟩:∃x,x=L.getD (a*25+p*5+2) 0:=⟨_,rfl⟩
       obtain⟨a3,U⟩:∃x,x=L.getD (a*25+p*5+3) 0:=⟨_,rfl⟩
       obtain⟨a4,V⟩:∃x,x=L.getD (a*25+p*5+4) 0:=⟨_,rfl⟩
       obtain⟨b0,eb0⟩:∃x,x=L.getD (b*25+p*5) 0:=⟨_,rfl⟩
       obtain⟨g,X⟩:∃x,x=L.getD (b*25+p*5+1) 0:=⟨_,rfl⟩
       obtain⟨E,Y⟩:∃x,x=L.getD (b*25+p*5+2) 0:=⟨_,rfl⟩
       obtain⟨K,Z⟩:∃x,x=L.getD (b*25+p*5+3) 0:=⟨_,rfl⟩
       obtain⟨F,eb4⟩:∃x,x=L.getD (b*25+p*5+4) 0:=⟨_,rfl⟩
       have T:Hid (wr.cell? ⟨k,a*25+p*5,none⟩=some (.int .i64 a0)/\wr.cell? ⟨k,a*25+p*5+1,none⟩=some (.int .i64 a1)/\wr.cell? ⟨k,a*25+p*5+2,none⟩=some (.int .i64 a2)/\wr.cell? ⟨k,a*25+p*5+3,none⟩=some (.int .i64 a3)/\wr.cell? ⟨k,a*25+p*5+4,none⟩=some (.int .i64 a4)/\
        wr.cell? ⟨k,b*25+p*5,none⟩=some (.int .i64 b0)/\wr.cell? ⟨k,b*25+p*5+1,none⟩=some (.int .i64 g)/\wr.cell? ⟨k,b*25+p*5+2,none⟩=some (.int .i64 E)/\wr.cell? ⟨k,b*25+p*5+3,none⟩=some (.int .i64 K)/\wr.cell? ⟨k,b*25+p*5+4,none⟩=some (.int .i64 F)):=aa
        ⟨by rw[ea0];exact cell _ (by omega),by rw[R];exact cell _ (by omega),by rw[S];exact cell _ (by omega),by rw[U];exact cell _ (by omega),by rw[V];exact cell _ (by omega),by rw[eb0];exact cell _ (by omega),by rw[X];exact cell _ (by omega),by rw[Y];exact cell _ (by omega),by rw[Z];exact cell _ (by omega),by rw[eb4];exact cell _ (by omega)⟩
       obtain⟨mt,hmt⟩:∃m,m=ah4 a1 a2 a3 a4 g E K F:=⟨_,rfl⟩
       have ET:Hid (IU L a b p=(a,(b:Int),(p:Int),mt,max a1 g)):=aa (by rw[IU,hmt,R,S,U,V,X,Y,Z,eb4]);have HMT:=aa hmt;have Ll:=f.out.row.1;clear cell ea0 R S U V eb0 X Y Z eb4 hmt;obtain⟨r,s,t,y,f4,z⟩:=bf f.out.box
       go_upto_region 12 with fail
       clear r s t y f4 z;refine iL 17 14 (λ_ W=>Below wr.heap.size wr W) (λW W'=>Below W.heap.size W W') ExT (λ_=>IG wr.heap.size #[.int .i64 a0,.int .i64 a1,.int .i64 a2,.int .i64 a3,.int .i64 a4]) neT (λ_ _ _ _ h e=>(h (e.symm.imp And.symm And.symm)).symm) rfl (by kernel_rfl) (by kernel_rfl) rfl
        (λ_ i vs W W' hle h=>h.le hle) (λi o ho vs eX W he aaZ _ h=>⟨λe=>by subst e;rw[<-he];exact h.1 rfl,λe=>by subst e;rw[<-he];exact h.2.1 rfl,λe=>?_⟩) (ab _ _).drew ?_
       ·subst e;have e14:vs 14=eX 14:=by
         simp only[bM,bR,bT,ei]at ho;subst ho;exact aaZ ⟨14,.data⟩ (cH.2 ⟨by simp,rfl⟩)
        rw[<-e14];exact h.2.2 rfl
       iterate 14 (
        apply iK
        case hE=>rfl
        case h=>
         intro vs W _ l hd;obtain⟨t0,t1,t2,t3,t4,t5,t6,t7,t8,t9⟩:=T.out;rw[<-l.cell (p:=⟨k,_,none⟩) Ll]at t0 t1 t2 t3 t4 t5 t6 t7 t8 t9
         go_simp
         exact⟨rfl,ab _ _⟩
        case hb=>exact H9)
       iterate 2 (
        apply ey
        case hE=>rfl
        case hb=>exact H9
        case h=>
         intro vs W D _ _ l _ hi _ hd hP
         go_simp
         exact⟨l.alloc l.size _,Sl l.size (by simp) hd⟩)
       apply ey
       case hE=>rfl
       case hb=>exact H9
       case h=>
        intro vs W D _ _ l jw hi _ hd hP;have m14:14∈D:=jw ⟨14,.data⟩ (cH.2 ⟨by simp,rfl⟩);have m15:15∈D:=jw ⟨15,.phase⟩ (cH.2 ⟨by simp,rfl⟩);obtain⟨ka,H,hla,alY,x0,x1,x2,x3,x4,M⟩:=(hd 14 m14 rfl).1 rfl;obtain⟨n,NZ,Tg,ab0,iC⟩:=(hd 15 m15 rfl).2.1 rfl;have bu:n≠ka:=λe=>hP 14 m14 15 m15 (by decide) rfl rfl (.inl ⟨rfl,rfl⟩) (by rw[H,NZ,e]);have fz:=tO M;rw[H];obtain⟨y0,y1,y2,y3,y4⟩:=qO M
        go_simp
        refine⟨Below.ag3 l hla _ _ _ _ _,λj hj hE=>?_,⟨λe=>absurd e (by decide),λe=>absurd e (by decide),λ_=>⟨ka,by simp[upd,H],tD M⟩⟩,λj _ _ e=>by omega⟩;refine⟨λe=>⟨ka,H,hla,by simpa using alY,_,_,_,_,_,tD M⟩,λe=>⟨n,NZ,Tg,by simpa using ab0,(gh bu).trans iC⟩,λe=>⟨ka,H,tD M⟩⟩
       refine nv λvs W _ _ l hd hX=>?_;obtain⟨ka,H,M⟩:=(hd 16 (by omega) rfl).2.2 rfl;obtain⟨n,NZ,Tg,ab0,iC⟩:=(hd 15 (by omega) rfl).2.1 rfl;have bu:ka≠n:=λe=>hX 14 15 (by omega) (by omega) (by omega) rfl rfl (.inl ⟨rfl,rfl⟩) (by rw[H,NZ,e]);have NE:=aa bu;have HBA:=aa M;have wC:=aa iC;have HC:=aa l;have HLB:=aa Tg;obtain⟨y0,y1,y2,y3,y4⟩:=qO iC;have fz:=tO iC;rw[H,NZ];clear M iC l hd hX H NZ bu Tg
       go_upto_region 13 with fail
       obtain⟨W2,vp⟩:∃W2:World,W2=((((W.setCell ⟨n,0,none⟩ (.int .i64 b0)).setCell ⟨n,1,none⟩ (.int .i64 g)).setCell ⟨n,2,none⟩ (.int .i64 E)).setCell ⟨n,3,none⟩ (.int .i64 K)).setCell ⟨n,4,none⟩ (.int .i64 F):=⟨_,rfl⟩
       have BA:Hid (W2.heap[ka]?=some (.cells #[.int .i64 a0,.int .i64 a1,.int .i64 a2,.int .i64 a3,.int .i64 a4] 68)):=aa (by rw[vp];exact(gh NE.out).trans HBA.out);have BB:Hid (W2.heap[n]?=some (.cells #[.int .i64 b0,.int .i64 g,.int .i64 E,.int .i64 K,.int .i64 F] 68)):=aa (by rw[vp];exact tD wC.out);have HB:Hid (Below wr.heap.size wr W2):=aa (by rw[vp];exact Below.ag3 HC.out HLB.out _ _ _ _ _);rw[<-vp];clear vp y0 y1 y2 y3 y4 fz HBA wC HC HLB NE;clear T Ll
       go_cut [10] from 37 to 111 (fun(v10:Value)(wx:World)=>v10=.int .i64 mt/\wx=W2)
       case first=>
        obtain⟨z0,z1,z2,z3,z4⟩:=qO BA.out;obtain⟨y0,y1,y2,y3,y4⟩:=qO BB.out;have la:=a9 BA.out;have lb:=a9 BB.out;have s1:(a1<F/\g<a4)\/(a1<F/\¬g<a4)\/¬a1<F:=by omega
        have s2:(a3<=E)\/(¬a3<=E/\K<=a2)\/(¬a3<=E/\¬K<=a2):=by omega
        rcases s1 with⟨e1,e2⟩|⟨e1,e2⟩|e1<;>rcases s2 with e3|⟨e3,e4⟩|⟨e3,e4⟩
        all_goals (
         go_wp2_with (go_at_call 36;refine(yH _ _ _).mono ?_;rintro e w'⟨rfl,rfl⟩)
         go_meet
         case rel=>
          refine⟨?_,rfl⟩;rw[HMT.out,ah4]
          first|rw[show(decide (a1<F)&&decide (g<a4))=true by simp;omega]|rw[show(decide (a1<F)&&decide (g<a4))=false by simp;omega]
          first|rw[show(decide (a3<=E)||decide (K<=a2))=true by simp;omega]|rw[show(decide (a3<=E)||decide (K<=a2))=false by simp;omega])
       case rest=>
        obtain⟨rfl,rfl⟩:=hcut;obtain⟨z0,z1,z2,z3,z4⟩:=qO BA.out;obtain⟨y0,y1,y2,y3,y4⟩:=qO BB.out;have la:=a9 BA.out;have lb:=a9 BB.out;have q1:=Rw;have q2:=Kv;have O2:=aa (HO3.out.on HB.out);have K2:=aa (f.out.on HB.out)
        go_upto_region 16 with fail
        obtain⟨mx,hmx⟩:∃m,max a1 g=m:=⟨_,rfl⟩
        rw[hmx];have HMX:Hid (IU L a b p=(a,(b:Int),(p:Int),mt,mx)):=aa (by rw[ET.out,hmx]);clear hmx z0 z1 z2 z3 z4 y0 y1 y2 y3 y4 la lb;obtain⟨N,Sn⟩:∃N:World,N=(wc.alloc (.cells #[.int .i64 a,.int .i64 b,.int .i64 p,.int .i64 mt,.int .i64 mx] 71)).alloc (.cells #[.int .i64 a,.int .i64 b,.int .i64 p,.int .i64 2,.int .i64 mx] 71):=⟨_,rfl⟩
        have r1:N.heap[wc.heap.size]?=some (.cells #[.int .i64 a,.int .i64 b,.int .i64 p,.int .i64 mt,.int .i64 mx] 71):=by rw[Sn];exact(((ab _ (wc.alloc _)).alloc (ac _) _).block _ (by simp)).trans (au wc _)
        have r2:N.heap[wc.heap.size+1]?=some (.cells #[.int .i64 a,.int .i64 b,.int .i64 p,.int .i64 2,.int .i64 mx] 71):=by
         have h:=au (wc.alloc (.cells #[.int .i64 a,.int .i64 b,.int .i64 p,.int .i64 mt,.int .i64 mx] 71)) (.cells #[.int .i64 a,.int .i64 b,.int .i64 p,.int .i64 2,.int .i64 mx] 71);rw[dU]at h;rw[Sn];exact h
        have O4:=aa (show kV N w2.heap.size u4 _ by rw[Sn];exact(O2.out.alloc _).alloc _);have K4:Hid (KR C w k L w2.heap.size N):=aa (by rw[Sn];exact(K2.out.alloc _).alloc _);rw[<-Sn];clear Sn;have z1:=a9 r1;have z2:=a9 r2;obtain⟨c0,c1,c2,c3,c4⟩:=qO r1;obtain⟨d0,d1,d2,d3,d4⟩:=qO r2;clear r1 r2;by_cases hm2:mt=2
        ·subst hm2
         go_wp2
         exact⟨⟨p+1,anV,by go_num,by rw[abT,if_pos (by rw[HMX.out]),bv];exact O4.out,K4.out⟩,by simp only[intOf];omega⟩
        ·obtain⟨i0,hi,mF,dx,wD⟩:=aJ aaX;have NB:=aa K4.out.pK;have Tl:(abo L C.n4 C.n5 a++aaY L C.n4 a j++abT L a b p).length<=80:=by
          have:=ah5 L h4 h5 a;have:=G0 L h4 a j;have:=aco L a b p;have:=A.out;simp only[bC];omega
         have HLN:=aa Tl;clear Tl
         go_wp2_with (at_builtin;refine aP _ rfl _ _ _ rfl w2.heap.size 71 i0 _ 5 40 ag2 hi mF dx wD rfl (by decide) u4 _ _ rfl (O4.out.alloc _) ⟨N.heap.size,0,none⟩ 1 1 (vV (a,(b:Int),(p:Int),mt,mx)) rfl rfl (Sm (x:=(a,(b:Int),(p:Int),mt,mx)) (au N _)) (by simp[vV,ej]) (by have:=HLN.out;simp only[maxLen];omega) (by have:=HLN.out;omega) (by have:=NB.out;simp;omega) ?_;intro v' w4 h1 h2 _;have H1:=aa h1;have H2:=aa h2;clear h1 h2)
         have bu:=cZ O4.out;have d:=K4.out.alloc (.cells #[.int .i64 a,.int .i64 b,.int .i64 p,.int .i64 mt,.int .i64 mx] 71);have hg:=(ab w2.heap.size _).grown H2.out d.pK bu;refine⟨⟨p+1,anV,by go_num,?_,ao d.pK H2.out.size,d.kl,d.bl,(hg.block _ d.bl).trans d.box,⟨ag d.row.1 H2.out.size,λj u e=>(hg.cell (p:=⟨k,j,none⟩) d.kl).trans (d.row.2 j u e)⟩,d.low.grown H2.out d.low.size λq e=>ao (ap d.bl) (bu q e)⟩,by simp only[intOf];omega⟩;rw[abT,if_neg (by rw[HMX.out];exact hm2),HMX.out,<-bX];unfold kV;rw[bC,b1];simpa using H1.out
      ·obtain rfl:p=C.n4:=by omega
       go_wp2
       exact⟨⟨b+1,j+1,by rw[A.out];rfl,arc,by go_num,by rw[aaY,<-A.out,<-bX];exact HO3.out,f.out⟩,by simp only[intOf];omega⟩
    ·have hbn:b=C.n5:=by omega
     have i2:¬((b:Int)<C.n5):=by omega
     go_wp2
     exact⟨⟨a+1,aH,by go_num,by rw[abo,show C.n5-(a+1)=j by have:=A.out;omega];exact P.out,B.out⟩,by simp only[intOf];omega⟩
  ·obtain rfl:a=C.n5:=by omega
   obtain⟨b,c,rfl⟩:=vB HO.out;have hm:=ah6 L h4 h5
   go_wp2_with (go_at_call 74;refine(adn _ _ HO.out (by omega)).mono ?_;rintro e w3⟨rfl,hO3,qi⟩)
   go_ret
   exact⟨_,rfl,dJ hO3 (ap HK.out.bl),HK.out.low.trans (qi.mono (ap HK.out.bl))⟩
def Cv(d:Int)(p:Nat):List nR:=if d=1/\p=3 then[(0,1,2,0,13)] else[]
def alD{d:Int}(hd:d=0\/d=1):anT (mC d) 3 2=Cv d 3:=by
 rcases hd with rfl|rfl<;>decide +kernel
def vC(C:CD)(d:Int)(hd:d=0\/d=1)(a:C.n4=3)(b:C.n5=2)(w:World)(h:C.At w)
 (c:∀W,C.At W->Calls PL 39 #[.agg C.val] W λe w'=>∃k,e=.returned (.pointer (some ⟨k,0,none⟩))/\Row w' k ((mC d).map bh)/\Below W.heap.size W w') :
 Calls PL 48 #[.agg C.val] w λe w'=>∃v,e=.returned v/\kV w' w.heap.size v (Cv d 3)/\Below w.heap.size w w':=by
 have:=abU C (mC d) (by rcases hd with rfl|rfl<;>rfl) (by omega) (by omega) w h c;rwa[a,b,alD hd]at this
abbrev So(a b c:Nat):Value:=.func (.func 52) #[] #[.pointer (some ⟨a,0,none⟩),.pointer (some ⟨b,0,none⟩),.pointer (some ⟨c,0,none⟩)]
structure DE(V:Array Value)(k2 k3 k4 k5 la ca lb cb Bc Bd Bt B1:Nat)(W:World):Prop where
 lo:k2<B1/\k3<B1/\k4<B1/\k5<B1/\la<B1/\lb<B1/\Bc<B1/\Bd<B1/\Bt<B1
 hi:B1<=W.heap.size
 c:W.heap[Bc]?=some (.cells V 27)
 d:∃v,W.heap[Bd]?=some (.cells #[v] 47)
 t:W.heap[Bt]?=some (.cells #[So Bc Bd Bt] 102)
 ex:CJ W k2 k3 k4 k5 la ca lb cb 1
def Row.XM{W a:World}{k B:Nat}{l:List Value}(h:Row W k l)(c:k<B)(b:Below B W a):Row a k l:=
 ⟨ag h.1 b.size,λj v e=>(b.cell (p:=⟨k,j,none⟩) c).trans (h.2 j v e)⟩
def DE.XM{V:Array Value}{k2 k3 f g i ca lb j k l m b:Nat}{W n:World}(h:DE V k2 k3 f g i ca lb j k l m b W)(a:Below b W n):DE V k2 k3 f g i ca lb j k l m b n:=by
 obtain⟨a1,a2,a3,a4,o,p,q,r,s⟩:=h.lo;exact⟨h.lo,ao h.hi a.size,(a.block _ q).trans h.c,h.d.imp λ_ e=>(a.block _ r).trans e,(a.block _ s).trans h.t,⟨h.ex.r2.XM a1 a,h.ex.r3.XM a2 a,h.ex.r4.XM a3 a,h.ex.r5.XM a4 a,h.ex.ra.XM o a,h.ex.rb.XM p a⟩⟩
def DE.on{V:Array Value}{k2 k3 b f g ca lb i j k l m:Nat}{W n:World}(h:DE V k2 k3 b f g ca lb i j k l m W)(a:Below W.heap.size W n):DE V k2 k3 b f g ca lb i j k l m n:=
 ⟨h.lo,ao h.hi a.size,(a.block _ (a9 h.c)).trans h.c,h.d.imp λ_ e=>(a.block _ (a9 e)).trans e,(a.block _ (a9 h.t)).trans h.t,h.ex.on a⟩
def DP(a b:Nat)(w:World)(e:Ending)(w':World):Prop:=e=.returned (.bool true)/\(∃v,w'.heap[b]?=some (.cells #[v] 47)/\bB w' v [0,0])/\Below a w w'
def Sr{k2 a k3 c3 b c d e f ca lb g:Nat}:qP (ir k2 a k3 c3 b c d e f ca lb g 0) (ir k2 a k3 c3 b c d e f ca lb g 0).n5=true:=by kernel_rfl
def Ss{k2 a k3 c3 d f g i j ca lb k:Nat}(w:World)(h:(ir k2 a k3 c3 d f g i j ca lb k 0).At w):Calls PL 53 #[.agg (ir k2 a k3 c3 d f g i j ca lb k 0).val] w (aO (.bool true) w):=by
 have m:=VY (ir k2 a k3 c3 d f g i j ca lb k 0) 0 w h (yQ (.inl rfl)) (by simp[ir]) λW n=>(vC _ 0 (.inl rfl) rfl rfl W n λq l=>tA (.inl rfl) ⟨k2,a,k3,c3,d,f,g,i,j,ca,lb,k,rfl⟩ l).mono ?_
 ·rw[Sr]at m;exact m
 ·rintro e w'⟨v,rfl,o,p⟩;obtain⟨b,c,rfl⟩:=vB o;exact⟨b,c,rfl,p⟩
def VZ{W:World}{base e size n B:Nat}{v u:Value}{xs:List Value}(h:W.ownsRow base e size v n xs)(d:B<base):(W.setCell ⟨B,0,none⟩ u).ownsRow base e size v n xs:=by
 obtain⟨b,h⟩:=h
 rcases h with h|⟨g,cap,a,e1,hb,hg,c⟩
 ·exact⟨b,.inl h⟩
 ·exact⟨b,.inr ⟨g,cap,a,e1,hb,(aZ (by omega)).trans hg,c⟩⟩
def Su{k2 I k3 c3 o J q K r ca lb s L k M X N:Nat}{l:Value}(w:World)(h:DE (ir k2 I k3 c3 o J q K r ca lb s 1).val k2 k3 o q r ca lb s L k M X w)(hl:bB w l [0,0])(O:N<=k) :
 Calls PL 52 #[l,.int .i64 0,.pointer (some ⟨L,0,none⟩),.pointer (some ⟨k,0,none⟩),.pointer (some ⟨M,0,none⟩)] w (DP N k w):=by
 have P:=aa hl;obtain⟨b,c,rfl,Q⟩:=hl;obtain⟨g,m,rfl,t,x⟩:=Q (by simp);have y:=aa h;have Y:=aa (x 0 (by simp));have Z:=aa (x 1 (by simp));simp only[bq,bt,Nat.reduceAdd]at P ⊢;have R:Hid (∀W,CJ W k2 k3 o q r ca lb s 1->bB W (.slice (some ⟨g,m,none⟩) 2 c) [0,0]->Calls PL 51 #[.agg (ir k2 I k3 c3 o J q K r ca lb s 1).val,.slice (some ⟨g,m,none⟩) 2 c] W _):=aa λW hW hR=>yP W hW hR;have z:=h.c;clear h Q x;simp only[ir,CD.val]at R z y;obtain⟨f0,f1,f2,f3,f4,f5⟩:=bf z;clear z
 go_enter (fx (by decide) cv),cC
 go_upto_region 4 with(first
  |(go_at_call 51;go_must (refine(R.out _ y.out.ex P.out).mono ?_);rintro e w1⟨q2,p2,q3,p3,q4,p4,q5,p5,xa,ya,xb,yb,rfl,S⟩;have i:=aa S;clear S)
  |(go_at_call 53;go_must (refine(Ss _ (Rx i.out.rows.r2 i.out.rows.r3 i.out.rows.r4 i.out.rows.r5 i.out.rows.ra i.out.rows.rb)).mono ?_);rintro e w2⟨rfl,T⟩;have B2:=aa T;clear T))
 have T2:=aa (ba i.out.low B2.out);have U:∀j u,[bh 0,bh 0][j]?=some u->w2.cell? ⟨g,m+j,none⟩=some u:=λj u e=>by
  match j,e with
  |0,e=>cases e;exact(T2.out.cell (p:=⟨g,m,none⟩) t).trans Y.out
  |1,e=>cases e;exact(T2.out.cell (p:=⟨g,m+1,none⟩) t).trans Z.out
 have CL:=aa U;obtain⟨v0,a⟩:=y.out.d;have A:=aa a;have n:=(T2.out.block _ (a9 a)).trans a;have B:=aa n;have V:g<w2.heap.size:=ag t T2.out.size;have C:=aa V;clear U a n V
 go_wp2_with (go_at_call 54;go_must (refine(tC g m 2 c [bh 0,bh 0] _ rfl CL.out (by simp[ej]) (by omega) C.out).mono ?_);rintro e w3⟨v,rfl,hv,D,E⟩;have f:=(E.block _ (a9 B.out)).trans B.out;have fz:=tO f;have y0:w3.cell? ⟨k,0,none⟩=some v0:=(by simp[dT,f]);obtain⟨bb,cc,rfl⟩:=vB D;have F:=aa f;have HO:=aa D;have B3:=aa E;clear f D E hv)
 go_ret
 have H:k<w2.heap.size:=a9 B.out;refine⟨rfl,⟨_,yV F.out,eO.reads (e:=3) (base:=w2.heap.size) (VZ HO.out H)⟩,((ba T2.out B3.out).mono (ao O (ap (a9 A.out)))).setCell O _⟩
def yX{T e:aI}(a:PL.underlying T=some (.slice e))(c:(PL.info? e).map (λi=>(i.zero,i.size,i.bytes))=some (some (.int .i64 0),1,8)){ops:Array Oper}{o:Oper}{b:Act}{K:Value->World->Prop}{W:World}(d:o.guard=none)(s x:aS)
 (f:o.op=.call { callee:=.builtin .append,args:=#[s,x],argTypes:=#[T,T] }) (base:Nat) (v:Value) (l:List Int) (j:Int) (k:Nat) (hs:b.eval s=v) (g:eO e W base v l)
 (m:b.eval x=.slice (some ⟨k,0,none⟩) 1 1) (hc:W.cell? ⟨k,0,none⟩=some (.int .i64 j)) (hl:l.length<=1000) (n:base<=W.heap.size)
 (h:∀v' w',eO e w' base v' (l++[j])->W.grownBy w' v.ownBlock->K v' w'):fC PL ops K o b W:=by
 obtain⟨p,hi,r,t,y⟩:=aJ c
 obtain⟨v',w',z,A,B,_⟩:=run_append_own (P:=PL) (w:=W) base T o.type e p (.int .i64 0) 1 8 a hi r t y rfl (by decide) v l.length _ g ⟨k,0,none⟩ 1 1 [.int .i64 j] rfl (λq u e=>by
  match q,e with
  |0,e=>cases e;exact hc) (by simp[ej]) (by simp only[maxLen];omega) (by omega) n
 unfold fC;rw[if_pos (by simp[Region.wanted,d])];unfold aT;simp only[f,resolve,invoke,builtin,Sem.run_bind,Sem.run_pure,Result.andThen_ok,List.map_toArray,b2,b5,hs,m,z];refine h v' w' ?_ B;unfold eO;rw[bC,b8];exact A
structure CT(V:Array Value)(k2 k3 k4 k5 la ca lb cb Bc Bd Bt B1:Nat)(w1:World)(b:Bool)(W:World):Prop where
 de:DE V k2 k3 k4 k5 la ca lb cb Bc Bd Bt B1 W
 low:Below B1 w1 W
 old:b=false->Below w1.heap.size w1 W
def V1(n0 a:Nat)(xs:List Int)(j:Nat)(vs:Nat->Value)(W:World):Prop:=
 (j=3->∃k,vs 3=.slice (some ⟨k,0,none⟩) 1 1/\n0<=k/\W.heap[k]?=some (.cells #[.int .i64 0] 3))/\
 (j=4->eO 3 W a (vs 4) (xs++[0]))
def V1.le{n0 b:Nat}{xs:List Int}{j:Nat}{vs:Nat->Value}{W c:World}(h:V1 n0 b xs j vs W)(d:Below W.heap.size W c):V1 n0 b xs j vs c:=
 ⟨λe=>(h.1 e).imp λ_ a=>⟨a.1,a.2.1,(d.block _ (a9 a.2.2)).trans a.2.2⟩,λe=>(h.2 e).on d⟩
def ExD(t:Nat):Bool:=t != 3&&t != 4
def Fq{k2 x k3 c3 f y g z m ca lb p v r s d F:Nat}{l:Value}(xs:List Int)(L:xs.length<2)(w:World)(h:DE (ir k2 x k3 c3 f y g z m ca lb p 1).val k2 k3 f g m ca lb p v r s d w)(hl:eO 3 w d l xs)(cB:F<=d)
 (M:∀W l',DE (ir k2 x k3 c3 f y g z m ca lb p 1).val k2 k3 f g m ca lb p v r s d W->eO 3 W d l' (xs++[0])->Calls PL 52 #[l',.int .i64 0,.pointer (some ⟨v,0,none⟩),.pointer (some ⟨r,0,none⟩),.pointer (some ⟨s,0,none⟩)] W (DP F r W)) :
 Calls PL 52 #[l,.int .i64 0,.pointer (some ⟨v,0,none⟩),.pointer (some ⟨r,0,none⟩),.pointer (some ⟨s,0,none⟩)] w (DP F r w):=by
 obtain⟨b,c,rfl⟩:=vB hl;have HX:=aa h;have N:=aa hl;have IH:=aa M;have O:=h.c;have i1:¬((xs.length:Int)=2):=by omega
 have H:=aa L;clear h hl M L;obtain⟨P,Q,R,S,f4,T⟩:=bf O;clear O;simp only[ir]at P Q R S f4 T
 go_enter (fx (by decide) cv),cC
 go_wp2
 go_loopw [8] (λv8 wr=>v8=.int .i64 0/\wr=w) (λ_ _=>0)
 case atStart=>exact⟨rfl,rfl⟩
 case round=>
  obtain⟨rfl,hw⟩:=hrel;subst hw
  go_upto_region 9 with(go_at_call 50;refine(uK (n:=0) rfl _).mono ?_;rintro e w'⟨rfl,rfl⟩)
  have C0:Hid (CT (ir k2 x k3 c3 f y g z m ca lb p 1).val k2 k3 f g m ca lb p v r s d wr false wr.drew):=aa ⟨HX.out.on (ab _ _).drew,(ab _ _).drew,λ_=>(ab _ _).drew⟩;clear P Q R S f4 T i1;refine iL 8 4 (CT (ir k2 x k3 c3 f y g z m ca lb p 1).val k2 k3 f g m ca lb p v r s d wr) (λW U=>Below W.heap.size W U) ExD (λ_=>V1 wr.heap.size d xs) (λ_ _ _ _=>True) (λ_ _ _ _ _=>trivial) rfl (by kernel_rfl) (by kernel_rfl) rfl
   (λ_ i vs W U I h=>h.le I) (λi o ho vs eX W V _ _ h=>⟨λe=>by subst e;rw[<-V];exact h.1 rfl,λe=>by subst e;rw[<-V];exact h.2 rfl⟩) C0.out ?_
  iterate 3 (
   apply iK
   case hE=>rfl
   case h=>
    intro vs W b a hd;have A:=a.de.t;have t0:W.cell? ⟨s,0,none⟩=some (So v r s):=by simp[dT,A]
    clear A
    go_simp
    first
    |exact⟨rfl,ab _ _⟩
    |exact⟨rfl,a,ab _ _⟩
   case hb=>exact H9)
  apply ey
  case hE=>rfl
  case hb=>exact H9
  case h=>
   intro vs W D b hb a X hi _ hd hP;have u:=(ab W.heap.size W).alloc (ac _) (.cells #[.int .i64 0] 3);have B:Hid (CT (ir k2 x k3 c3 f y g z m ca lb p 1).val k2 k3 f g m ca lb p v r s d wr b (W.alloc (.cells #[.int .i64 0] 3))):=aa ⟨a.de.on u,a.low.trans (u.mono a.de.hi),λe=>ba (a.old e) u⟩;have HW:=aa (a.low.size);clear a
   go_simp
   exact⟨B.out,λj C J=>(hd j C J).le u,⟨λ_=>⟨W.heap.size,by simp[upd],HW.out,au _ _⟩,λe=>absurd e (by decide)⟩⟩
  apply ey
  case hE=>rfl
  case hb=>exact H9
  case h=>
   intro vs W D bb iC a X hi _ hd hP;have m3:3∈D:=X ⟨3,.data⟩ (cH.2 ⟨by simp,rfl⟩);obtain⟨q,hq,hql,K⟩:=(hd 3 m3 rfl).1 rfl;have hold:=a.old (iC rfl);have Y:=N.out.on hold;have bu:=cZ Y;have aH:∀j,ek (.slice b xs.length c)=some j->j<wr.heap.size:=λj e=>by
    obtain⟨cur,hc⟩:=qm N.out j e;exact a9 hc
   refine yX Rz RE rfl _ _ rfl d (.slice b xs.length c) xs 0 q rfl Y hq (by simp[dT,K]) (by have:=H.out;omega) a.de.hi λv' w' h1 Z=>?_;have u:Below d W w':=(ab d W).grown Z a.de.hi bu;refine⟨⟨a.de.XM u,a.low.trans u,λe=>by simp at e⟩,λj C J=>⟨λe=>?_,λe=>absurd C (by rw[e];exact hi)⟩,⟨λe=>absurd e (by decide),λ_=>by simpa[upd]using h1⟩,λ_ _ _=>trivial⟩;refine((hd j C J).1 e).imp λk E=>⟨E.1,E.2.1,(Z.block k (a9 E.2.2) λe=>?_).trans E.2.2⟩
   have:=aH _ e.symm;omega
  iterate 3 (
   apply iK
   case hE=>rfl
   case h=>
    intro vs W b a hd
    go_simp
    exact⟨rfl,ab _ _⟩
   case hb=>exact H9)
  refine nv λvs W bb _ a hd _=>?_;have hO:=(hd 4 (by omega) rfl).2 rfl;have HO:=aa hO;have B:=aa a;clear hd hO a
  go_wp2_with (go_at_call 52;go_must (refine(IH.out _ _ B.out.de HO.out).mono ?_);rintro e w2⟨rfl,hp,u⟩)
  go_ret
  exact⟨rfl,hp,(B.out.low.mono cB).trans u⟩
def ab1{k2 m k3 c3 d n e o f ca lb g i a j k b:Nat}(w:World)(h:DE (ir k2 m k3 c3 d n e o f ca lb g 1).val k2 k3 d e f ca lb g i a j k w)(p:b<=a)(l:b<=k) :
 Calls PL 52 #[.slice none 0 0,.int .i64 0,.pointer (some ⟨i,0,none⟩),.pointer (some ⟨a,0,none⟩),.pointer (some ⟨j,0,none⟩)] w (DP b a w):=
 Fq [] (by decide) w h ⟨rfl,.inl ⟨rfl,rfl⟩⟩ l λW t q hl=>Fq [0] (by decide) W q hl l λr u s c=>Su r s (eO.reads c) p
end Go.Proofs
namespace Go.Proofs
open Go.RowKit Go.Shelf
set_option maxRecDepth 100000
set_option maxHeartbeats 4000000
def Cw{P:Program}{w:World}{a:Addr}{m:Mode}(f:Fn)(ts b:Array Value):(store a (.func f ts b) m).run P w=stored P w a (.func f ts b) m:=run_store P w a _ m rfl
attribute [local go_sem] Cw
def V2{w:World}{B:Nat}{v:Value}{t:aI}(h:w.heap[B]?=some (.cells #[v] t)):Below w.heap.size w (w.setCell ⟨B,0,none⟩ v):=
 ⟨rfl,rfl,rfl,by simp,λk _=>by
   by_cases e:k=B
   ·subst e;rw[yV h,h]
   ·exact aZ (Ne.symm e)⟩
structure KDl(V:Array Value)(w:World)(W:World):Prop where
 c:W.heap[w.heap.size]?=some (.cells V 27)
 d:W.heap[w.heap.size+1]?=some (.cells #[.slice none 0 0] 47)
 low:Below w.heap.size w W
def KDl.on{V:Array Value}{w W b:World}(h:KDl V w W)(a:Below W.heap.size W b):KDl V w b:=
 ⟨(a.block _ (a9 h.c)).trans h.c,(a.block _ (a9 h.d)).trans h.d,ba h.low a⟩
def II{k2 i k3 c3 a j b k f ca lb g:Nat}(w:World)(h:CJ w k2 k3 a b f ca lb g 1) :
 Calls PL 22 #[.agg (ir k2 i k3 c3 a j b k f ca lb g 1).val] w λe w'=>∃v,e=.returned (.tuple #[v,.bool true,.int .i64 0])/\bB w' v [0,0]/\Below w.heap.size w w':=by
 have l:=aa h
 have q:Hid (KDl (ir k2 i k3 c3 a j b k f ca lb g 1).val w ((w.alloc (.cells (ir k2 i k3 c3 a j b k f ca lb g 1).val 27)).alloc (.cells #[.slice none 0 0] 47))):=aa (by
  refine⟨(((ab (w.alloc _).heap.size _).alloc (ac _) _).block _ (by simp)).trans (au w _),?_,((ab _ _).alloc (ac _) _).alloc (by simp) _⟩;have h:=au (w.alloc (.cells (ir k2 i k3 c3 a j b k f ca lb g 1).val 27)) (.cells #[.slice none 0 0] 47);rw[dU]at h
  exact h)
 have M:Hid (∀W,CJ W k2 k3 a b f ca lb g 1->Calls PL 49 #[.agg (ir k2 i k3 c3 a j b k f ca lb g 1).val] W (aO (.int .i64 0) W)):=aa λW Y=>sY (yQ (.inr rfl)) Y.at;clear h;simp only[ir,CD.val]at q M ⊢
 go_enter (fx (by decide) Tryz.func22),Tryz.ntmps22
 go_upto_region 1 with fail
 obtain⟨N,O⟩:∃N:World,N=((w.alloc (.cells #[.int .i64 60,.int .i64 4,.slice (some ⟨k2,0,none⟩) 2 i,.slice (some ⟨k3,0,none⟩) 4 c3,.slice (some ⟨a,0,none⟩) 3 j,.slice (some ⟨b,0,none⟩) 2 k] 27)).alloc (.cells #[.slice none 0 0] 47)):=⟨_,rfl⟩
 rw[<-O]at q ⊢;clear O;obtain⟨z,A,B,C,f4,D⟩:=bf q.out.c
 go_upto_region 4 with(go_at_call 49;go_must (refine(M.out _ (l.out.on q.out.low)).mono ?_);rintro e w1⟨rfl,r⟩;have I:=aa (q.out.on r);clear r z A B C f4 D;obtain⟨z,A,B,C,f4,D⟩:=bf I.out.c)
 go_upto_region 5 with fail
 obtain⟨n,E⟩:∃n:World,n=w1.alloc (.cells #[.nilFunc] 102):=⟨_,rfl⟩
 have r:Below w1.heap.size w1 n:=by rw[E];exact(ab _ _).alloc (ac _) _
 have F:n.heap[w1.heap.size]?=some (.cells #[.nilFunc] 102):=by rw[E];exact au _ _
 rw[<-E];clear E z A B C f4 D;have J:=aa (I.out.on r);have Z:=aa F;have t0:n.cell? ⟨w1.heap.size,0,none⟩=some .nilFunc:=by simp[dT,F]
 have P:=tO F;clear F r
 go_upto_region 6 with fail
 obtain⟨m,H⟩:∃m:World,m=n.setCell ⟨w1.heap.size,0,none⟩ (So w.heap.size (w.heap.size+1) w1.heap.size):=⟨_,rfl⟩
 rw[<-H];have s:=a9 I.out.d
 have o:Hid (KDl #[.int .i64 60,.int .i64 4,.slice (some ⟨k2,0,none⟩) 2 i,.slice (some ⟨k3,0,none⟩) 4 c3,.slice (some ⟨a,0,none⟩) 3 j,.slice (some ⟨b,0,none⟩) 2 k] w m):=aa (by
  rw[H]
  exact⟨(aZ (by omega)).trans J.out.c,(aZ (by omega)).trans J.out.d,J.out.low.setCell (p:=⟨w1.heap.size,0,none⟩) (by simp only;omega) _⟩)
 have Q:Hid (DE (ir k2 i k3 c3 a j b k f ca lb g 1).val k2 k3 a b f ca lb g w.heap.size (w.heap.size+1) w1.heap.size (w1.heap.size+1) m):=aa (by
  have e:=l.out.on o.out.low;have l2:=l.out.r2.1;have l3:=l.out.r3.1;have l4:=l.out.r4.1;have l5:=l.out.r5.1;have f:=l.out.ra.1;have lb:=l.out.rb.1;have R:m.heap[w1.heap.size]?=some (.cells #[So w.heap.size (w.heap.size+1) w1.heap.size] 102):=by rw[H];exact yV Z.out
  exact⟨⟨by omega,by omega,by omega,by omega,by omega,by omega,by omega,by omega,by omega⟩,a9 R,o.out.c,⟨_,o.out.d⟩,R,e⟩)
 have S:=Q.out.t;have t1:m.cell? ⟨w1.heap.size,0,none⟩=some (So w.heap.size (w.heap.size+1) w1.heap.size):=by simp[dT,S]
 obtain⟨z,A,B,C,f4,D⟩:=bf o.out.c;clear H t0 P S;have K:=aa s;clear s
 go_wp2
 go_loopw [19] (λL wr=>L=.int .i64 0/\wr=m) (λ_ _=>0)
 case atStart=>exact⟨rfl,rfl⟩
 case round=>
  obtain⟨rfl,hw⟩:=hrel;subst hw
  go_wp2_with (go_at_call 52;go_must (refine(ab1 _ Q.out (Nat.le_succ _) (by have:=K.out;omega)).mono ?_);rintro e w3⟨rfl,⟨v,hv,T⟩,U⟩;have HR:=aa T;obtain⟨x,y,rfl,Yc⟩:=T;clear Yc;have y0:w3.cell? ⟨w.heap.size+1,0,none⟩=some (.slice x 2 y):=(by simp[dT,hv]);have P:=tO hv;have V:=aa hv;have X:=aa U;clear hv U)
  have hs:=V2 V.out;have hy:=yV (u:=.slice x 2 y) V.out;refine aw (v:=.tuple #[.slice x 2 y,.bool true,.int .i64 0]) ?_ rfl ⟨_,rfl,HR.out.on hs,(o.out.low.trans X.out).trans (hs.mono (ao o.out.low.size X.out.size))⟩;have hz:=a9 hy;have sB:(w3.setCell ⟨w.heap.size+1,0,none⟩ (.slice x 2 y)).cell? ⟨w.heap.size+1,0,none⟩=some (.slice x 2 y):=by simp[dT,hy]
  clear hs;simp[aB,Tryz.results22,go_sem,sB]
end Go.Proofs
namespace Go.Proofs
open Go.RowKit Go.Instr
open Go.ChangeMaps (setBlock)
set_option maxRecDepth 100000
abbrev WE:=Int×Value×List Int×Int
def nD(x:WE):Value:=.agg #[x.2.1,.int .i64 x.2.2.2]
def Cx(i:Nat)(x:WE):a5:={ key:=.int .i64 x.1,val:=nD x,born:=i }
def gi(R:List WE):Array a5:=(R.mapIdx Cx).toArray
structure jy(W:World)(b:Nat)(R:List WE):Prop where
 map:W.heap[b]?=some (.map (gi R) R.length)
 reads:∀x∈R,bB W x.2.1 x.2.2.1
 ne:∀x∈R,x.2.2.1≠[]
def jy.on{W a:World}{b:Nat}{R:List WE}(h:jy W b R)(c:Below W.heap.size W a):jy a b R:=
 ⟨(c.block _ (a9 h.map)).trans h.map,λx d=>(h.reads x d).on c,h.ne⟩
def jy.made(w:World):jy (w.alloc (.map #[] 0)) w.heap.size []:=⟨au _ _,λ_ h=>(by cases h),λ_ h=>(by cases h)⟩
def yY:PL.underlying 107=some (.map 3 106):=by kernel_rfl
def V3(w:World):(zeroValue 106).run PL w=.ok (.agg #[.slice none 0 0,.int .i64 0]) w:=by kernel_rfl
def Sv(k:Int):∀(R:List WE)(f:Nat->WE->a5)(a:Nat),(∀i x,(f i x).key=.int .i64 x.1)->(∀i x,(f i x).val=nD x)->
 ∃r,bi (.int .i64) (.int .i64 k) (R.mapIdx f) a=some r/\(∀x,R.find? (λx=>x.1==k)=some x->∃j,r=some (j,nD x))/\(R.find? (λx=>x.1==k)=none->r=none)
 |[],f,a,_,_=>⟨none,rfl,λx h=>by simp at h,λ_=>rfl⟩
 |y::R,f,a,b,hv=>by
  rw[List.mapIdx_cons];by_cases e:y.1=k
  ·refine⟨some (a,nD y),by simp[bi,b,hv,sameNow,e],λx h=>?_,λh=>?_⟩
   ·simp[e]at h;subst h;exact⟨a,rfl⟩
   ·simp[e]at h
  ·obtain⟨r,c,d,g⟩:=Sv k R (λi=>f (i+1)) (a+1) (λi x=>b _ x) (λi x=>hv _ x);refine⟨r,?_,λx h=>d x ?_,λh=>g ?_⟩
   ·have l:(k==y.1)=false:=by simpa using λh=>e h.symm
    simp only[bi,b,sameNow,l,if_true];simpa using c
   ·simpa[cd,e]using h
   ·simpa[cd,e]using h
def qn(k:Int)(R:List WE)(w:World):∃r,(findKey 3 (.int .i64 k) (gi R).toList).run PL w=.ok r w/\(∀x,R.find? (λx=>x.1==k)=some x->∃j,r=some (j,nD x))/\(R.find? (λx=>x.1==k)=none->r=none):=by
 obtain⟨r,a,b,c⟩:=Sv k R Cx 0 (λ_ _=>rfl) (λ_ _=>rfl);exact⟨r,by simp[findKey,a6,aaj,gi,a],b,c⟩
def IJ{W:World}{b:Nat}{R:List WE}{k:Int}{x:WE}(h:W.heap[b]?=some (.map (gi R) R.length))(a:R.find? (λx=>x.1==k)=some x):(bj 107 (.map (some b)) (.int .i64 k) false).run PL W=.ok (nD x) W:=by
 obtain⟨r,c,d,_⟩:=qn k R W;obtain⟨j,rfl⟩:=d x a;simp[bj,a6,yY,en h,qz.check,c]
def Sw{W:World}{b:Nat}{R:List WE}{k:Int}{x:WE}(h:W.heap[b]?=some (.map (gi R) R.length))(a:R.find? (λx=>x.1==k)=some x):(bj 107 (.map (some b)) (.int .i64 k) true).run PL W=.ok (.tuple #[nD x,.bool true]) W:=by
 obtain⟨r,c,d,_⟩:=qn k R W;obtain⟨j,rfl⟩:=d x a;simp[bj,a6,yY,en h,qz.check,c]
def Sx{W:World}{b:Nat}{R:List WE}{k:Int}(h:W.heap[b]?=some (.map (gi R) R.length))(c:R.find? (λx=>x.1==k)=none):(bj 107 (.map (some b)) (.int .i64 k) true).run PL W=.ok (.tuple #[.agg #[.slice none 0 0,.int .i64 0],.bool false]) W:=by
 obtain⟨r,a,_,d⟩:=qn k R W;rw[d c]at a;simp[bj,a6,yY,en h,qz.check,a,V3]
def jN{W d:World}{b:Nat}{o:Obj}{v:Value}{l:List Int}(hv:bB W v l)(hl:l≠[])(h:gv W d b)(hb:W.heap[b]?=some o)(e:∀c t f,o≠.cells c t f):bB d v l:=by
 obtain⟨p,c,rfl,g⟩:=hv;refine⟨p,c,rfl,λi=>?_⟩;obtain⟨k,q,rfl,m,hc⟩:=g i;have n:k≠b:=by
  rintro rfl;have:=hc 0 (by omega);simp only[dT,hb]at this
  cases o with
  |cells c t f=>exact e c t f rfl
  |_=>simp at this
 exact⟨k,q,rfl,by rw[h.size];exact m,λj r=>(h.cell (a:=⟨k,q+j,none⟩) n).trans (hc j r)⟩
def jy.put{W:World}{b:Nat}{R:List WE}(h:jy W b R){x:WE}(f:R.find? (λy=>y.1==x.1)=none)(g:bB W x.2.1 x.2.2.1)(c:x.2.2.1≠[]) :
 ∃w',(bm 107 (.map (some b)) (.int .i64 x.1) (nD x)).run PL W=.ok () w'/\jy w' b (R++[x])/\gv W w' b:=by
 obtain⟨r,d,_,i⟩:=qn x.1 R W;rw[i f]at d;have hb:=a9 h.map
 have a:gv W { W with heap:=W.heap.setIfInBounds b (.map ((gi R).push { key:=.int .i64 x.1,val:=nD x,born:=R.length }) (R.length+1)) } b:=⟨rfl,rfl,rfl,by simp,λk j=>by
  show(W.heap.setIfInBounds b _)[k]?=_
  rw[eb (Ne.symm j)]⟩
 have l:gi (R++[x])=(gi R).push { key:=.int .i64 x.1,val:=nD x,born:=R.length }:=by
  simp[gi,Cx,List.mapIdx_append]
 refine⟨_,?_,⟨?_,λy hy=>?_,λy hy=>?_⟩,a⟩
 ·simp[bm,a6,yY,en h.map,qz.check,d,MapKept.run_setObj_map _ h.map]
 ·rw[l];simp[hb]
 ·rcases List.mem_append.1 hy with hy|hy
  ·exact jN (h.reads y hy) (h.ne y hy) a h.map (λ_ _ _ e=>by cases e)
  ·rw[List.mem_singleton.1 hy];exact jN g c a h.map (λ_ _ _ e=>by cases e)
 ·rcases List.mem_append.1 hy with hy|hy
  ·exact h.ne y hy
  ·rw[List.mem_singleton.1 hy];exact c
def ag6(R:List WE):(gi R).toList.map (·.born)=ce R.length:=by
 apply List.ext_getElem
 ·simp[gi]
 ·intro i a b;simp[gi,Cx]
def A5{R:List WE}{e:a5}(h:e∈(gi R).toList):∃j x,R[j]?=some x/\e=Cx j x:=by
 simp only[gi,cf]at h;obtain⟨j,a,rfl⟩:=h;exact⟨j,R[j],by simp[a],rfl⟩
def tE(W:World)(r b n:Nat)(seen:Array Nat):Prop:=W.heap[r]?=some (.mapIter (some b) n seen n)
def V4{W:World}{b:Nat}{R:List WE}(h:jy W b R):(Instr.range 107 (.map (some b))).run PL W=.ok (.pointer (some ⟨W.heap.size,0,none⟩)) (W.alloc (.mapIter (some b) R.length #[] R.length)):=
 run_range_map W 107 3 106 b _ _ yY h.map
def Fs(n:Nat)(seen:Array Nat):Nat:=((ce n).filter λj=>!seen.contains j).length
def IK{n j:Nat}{seen:Array Nat}(a:j<n)(hs:seen.contains j=false):Fs n (seen.push j)<Fs n seen:=by
 unfold Fs;have b:(ce n).filter (λq=>!(seen.push j).contains q)=((ce n).filter λq=>!seen.contains q).filter λq=>decide (¬q=j):=by
  rw[List.filter_filter];refine List.filter_congr λq _=>?_;by_cases e:q=j<;>simp[e]
 rw[b];refine List.length_filter_lt_length_iff_exists.2 ⟨j,?_,by simp⟩;have c:j∉seen:=by simpa using hs
 simp[a,c]
def zX{ops:Array Oper}{rest:List Oper}{o:Oper}{a:Act}{Q:Exit->Act->World->Prop}(w:World)(hg:o.guard=none)(it:aS)(t:o.op=Op.next it false)(r b:Nat)(R:List WE)(seen:Array Nat)
 (u:a.eval it=.pointer (some ⟨r,0,none⟩)) (g:tE w r b R.length seen) (c:jy w b R)
 (A:(∀j,j<R.length->seen.contains j=true)->a7 PL ops Q rest (a.put o.dst (.tuple #[.bool false])) w)
 (i:∀j x w',R[j]?=some x->seen.contains j=false->tE w' r b R.length (seen.push j)->gv w w' r->jy w' b R->(Instr.entry (.pointer (some ⟨r,0,none⟩))).run PL w'=.ok (.tuple #[.int .i64 x.1,nD x]) w'->
   a7 PL ops Q rest (a.put o.dst (.tuple #[.bool true,.int .i64 x.1,nD x])) w'):a7 PL ops Q (o::rest) a w:=by
 refine a8 hg λF hK'=>?_;unfold Oper.wp
 rcases run_next_at (P:=PL) w o.type r b R.length R.length seen (gi R) R.length g c.map (λx B=>by
  obtain⟨j,y,d,rfl⟩:=A5 B
  exact(List.getElem?_eq_some_iff.1 d).1) (ac _) with⟨hl,l⟩|⟨e,m,w1,h,l⟩
 ·simp[aT,t,u,l,Result.andThen];refine hK' _ _ (A λj d=>?_);have f:Cx j R[j]∉leftOf (gi R) seen:=by rw[Array.eq_empty_of_size_eq_zero hl];simp
  have C:Cx j R[j]∈gi R:=by
   simp only[gi,List.mem_toArray,cf];exact⟨j,d,rfl⟩
  simp only[leftOf,ed,not_and]at f;have:=f C;simpa[Cx]using this
 ·have n:e∈(gi R).toList/\seen.contains e.born=false:=by
   simp only[leftOf,Array.mem_toList_iff,ed]at m;exact⟨Array.mem_toList_iff.2 m.1,by simpa using m.2⟩
  obtain⟨j,x,d,rfl⟩:=A5 n.1;have hs:seen.contains j=false:=n.2;simp[aT,t,u,l,Result.andThen];have p:=a9 g
  have q:w1.heap=w.heap:=by rcases h with rfl|rfl<;>rfl
  have D:b≠r:=by rintro rfl;have i:=c.map;have f:w.heap[b]?=_:=g;rw[i]at f;cases f
  have s:gv w (setBlock w1 r (.mapIter (some b) R.length (seen.push j) R.length)) r:=by
   refine⟨by rcases h with rfl|rfl<;>rfl,by rcases h with rfl|rfl<;>rfl,by rcases h with rfl|rfl<;>rfl,by simp[setBlock,q],λk E=>?_⟩;show(w1.heap.setIfInBounds r _)[k]?=_;rw[q,eb (Ne.symm E)]
  have v:tE (setBlock w1 r (.mapIter (some b) R.length (seen.push j) R.length)) r b R.length (seen.push j):=by
   show(w1.heap.setIfInBounds r _)[r]?=_;rw[q];simp[p]
  have z:jy (setBlock w1 r (.mapIter (some b) R.length (seen.push j) R.length)) b R:=⟨(s.block _ D).trans c.map,λy hy=>jN (c.reads y hy) (c.ne y hy) s g (λ_ _ _ e=>by cases e),c.ne⟩
  refine hK' _ _ (i j x _ d hs v s z ?_);exact run_entry_at _ r b R.length seen (gi R) R.length (Cx j x) v z.map n.1 (by rw[ag6];exact List.nodup_range)
def tF{ops:Array Oper}{rest:List Oper}{o:Oper}{a:Act}{Q:Exit->Act->World->Prop}(w:World)(hg:o.guard=none)(m x v:aS)(c:o.op=Op.mapUpdate 107 m x v\/o.op=Op.insert 107 m x v)(b:Nat)(R:List WE)(y:WE)
 (d:a.eval m=.map (some b)) (e:a.eval x=.int .i64 y.1) (hv:a.eval v=nD y) (h:jy w b R) (hy:R.find? (λz=>z.1==y.1)=none) (f:bB w y.2.1 y.2.2.1) (g:y.2.2.1≠[])
 (i:∀w',jy w' b (R++[y])->gv w w' b->a7 PL ops Q rest (a.put o.dst undef) w'):a7 PL ops Q (o::rest) a w:=by
 refine a8 hg λn hK'=>?_;obtain⟨w',j,k,l⟩:=h.put hy f g;unfold Oper.wp
 rcases c with c|c<;>
 ·simp[aT,c,d,e,hv,j,Result.andThen];exact hK' _ _ (i w' k l)
abbrev SW:=List (Int×List Int×Int)
def V6(b:List Int)(a:Int)(q:Nat):Bool:=decide ((q:Int)∈b)||(decide ((zU q).1≠a)&&decide ((zU q).2.1≠a))
def XN(a:Int)(q:Nat):Int:=(zU q).1+(zU q).2.1-a
def stepW(b c:List Int)(a:Int)(S:SW)(q:Nat):SW:=if V6 b a q then S else if XN a q∈c then S else match S.find? (λx=>x.1==a) with
 |none=>S
 |some x=>S++[(XN a q,x.2.1++[XN a q],x.2.2+(zU q).2.2)]
def N0(a b:List Int)(c:Int)(S:SW):Nat->SW
 |0=>S
 |q+1=>stepW a b c (N0 a b c S q) q
def okQ(b c:List Int)(a:Int)(S:SW):Bool:=(ce 4).all λq=>match(N0 b c a S q).find? (λx=>x.1==a) with
 |none=>false
 |some x=>decide (x.2.1.length<=10)&&decide (0<=x.2.2)&&decide (x.2.2<=1000)&&(V6 b a q||decide (XN a q∈c)||((N0 b c a S q).find? λx=>x.1==XN a q).isNone)
def strip(x:WE):Int×List Int×Int:=(x.1,x.2.2)
def nE{R:List WE}{S:SW}(h:R.map strip=S)(k:Int):S.find? (λx=>x.1==k)=(R.find? λx=>x.1==k).map strip:=by
 rw[<-h,List.find?_map];rfl
end Go.Proofs
namespace Go.Proofs
open Go.RowKit Go.Shelf
attribute [local go_sem] Oper.semAt_some
set_option maxRecDepth 100000
set_option maxHeartbeats 1000000
def anX(C:CD)(w:World)(j:Nat)(vs:Nat->Value)(W:World):Prop:=
 (j=10->∃k,vs 10=.pointer (some ⟨k,0,none⟩)/\w.heap.size<k/\Six W k)/\(j=11->∃k,vs 10=.pointer (some ⟨k,0,none⟩)/\w.heap.size<k/\W.heap[k]?=some (.cells C.val 74))
def yZ(m:Int)(p:Nat):Int:=kU je p m 2 0 false
def uN(m:Int)(p:Nat):List Int:=((ce p).filter λq=>yZ m q != 2).map fun(q:Nat)=>(q:Int)+1
def IL{m:Int}{p:Nat}(h:yZ m p=2):uN m (p+1)=uN m p:=by
 simp[uN,cg,ch,h]
def IM{m:Int}{p:Nat}(h:yZ m p≠2):uN m (p+1)=uN m p++[(p:Int)+1]:=by
 simp[uN,cg,ch,h]
def V7{m:Int}{p:Nat}:(p:Int)+1∉uN m p:=by
 simp only[uN,List.mem_map,List.mem_filter,ci,not_exists,not_and,and_imp];intro q a _ e;omega
abbrev zn:Int->Value:=λn=>.int .i64 n
structure KQ(C:CD)(w:World)(kx kt:Nat)(W:World):Prop where
 box:W.heap[w.heap.size]?=some (.cells C.val 27)
 bx:W.heap[kx]?=some (.cells C.val 74)
 row:Row W kt (je.map bh)
 low:Below w.heap.size w W
def KQ.on{C:CD}{w W b:World}{c d:Nat}(h:KQ C w c d W)(a:Below W.heap.size W b):KQ C w c d b:=
 ⟨(a.block _ (a9 h.box)).trans h.box,(a.block _ (a9 h.bx)).trans h.bx,h.row.on a,ba h.low a⟩
def KQ.turned{C:CD}{w W l:World}{m i b:Nat}{o:Obj}(h:KQ C w m i W)(d:gv W l b)(hb:W.heap[b]?=some o)(n:∀c t f,o≠.cells c t f)(q:w.heap.size<=b):KQ C w m i l:=by
 have p:∀{k:Nat}{c:Array Value}{t:aI}{f:Nat×Nat},W.heap[k]?=some (.cells c t f)->k≠b:=λ{k c t f}e g=>by
  rw[g,hb]at e;cases e;exact n _ _ _ rfl
 refine⟨(d.block _ (p h.box)).trans h.box,(d.block _ (p h.bx)).trans h.bx,⟨by rw[d.size];exact h.row.1,λj v e=>(d.cell (a:=⟨i,j,none⟩) λg=>?_).trans (h.row.2 j v e)⟩,h.low.trans (d.below q)⟩;have:=h.row.2 j v e;simp only at g;subst g;simp only[dT,hb]at this
 cases o with
 |cells c t f=>exact n c t f rfl
 |_=>simp at this
def Sy:Ir je:=by
 have h:∀j,j<75->-10000<=je.getD j 0/\je.getD j 0<=10000:=by decide
 have k:∀j,¬j<75->je.getD j 0=0:=λj a=>by
  rw[co,bL (by show je.length<=j;have:je.length=75:=rfl;omega)];rfl
 exact⟨rfl,λj=>by by_cases a:j<75;exact(h j a).1;rw[k j a];decide,λj=>by by_cases a:j<75;exact(h j a).2;rw[k j a];decide⟩
def Sz(C:CD)(k p:Nat)(m:Int)(w:World)(a:Row w k (je.map bh))(b:C.n5=2)(c:p<5) :
 Calls PL 40 #[.agg C.val,.pointer (some ⟨k,0,none⟩),.int .i64 p,.int .i64 m] w (aO (.int .i64 (yZ m p)) w):=by
 have h:=Fa C k p m je Sy w a (by omega) c;have e:kU je p m C.n5 0 false=yZ m p:=by rw[b];rfl
 rw[e]at h;exact h
def XO(m:Int):List Int:=if m=5 then[2,3,0] else[]
def A6(m:Int):Int:=if m=5 then 110 else 0
def SC(m:Int):Bool:=decide (m=5)
def zb(m:Int):Nat:=if m=5 then 2 else 1
def Ln(m:Int)(i:Nat):SW:=if i=0 then[(2,[2],0)] else if m=5 then(if i=1 then[(2,[2],0),(3,[2,3],30)] else[(2,[2],0),(3,[2,3],30),(0,[2,3,0],110)]) else[(2,[2],0)]
def tP(_:Int)(i:Nat):List Int:=if i=0 then[] else if i=1 then[2] else[2,3]
def stA(m:Int)(i:Nat):Int:=if i=0 then 2 else if m=5 then(if i=1 then 3 else 0) else -1
def V8{m:Int}(b:m=5\/m=3){i:Nat}(hi:i<=zb m):(∀j x,(Ln m i)[j]?=some x->x.1∉tP m i->x.1=stA m i/\j=i)/\(stA m i = -1\/∃x,(Ln m i)[i]?=some x/\x.1∉tP m i):=by
 rcases b with rfl|rfl
 ·obtain rfl|rfl|rfl:i=0\/i=1\/i=2:=by have:zb 5=2:=rfl;omega
  ·exact⟨λj x h _=>by match j,h with
    |0,h=>cases h;exact⟨rfl,rfl⟩,.inr ⟨_,rfl,by decide⟩⟩
  ·exact⟨λj x h a=>by match j,h with
    |0,h=>cases h;exact absurd (by decide) a
    |1,h=>cases h;exact⟨rfl,rfl⟩,.inr ⟨_,rfl,by decide⟩⟩
  ·exact⟨λj x h a=>by match j,h with
    |0,h=>cases h;exact absurd (by decide) a
    |1,h=>cases h;exact absurd (by decide) a
    |2,h=>cases h;exact⟨rfl,rfl⟩,.inr ⟨_,rfl,by decide⟩⟩
 ·obtain rfl|rfl:i=0\/i=1:=by have:zb 3=1:=rfl;omega
  ·exact⟨λj x h _=>by match j,h with
    |0,h=>cases h;exact⟨rfl,rfl⟩,.inr ⟨_,rfl,by decide⟩⟩
  ·exact⟨λj x h a=>by match j,h with
    |0,h=>cases h;exact absurd (by decide) a,.inl rfl⟩
def uO{R:List WE}{S:SW}(h:R.map strip=S){j:Nat}{x:WE}(a:R[j]?=some x):S[j]?=some (strip x):=by rw[<-h,cp,a];rfl
def SD{m:Int}(j:m=5\/m=3){i:Nat}(hi:i<=zb m)(a:stA m i<=0){W:World}{b:Nat}{R:List WE}(f:R.map strip=Ln m i)(h:jy W b R) :
 ∃p n c,(bj 107 (.map (some b)) (.int .i64 0) true).run PL W=.ok (.tuple #[.agg #[.slice p n c,.int .i64 (A6 m)],.bool (SC m)]) W/\bB W (.slice p n c) (XO m):=by
 rcases j with rfl|rfl
 ·obtain rfl:i=2:=by
   have k:zb 5=2:=rfl
   match i,a with
   |0,a=>exact absurd a (by decide)
   |1,a=>exact absurd a (by decide)
   |2,_=>rfl
   |i+3,_=>omega
  have hf:=nE f 0
  cases e:R.find? (λx=>x.1==0) with
  |none=>rw[e]at hf;cases hf
  |some x=>
   rw[e]at hf;have d:some ((0:Int),[(2:Int),3,0],(110:Int))=some (strip x):=hf;obtain⟨x1,x2,x3,x4⟩:=x;simp only[strip,ei,Prod.mk.injEq]at d;obtain⟨rfl,rfl,rfl⟩:=d;have g:=h.reads _ (cq e);have hl:=Sw h.map e;simp only[nD]at hl;have l:bB W x2 [2,3,0]:=g;obtain⟨p,c,rfl,_⟩:=l;exact⟨p,_,c,hl,g⟩
 ·obtain rfl:i=1:=by
   have k:zb 3=1:=rfl
   match i,a with
   |0,a=>exact absurd a (by decide)
   |1,_=>rfl
   |i+2,_=>omega
  have hf:=nE f 0;have e:R.find? (λx=>x.1==0)=none:=by
   cases e:R.find? (λx=>x.1==0) with
   |none=>rfl
   |some x=>rw[e]at hf;cases hf
  exact⟨none,0,0,Sx h.map e,⟨none,0,rfl,λh=>absurd h (by decide)⟩⟩
def V9{m:Int}{i:Nat}(b:(∀j x,(Ln m i)[j]?=some x->x.1∉tP m i->x.1=stA m i/\j=i)/\(stA m i = -1\/∃x,(Ln m i)[i]?=some x/\x.1∉tP m i)){R:List WE}(c:R.map strip=Ln m i){seen:Array Nat}{f:Bool}{u:Value}
 (hv:u=.int .i64 (if f then stA m i else -1)) (hf:f=true↔∃j x,R[j]?=some x/\seen.contains j=true/\x.1∉tP m i) (al:∀j,j<R.length->seen.contains j=true):u=.int .i64 (stA m i):=by
 rw[hv]
 rcases b.2 with h|⟨x,a,d⟩
 ·cases f<;>simp[h]
 ·have:f=true:=by
   rw[<-c,cp]at a
   cases e:R[i]? with
   |none=>rw[e]at a;cases a
   |some y=>
    rw[e]at a;cases a;exact hf.2 ⟨i,y,e,al i (List.getElem?_eq_some_iff.1 e).1,d⟩
  rw[this];rfl
def ab2{m:Int}{i:Nat}(a:(∀j x,(Ln m i)[j]?=some x->x.1∉tP m i->x.1=stA m i/\j=i)/\(stA m i = -1\/∃x,(Ln m i)[i]?=some x/\x.1∉tP m i))(d:0<stA m i):stA m i∉tP m i:=by
 rcases a.2 with h|⟨x,c,b⟩
 ·omega
 ·rw[<-(a.1 i x c b).1];exact b
def jy.turned{W a:World}{b c:Nat}{R:List WE}(h:jy W b R)(d:gv W a c)(hc:∃o,W.heap[c]?=some o/\∀x t f,o≠.cells x t f)(g:b≠c):jy a b R:=by
 obtain⟨o,i,j⟩:=hc;exact⟨(d.block _ g).trans h.map,λx e=>jN (h.reads x e) (h.ne x e) d i j,h.ne⟩
def Lo{m:Int}(b:m=5\/m=3){i:Nat}(hi:i<=zb m)(a:0<stA m i):i+1<=zb m/\tP m i++[stA m i]=tP m (i+1)/\N0 (uN m 3) (tP m (i+1)) (stA m i) (Ln m i) 4=Ln m (i+1)/\okQ (uN m 3) (tP m (i+1)) (stA m i) (Ln m i)=true/\stA m i<=3:=by
 rcases b with rfl|rfl
 ·obtain rfl|rfl|rfl:i=0\/i=1\/i=2:=by have:zb 5=2:=rfl;omega
  ·exact⟨by decide,by decide,by decide +kernel,by decide +kernel,by decide⟩
  ·exact⟨by decide,by decide,by decide +kernel,by decide +kernel,by decide⟩
  ·exact absurd a (by decide)
 ·obtain rfl|rfl:i=0\/i=1:=by have:zb 3=1:=rfl;omega
  ·exact⟨by decide,by decide,by decide +kernel,by decide +kernel,by decide⟩
  ·exact absurd a (by decide)
def ab3{c d:List Int}{a:Int}{S:SW}(h:okQ c d a S=true){q:Nat}(f:q<4):∃x,(N0 c d a S q).find? (λx=>x.1==a)=some x/\x.2.1.length<=10/\0<=x.2.2/\x.2.2<=1000/\(V6 c a q=false->XN a q∉d->(N0 c d a S q).find? (λx=>x.1==XN a q)=none):=by
 simp only[okQ,List.all_eq_true,ci]at h;have h:=h q f
 cases e:(N0 c d a S q).find? (λx=>x.1==a) with
 |none=>rw[e]at h;cases h
 |some x=>
  rw[e]at h;simp only[ep,eq,decide_eq_true_eq,Option.isNone_iff_eq_none]at h;obtain⟨⟨⟨g,i⟩,j⟩,b⟩:=h;refine⟨x,rfl,g,i,j,λk1 k2=>?_⟩
  rcases b with(b|b)|b
  ·rw[k1]at b;cases b
  ·exact absurd b k2
  ·exact b
def Ft(W:World)(r:Nat):Nat:=match W.heap[r]? with
 |some (.mapIter _ n seen _)=>Fs n seen
 |_=>0
def Fu{W:World}{r b n:Nat}{seen:Array Nat}(h:tE W r b n seen):Ft W r=Fs n seen:=by
 have a:W.heap[r]?=some (.mapIter (some b) n seen n):=h;simp only[Ft,a]
def tE.on{W a:World}{r b n:Nat}{seen:Array Nat}(h:tE W r b n seen)(c:Below W.heap.size W a):tE a r b n seen:=(c.block _ (a9 h)).trans h
def ab4(W:World)(b:Nat):Nat:=match W.heap[b]? with
 |some (.map es _)=>es.size
 |_=>0
def Fv{W:World}{b:Nat}{l:List Int}(h:aU W zn b l):ab4 W b=l.length:=by
 obtain⟨es,c,a,d,_⟩:=h;have:=congrArg List.length d;simp only[ab4,a];simpa using this
structure Wb(n0:Nat)(xp:List Int)(tq n:Int)(b:Bool)(j:Nat)(vs:Nat->Value)(W:World):Prop where
 c4:j=4->b=false->eO 3 W n0 (vs 4) xp
 c6:j=6->b=false->∃k,vs 6=.slice (some ⟨k,0,none⟩) 1 1/\W.heap[k]?=some (.cells #[.int .i64 tq] 3)
 c7:j=7->eO 3 W n0 (vs 7) (xp++[tq])
 c15:j=15->vs 15=.agg #[vs 7,.int .i64 n]
 c16:j=16->∃k,vs 16=.pointer (some ⟨k,0,none⟩)/\n0<=k/\W.heap[k]?=some (.cells #[.slice none 0 0,.int .i64 0] 106)
def zc(a b:Value)(W:World):(bg 106 (.agg #[a,b]) 0).run PL W=.ok a W:=by kernel_rfl
def ze(a b:Value)(W:World):(bg 106 (.agg #[a,b]) 1).run PL W=.ok b W:=by kernel_rfl
def A8{W:World}{base e size n B o:Nat}{v u:Value}{xs:List Value}(h:W.ownsRow base e size v n xs)(c:∀j,v.ownBlock=some j->j≠B):(W.setCell ⟨B,o,none⟩ u).ownsRow base e size v n xs:=by
 obtain⟨b,h⟩:=h
 rcases h with h|⟨g,cap,a,rfl,hb,hg,d⟩
 ·exact⟨b,.inl h⟩
 ·refine⟨b,.inr ⟨g,cap,a,rfl,hb,?_,d⟩⟩;have f:g≠B:=c g rfl;simp only[d8,ea,if_neg (Ne.symm f)];exact hg
def Wc{W:World}{r:Nat}{x0 x1 u0 u1:Value}{t:aI}(h:W.heap[r]?=some (.cells #[x0,x1] t)):((W.setCell ⟨r,0,none⟩ u0).setCell ⟨r,1,none⟩ u1).heap[r]?=some (.cells #[u0,u1] t):=by
 simp only[d8,ea,if_pos,h,eg];rfl
def SE{W:World}{b:Nat}{R:List WE}(h:jy W b R)(k:Int):∃p n c l ok,(bj 107 (.map (some b)) (.int .i64 k) true).run PL W=.ok (.tuple #[.agg #[.slice p n c,.int .i64 l],.bool ok]) W/\(R.find? (λz=>z.1==k)=none->ok=false):=by
 cases e:R.find? (λz=>z.1==k) with
 |none=>exact⟨none,0,0,0,false,Sx h.map e,λ_=>rfl⟩
 |some x=>
  obtain⟨p,c,a,_⟩:=h.reads _ (cq e);have:=Sw h.map e;simp only[nD,a]at this;exact⟨p,_,c,_,true,this,λh=>by cases h⟩
def ExW(t:Nat):Bool:=t != 4&&t != 6&&t != 7&&t != 15&&t != 16
def Wb.le{n0:Nat}{d:List Int}{g n:Int}{b:Bool}{j:Nat}{vs:Nat->Value}{W i:World}(h:Wb n0 d g n b j vs W)(c:Below W.heap.size W i):Wb n0 d g n b j vs i:=
 ⟨λe f=>(h.c4 e f).on c,λe f=>(h.c6 e f).imp λ_ a=>⟨a.1,(c.block _ (a9 a.2)).trans a.2⟩,λe=>(h.c7 e).on c,h.c15,λe=>(h.c16 e).imp λ_ a=>⟨a.1,a.2.1,(c.block _ (a9 a.2.2)).trans a.2.2⟩⟩
def Ba{k2 c2 k3 c3 k4 c4 k5 c5 la ca lb cb:Nat}(C:CD)(m:Int)(hm:m=5\/m=3)(c:C=ir k2 c2 k3 c3 k4 c4 k5 c5 la ca lb cb 0)(w:World)(h:C.At w) :
 Calls PL 23 #[.agg C.val,.int .i64 2,.int .i64 m] w λe w'=>∃v,e=.returned (.tuple #[v,.int .i64 (A6 m),.bool (SC m),.int .i64 0])/\bB w' v (XO m)/\Below w.heap.size w w':=by
 have HA:=aa h;have HC:=aa c;have HM:=aa hm;have hf:C.b6 true=0:=by rw[c];kernel_rfl
 have HF:=aa hf;have hb:bO 2 0 (C.p-1)=true:=by rw[c];rfl
 have HB:=aa hb
 have eP:bO m 0 999=true:=by rcases hm with rfl|rfl<;>decide
 have Kf:=aa eP;have HT:Hid (∀W,C.At W->Calls PL 39 #[.agg C.val] W λe w'=>∃k,e=.returned (.pointer (some ⟨k,0,none⟩))/\Row w' k (je.map bh)/\Below W.heap.size W w'):=aa λW hW=>tA (.inl rfl) ⟨k2,c2,k3,c3,k4,c4,k5,c5,la,ca,lb,cb,c⟩ hW;have HP:Hid (-1000<=C.p/\C.p<=1000):=aa (by rw[c];exact⟨by show(-1000:Int)<=4;decide,by show(4:Int)<=1000;decide⟩);have K0:Hid (KB C w (w.alloc (.cells C.val 27))):=aa ⟨au _ _,(ab _ _).alloc (ac _) _⟩;clear h c hf hb eP hm
 go_enter (fx (by decide) Tryz.func23),Tryz.ntmps23
 go_upto_region 1 with fail
 have HW:Hid (IntKind.i64.wrap (C.p-1)=C.p-1):=aa (by obtain⟨J0,tL⟩:=HP.out;rw[HC.out];rfl);apply wp_scope_straight;apply wp_seq_k;intro _ _;refine cT 12 (KB C w) (Fo C) (λj=>j != 10&&j != 11) (anX C w) rfl (by kernel_rfl) (by kernel_rfl)
  (λi vs W W' hle h=>⟨λe=>(h.1 e).imp λk l=>⟨l.1,l.2.1,(hle k).2 l.2.2⟩,λe=>(h.2 e).imp λk l=>⟨l.1,l.2.1,(hle k).1 l.2.2⟩⟩) (λi o ho vs eX W he hd h=>⟨λe=>?_,λe=>?_⟩) ?_ ?_
 ·subst e;rw[<-he];exact h.1 rfl
 ·subst e;have e8:vs 10=eX 10:=by
   simp only[bM,bR,bT,ei]at ho;subst ho;exact hd ⟨10,.data⟩ (cH.2 ⟨by simp,rfl⟩)
  rw[<-e8];exact h.2 rfl
 ·exact⟨K0.out.box,K0.out.low.drew⟩
 ·iterate 10 (
   apply aY
   case hE=>rfl
   case h=>
    intro vs W c hd;obtain⟨f0,f1,f2,f3,f4,f5⟩:=bf c.box;have hwr:=HW.out
    go_simp
    first
    |(go_at_call 44;refine(rM HB.out _).mono ?_;rintro e W'⟨rfl,rfl⟩;exact⟨_,rfl,rfl,c,Fo.on (ab _ _)⟩)
    |(go_at_call 28;refine(kF HF.out (HA.out.below c.low)).mono ?_;rintro e W'⟨rfl,I⟩;exact⟨_,rfl,rfl,c.on I,Fo.on I⟩)
    |exact⟨rfl,Fo.on (ab _ _)⟩
   case hb=>exact H9)
  apply eH
  case hE=>rfl
  case hb=>exact H9
  case h=>
   intro vs W c hd
   go_simp
   have I:=(ab W.heap.size W).alloc (ac _) (.cells #[.int .i64 0,.int .i64 0,.slice none 0 0,.slice none 0 0,.slice none 0 0,.slice none 0 0] 74);exact⟨c.on I,Fo.on I,⟨λ_=>⟨W.heap.size,by simp[upd],c.lt,_,_,_,_,_,_,au W _⟩,λe=>absurd e (by decide)⟩⟩
  apply eH
  case hE=>rfl
  case hb=>exact H9
  case h=>
   intro vs W c hd;obtain⟨k,l,Ll,x0,x1,x2,x3,x4,x5,J⟩:=(hd ⟨10,.data⟩ (cH.2 ⟨by simp,rfl⟩) rfl).1 rfl;obtain⟨f0,f1,f2,f3,f4,f5⟩:=bf J;have fz:=tO J;rw[l]
   go_simp
   refine⟨⟨(cM (by omega)).trans c.box,bc c.low (by omega) _ _ _ _ _ _⟩,λq=>?_,⟨λe=>absurd e (by decide),λ_=>⟨k,by simp[upd,l],Ll,nC J⟩⟩⟩;by_cases hq:q=k
   ·subst hq;exact⟨λ_=>nC J,λ_=>⟨_,_,_,_,_,_,nC J⟩⟩
   ·exact⟨λe=>(cM hq).trans e,fun⟨_,_,_,_,_,_,e⟩=>⟨_,_,_,_,_,_,(cM hq).trans e⟩⟩
  refine cP λvs W c hd=>?_;obtain⟨kx,l,Ll,J⟩:=(hd 11 (by omega) rfl).2 rfl;rw[l];obtain⟨f0,f1,f2,f3,f4,f5⟩:=bf J;have HX:=aa J;have HC1:=aa c;have HKL:=aa Ll;clear J c hd l Ll;have hmm:=@run_makeMap PL
  go_upto_region 8 with(first
   |(go_at_call 38;refine(yO Kf.out _).mono ?_;rintro e w'⟨rfl,rfl⟩)
   |(go_at_call 39;go_must (refine(HT.out _ (HA.out.below HC1.out.low)).mono ?_);rintro e w1⟨P,rfl,hR,aL⟩;have K1:Hid (KQ C w kx P w1):=aa ⟨(HC1.out.on aL).box,(aL.block _ (a9 HX.out)).trans HX.out,hR,(HC1.out.on aL).low⟩;clear hR aL))
  obtain⟨N,hbM⟩:∃b,b=w1.heap.size:=⟨_,rfl⟩
  obtain⟨W0,kS⟩:∃W0:World,W0=w1.alloc (.map #[] 0):=⟨_,rfl⟩
  have K2:Hid (KQ C w kx P W0):=aa (by rw[kS];exact K1.out.on ((ab _ _).alloc (ac _) _));have S2:Hid (aU W0 zn N ([]:List Int)):=aa (by rw[kS,hbM];exact aU.made w1);have ZM:Hid (w.heap.size<=N):=aa (by rw[hbM];exact K1.out.low.size);rw[<-kS,<-hbM];clear kS hbM f0 f1 f2 f3 f4 f5;obtain⟨f0,f1,f2,f3,f4,f5⟩:=bf K2.out.box;have IB:Hid (C.b3=some ⟨C.k3,C.o3,none⟩):=aa (HA.out.s3 (by rw[HC.out];show 0<4;decide));have H3:Hid (C.n3=4):=aa (by rw[HC.out];rfl);have HX3:Hid (C.x3=zU):=aa (by rw[HC.out];rfl);have H4:Hid (C.n4=3):=aa (by rw[HC.out];rfl);have H5:Hid (C.n5=2):=aa (by rw[HC.out];rfl);have hb4:C.b4=some ⟨C.k4,C.o4,none⟩:=HA.out.s4 (by rw[H4.out];decide);have LN:Hid (∀p,p<2->(C.x4 p).ln=1/\(C.x4 p).lane 0=(p:Int)+1):=aa λp hp=>by
   rw[HC.out]
   match p,hp with
   |0,_=>exact⟨rfl,rfl⟩
   |1,_=>exact⟨rfl,rfl⟩
  have SH:Hid (yZ m 2=2):=aa (by rcases HM.out with rfl|rfl<;>rfl)
  go_wp2
  go_loopw [51] (λv51 wr=>∃p:Nat,p<=3/\v51=.int .i64 p/\aU wr zn N (uN m p)/\KQ C w kx P wr) (λv51 _=>3-(intOf v51).toNat)
  case atStart=>exact⟨0,by omega,rfl,S2.out,K2.out⟩
  case round=>
   obtain⟨p,hp,rfl,g,O⟩:=hrel;clear hb4;have HS:=aa g;have HK:=aa O;clear g O f0 f1 f2 f3 f4 f5 K2 S2;by_cases Q:p<3
   ·have i1:(p:Int)<C.n4:=by rw[H4.out];omega
    have hA:=HA.out.below HK.out.low;have s:p<C.n4:=by rw[H4.out];exact Q
    have p0:=hA.AD p s;have p1:=hA.dB p s 1 (by omega) (by omega);have p2:=hA.dB p s 2 (by omega) (by omega);have p3:=hA.dB p s 3 (by omega) (by omega);have p4:=hA.dB p s 4 (by omega) (by omega);have p5:=hA.dB p s 5 (by omega) (by omega);have p6:=hA.dB p s 6 (by omega) (by omega);have p7:=hA.dB p s 7 (by omega) (by omega);have p8:=hA.dB p s 8 (by omega) (by omega);have p9:=hA.dB p s 9 (by omega) (by omega);have Cz:=hA.dB p s 10 (by omega) (by omega);have Fy:=hA.nj p s;clear hA s;obtain⟨xb,hxb⟩:∃x,x=(C.x4 p).lb:=⟨_,rfl⟩
    obtain⟨xn,hxn⟩:∃x,x=(C.x4 p).ln:=⟨_,rfl⟩
    obtain⟨xc,hxc⟩:∃x,x=(C.x4 p).lc:=⟨_,rfl⟩
    rw[<-hxb,<-hxn,<-hxc]at Fy;have HXB:=aa hxb;have HXN:=aa hxn;clear hxb hxn hxc
    go_upto_region 11 with fail
    obtain⟨W1,mG⟩:∃W1:World,W1=wr.alloc (.cells #[.string (C.x4 p).name,.int .i64 ((C.x4 p).n 1),.int .i64 ((C.x4 p).n 2),.int .i64 ((C.x4 p).n 3),.int .i64 ((C.x4 p).n 4),.int .i64 ((C.x4 p).n 5),.int .i64 ((C.x4 p).n 6),.int .i64 ((C.x4 p).n 7),.int .i64 ((C.x4 p).n 8),.int .i64 ((C.x4 p).n 9),.int .i64 ((C.x4 p).n 10),.slice xb xn xc] 49):=⟨_,rfl⟩
    rw[<-mG];have iC:Below wr.heap.size wr W1:=by rw[mG];exact(ab _ _).alloc (ac _) _
    have hpk:W1.cell? ⟨wr.heap.size,11,none⟩=some (.slice xb xn xc):=by
     have h:=au wr (.cells #[.string (C.x4 p).name,.int .i64 ((C.x4 p).n 1),.int .i64 ((C.x4 p).n 2),.int .i64 ((C.x4 p).n 3),.int .i64 ((C.x4 p).n 4),.int .i64 ((C.x4 p).n 5),.int .i64 ((C.x4 p).n 6),.int .i64 ((C.x4 p).n 7),.int .i64 ((C.x4 p).n 8),.int .i64 ((C.x4 p).n 9),.int .i64 ((C.x4 p).n 10),.slice xb xn xc] 49);rw[mG];simp only[dT,h];rfl
    have Wf:wr.heap.size<W1.heap.size:=by rw[mG];simp
    have HPK:=aa (And.intro hpk Wf);have K3:=aa (HK.out.on iC);have S3:=aa (aG iC HS.out);clear mG iC hpk Wf p0 p1 p2 p3 p4 p5 p6 p7 p8 p9 Cz Fy;obtain⟨f0,f1,f2,f3,f4,f5⟩:=bf K3.out.bx;by_cases hs:yZ m p=2
    ·go_wp2_with (go_at_call 40;go_must (refine(Sz C P p m _ K3.out.row H5.out (by omega)).mono ?_);rintro e w3⟨rfl,qi⟩;have K4:=aa (K3.out.on qi);have S4:=aa (aG qi S3.out);clear qi)
     exact⟨⟨p+1,Q,by go_num,by rw[IL hs];exact S4.out,K4.out⟩,by simp only[intOf];omega⟩
    ·have d:p<2:=by
      rcases aq p 2 with h|h
      ·exact h
      ·exact absurd (by rw[show p=2 by omega];exact SH.out) hs
     have zi:xn=1:=by rw[HXN.out];exact(LN.out p d).1
     subst zi
     go_upto_region 12 with(go_at_call 40;go_must (refine(Sz C P p m _ K3.out.row H5.out (by omega)).mono ?_);rintro e w3⟨rfl,qi⟩;have K4:=aa (K3.out.on qi);have S4:=aa (aG qi S3.out);have am6:=aa ((qi.cell (p:=⟨wr.heap.size,11,none⟩) HPK.out.2).trans HPK.out.1);clear qi)
     have hA:=HA.out.below K4.out.low;have s:p<C.n4:=by rw[H4.out];exact Q
     obtain⟨el,ell⟩:=hA.l4 p s (by rw[<-HXN.out];decide);have ec:=hA.J5 p s 0 (by rw[<-HXN.out];decide);rw[(LN.out p d).2,ar]at ec;obtain⟨lk,FH⟩:∃x,x=(C.x4 p).lk:=⟨_,rfl⟩
     obtain⟨lo,Cu⟩:∃x,x=(C.x4 p).lo:=⟨_,rfl⟩
     rw[<-FH,<-Cu]at ec;rw[<-FH]at ell;rw[<-HXB.out,<-FH,<-Cu]at el;subst el;have EC:=aa ec;have ELL:=aa ell;have atU:=am6.out;clear hA s ec ell FH Cu
     go_wp2
     go_loopw [65] (λv65 K=>∃q:Nat,q<=1/\v65=.int .i64 q/\aU K zn N (if q=0 then uN m p else uN m p++[(p:Int)+1])/\KQ C w kx P K/\(q=0->K.cell? ⟨lk,lo,none⟩=some (.int .i64 ((p:Int)+1)))) (λv65 _=>1-(intOf v65).toNat)
     case atStart=>exact⟨0,by omega,rfl,S4.out,K4.out,λ_=>EC.out⟩
     case round=>
      obtain⟨q,hq,rfl,g,O,hc⟩:=hrel;have S5:=aa g;have K5:=aa O;clear g O
      match q,hq with
      |1,_=>
       clear hc
       go_wp2
       exact⟨⟨p+1,Q,by go_num,by rw[IM hs];exact S5.out,K5.out⟩,by simp only[intOf];omega⟩
      |0,_=>
       have ec:=hc rfl;clear hc
       go_wp2_with (at_mapUpdate;go_must (refine dH (enc:=zn) _ rfl _ _ _ 104 3 4 rfl qz ju N (uN m p) rfl S5.out ((p:Int)+1) rfl rfl V7 ?_);intro w5 g y;have S6:=aa g;have K6:=aa (by obtain⟨es,cl,hh,_⟩:=S5.out;exact K5.out.turned y hh (λ_ _ _ e=>by cases e) ZM.out:KQ C w kx P w5);clear g y;go_frame)
       exact⟨⟨1,by omega,rfl,S6.out,K6.out,λh=>absurd h (by decide)⟩,by simp[intOf]⟩
   ·have hp3:p=3:=by omega
    subst hp3;have i1:¬((3:Int)<C.n4):=by rw[H4.out];decide
    clear Q;have ag8:=aU.lt HS.out;have HSZ:=aa ag8;have hBa:=((ab wr.heap.size wr).alloc (ac _) (.map #[] 0)).alloc (by simp) (.cells #[.int .i64 2] 3);have M0:Hid (jy ((wr.alloc (.map #[] 0)).alloc (.cells #[.int .i64 2] 3)) wr.heap.size []):=aa ((jy.made wr).on ((ab _ _).alloc (ac _) _))
    have R0:Hid (bB ((wr.alloc (.map #[] 0)).alloc (.cells #[.int .i64 2] 3)) (.slice (some ⟨wr.heap.size+1,0,none⟩) 1 1) [2]):=aa ⟨_,_,rfl,λ_=>⟨_,_,rfl,by simp,λj H=>by
     obtain rfl:j=0:=by simp at H;omega
     have h:=au (wr.alloc (.map #[] 0)) (.cells #[.int .i64 2] 3);rw[dU]at h;show dT _ ⟨wr.heap.size+1,0+0,none⟩=some (.int .i64 2);simp only[dT,h]
     rfl⟩⟩
    have KA:=aa (HK.out.on hBa);have SA:=aa (aG hBa HS.out);clear hBa ag8
    go_upto_region 20 with(refine tF _ rfl _ _ _ (.inr rfl) wr.heap.size [] (2,.slice (some ⟨wr.heap.size+1,0,none⟩) 1 1,[2],0) rfl rfl rfl M0.out rfl R0.out (by simp) ?_;intro w5 hM y;have MB:=aa hM;have KB5:=aa (KA.out.turned y M0.out.map (λ_ _ _ e=>by cases e) HK.out.low.size);have SB:=aa (eA SA.out (y.block _ (by have:=HSZ.out;omega)));clear hM y)
    obtain⟨S,hbR⟩:∃b,b=wr.heap.size:=⟨_,rfl⟩
    obtain⟨T,hbL⟩:∃b,b=w5.heap.size:=⟨_,rfl⟩
    have ZR:Hid (N<S/\S<T):=aa (by have:=HSZ.out;have:=a9 MB.out.map;rw[hbR,hbL];omega);obtain⟨W3,hW3⟩:∃W3:World,W3=w5.alloc (.map #[] 0):=⟨_,rfl⟩
    have hBb:Below w5.heap.size w5 W3:=by rw[hW3];exact(ab _ _).alloc (ac _) _
    have K6:=aa (KB5.out.on hBb);have S6:=aa (aG hBb SB.out);have M6:Hid (jy W3 S ([]++[(2,.slice (some ⟨S+1,0,none⟩) 1 1,[2],0)])):=aa (by rw[hbR];exact MB.out.on hBb);have L6:Hid (aU W3 zn T ([]:List Int)):=aa (by rw[hbL,hW3];exact aU.made w5);rw[<-hbR,<-hbL,<-hW3];clear hbR hbL hW3 hBb MB SB KB5 M0 R0 KA SA HK HS HSZ;have FJ:=IB.out;simp only[FJ];refine wp_label ?_
    go_wp2
    go_loopw [19] (λ_ wr=>∃(i:Nat)(R:List WE),i<=zb m/\R.map strip=Ln m i/\jy wr S R/\aU wr zn T (tP m i)/\aU wr zn N (uN m 3)/\KQ C w kx P wr) (λ_ wr=>4-ab4 wr T)
    case atStart=>exact⟨0,_,ad _,rfl,M6.out,L6.out,S6.out,K6.out⟩
    case round=>
     obtain⟨i,R,hi,hR,XP,hL,g,O⟩:=hrel;have Xn:=aa hR;have MM:=aa XP;have LL:=aa hL;have SS:=aa g;have KK:=aa O;have CO:=aa (V8 HM.out hi);have HI:=aa hi;clear hR XP hL g O hi K6 S6 M6 L6;have hrg:=V4 MM.out
     go_upto_region 22 with fail
     obtain⟨r,hr⟩:∃r,r=wr.heap.size:=⟨_,rfl⟩
     obtain⟨W4,Sn⟩:∃W4:World,W4=wr.alloc (.mapIter (some S) R.length #[] R.length):=⟨_,rfl⟩
     have Ts:Below wr.heap.size wr W4:=by rw[Sn];exact(ab _ _).alloc (ac _) _
     have I4:Hid (tE W4 r S R.length #[]):=aa (by rw[Sn,hr];exact au _ _);have M4:=aa (MM.out.on Ts);have L4:=aa (aG Ts LL.out);have S4:=aa (aG Ts SS.out);have K4:=aa (KK.out.on Ts);have ZI:Hid (S<r/\T<r/\N<r/\w.heap.size<=r):=aa (by have h1:=a9 MM.out.map;have d:=aU.lt LL.out;have h3:=aU.lt SS.out;have s:=KK.out.low.size;rw[hr];exact⟨h1,d,h3,s⟩);rw[<-Sn,<-hr];clear Sn hr Ts hrg MM SS KK
     go_loopw [19] (λv19 K=>∃(seen:Array Nat)(f:Bool),tE K r S R.length seen/\jy K S R/\aU K zn T (tP m i)/\aU K zn N (uN m 3)/\KQ C w kx P K/\v19=.int .i64 (if f then stA m i else -1)/\(f=true↔∃j x,R[j]?=some x/\seen.contains j=true/\x.1∉tP m i)) (λ_ K=>Ft K r)
     case atStart=>exact⟨#[],false,I4.out,M4.out,L4.out,S4.out,K4.out,rfl,⟨λh=>(by cases h),fun⟨_,_,_,h,_⟩=>by simp at h⟩⟩
     case round=>
      obtain⟨seen,f,hI,XP,hL,g,O,hv,hf⟩:=hrel;have I5:=aa hI;have M5:=aa XP;have L5:=aa hL;have S5:=aa g;have K5:=aa O;have F5:=aa hf;have V5:=aa hv;clear hI XP hL g O hf hv I4 M4 L4 S4 K4
      go_upto_region 23 with(first|(at_mapUpdate;go_must (refine dH (enc:=zn) _ rfl _ _ _ 104 3 4 rfl qz ju T (tP m i) rfl L5.out (stA m i) rfl rfl (ab2 CO.out ha) ?_);intro w6 g y;go_must (have LP:=aa g;have MP:=aa (M5.out.turned y (by obtain⟨es,cl,hh,_⟩:=L5.out;exact⟨_,hh,λ_ _ _ e=>by cases e⟩) (by have:=ZR.out;omega));have SP:=aa (eA S5.out (y.block _ (by have:=ZR.out;omega)));have KP:Hid (KQ C w kx P w6):=aa (by obtain⟨es,cl,hh,_⟩:=L5.out;exact K5.out.turned y hh (λ_ _ _ e=>by cases e) (by have:=ZM.out;have:=ZR.out;omega)));clear g y;obtain⟨f0,f1,f2,f3,f4,f5⟩:=bf KP.out.box)|(at_next;go_must (refine zX _ rfl _ rfl r S R seen rfl I5.out M5.out ?_ ?_);rotate_left;intro j x w' H hs hI y OL hen;obtain⟨xk,xv,L,xl⟩:=x;have JJ:=aa H;have NS:=aa hs;have I6:=aa hI;have T6:=aa y;have M6:=aa OL;have hk6:=a9 hI;obtain⟨yb,yc,hxv,hyy⟩:=OL.reads _ (List.mem_of_getElem? H);clear hyy;simp only at hxv;subst hxv;clear H hs hI y OL;simp only[nD]at hen ⊢;rotate_left;intro oh;go_must (have hu:=V9 CO.out Xn.out V5.out F5.out oh);clear oh;go_must (subst hu);rcases Int.lt_or_le 0 (stA m i) with ha|ha;rotate_left;go_must (obtain⟨fp,fn,fc,FH,hrd⟩:=SD HM.out HI.out ha Xn.out M5.out);have RD:=aa hrd;clear hrd))
      ·obtain⟨W7,hW7⟩:∃W7:World,W7=wr.alloc (.cells #[.slice fp fn fc,.int .i64 (A6 m)] 106):=⟨_,rfl⟩
       have hB7:Below wr.heap.size wr W7:=by rw[hW7];exact(ab _ _).alloc (ac _) _
       have hc7:W7.heap[wr.heap.size]?=some (.cells #[.slice fp fn fc,.int .i64 (A6 m)] 106):=by rw[hW7];exact au _ _
       have c0:W7.cell? ⟨wr.heap.size,0,none⟩=some (.slice fp fn fc):=by simp[dT,hc7]
       have c1:W7.cell? ⟨wr.heap.size,1,none⟩=some (.int .i64 (A6 m)):=by simp[dT,hc7]
       have RD7:=aa (RD.out.on hB7);have LO7:=aa (ba K5.out.low hB7);rw[<-hW7];clear hW7 hB7 hc7 FH
       go_quiet (fail)
       go_wp2
       rw[Exit.noGoto_ret];refine aw (v:=.tuple #[.slice fp fn fc,.int .i64 (A6 m),.bool (SC m),.int .i64 0]) ?_ rfl ⟨_,rfl,RD7.out.on (below_drewN (ab _ _) _),below_drewN LO7.out _⟩;simp[aB,Tryz.results23,go_sem]
      ·go_upto_region 24 with fail
       have L6:aU w' zn T (tP m i):=eA L5.out (T6.out.block _ (by have:=ZI.out;omega));have S6:aU w' zn N (uN m 3):=eA S5.out (T6.out.block _ (by have:=ZI.out;omega));have K6:KQ C w kx P w':=K5.out.turned T6.out I5.out (λ_ _ _ e=>by cases e) ZI.out.2.2.2;obtain⟨W8,hW8⟩:∃W8:World,W8=w'.alloc (.cells #[.slice yb L.length yc,.int .i64 xl] 106):=⟨_,rfl⟩
       have U:Below w'.heap.size w' W8:=by rw[hW8];exact(ab _ _).alloc (ac _) _
       have L8:=aa (aG U L6);have S8:=aa (aG U S6);have K8:=aa (K6.on U);have M8:=aa (M6.out.on U);have I8:=aa (I6.out.on U);rw[<-hW8];clear hW8 U L6 S6 K6 hen;have V:=uO Xn.out JJ.out;have XQ:Ft W8 r<Ft wr r:=by
        rw[Fu I8.out,Fu I5.out];exact IK (List.getElem?_eq_some_iff.1 JJ.out).1 NS.out
       have HME:=aa XQ;clear XQ;by_cases J:xk∈tP m i
       ·clear V
        go_wp2_with (at_lookup;go_must (refine aR (enc:=zn) _ rfl _ _ 104 3 4 rfl qz ju (mq _) T (tP m i) rfl L8.out xk rfl true (by simpa using J) ?_))
        refine⟨⟨seen.push j,f,I8.out,M8.out,L8.out,S8.out,K8.out,V5.out,F5.out.trans ⟨fun⟨a,x,h1,d,h3⟩=>⟨a,x,h1,by simp at d⊢;exact .inl d,h3⟩,fun⟨a,x,h1,d,h3⟩=>⟨a,x,h1,?_,h3⟩⟩⟩,HME.out⟩
        rcases Array.mem_push.1 (by simpa using d) with h|h
        ·simpa using h
        ·subst h;rw[JJ.out]at h1;cases h1;exact absurd J h3
       ·have hat:xk=stA m i:=(CO.out.1 j _ V J).1;have LQ:j=i:=(CO.out.1 j _ V J).2;have hf0:f=false:=by
         cases f with
         |false=>rfl
         |true=>
          obtain⟨a,x,h1,d,h3⟩:=F5.out.1 rfl;have e:=(CO.out.1 a _ (uO Xn.out h1) h3).2;rw[e,<-LQ]at d;rw[NS.out]at d;cases d
        have hu:u19=.int .i64 (-1):=by rw[V5.out,hf0];rfl
        subst hu;clear V hf0 hat;have HX:=aa J
        go_wp2_with (at_lookup;go_must (refine aR (enc:=zn) _ rfl _ _ 104 3 4 rfl qz ju (mq _) T (tP m i) rfl L8.out xk rfl false (by simpa using J) ?_))
        have hat:xk=stA m i:=(CO.out.1 j _ (uO Xn.out JJ.out) HX.out).1;exact⟨⟨seen.push j,true,I8.out,M8.out,L8.out,S8.out,K8.out,by rw[hat];rfl,⟨λ_=>⟨j,_,JJ.out,by simp,HX.out⟩,λ_=>rfl⟩⟩,HME.out⟩
      ·obtain⟨ni,nl,nq,nk,na⟩:=Lo HM.out HI.out ha;rw[nl]at LP;have NQ:=aa nq;have NK:=aa nk;have NI:=aa ni;clear nl nq nk ni;obtain⟨E,ab6⟩:∃a,a=stA m i:=⟨_,rfl⟩
       rw[<-ab6]at ha na NQ NK ⊢;have HAT:=aa ab6;clear ab6 f0 f1 f2 f3 f4 f5
       go_loopw [110] (λab7 K=>∃(q:Nat)(R':List WE),q<=4/\ab7=.int .i64 q/\R'.map strip=N0 (uN m 3) (tP m (i+1)) E (Ln m i) q/\jy K S R'/\aU K zn T (tP m (i+1))/\aU K zn N (uN m 3)/\KQ C w kx P K) (λab7 _=>4-(intOf ab7).toNat)
       case atStart=>exact⟨0,R,by omega,rfl,Xn.out,MP.out,LP.out,SP.out,KP.out⟩
       case round=>
        obtain⟨q,R',hq,rfl,hR,XP,hL,g,O⟩:=hrel;have X:=aa hR;have M7:=aa XP;have L7:=aa hL;have S7:=aa g;have K7:=aa O;clear hR XP hL g O MP LP SP KP
        rcases aq q 4 with Q|ve
        case inr=>
         obtain rfl:q=4:=by omega
         have j1:¬((4:Int)<C.n3):=by rw[H3.out];decide
         go_wp2
         refine⟨?_,?_⟩
         ·exact⟨i+1,R',NI.out,X.out.trans NQ.out,M7.out,L7.out,S7.out,K7.out⟩
         ·rw[Fv L7.out,Fv LL.out,<-(Lo HM.out HI.out (HAT.out▸ha)).2.1];have h5:(tP m i).length<=2:=by unfold tP;split;exact ad _;split;exact(by decide);exact(by decide)
          simp;omega
        have j1:((q:Int)<C.n3):=by rw[H3.out];omega
        have hq3:q<C.n3:=by rw[H3.out];exact Q
        have hA:=HA.out.below K7.out.low;have g0:=hA.Es q hq3;have g1:=hA.Et q hq3;have g2:=hA.Eu q hq3;rw[HX3.out]at g0 g1 g2;obtain⟨A,hAe⟩:∃x,x=(zU q).1:=⟨_,rfl⟩
        obtain⟨B,hBe⟩:∃x,x=(zU q).2.1:=⟨_,rfl⟩
        obtain⟨G,hGe⟩:∃x,x=(zU q).2.2:=⟨_,rfl⟩
        rw[<-hAe]at g0;rw[<-hBe]at g1;rw[<-hGe]at g2;have bd:0<=A/\A<=3/\0<=B/\B<=3/\0<=G/\G<=80:=by
         rw[hAe,hBe,hGe]
         match q,Q with
         |0,_=>decide
         |1,_=>decide
         |2,_=>decide
         |3,_=>decide
        obtain⟨bA0,bA1,bB0,bB1,bG0,bG1⟩:=bd;have EA:=aa hAe;have EB:=aa hBe;have EG:=aa hGe;clear hAe hBe hGe hA hq3
        go_upto_region 31 with fail
        obtain⟨M,hW9⟩:∃M:World,M=wr.alloc (.cells #[.int .i64 A,.int .i64 B,.int .i64 G] 95):=⟨_,rfl⟩
        have hB9:Below wr.heap.size wr M:=by rw[hW9];exact(ab _ _).alloc (ac _) _
        have P9:Hid (M.heap[wr.heap.size]?=some (.cells #[.int .i64 A,.int .i64 B,.int .i64 G] 95)):=aa (by rw[hW9];exact au _ _);have M9:=aa (M7.out.on hB9);have L9:=aa (aG hB9 L7.out);have S9:=aa (aG hB9 S7.out);have K9:=aa (K7.out.on hB9);rw[<-hW9];clear hW9 hB9 g0 g1 g2 M7 L7 S7 K7;have h0:M.cell? ⟨wr.heap.size,0,none⟩=some (.int .i64 A):=by have h:=P9.out;simp[dT,h]
        have h1:M.cell? ⟨wr.heap.size,1,none⟩=some (.int .i64 B):=by have h:=P9.out;simp[dT,h]
        have d:M.cell? ⟨wr.heap.size,2,none⟩=some (.int .i64 G):=by have h:=P9.out;simp[dT,h]
        have Wf:=a9 P9.out;have skip:V6 (uN m 3) E q=true->R'.map strip=N0 (uN m 3) (tP m (i+1)) E (Ln m i) (q+1):=λe=>by rw[X.out,N0,stepW,if_pos e]
        have SK:=aa skip;clear skip;by_cases sB:(q:Int)∈uN m 3
        ·go_wp2_with (at_lookup;go_must (refine aR (enc:=zn) _ rfl _ _ 104 3 4 rfl qz ju (mq _) N (uN m 3) rfl S9.out (q:Int) rfl true (by simpa using sB) ?_))
         exact⟨⟨q+1,R',Q,by go_num,SK.out (by simp[V6,sB]),M9.out,L9.out,S9.out,K9.out⟩,by simp only[intOf];omega⟩
        have HCL:=aa sB;clear sB;by_cases hs:A≠E/\B≠E
        ·obtain⟨s1,s2⟩:=hs;have HS:=aa (And.intro s1 s2);have e1:(A != E)=true:=by simpa using s1
         have e2:(B != E)=true:=by simpa using s2
         clear s1 s2
         go_wp2_with (at_lookup;go_must (refine aR (enc:=zn) _ rfl _ _ 104 3 4 rfl qz ju (mq _) N (uN m 3) rfl S9.out (q:Int) rfl false (by simpa using HCL.out) ?_))
         exact⟨⟨q+1,R',Q,by go_num,SK.out (by have h:=HS.out;rw[EA.out,EB.out]at h;simp[V6,h]),M9.out,L9.out,S9.out,K9.out⟩,by simp only[intOf];omega⟩
        have NS:=aa hs
        have NSK:Hid (V6 (uN m 3) E q=false):=aa (by
         have h:=NS.out;rw[EA.out,EB.out]at h;have d:=HCL.out
         cases e:V6 (uN m 3) E q with
         |false=>rfl
         |true=>
          simp only[V6,eq,ep,decide_eq_true_eq]at e
          rcases e with e|e
          ·exact absurd e d
          ·exact absurd e h)
        have E12:((A != E)=false)\/((A != E)=true/\(B != E)=false):=by
         by_cases h:A=E
         ·exact .inl (by simpa using h)
         ·exact .inr ⟨by simpa using h,by have:B=E:=Classical.byContradiction λd=>hs ⟨h,d⟩;simpa using this⟩
        clear hs
        rcases E12 with e1|⟨e1,e2⟩
        all_goals go_upto_region 33 with(at_lookup;go_must (refine aR (enc:=zn) _ rfl _ _ 104 3 4 rfl qz ju (mq _) N (uN m 3) rfl S9.out (q:Int) rfl false (by simpa using HCL.out) ?_))
        all_goals (
         obtain⟨sx,ox1,ox2,ox3,ox4,ox5⟩:=ab3 NK.out Q;have Y:=nE X.out E;rw[ox1]at Y;obtain⟨x,hxf,V⟩:∃x,R'.find? (λx=>x.1==E)=some x/\sx=strip x:=by
          cases e:R'.find? (λx=>x.1==E) with
          |none=>rw[e]at Y;cases Y
          |some x=>rw[e]at Y;cases Y;exact⟨x,rfl,rfl⟩
         subst V;obtain⟨xk,xv,L,xl⟩:=x;simp only[strip]at ox2 ox3 ox4;have hrx:=M9.out.reads _ (cq hxf);have qH:=M9.out.ne _ (cq hxf);simp only at hrx qH;have HRX:=aa hrx;obtain⟨pb,pc,rfl,hyy⟩:=hrx;obtain⟨kp,op,rfl,Tt,hcp⟩:=hyy (by cases L with|nil=>exact absurd rfl qH|cons _ _=>simp);have HCP:=aa hcp;have HXF:=aa hxf;have OX1:=aa ox1;have OX5:=aa ox5;have OX2:=aa ox2;have HKP:=aa Tt;clear hyy hcp hxf ox1 ox5 Y qH ox2 Tt;obtain⟨F,hto⟩:∃t,t=A+B-E:=⟨_,rfl⟩
         have HTO:Hid (F=XN E q):=aa (by rw[hto,EA.out,EB.out];rfl);rw[<-hto];clear hto;refine iL 17 7 (λ_ W=>Below M.heap.size M W) (λW W'=>Below W.heap.size W W') ExW (Wb M.heap.size L F (xl+G)) (λ_ _ _ _=>True) (λ_ _ _ _ _=>trivial) rfl (by kernel_rfl) (by kernel_rfl) rfl
          (λb i vs W W' hle h=>h.le hle) (λi o ho vs eX W he aaZ b h=>⟨λe=>by subst e;rw[<-he];exact h.c4 rfl,λe=>by subst e;rw[<-he];exact h.c6 rfl,λe=>by subst e;rw[<-he];exact h.c7 rfl,λe=>?_,λe=>by subst e;rw[<-he];exact h.c16 rfl⟩) (ab _ _).drew ?_
         ·subst e;have e7:vs 7=eX 7:=by
           simp only[bM,bR,bT,ei]at ho;subst ho;exact aaZ ⟨7,.data⟩ (cH.2 ⟨by simp,rfl⟩)
          rw[<-he,<-e7];exact h.c15 rfl
         have HWR:Hid (IntKind.i64.wrap (xl+G)=xl+G):=aa (eD _ (by omega))
         iterate 4 (
          apply iK
          case hE=>rfl
          case h=>
           intro vs W b c hd;have hl:=IJ ((c.block _ (a9 M9.out.map)).trans M9.out.map) HXF.out;have q0:=zc;have q1:=ze;have g2:=(c.cell (p:=⟨wr.heap.size,2,none⟩) Wf).trans d;have hw:=HWR.out;simp only[nD]at hl
           go_simp
           exact⟨rfl,ab _ _⟩
          case hb=>exact H9)
         apply ey
         case hE=>rfl
         case hb=>exact H9
         case h=>
          intro vs W D b hb c jw hi _ hd hP
          go_simp
          refine(tC kp op L.length pc (L.map λz=>.int .i64 z) _ (by simp) (λj u e=>?_) (by simp[ej]) (by have:=OX2.out;omega) (ag HKP.out c.size)).mono ?_
          ·obtain⟨z,hz,rfl⟩:∃z,L[j]?=some z/\u=.int .i64 z:=by
            rw[cp]at e
            cases h:L[j]? with
            |none=>rw[h]at e;cases e
            |some z=>rw[h]at e;cases e;exact⟨z,rfl,rfl⟩
           have H:=(List.getElem?_eq_some_iff.1 hz).1;rw[c.cell (p:=⟨kp,op+j,none⟩) HKP.out,HCP.out j (by omega)];simp[co,hz]
          ·rintro e W'⟨v,rfl,_,hO,I⟩;exact⟨v,rfl,ba c I,λj H hE=>(hd j H hE).le I,⟨λ_ _=>by simp only[upd,if_pos];exact dJ hO c.size,λe=>absurd e (by decide),λe=>absurd e (by decide),λe=>absurd e (by decide),λe=>absurd e (by decide)⟩⟩
         iterate 1 (
          apply iK
          case hE=>rfl
          case h=>
           intro vs W b c hd;have hl:=IJ ((c.block _ (a9 M9.out.map)).trans M9.out.map) HXF.out;have q0:=zc;have q1:=ze;have g2:=(c.cell (p:=⟨wr.heap.size,2,none⟩) Wf).trans d;have hw:=HWR.out;simp only[nD]at hl
           go_simp
           exact⟨rfl,ab _ _⟩
          case hb=>exact H9)
         apply ey
         case hE=>rfl
         case hb=>exact H9
         case h=>
          intro vs W D b hb c jw hi _ hd hP;have I:=(ab W.heap.size W).alloc (ac _) (.cells #[.int .i64 F] 3);have HBC:=aa (ba c I);clear c
          go_simp
          exact⟨HBC.out,λj H hE=>(hd j H hE).le I,⟨λe=>absurd e (by decide),λ_ _=>⟨W.heap.size,by simp[upd],au _ _⟩,λe=>absurd e (by decide),λe=>absurd e (by decide),λe=>absurd e (by decide)⟩⟩
         apply ey
         case hE=>rfl
         case hb=>exact H9
         case h=>
          intro vs W D bb iC c jw hi _ hd hP;have hf:=iC rfl;have m4:4∈D:=jw ⟨4,.data⟩ (cH.2 ⟨by simp,rfl⟩);have m6:6∈D:=jw ⟨6,.data⟩ (cH.2 ⟨by simp,rfl⟩);have fO:=(hd 4 m4 rfl).c4 rfl hf;obtain⟨kq,hkq,hkc⟩:=(hd 6 m6 rfl).c6 rfl hf;have bu:=cZ fO;have hoc:=qm fO;refine yX Rz RE rfl _ _ rfl M.heap.size (vs 4) L F kq rfl fO hkq (by simp[dT,hkc]) (by have:=OX2.out;omega) c.size λv' w' e1 e2=>?_;have I:Below M.heap.size W w':=(ab _ W).grown e2 c.size bu;refine⟨c.trans I,λj H hE=>⟨λ_ e=>by simp at e,λ_ e=>by simp at e,λe=>absurd H (by rw[e];exact hi),(hd j H hE).c15,λe=>((hd j H hE).c16 e).imp λk l=>⟨l.1,l.2.1,(e2.block k (a9 l.2.2) λe=>?_).trans l.2.2⟩⟩,⟨λe=>absurd e (by decide),λe=>absurd e (by decide),λ_=>by simpa[upd]using e1,λe=>absurd e (by decide),λe=>absurd e (by decide)⟩,λ_ _ _=>trivial⟩;obtain⟨cur,SF⟩:=hoc k e.symm;rw[l.2.2]at SF;cases SF
         iterate 7 (
          apply iK
          case hE=>rfl
          case h=>
           intro vs W b c hd;have hl:=IJ ((c.block _ (a9 M9.out.map)).trans M9.out.map) HXF.out;have q0:=zc;have q1:=ze;have g2:=(c.cell (p:=⟨wr.heap.size,2,none⟩) Wf).trans d;have hw:=HWR.out;simp only[nD]at hl
           go_simp
           exact⟨rfl,ab _ _⟩
          case hb=>exact H9)
         apply ey
         case hE=>rfl
         case hb=>exact H9
         case h=>
          intro vs W D bb iC c jw hi _ hd hP;have m7:7∈D:=jw ⟨7,.data⟩ (cH.2 ⟨by simp,rfl⟩);obtain⟨vb,vc,h7⟩:=vB ((hd 7 m7 rfl).c7 rfl);rw[h7];have HD:=aa hd;clear hd
          go_simp
          exact⟨HD.out,⟨λe=>absurd e (by decide),λe=>absurd e (by decide),λe=>absurd e (by decide),λ_=>by simp[upd,h7],λe=>absurd e (by decide)⟩⟩
         apply ey
         case hE=>rfl
         case hb=>exact H9
         case h=>
          intro vs W D b hb c jw hi _ hd hP;have I:=(ab W.heap.size W).alloc (ac _) (.cells #[.slice none 0 0,.int .i64 0] 106);have HBC:=aa (ba c I);have HSZ:=aa c.size;clear c
          go_simp
          exact⟨HBC.out,λj H hE=>(hd j H hE).le I,⟨λe=>absurd e (by decide),λe=>absurd e (by decide),λe=>absurd e (by decide),λe=>absurd e (by decide),λ_=>⟨W.heap.size,by simp[upd],HSZ.out,au _ _⟩⟩⟩
         refine nv λvs W bb _ c hd _=>?_;have hO7:=(hd 7 (by omega) rfl).c7 rfl;have ab8:=(hd 15 (by omega) rfl).c15 rfl;obtain⟨kw,h16,hkw,hcw⟩:=(hd 16 (by omega) rfl).c16 rfl;obtain⟨vb,vc,h7⟩:=vB hO7;rw[h7]at ab8 hO7;have HO7:=aa hO7;have HC1:=aa c;have HKW:=aa hkw;have HCW:=aa hcw;have y0:W.cell? ⟨kw,0,none⟩=some (.slice none 0 0):=by simp[dT,hcw]
         have y1:W.cell? ⟨kw,1,none⟩=some (.int .i64 0):=by simp[dT,hcw]
         have fz:=tO hcw;rw[h16,ab8];clear hd c hO7 ab8 h16 hkw hcw h7;obtain⟨nn,Va⟩:∃n,n=(L++[F]).length:=⟨_,rfl⟩
         have HNN:=aa Va;rw[<-Va];clear Va
         go_upto_region 34 with fail
         obtain⟨XR,SG⟩:∃XR:World,XR=(W.setCell ⟨kw,0,none⟩ (.slice vb nn vc)).setCell ⟨kw,1,none⟩ (.int .i64 (xl+G)):=⟨_,rfl⟩
         have SI:Below M.heap.size M XR:=by rw[SG];exact(HC1.out.setCell (p:=⟨kw,0,none⟩) HKW.out _).setCell (p:=⟨kw,1,none⟩) HKW.out _
         have P10:Hid (XR.heap[kw]?=some (.cells #[.slice vb nn vc,.int .i64 (xl+G)] 106)):=aa (by rw[SG];exact Wc HCW.out)
         have O10:Hid (eO 3 XR M.heap.size (.slice vb nn vc) (L++[F])):=aa (by
          have hoc:=qm HO7.out;rw[HNN.out];have bu:∀j,ek (.slice vb (L++[F]).length vc)=some j->j≠kw:=λj e H=>by
           obtain⟨cur,SF⟩:=hoc j e;rw[H,HCW.out]at SF;cases SF
          rw[SG]
          exact A8 (A8 HO7.out bu) bu)
         have M10:=aa (M9.out.on SI);have L10:=aa (aG SI L9.out);have S10:=aa (aG SI S9.out);have Ry:=aa (K9.out.on SI);rw[<-SG];clear SG SI y0 y1 fz;obtain⟨tp,tn,tc,tl,ok,FH,Ag⟩:=SE M10.out F;have HOK:=aa Ag;clear Ag h0 h1 d
         go_upto_region 35 with fail
         obtain⟨Z,ab9⟩:∃Z:World,Z=XR.alloc (.cells #[.slice tp tn tc,.int .i64 tl] 106):=⟨_,rfl⟩
         have IP:Below XR.heap.size XR Z:=by rw[ab9];exact(ab _ _).alloc (ac _) _
         have P11:=aa ((IP.block _ (a9 P10.out)).trans P10.out);have O11:=aa (O10.out.on IP);have M11:=aa (M10.out.on IP);have L11:=aa (aG IP L10.out);have S11:=aa (aG IP S10.out);have Tr:=aa (Ry.out.on IP);rw[<-ab9];clear ab9 IP FH M10 L10 S10 Ry O10;by_cases ht:F∈tP m (i+1)
         ·have HT1:=aa ht;clear ht
          go_wp2_with (at_lookup;go_must (refine aR (enc:=zn) _ rfl _ _ 104 3 4 rfl qz ju (mq _) T (tP m (i+1)) rfl L11.out F rfl true (by simpa using HT1.out) ?_))
          exact⟨⟨q+1,R',Q,by go_num,by rw[X.out,N0,stepW,if_neg (by rw[NSK.out];decide),if_pos (by rw[<-HTO.out];exact HT1.out)],M11.out,L11.out,S11.out,Tr.out⟩,by simp only[intOf];omega⟩
         ·have HT1:=aa ht;clear ht;have hnf:R'.find? (λz=>z.1==F)=none:=by
           have e:=OX5.out NSK.out (by rw[<-HTO.out];exact HT1.out);rw[<-HTO.out]at e;have e2:=nE X.out F;rw[e]at e2
           cases e3:R'.find? (λz=>z.1==F) with
           |none=>rfl
           |some z=>rw[e3]at e2;cases e2
          have Ag:ok=false:=HOK.out hnf;subst Ag;have HNF:=aa hnf;clear hnf;have z0:Z.cell? ⟨kw,0,none⟩=some (.slice vb nn vc):=by have h:=P11.out;simp[dT,h]
          have z1:Z.cell? ⟨kw,1,none⟩=some (.int .i64 (xl+G)):=by have h:=P11.out;simp[dT,h]
          have RD:Hid (bB Z (.slice vb nn vc) (L++[F])):=aa (eO.reads O11.out)
          go_wp2_with (first
           |(at_lookup;go_must (refine aR (enc:=zn) _ rfl _ _ 104 3 4 rfl qz ju (mq _) T (tP m (i+1)) rfl L11.out F rfl false (by simpa using HT1.out) ?_))
           |(at_mapUpdate;go_must (refine tF _ rfl _ _ _ (.inl rfl) S R' (F,.slice vb nn vc,L++[F],xl+G) rfl rfl rfl M11.out HNF.out RD.out (by simp) ?_);intro w12 hM y;go_must (have M12:=aa hM;have L12:=aa (eA L11.out (y.block _ (by have:=ZR.out;omega)));have S12:=aa (eA S11.out (y.block _ (by have:=ZR.out;omega)));have VC:=aa (Tr.out.turned y M11.out.map (λ_ _ _ e=>by cases e) (by have:=ZM.out;have:=ZR.out;omega):KQ C w kx P w12));clear hM y;go_frame))
          refine⟨⟨q+1,R'++[(F,.slice vb nn vc,L++[F],xl+G)],Q,by go_num,?_,M12.out,L12.out,S12.out,VC.out⟩,by simp only[intOf];omega⟩;rw[b8,X.out,N0,stepW,if_neg (by rw[NSK.out];decide),if_neg (by rw[<-HTO.out];exact HT1.out),OX1.out]
          simp only[b2,b5,strip,HTO.out,EG.out])
end Go.Proofs
namespace Go.Proofs
open Go.RowKit Go.Shelf
set_option maxRecDepth 100000
set_option maxHeartbeats 1000000
def uP(d:Int)(C:CD)(W:World):Prop:=∃k2 g k3 c3 a h b i c e lb f,C=ir k2 g k3 c3 a h b i c e lb f d/\CJ W k2 k3 a b c e lb f d
def uP.on{d:Int}{C:CD}{W a:World}(h:uP d C W)(b:Below W.heap.size W a):uP d C a:=by
 obtain⟨k2,c,k3,c3,f,g,i,j,k,l,lb,m,e,h⟩:=h;exact⟨k2,c,k3,c3,f,g,i,j,k,l,lb,m,e,h.on b⟩
def uP.at{d:Int}{C:CD}{W:World}(h:uP d C W):C.At W:=by
 obtain⟨k2,a,k3,c3,b,c,e,f,g,i,lb,j,rfl,h⟩:=h;exact h.at
def uP.is{d:Int}{C:CD}{W:World}(h:uP d C W):VB d C:=by
 obtain⟨k2,a,k3,c3,b,c,e,f,g,i,lb,j,rfl,_⟩:=h;exact⟨k2,a,k3,c3,b,c,e,f,g,i,lb,j,rfl⟩
def tG{d:Int}{C:CD}(hd:d=0\/d=1)(h:VB d C):C.b6 true=0:=by
 obtain⟨k2,a,k3,c3,b,c,e,f,g,i,lb,j,rfl⟩:=h
 rcases hd with rfl|rfl<;>kernel_rfl
def IQ{d:Int}{C:CD}(hd:d=0\/d=1)(h:VB d C):C.cx=0:=IC (tG hd h)
def agd(w:World):Calls PL 17 #[.int .i64 13,.int .i64 (-5)] w λe w'=>e=.returned (.tuple #[.int .i64 12,.int .i64 0])/\w=w':=(uD 13 (-5) w).mono λ_ _ k=>⟨k.1.trans (by kernel_rfl),k.2.symm⟩
def age(w:World):Calls PL 17 #[.int .i64 20,.int .i64 11] w λe w'=>e=.returned (.tuple #[.int .i64 16,.int .i64 0])/\w=w':=(uD 20 11 w).mono λ_ _ k=>⟨k.1.trans (by kernel_rfl),k.2.symm⟩
def agf{C:CD}(w:World)(h:uP 0 C w):Calls PL 18 #[.agg C.val,.int .i64 0] w (aO (.tuple #[.agg #[.int .i64 16,.int .i64 20],.int .i64 0]) w):=by
 have k:=nB C 0 w h.at;have e:C.kR 0=.tuple #[.agg #[.int .i64 16,.int .i64 20],.int .i64 0]:=by
  obtain⟨k2,a,k3,c3,b,c,d,f,g,i,lb,j,rfl⟩:=h.is
  kernel_rfl
 rwa[e]at k
def agh{C:CD}(w:World)(h:uP 0 C w):Calls PL 18 #[.agg C.val,.int .i64 2] w (aO (.tuple #[.agg #[.int .i64 24,.int .i64 25],.int .i64 0]) w):=by
 have k:=nB C 2 w h.at;have e:C.kR 2=.tuple #[.agg #[.int .i64 24,.int .i64 25],.int .i64 0]:=by
  obtain⟨k2,a,k3,c3,b,c,d,f,g,i,lb,j,rfl⟩:=h.is
  kernel_rfl
 rwa[e]at k
def agi{C:CD}(w:World)(h:uP 0 C w):Calls PL 19 #[.agg C.val,.int .i64 0] w (aO (.tuple #[.int .i64 0,.int .i64 0]) w):=by
 have k:=pH C 0 w h.at;have e:C.iq 0=.tuple #[.int .i64 0,.int .i64 0]:=by
  obtain⟨k2,a,k3,c3,b,c,d,f,g,i,lb,j,rfl⟩:=h.is
  kernel_rfl
 rwa[e]at k
def agj{C:CD}(w:World)(h:uP 0 C w):Calls PL 19 #[.agg C.val,.int .i64 2] w (aO (.tuple #[.int .i64 2,.int .i64 0]) w):=by
 have k:=pH C 2 w h.at;have e:C.iq 2=.tuple #[.int .i64 2,.int .i64 0]:=by
  obtain⟨k2,a,k3,c3,b,c,d,f,g,i,lb,j,rfl⟩:=h.is
  kernel_rfl
 rwa[e]at k
def SJ:List Int:=[0,0,0,4,6,1,6,9,10,14,2,13,17,18,22]
def ab5:List Int:=[0,1,2,0,13]
def ah7{W:World}{base e n:Nat}{v:Value}{xs:List Value}(h:W.ownsRow base e 5 v n xs)(l:List Int)(a:xs=l.map λz=>.int .i64 z):Reads W v n 5 λj=>.int .i64 (l.getD j 0):=by
 obtain⟨hl,h⟩:=h
 rcases h with⟨rfl,rfl⟩|⟨g,cap,b,rfl,hb,hg,hc,d,hs,c⟩
 ·exact⟨none,0,rfl,λh=>absurd h (ai _)⟩
 ·refine⟨_,_,rfl,λf=>⟨g,0,rfl,a9 hg,λj i=>?_⟩⟩;have k:l.length=n*5:=by rw[<-hl,a,List.length_map]
  have e:xs[j]?=some (.int .i64 (l.getD j 0)):=by
   rw[a,cp,bw (by omega)];simp[co,bw (show j<l.length by omega)]
  rw[<-c,bA (by omega)]at e;simp only[dT,hg,ae];simpa using e
def e34{C:CD}(w:World)(h:uP 0 C w):Calls PL 6 #[.agg C.val,.int .i64 0] w λe w'=>∃v,e=.returned (.tuple #[v,.int .i64 0])/\(Reads w' v 3 5 λj=>.int .i64 (SJ.getD j 0))/\Below w.heap.size w w':=by
 have k:=ID C 0 w h.at (by obtain⟨k2,a,k3,c3,b,c,d,f,g,i,lb,l,rfl⟩:=h.is;show 0<2;decide) (by obtain⟨k2,a,k3,c3,b,c,d,f,g,i,lb,l,rfl⟩:=h.is;show 2<=3;decide) (tG (.inl rfl) h.is) (Sa C (IQ (.inl rfl) h.is) (by obtain⟨k2,a,k3,c3,b,c,d,f,g,i,lb,l,rfl⟩:=h.is;show 0<2;decide));refine k.mono ?_;rintro e w'⟨v,rfl,m,n⟩;have e:mD C 0 C.n4=[(0,0,0,4,6),(1,6,9,10,14),(2,13,17,18,22)]:=by
  obtain⟨k2,a,k3,c3,b,c,d,f,g,i,lb,l,rfl⟩:=h.is
  kernel_rfl
 unfold AY at m;rw[e]at m;exact⟨v,rfl,ah7 m SJ rfl,n⟩
def e59{C:CD}(w:World)(h:uP 0 C w):Calls PL 9 #[.agg C.val,.int .i64 1] w (aO (.tuple #[.agg #[.int .i64 18,.int .i64 23],.int .i64 0]) w):=by
 have k:=Sj C 1 w h.at (by obtain⟨k2,a,k3,c3,b,c,d,f,g,i,lb,j,rfl⟩:=h.is;show 1<2;decide) (by obtain⟨k2,a,k3,c3,b,c,d,f,g,i,lb,j,rfl⟩:=h.is;show 2<=3;decide) (tG (.inl rfl) h.is) (Sa C (IQ (.inl rfl) h.is) (by obtain⟨k2,a,k3,c3,b,c,d,f,g,i,lb,j,rfl⟩:=h.is;show 1<2;decide));have e:nU C 1=(18,23):=by
  obtain⟨k2,a,k3,c3,b,c,d,f,g,i,lb,j,rfl⟩:=h.is
  kernel_rfl
 rwa[e]at k
def e36{C:CD}(w:World)(h:uP 0 C w):Calls PL 13 #[.agg C.val,.int .i64 8] w λe w'=>∃v,e=.returned (.tuple #[v,.int .i64 0])/\bB w' v [2,0,1]/\Below w.heap.size w w':=by
 have k:=RO C 8 je Sy w h.at (tG (.inl rfl) h.is) (by obtain⟨k2,a,k3,c3,b,c,d,f,g,i,lb,j,rfl⟩:=h.is;show 3<=5;decide) (by obtain⟨k2,a,k3,c3,b,c,d,f,g,i,lb,j,rfl⟩:=h.is;show 2<=3;decide) rfl λW l=>tA (.inl rfl) h.is l;have e:tB je 8 C.n5 C.n4=[2,0,1]:=by
  obtain⟨k2,a,k3,c3,b,c,d,f,g,i,lb,j,rfl⟩:=h.is
  kernel_rfl
 rwa[e]at k
def e37{C:CD}{d:Int}(hd:d=0\/d=1)(w:World)(h:uP d C w):Calls PL 20 #[.agg C.val] w λe w'=>∃v,e=.returned (.tuple #[v,.int .i64 0])/\(∃b c,v=.slice b (Cv d 3).length c)/\(Reads w' v (Cv d 3).length 5 λj=>.int .i64 (ab5.getD j 0))/\Below w.heap.size w w':=by
 have l:C.n4=3/\C.n5=2:=by obtain⟨k2,o,k3,c3,p,q,r,s,t,u,lb,x,rfl⟩:=h.is;exact⟨rfl,rfl⟩
 have k:=Fp C (λW v=>(∃b c,v=.slice b (Cv d 3).length c)/\Reads W v (Cv d 3).length 5 λj=>.int .i64 (ab5.getD j 0)) w h.at (tG hd h.is) λW m=>(vC C d hd l.1 l.2 W m λy f=>tA hd h.is f).mono λe w'⟨v,g,a,i⟩=>⟨v,g,⟨vB a,?_⟩,i⟩
 ·exact k.mono λe w'⟨v,g,a,i⟩=>⟨v,g,a.1,a.2,i⟩
 ·rcases hd with rfl|rfl
  ·have n:Cv 0 3=[]:=rfl;unfold kV at a;rw[n]at a⊢;obtain⟨b,c,rfl⟩:=vB a;exact⟨b,c,rfl,λh=>absurd h (ai _)⟩
  ·exact ah7 a ab5 rfl
def e39{C:CD}{v:Value}(w:World)(h:uP 0 C w)(hv:bB w v [0,1]):Calls PL 21 #[.agg C.val,v] w λe w'=>∃a,e=.returned (.tuple #[.agg a.val,.int .i64 0])/\uP 1 a w'/\Below w.heap.size w w':=by
 obtain⟨k2,l,k3,c3,m,n,o,p,q,r,lb,s,rfl,b⟩:=h;exact(Iw w b hv).mono λe w'⟨q2,d2,q3,d3,q4,d4,q5,d5,c,d,f,g,i,j,k⟩=>⟨_,i,⟨q2,d2,q3,d3,q4,d4,q5,d5,c,d,f,g,rfl,j⟩,k⟩
def e52{C:CD}(w:World)(h:uP 1 C w):Calls PL 22 #[.agg C.val] w λe w'=>∃v,e=.returned (.tuple #[v,.bool true,.int .i64 0])/\bB w' v [0,0]/\Below w.heap.size w w':=by
 obtain⟨k2,b,k3,c3,c,d,f,g,i,j,lb,k,rfl,a⟩:=h;exact II w a
def agk{C:CD}(w:World)(h:uP 0 C w):Calls PL 23 #[.agg C.val,.int .i64 2,.int .i64 5] w λe w'=>∃v,e=.returned (.tuple #[v,.int .i64 110,.bool true,.int .i64 0])/\bB w' v [2,3,0]/\Below w.heap.size w w':=by
 have a:=h.at;obtain⟨k2,b,k3,c3,c,d,f,g,i,j,lb,k,e,_⟩:=h;exact Ba C 5 (.inl rfl) e w a
def agl{C:CD}(w:World)(h:uP 0 C w):Calls PL 23 #[.agg C.val,.int .i64 2,.int .i64 3] w λe w'=>∃v,e=.returned (.tuple #[v,.int .i64 0,.bool false,.int .i64 0])/\bB w' v []/\Below w.heap.size w w':=by
 have a:=h.at;obtain⟨k2,b,k3,c3,c,d,f,g,i,j,lb,k,e,_⟩:=h;exact Ba C 3 (.inr rfl) e w a
def e31{C:CD}(w:World)(h:uP 0 C w):Calls PL 24 #[.agg C.val] w λe w'=>∃v,e=.returned (.tuple #[v,.int .i64 0])/\bB w' v [0,2]/\Below w.heap.size w w':=by
 have k:=Cr C w h.at (IQ (.inl rfl) h.is);have e:(qC C C.p.toNat (2 ^ C.p.toNat)).getD []=[0,2]:=by
  obtain⟨k2,a,k3,c3,b,c,d,f,g,i,lb,j,rfl⟩:=h.is
  kernel_rfl
 rwa[e]at k
def agm{C:CD}(w:World)(h:uP 0 C w):Calls PL 20 #[.agg C.val] w λe w'=>∃b c,e=.returned (.tuple #[.slice b 0 c,.int .i64 0])/\Below w.heap.size w w':=
 (e37 (.inl rfl) w h).mono λe w'⟨v,a,⟨b,c,d⟩,_,f⟩=>⟨b,c,by rw[a,d];rfl,f⟩
def agn{C:CD}(w:World)(h:uP 1 C w):Calls PL 20 #[.agg C.val] w λe w'=>∃v,e=.returned (.tuple #[v,.int .i64 0])/\(Reads w' v 1 5 λj=>.int .i64 (ab5.getD j 0))/\Below w.heap.size w w':=
 (e37 (.inr rfl) w h).mono λe w'⟨v,a,_,b,c⟩=>⟨v,a,b,c⟩
def iO(W:World)(t:aI)(m:Nat)(l:List Int)(n:Nat)(hl:l.length=n*m):Reads (W.alloc (.cells (l.map λz=>em .i64 z).toArray t)) (.slice (some ⟨W.heap.size,0,none⟩) n n) n m λj=>.int .i64 (l.getD j 0):=by
 refine⟨_,_,rfl,λ_=>⟨_,_,rfl,by simp,λj b=>?_⟩⟩;have h:=au W (.cells (l.map λz=>em .i64 z).toArray t);have a:j<l.length:=by omega
 simp only[dT,h];simp[co,a]
attribute [local go_sem] Oper.semAt_some
def NC(P:World->Prop):Prop:=∀W a,P W->Below W.heap.size W a->P a
def iy(W:World):List (World->Prop)->Prop
 |[]=>True
 |P::l=>(P W/\NC P)/\iy W l
def iy.on{W a:World}:∀{l:List (World->Prop)},iy W l->Below W.heap.size W a->iy a l
 |[],_,_=>trivial
 |_::_,h,b=>⟨⟨h.1.2 _ _ h.1.1 b,h.1.2⟩,iy.on h.2 b⟩
def iy.add{W:World}{l:List (World->Prop)}(h:iy W l)(P:World->Prop)(a:P W)(b:NC P):iy W (P::l):=⟨⟨a,b⟩,h⟩
def mE(k:Nat)(x:Obj):NC λW=>W.heap[k]?=some x:=λ_ _ h a=>(a.block _ (a9 h)).trans h
def gz(v:Value)(n m:Nat)(f:Nat->Value):NC λW=>Reads W v n m f:=λ_ _ h a=>Reads.on h a
def Lp(d:Int)(C:CD):NC (uP d C):=λ_ _ h a=>h.on a
def SU(w:World):NC λW=>Below w.heap.size w W:=λ_ _ h a=>ba h a
def IV(w:World):Calls PL 5 #[] w (aO (.bool true) w):=by
 go_enter (fx (by decide) Tryz.func5),Tryz.ntmps5
 go_upto_region 2 with(go_at_call 16;go_must (refine(EV _).mono ?_);rintro e w0⟨k2,L,k3,c3,M,q,N,r,O,P,lb,Q,rfl,⟨r2,r3,r4,r5,ra,rb⟩,a⟩;have z:Hid (uP 0 (ir k2 L k3 c3 M q N r O P lb Q 0) w0):=aa ⟨k2,L,k3,c3,M,q,N,r,O,P,lb,Q,rfl,⟨r2,r3,r4,r5,ra,rb⟩⟩;have HB:=aa a;clear r2 r3 r4 r5 ra rb a;obtain⟨C,m⟩:∃C,C=ir k2 L k3 c3 M q N r O P lb Q 0:=⟨_,rfl⟩;rw[<-m]at z ⊢;clear m)
 obtain⟨kb,R⟩:∃k,k=w0.heap.size:=⟨_,rfl⟩
 obtain⟨W2,i⟩:∃W:World,W=w0.alloc (.cells C.val 27):=⟨_,rfl⟩
 have s:Below w0.heap.size w0 W2:=by rw[i];exact(ab _ _).alloc (ac _) _
 have S:Hid (iy W2 [λW=>W.heap[kb]?=some (.cells C.val 27),uP 0 C,λW=>Below w.heap.size w W]):=aa ⟨⟨by rw[i,R];exact au _ _,mE _ _⟩,⟨z.out.on s,Lp _ _⟩,⟨ba HB.out s,SU _⟩,trivial⟩;rw[<-i,<-R];clear i R s z HB
 go_upto_region 3 with(go_at_call 17;go_must (refine(agd _).mono ?_);rintro e w'⟨rfl,rfl⟩)
 go_upto_region 4 with(go_at_call 17;go_must (refine(age _).mono ?_);rintro e w'⟨rfl,rfl⟩)
 obtain⟨b,c,d,f,f4,g⟩:=bf S.out.1.1
 go_upto_region 5 with(go_at_call 18;go_must (refine(agf _ (S.out.2.1.1)).mono ?_);rintro e n⟨rfl,a⟩;have A:=aa (S.out.on a);clear a b c d f f4 g)
 obtain⟨T,hb⟩:∃k,k=n.heap.size:=⟨_,rfl⟩
 obtain⟨W4,i⟩:∃W:World,W=n.alloc (.cells #[.int .i64 16,.int .i64 20] 36):=⟨_,rfl⟩
 have U:=aa ((A.out.on (show Below n.heap.size n W4 by rw[i];exact(ab _ _).alloc (ac _) _)).add (λW=>W.heap[T]?=some (.cells #[.int .i64 16,.int .i64 20] 36)) (by rw[i,hb];exact au _ _) (mE _ _));rw[<-i,<-hb];clear i hb A;obtain⟨b,c,d,f,f4,g⟩:=bf (U.out.2.1.1)
 go_upto_region 6 with(go_at_call 18;go_must (refine(agh _ (U.out.2.2.1.1)).mono ?_);rintro e o⟨rfl,a⟩;have B:=aa (U.out.on a);clear a b c d f f4 g)
 obtain⟨V,hb⟩:∃k,k=o.heap.size:=⟨_,rfl⟩
 obtain⟨W5,i⟩:∃W:World,W=o.alloc (.cells #[.int .i64 24,.int .i64 25] 36):=⟨_,rfl⟩
 have X:=aa ((B.out.on (show Below o.heap.size o W5 by rw[i];exact(ab _ _).alloc (ac _) _)).add (λW=>W.heap[V]?=some (.cells #[.int .i64 24,.int .i64 25] 36)) (by rw[i,hb];exact au _ _) (mE _ _));rw[<-i,<-hb];clear i hb B;obtain⟨b,c,d,f,f4,g⟩:=bf (X.out.2.2.1.1)
 go_upto_region 7 with(go_at_call 19;go_must (refine(agi _ (X.out.2.2.2.1.1)).mono ?_);rintro e w6x⟨rfl,a⟩;have Y:=aa (X.out.on a);clear a b c d f f4 g;obtain⟨b,c,d,f,f4,g⟩:=bf (Y.out.2.2.1.1))
 go_upto_region 8 with(go_at_call 19;go_must (refine(agj _ (Y.out.2.2.2.1.1)).mono ?_);rintro e w7x⟨rfl,a⟩;have Z:=aa (Y.out.on a);clear a b c d f f4 g;obtain⟨b,c,d,f,f4,g⟩:=bf (Z.out.2.2.1.1))
 go_upto_region 9 with(go_at_call 6;go_must (refine(e34 _ (Z.out.2.2.2.1.1)).mono ?_);rintro e w8x⟨v8,rfl,l,a⟩;have K8:=aa ((Z.out.on a).add (λW=>Reads W v8 3 5 λj=>.int .i64 (SJ.getD j 0)) l (gz _ _ _ _));clear l;clear a b c d f f4 g;obtain⟨b,c,d,f,f4,g⟩:=bf (K8.out.2.2.2.1.1))
 go_upto_region 10 with(go_at_call 9;go_must (refine(e59 _ (K8.out.2.2.2.2.1.1)).mono ?_);rintro e p⟨rfl,a⟩;have D:=aa (K8.out.on a);clear a b c d f f4 g)
 obtain⟨b9,hb⟩:∃k,k=p.heap.size:=⟨_,rfl⟩
 obtain⟨W9,i⟩:∃W:World,W=p.alloc (.cells #[.int .i64 18,.int .i64 23] 36):=⟨_,rfl⟩
 have K9:=aa ((D.out.on (show Below p.heap.size p W9 by rw[i];exact(ab _ _).alloc (ac _) _)).add (λW=>W.heap[b9]?=some (.cells #[.int .i64 18,.int .i64 23] 36)) (by rw[i,hb];exact au _ _) (mE _ _));rw[<-i,<-hb];clear i hb D;obtain⟨b,c,d,f,f4,g⟩:=bf (K9.out.2.2.2.2.1.1)
 go_upto_region 11 with(go_at_call 13;go_must (refine(e36 _ (K9.out.2.2.2.2.2.1.1)).mono ?_);rintro e aul⟨E,rfl,l,a⟩;have Ry:=aa ((K9.out.on a).add (λW=>bB W E [2,0,1]) l (gz _ _ _ _));clear l;clear a b c d f f4 g;obtain⟨b,c,d,f,f4,g⟩:=bf (Ry.out.2.2.2.2.2.1.1))
 go_upto_region 12 with(go_at_call 20;go_must (refine(agm _ (Ry.out.2.2.2.2.2.2.1.1)).mono ?_);rintro e aum⟨Fy,q11,rfl,a⟩;have Tr:=aa (Ry.out.on a);clear a b c d f f4 g;obtain⟨b,c,d,f,f4,g⟩:=bf (Tr.out.2.2.2.2.2.1.1))
 go_upto_region 13 with(go_at_call 21;go_must (refine(e39 _ ((Tr.out.2.2.2.2.2.2.1.1).on ((ab _ _).alloc (ac _) _)) (iO _ 3 1 [0,1] 2 rfl)).mono ?_);rintro e K⟨C1,rfl,hE,a⟩;have F:=aa ((Tr.out.on ((ab _ _).alloc (ac _) _)).on a);have z:=aa hE;clear hE;clear a b c d f f4 g)
 obtain⟨Vv,hb⟩:∃k,k=K.heap.size:=⟨_,rfl⟩
 obtain⟨W12,i⟩:∃W:World,W=K.alloc (.cells C1.val 27):=⟨_,rfl⟩
 have t:Below K.heap.size K W12:=by rw[i];exact(ab _ _).alloc (ac _) _
 have VC:=aa (((F.out.on t).add (λW=>W.heap[Vv]?=some (.cells C1.val 27)) (by rw[i,hb];exact au _ _) (mE _ _)).add (uP 1 C1) (z.out.on t) (Lp _ _));rw[<-i,<-hb];clear i hb t F z;obtain⟨b,c,d,f,f4,g⟩:=bf (VC.out.2.1.1)
 go_upto_region 14 with(go_at_call 20;go_must (refine(agn _ (VC.out.1.1)).mono ?_);rintro e aun⟨UW,rfl,l,a⟩;have u:=aa ((VC.out.on a).add (λW=>Reads W UW 1 5 λj=>.int .i64 (ab5.getD j 0)) l (gz _ _ _ _));clear l;clear a b c d f f4 g;obtain⟨b,c,d,f,f4,g⟩:=bf (u.out.2.2.1.1))
 go_upto_region 15 with(go_at_call 22;go_must (refine(e52 _ (u.out.2.1.1)).mono ?_);rintro e auo⟨UX,rfl,l,a⟩;have Tq:=aa ((u.out.on a).add (λW=>bB W UX [0,0]) l (gz _ _ _ _));clear l;clear a b c d f f4 g;obtain⟨b,c,d,f,f4,g⟩:=bf (Tq.out.2.2.2.2.2.2.2.2.2.1.1))
 go_upto_region 16 with(go_at_call 23;go_must (refine(agk _ (Tq.out.2.2.2.2.2.2.2.2.2.2.1.1)).mono ?_);rintro e aup⟨H,rfl,l,a⟩;have v:=aa ((Tq.out.on a).add (λW=>bB W H [2,3,0]) l (gz _ _ _ _));clear l;clear a b c d f f4 g;obtain⟨b,c,d,f,f4,g⟩:=bf (v.out.2.2.2.2.2.2.2.2.2.2.1.1))
 go_upto_region 17 with(go_at_call 23;go_must (refine(agl _ (v.out.2.2.2.2.2.2.2.2.2.2.2.1.1)).mono ?_);rintro e auq⟨v16,rfl,l,a⟩;have x:=aa ((v.out.on a).add (λW=>bB W v16 []) l (gz _ _ _ _));clear l;clear a b c d f f4 g;obtain⟨b,c,d,f,f4,g⟩:=bf (x.out.2.2.2.2.2.2.2.2.2.2.2.1.1))
 go_upto_region 18 with(go_at_call 24;go_must (refine(e31 _ (x.out.2.2.2.2.2.2.2.2.2.2.2.2.1.1)).mono ?_);rintro e y⟨I,rfl,l,a⟩;have J:=aa ((x.out.on a).add (λW=>bB W I [0,2]) l (gz _ _ _ _));clear l;clear a b c d f f4 g;obtain⟨b,c,d,f,f4,g⟩:=bf (J.out.2.2.2.2.2.2.2.2.2.2.2.2.1.1))
 clear b c d f f4 g
 go_upto_region 20 with fail
 have KK:=J;have e4:=KK.out.2.2.2.2.2.2.2.2.2.2.2.1.1;have e5:=KK.out.2.2.2.2.2.2.2.2.2.2.1.1;have e9:=KK.out.2.2.2.2.2.2.2.2.1.1;obtain⟨wq,hwq⟩:∃W:World,W=y:=⟨_,rfl⟩
 have E4:=aa e4;have E5:=aa e5;have E9:=aa e9;clear e4 e5 e9 hwq;refine ig (λW=>Below y.heap.size y W) (λ_ _=>True) (λ_=>true) (λ_ _ _=>True) rfl (by kernel_rfl) (λ_ _ _ _ _ _=>trivial) (λ_ _ _ _ _ _ _ _ _=>trivial) (ab _ _).drew ?_
 iterate 49 (
  apply aY
  case hE=>rfl
  case h=>
   intro vs W m hd;have q:=(m.block _ (a9 E4.out)).trans E4.out;have r:=(m.block _ (a9 E5.out)).trans E5.out;have c9:=(m.block _ (a9 E9.out)).trans E9.out;have x0:W.cell? ⟨T,0,none⟩=some (.int .i64 16):=by simp[dT,q]
   have x1:W.cell? ⟨T,1,none⟩=some (.int .i64 20):=by simp[dT,q]
   have x2:W.cell? ⟨V,0,none⟩=some (.int .i64 24):=by simp[dT,r]
   have x3:W.cell? ⟨V,1,none⟩=some (.int .i64 25):=by simp[dT,r]
   have x4:W.cell? ⟨b9,0,none⟩=some (.int .i64 18):=by simp[dT,c9]
   have x5:W.cell? ⟨b9,1,none⟩=some (.int .i64 23):=by simp[dT,c9]
   have q1:=yM;have q2:=Co;clear q r c9
   go_simp
   first
   |(go_at_call 25;refine(fU _ _ _).mono ?_;rintro e W'⟨rfl,a⟩;exact⟨_,rfl,rfl,ba m a⟩)
   |exact rfl
  case hb=>exact H9)
 refine cP λvs W m hd=>?_;have KK:=aa (KK.out.on m);clear hd m
 go_wp2_with (first
  |(go_at_call 25;go_must (refine(fU _ _ _).mono ?_);rintro e w'⟨rfl,a⟩;have KK:=aa (iy.on KK.out a);clear a)
  |(go_at_call 8;go_must (refine(zT v8 _ 3 (λj=>SJ.getD j 0) _ ((iy.on KK.out ((ab _ _).alloc (ac _) _)).2.2.2.2.2.2.2.2.2.1.1) (iO _ 68 5 SJ 3 rfl) (by decide)).mono ?_);rintro e w'⟨rfl,a⟩;have KK:=aa (iy.on (iy.on KK.out ((ab _ _).alloc (ac _) _)) a);clear a)
  |(go_at_call 15;go_must (refine(Cp E _ 3 (λj=>[2,0,1].getD j 0) _ ((iy.on KK.out ((ab _ _).alloc (ac _) _)).2.2.2.2.2.2.2.1.1) (iO _ 39 1 [2,0,1] 3 rfl) (by decide)).mono ?_);rintro e w'⟨rfl,a⟩;have KK:=aa (iy.on (iy.on KK.out ((ab _ _).alloc (ac _) _)) a);clear a)
  |(go_at_call 26;go_must (refine(vS UW _ 1 (λj=>ab5.getD j 0) _ ((iy.on KK.out ((ab _ _).alloc (ac _) _)).2.2.2.2.1.1) (iO _ 71 5 ab5 1 rfl) (by decide)).mono ?_);rintro e w'⟨rfl,a⟩;have KK:=aa (iy.on (iy.on KK.out ((ab _ _).alloc (ac _) _)) a);clear a))
 refine(pI UX _ 2 (λj=>[0,0].getD j 0) _ ((iy.on KK.out ((ab _ _).alloc (ac _) _)).2.2.2.1.1) (iO _ 3 1 [0,0] 2 rfl) (by decide)).mono ?_;rintro e w1x⟨rfl,a⟩;have KK:=aa (iy.on (iy.on KK.out ((ab _ _).alloc (ac _) _)) a);clear a;go_wp2;refine(pI H _ 3 (λj=>[2,3,0].getD j 0) _ ((iy.on KK.out ((ab _ _).alloc (ac _) _)).2.2.1.1) (iO _ 3 1 [2,3,0] 3 rfl) (by decide)).mono ?_;rintro e w2x⟨rfl,a⟩;have KK:=aa (iy.on (iy.on KK.out ((ab _ _).alloc (ac _) _)) a);clear a;go_wp2;refine(pI I _ 2 (λj=>[0,2].getD j 0) _ ((iy.on KK.out ((ab _ _).alloc (ac _) _)).1.1) (iO _ 3 1 [0,2] 2 rfl) (by decide)).mono ?_;rintro e w3x⟨rfl,a⟩;have KK:=aa (iy.on (iy.on KK.out ((ab _ _).alloc (ac _) _)) a);clear a;go_wp2
 go_ret
 exact⟨rfl,KK.out.2.2.2.2.2.2.2.2.2.2.2.2.2.2.1.1⟩
end Go.Proofs
namespace Go.Proofs
open Go.RowKit
set_option maxRecDepth 100000
set_option maxHeartbeats 4000000
def CD.LR(C:CD):Bool:=C.small&&decide (C.cx=0)
open Go.Shelf
attribute [local go_sem] Oper.semAt_some
def j9(W:World)(v:Value)(l:List nR):Prop:=∃b c,v=.slice b l.length c/\(0<l.length->∃k o,b=some ⟨k,o,none⟩/\k<W.heap.size/\∀i(hi:i<l.length),
 W.cell? ⟨k,o+i*5,none⟩=some (.int .i64 (l[i].1:Nat))/\W.cell? ⟨k,o+i*5+1,none⟩=some (.int .i64 l[i].2.1)/\W.cell? ⟨k,o+i*5+2,none⟩=some (.int .i64 l[i].2.2.1)/\W.cell? ⟨k,o+i*5+3,none⟩=some (.int .i64 l[i].2.2.2.1)/\W.cell? ⟨k,o+i*5+4,none⟩=some (.int .i64 l[i].2.2.2.2))
def j9.on{W a:World}{v:Value}{l:List nR}(h:j9 W v l)(d:Below W.heap.size W a):j9 a v l:=by
 obtain⟨b,c,e,h⟩:=h;refine⟨b,c,e,λg=>?_⟩;obtain⟨k,o,e1,f,hc⟩:=h g;have e:∀j,a.cell? ⟨k,j,none⟩=W.cell? ⟨k,j,none⟩:=λj=>d.cell (p:=⟨k,j,none⟩) f;exact⟨k,o,e1,ag f d.size,λi hi=>by simp only[e];exact hc i hi⟩
def SQ{T:aI}{W:World}{base:Nat}{v:Value}{l:List nR}(h:W.ownsRow base T 5 v l.length (l.flatMap vV)):j9 W v l:=by
 obtain⟨_,h⟩:=h
 rcases h with⟨rfl,a⟩|⟨g,cap,b,rfl,hb,hg,hc,f,hs,c⟩
 ·exact⟨none,0,by rw[a],λh=>by omega⟩
 ·refine⟨_,_,rfl,λa=>⟨g,0,rfl,a9 hg,λi hi=>?_⟩⟩;have key:∀j u,j<5->(vV l[i])[j]?=some u->W.cell? ⟨g,0+i*5+j,none⟩=some u:=by
   intro j u d e;rw[<-acj l i j hi d,<-c,bA (by omega)]at e;simp only[dT,hg,ae];simpa using e
  exact⟨key 0 _ (by omega) rfl,key 1 _ (by omega) rfl,key 2 _ (by omega) rfl,key 3 _ (by omega) rfl,key 4 _ (by omega) rfl⟩
def AY.reads{W:World}{base:Nat}{v:Value}{l:List nR}(h:AY W base v l):j9 W v l:=SQ h
def CD.rp(C:CD)(g i:Nat):Nat:=j8 C.n4 (C.S g) i
def AY.on{W b:World}{base:Nat}{v:Value}{l:List nR}(h:AY W base v l)(d:Below W.heap.size W b):AY b base v l:=by
 obtain⟨c,h⟩:=h
 rcases h with h|⟨g,cap,a,e1,hb,hg,e⟩
 ·exact⟨c,.inl h⟩
 ·exact⟨c,.inr ⟨g,cap,a,e1,hb,(d.block _ (a9 hg)).trans hg,e⟩⟩
end Go.Proofs
namespace Go.Proofs
open Go.RowKit
def abp{C:CD}(hc:C.cx=0){g:Nat}(hg:g<C.n5)(k:Nat):(nT C g k).1=C.rp g k:=by
 have b:=(s8 hc).1;have hs:=(abR hc hg).1
 induction k with
 |zero=>
  show C.S g=j8 C.n4 (C.S g) 0;unfold j8;rw[ar,Nat.mod_eq_of_lt];unfold CD.S;omega
 |succ k a=>
  show Ff C (nT C g k).1=j8 C.n4 (C.S g) (k+1);rw[a,abm (by omega)];rfl
def alG{C:CD}(hc:C.cx=0){g:Nat}(hg:g<C.n5){r:Nat}(d:r<=C.n4):cmV C.pn C.n4 (C.S g) (C.dl g) r=(nT C g r).2:=by
 have a:=Sa C hc hg
 induction r with
 |zero=>rfl
 |succ r f=>
  have b:=a.lo (r+1) d;have c:=a.hi (r+1) d;have h:=a.lo r (by omega);have i:=a.hi r (by omega);have e:=a.nn _ (a.p4 r);have j:=a.m4;rw[cmV,f (by omega)];simp only[nT]at b c ⊢;rw[abp hc hg]at b c e ⊢;simp only[CD.rp]at b c e ⊢;simp only[CD.pn];rw[eD ((nT C g r).2.1+_) (by omega),eD ((nT C g r).2.1+_+_) (by omega),eD ((nT C g r).2.2+_) (by omega),eD ((nT C g r).2.2+_+_) (by omega)]
def Q3(x:nR):Nat->Int
 |0=>(x.1:Nat)
 |1=>x.2.1
 |2=>x.2.2.1
 |3=>x.2.2.2.1
 |_=>x.2.2.2.2
def afy{C:CD}(hc:C.cx=0){g:Nat}(hg:g<C.n5){r:Nat}(c:r<C.n4)(j:Nat):vsV C.pn C.n4 (C.S g) (C.dl g) r j=Q3 (Nu C g r) j:=by
 have a:=Sa C hc hg;have d:=a.lo r (by omega);have f:=a.hi r (by omega);have b:=a.nn _ (a.p4 r);have h:=a.m4;rw[abp hc hg]at b;have e:=alG hc hg (show r<=C.n4 by omega)
 match j with
 |0=>simp only[vsV,Q3,Nu,abp hc hg];rfl
 |1=>simp only[vsV,Q3,Nu,e]
 |2=>simp only[vsV,Q3,Nu,e]
 |3=>
  simp only[vsV,Q3,Nu,e,abp hc hg];simp only[CD.rp,CD.pn]at b ⊢;exact eD _ (by omega)
 |j+4=>
  simp only[vsV,Q3,Nu,e,abp hc hg];simp only[CD.rp,CD.pn]at b ⊢;exact eD _ (by omega)
def abV{C:CD}(hc:C.cx=0){g:Nat}(hg:g<C.n5){r:Nat}(b:r<C.n4)(j:Nat):0<=Q3 (Nu C g r) j/\Q3 (Nu C g r) j<=1000:=by
 have a:=Sa C hc hg;have c:=a.lo r (by omega);have d:=a.hi r (by omega);have e:=a.nn _ (a.p4 r);have f:=a.m4;have h:=a.p4 r
 match j with
 |0=>simp only[Q3,Nu];omega
 |1=>simp only[Q3,Nu];omega
 |2=>simp only[Q3,Nu];omega
 |3=>simp only[Q3,Nu];omega
 |j+4=>simp only[Q3,Nu];omega
def CD.abW{C:CD}(hc:C.cx=0){g p j:Nat}(hg:g<C.n5)(a:p<C.n4)(b:j<5):C.tab.getD (g*25+p*5+j) 0=Q3 (Nu C g (P2 C.n4 (C.S g) p)) j:=by
 have c:=(s8 hc).2;have d:=mb hc;rw[<-afy hc hg (X0 (by omega))];unfold CD.tab ac7;rw[co,cp,ct (by omega)];simp only[eg,eh];rw[agr,show(g*25+p*5+j) / 25=g by omega,show(g*25+p*5+j) % 25 / 5=p by omega,show(g*25+p*5+j) % 5=j by omega,if_pos ⟨hg,a⟩]
def CD.agA{C:CD}(hc:C.cx=0):Ir C.tab:=by
 have key:∀o,-10000<=C.tab.getD o 0/\C.tab.getD o 0<=10000:=λo=>by
  unfold CD.tab ac7;rw[co,cp]
  rcases aq o 75 with a|a
  ·rw[ct a];simp only[eg,eh];rw[agr]
   split
   ·rename_i b;have:=abV hc b.1 (X0 (np:=C.n4) (s:=C.S (o / 25)) (p:=o % 25 / 5) (by omega)) (o % 5);rw[afy hc b.1 (X0 (by omega))];omega
   ·omega
  ·rw[bL (by simpa using a)];simp
 exact⟨by simp[CD.tab,ac7],λj=>(key j).1,λj=>(key j).2⟩
def afA(C:CD)(g:Nat)(h:0<C.n4):nU C g=(Nu C g (C.n4-1)).2.2.2:=by
 unfold nU;rw[show C.n4=(C.n4-1)+1 by omega,uM,IE];rfl
open Go.Shelf
attribute [local go_sem] Oper.semAt_some
set_option maxRecDepth 100000
set_option maxHeartbeats 40000000
def acp{W:World}{b:Option Addr}{n c:Nat}{l:List nR}(h:j9 W (.slice b n c) l){i:Nat}(hi:i<l.length):∃k o,b=some ⟨k,o,none⟩/\∀a,Below W.heap.size W a->a.cell? ⟨k,o+i*5,none⟩=some (.int .i64 (l[i].1:Nat))/\a.cell? ⟨k,o+i*5+1,none⟩=some (.int .i64 l[i].2.1)/\a.cell? ⟨k,o+i*5+2,none⟩=some (.int .i64 l[i].2.2.1)/\a.cell? ⟨k,o+i*5+3,none⟩=some (.int .i64 l[i].2.2.2.1)/\a.cell? ⟨k,o+i*5+4,none⟩=some (.int .i64 l[i].2.2.2.2):=by
 obtain⟨b',g,e,h⟩:=h;cases e;obtain⟨k,o,e1,d,hc⟩:=h (by omega);refine⟨k,o,e1,λa f=>?_⟩;have e:∀j,a.cell? ⟨k,j,none⟩=W.cell? ⟨k,j,none⟩:=λj=>f.cell (p:=⟨k,j,none⟩) d;simp only[e];exact hc i hi
def ah8{C:CD}{g:Nat}{w:World}(h:C.At w)(hc:C.cx=0)(hg:g<C.n5):Calls PL 6 #[.agg C.val,.int .i64 g] w λe w'=>∃b c,e=.returned (.tuple #[.slice b C.n4 c,.int .i64 0])/\j9 w' (.slice b C.n4 c) (mD C g C.n4)/\Below w.heap.size w w':=by
 refine(ID C g w h hg (mb hc) (by rw[CD.b6,if_pos hc];rfl) (Sa C hc hg)).mono ?_;rintro e w'⟨v,rfl,d,f⟩;have a:=d.reads;have i:=a;obtain⟨b,c,rfl,_⟩:=i;rw[R7]at a⊢;exact⟨b,c,rfl,a,f⟩
def alH{C:CD}{m:Int}{w:World}(h:C.At w)(hc:C.cx=0)(d:bO m 0 999=true):Calls PL 13 #[.agg C.val,.int .i64 m] w λe w'=>∃b c,e=.returned (.tuple #[.slice b C.n4 c,.int .i64 0])/\bB w' (.slice b C.n4 c) (tB C.tab m C.n5 C.n4)/\Below w.heap.size w w':=by
 refine(RO C m C.tab (CD.agA hc) w h (by rw[CD.b6,if_pos hc];rfl) (s8 hc).2 (mb hc) d (λW f=>ahv f hc)).mono ?_;rintro e w'⟨v,rfl,a,g⟩;have i:=a;obtain⟨b,c,rfl,_⟩:=i;rw[Nt]at a⊢;exact⟨b,c,rfl,a,g⟩
def acr(a b x y:Int)(w:World)(h:(-10000<=a/\a<=10000)/\(-10000<=b/\b<=10000)/\(-10000<=x/\x<=10000)/\(-10000<=y/\y<=10000)) :
 Calls PL 61 #[.agg #[.int .i64 a,.int .i64 b],.agg #[.int .i64 x,.int .i64 y]] w (aO (.agg #[.int .i64 (a+x),.int .i64 (b+y)]) w):=by
 obtain⟨⟨a1,a2⟩,⟨c,d⟩,⟨x1,x2⟩,⟨y1,y2⟩⟩:=h;have w1:IntKind.i64.wrap (a+x)=a+x:=eD _ (by omega);have w2:IntKind.i64.wrap (b+y)=b+y:=eD _ (by omega)
 go_enter (fx (by decide) Tryz.func61),Tryz.ntmps61
 go_wp2
 refine aw (v:=.agg #[.int .i64 (a+x),.int .i64 (b+y)]) ?_ rfl ⟨rfl,?_⟩
 ·simp[aB,Tryz.results61,go_sem]
 ·exact(((ab _ _).alloc (ac _) _).alloc (by simp) _).alloc (by simp;omega) _
structure KVs(C:CD)(g:Nat)(w:World)(lo hi:Int)(v:Value)(l:List nR)(W:World):Prop where
 box:W.heap[w.heap.size]?=some (.cells C.val 27)
 PM:W.heap[w.heap.size+1]?=some (.cells #[.string (C.x5 g).1,.int .i64 (C.x5 g).2.1,.int .i64 (C.x5 g).2.2] 51)
 cm:W.heap[w.heap.size+1+1]?=some (.cells #[.int .i64 lo,.int .i64 hi] 36)
 own:AY W (w.heap.size+3) v l
 low:Below w.heap.size w W
def KVs.on{C:CD}{g:Nat}{w W b:World}{c hi:Int}{v:Value}{l:List nR}(h:KVs C g w c hi v l W)(a:Below W.heap.size W b):KVs C g w c hi v l b:=
 ⟨(a.block _ (a9 h.box)).trans h.box,(a.block _ (a9 h.PM)).trans h.PM,(a.block _ (a9 h.cm)).trans h.cm,h.own.on a,ba h.low a⟩
def arV(n0:Nat)(j:Nat)(vs:Nat->Value)(W:World):Prop:=j=11->∃k,vs 11=.pointer (some ⟨k,0,none⟩)/\n0<=k/\W.heap[k]?=some (.cells #[.int .i64 0,.int .i64 0,.int .i64 0,.int .i64 0,.int .i64 0] 68)
def ah9{W:World}{base e size n B o:Nat}{v u:Value}{xs:List Value}(h:W.ownsRow base e size v n xs)(d:B<base):(W.setCell ⟨B,o,none⟩ u).ownsRow base e size v n xs:=by
 obtain⟨b,h⟩:=h
 rcases h with h|⟨g,cap,a,e1,hb,hg,c⟩
 ·exact⟨b,.inl h⟩
 ·exact⟨b,.inr ⟨g,cap,a,e1,hb,(aZ (by omega)).trans hg,c⟩⟩
def acu{W:World}{r:Nat}{x0 x1 x2 x3 x4 u0 u1 u2 u3 u4:Value}{t:aI}(h:W.heap[r]?=some (.cells #[x0,x1,x2,x3,x4] t)):(((((W.setCell ⟨r,0,none⟩ u0).setCell ⟨r,1,none⟩ u1).setCell ⟨r,2,none⟩ u2).setCell ⟨r,3,none⟩ u3).setCell ⟨r,4,none⟩ u4).heap[r]?=some (.cells #[u0,u1,u2,u3,u4] t):=by
 simp only[d8,ea,if_pos,h,eg];rfl
def acv{ops:Array Oper}{rest:List Oper}{o:Oper}{a:Act}{Q:Exit->Act->World->Prop}{w:World}(c:o.guard=none)(s x:aS)
 (d:o.op=.call { callee:=.builtin .append,args:=#[s,x],argTypes:=#[30,30] }) (base:Nat) (v:Value) (l:List nR) (y:nR) (b:Nat) (hs:a.eval s=v) (e:AY w base v l)
 (f:a.eval x=.slice (some ⟨b,0,none⟩) 1 1) (hc:w.heap[b]?=some (.cells (aaW y) 68)) (hl:l.length<=1000) (g:base<=w.heap.size)
 (h:∀v' w',AY w' base v' (l++[y])->w.grownBy w' v.ownBlock->a7 PL ops Q rest (a.put o.dst v') w'):a7 PL ops Q (o::rest) a w:=by
 obtain⟨i,hi,j,k,m⟩:=aJ aaV;refine aP _ c s x 30 d base 68 i _ 5 40 afX hi j k m rfl (by decide) v l.length _ hs e ⟨b,0,none⟩ 1 1 (vV y) f rfl (VW hc) (by simp[vV,ej]) (by simp only[maxLen];omega) (by omega) g λv' w' n p _=>?_;refine h v' w' ?_ p;unfold AY;rw[bC,b1,bo,List.flatMap_nil,bv];exact n
def KD{W:World}{k:Nat}{a b:Value}{t:aI}(h:W.heap[k]?=some (.cells #[a,b] t)):W.cell? ⟨k,0,none⟩=some a/\W.cell? ⟨k,1,none⟩=some b:=by
 constructor<;>simp[dT,h]
def abj{W:World}{r:Nat}{x0 x1 u0 u1:Value}{t:aI}(h:W.heap[r]?=some (.cells #[x0,x1] t)):((W.setCell ⟨r,0,none⟩ u0).setCell ⟨r,1,none⟩ u1).heap[r]?=some (.cells #[u0,u1] t):=by
 simp only[d8,ea,if_pos,h,eg];rfl
def abX(C:CD)(g:Nat)(w:World)(h:C.At w)(hc:C.cx=0)(hg:g<C.n5) :
 Calls PL 33 #[.agg C.val,.int .i64 g] w λe w'=>∃u,e=.returned u/\AY w' w.heap.size u (mD C g C.n4)/\Below w.heap.size w w':=by
 have h4:=s8 hc;have P:=mb hc;have hs:=(abR hc hg).1;have HC:=aa hc;have D:=aa h;have HV:=aa (Sa C hc hg);have s5:=h.s5 (by omega);have s4:=h.s4 (by omega);have Q:Hid (KB C w (w.alloc (.cells C.val 27))):=aa ⟨au _ _,(ab _ _).alloc (ac _) _⟩;clear h hc;obtain⟨h41,h42⟩:=h4
 go_enter (fx (by decide) Tryz.func33),Tryz.ntmps33
 obtain⟨R,T,U,V,f4,O⟩:=bf Q.out.box;rw[s5]at O;obtain⟨g0,g1,g2⟩:(w.alloc (.cells C.val 27)).cell? ⟨C.k5,C.o5+g*3,none⟩=some (.string (C.x5 g).1)/\(w.alloc (.cells C.val 27)).cell? ⟨C.k5,C.o5+g*3+1,none⟩=some (.int .i64 (C.x5 g).2.1)/\(w.alloc (.cells C.val 27)).cell? ⟨C.k5,C.o5+g*3+2,none⟩=some (.int .i64 (C.x5 g).2.2):=⟨(D.out.below Q.out.low).FI g hg,(D.out.below Q.out.low).HU g hg,(D.out.below Q.out.low).J6 g hg⟩
 have i1:(g:Int)<C.n5:=by omega
 go_upto_region 4 with fail
 have a3:∀a b c:Obj,(((w.alloc a).alloc b).alloc c).heap[w.heap.size]?=some a/\(((w.alloc a).alloc b).alloc c).heap[w.heap.size+1]?=some b/\(((w.alloc a).alloc b).alloc c).heap[w.heap.size+1+1]?=some c/\Below w.heap.size w (((w.alloc a).alloc b).alloc c):=λa b c=>by
  have k1:=au w a;have k2:=au (w.alloc a) b;have k3:=au ((w.alloc a).alloc b) c;simp only[dU]at k2 k3;have e:∀(W:World)(o:Obj)(k:Nat)(x:Obj),W.heap[k]?=some x->(W.alloc o).heap[k]?=some x:=λW o k x h=>((ab W.heap.size W).alloc (ac _) o).block k (a9 h) |>.trans h
  exact⟨e _ _ _ _ (e _ _ _ _ k1),e _ _ _ _ k2,k3,(((ab _ _).alloc (ac _) _).alloc (by simp) _).alloc (by simp;omega) _⟩
 obtain⟨W3,E⟩:∃W:World,W=((w.alloc (.cells C.val 27)).alloc (.cells #[.string (C.x5 g).1,.int .i64 (C.x5 g).2.1,.int .i64 (C.x5 g).2.2] 51)).alloc (.cells #[.int .i64 (C.x5 g).2.2,.int .i64 (C.x5 g).2.2] 36):=⟨_,rfl⟩
 have K1:Hid (KVs C g w (nT C g 0).2.1 (nT C g 0).2.2 (.slice none 0 0) [] W3):=aa (by
  rw[E];obtain⟨k1,k2,k3,k4⟩:=a3 (.cells C.val 27) (.cells #[.string (C.x5 g).1,.int .i64 (C.x5 g).2.1,.int .i64 (C.x5 g).2.2] 51) (.cells #[.int .i64 (C.x5 g).2.2,.int .i64 (C.x5 g).2.2] 36)
  exact⟨k1,k2,k3,⟨rfl,.inl ⟨rfl,rfl⟩⟩,k4⟩)
 rw[<-E];clear E a3 R T U V f4 O g0 g1 g2 Q
 go_wp2
 go_loopw [7,8] (λv7 v8 wr=>∃i:Nat,i<=C.n4/\v8=.int .i64 i/\KVs C g w (nT C g i).2.1 (nT C g i).2.2 v7 (mD C g i) wr) (λ_ v8 _=>C.n4-(intOf v8).toNat)
 case atStart=>exact⟨0,ad _,rfl,K1.out⟩
 case round=>
  obtain⟨i,hi,rfl,hK⟩:=hrel;have q:=aa hK;clear hK K1;obtain⟨R,T,U,V,f4,O⟩:=bf q.out.box;rw[s4]at f4;by_cases aH:i<C.n4
  ·have i2:(i:Int)<C.n4:=by omega
   have Y:=q.out.PM;have g1:wr.cell? ⟨w.heap.size+1,1,none⟩=some (.int .i64 (C.x5 g).2.1):=by simp[dT,Y]
   clear Y;obtain⟨r,Z⟩:∃r,r=(nT C g i).1:=⟨_,rfl⟩
   have hrp:r=C.rp g i:=by rw[Z];exact abp HC.out hg i
   have MW:((C.x5 g).2.1+(i:Int)) % (C.n4:Int)=(r:Int):=by
    rw[hrp];unfold CD.rp j8 CD.S;rw[eE,Int.natCast_add,Int.toNat_of_nonneg hs.1]
   have GM:((C.x5 g).2.1+(i:Int)).tmod (C.n4:Int)=(r:Int):=by rw[eF (by omega)];exact MW
   have Tk:r<C.n4:=by rw[Z];exact HV.out.p4 i
   have Q8:(r:Int)<C.n4:=by omega
   have w0:IntKind.i64.wrap ((C.x5 g).2.1+(i:Int))=(C.x5 g).2.1+(i:Int):=eD _ (by omega);have hn0:(C.n4:Int)≠0:=by omega
   have hnz:¬C.n4=0:=by omega
   have Cu:=HV.out.lo i (by omega);have hhi:=HV.out.hi i (by omega);have Va:=HV.out.nn r Tk;have F:Nu C g i=(r,(nT C g i).2.1,(nT C g i).2.2,(nT C g i).2.1+(C.x4 r).n 7,(nT C g i).2.2+(C.x4 r).n 8):=by rw[Nu,<-Z]
   have aF:(nT C g (i+1)).2.1=(nT C g i).2.1+(C.x4 r).n 7+(C.x4 r).n 9/\(nT C g (i+1)).2.2=(nT C g i).2.2+(C.x4 r).n 8+(C.x4 r).n 10:=by rw[nT,<-Z];exact⟨rfl,rfl⟩
   obtain⟨s,Sc⟩:∃x,x=(nT C g i).2.1:=⟨_,rfl⟩
   obtain⟨t,Se⟩:∃x,x=(nT C g i).2.2:=⟨_,rfl⟩
   rw[<-Sc,<-Se]at q F aF;rw[<-Sc]at Cu;rw[<-Se]at hhi;have HVI:=aa F;have y:=aa aF;clear Z hrp F aF Sc Se
   go_upto_region 8 with fail
   try rw[MW]
   clear MW GM w0 hn0 hnz g1 R T U V f4 O;have PL1:Hid (∀W,Calls PL 61 #[.agg #[.int .i64 s,.int .i64 t],.agg #[.int .i64 ((C.x4 r).n 7),.int .i64 ((C.x4 r).n 8)]] W (aO (.agg #[.int .i64 (s+(C.x4 r).n 7),.int .i64 (t+(C.x4 r).n 8)]) W)):=aa λW=>acr _ _ _ _ W (by omega);have H:Hid (∀W,Calls PL 61 #[.agg #[.int .i64 (s+(C.x4 r).n 7),.int .i64 (t+(C.x4 r).n 8)],.agg #[.int .i64 ((C.x4 r).n 9),.int .i64 ((C.x4 r).n 10)]] W (aO (.agg #[.int .i64 (s+(C.x4 r).n 7+(C.x4 r).n 9),.int .i64 (t+(C.x4 r).n 8+(C.x4 r).n 10)]) W)):=aa λW=>acr _ _ _ _ W (by omega);obtain⟨I,vL⟩:∃x,x=s+(C.x4 r).n 7:=⟨_,rfl⟩
   obtain⟨J,yp⟩:∃x,x=t+(C.x4 r).n 8:=⟨_,rfl⟩
   rw[<-vL,<-yp]at PL1 H HVI y;obtain⟨t1,ht1⟩:∃x,x=I+(C.x4 r).n 9:=⟨_,rfl⟩
   obtain⟨t2,Q6⟩:∃x,x=J+(C.x4 r).n 10:=⟨_,rfl⟩
   rw[<-ht1,<-Q6]at H y;clear vL yp ht1 Q6 Cu hhi Va;refine cT 12 (λW=>Below wr.heap.size wr W) (λW W'=>Below W.heap.size W W') (λj=>j != 11) (arV wr.heap.size) rfl (by kernel_rfl) (by kernel_rfl) (λj vs W W' hle h e=>(h e).imp λk K=>⟨K.1,K.2.1,(hle.block _ (a9 K.2.2)).trans K.2.2⟩) (λj o ho vs eX W he hd h e=>by subst e;rw[<-he];exact h rfl) (ab _ _).drew ?_
   iterate 11 (
    apply aY
    case hE=>rfl
    case h=>
     intro vs W d hd;have KW:=q.out.on d;obtain⟨R,T,U,V,f4,O⟩:=bf KW.box;rw[s4]at f4;obtain⟨c0,c1⟩:=KD KW.cm;have p7:=(D.out.below KW.low).dB r Tk 7 (by omega) (by omega);have p8:=(D.out.below KW.low).dB r Tk 8 (by omega) (by omega);clear KW
     go_simp
     first
      |with_reducible exact rfl
      |(go_at_call 61;(with_reducible refine(PL1.out W).mono ?_);rintro e W'⟨rfl,A⟩;exact⟨_,rfl,rfl,ba d A,A⟩)
      |exact⟨rfl,ab _ _⟩
      |exact⟨rfl,d,ab _ _⟩
      |trace_state
    case hb=>exact H9)
   apply eH
   case hE=>rfl
   case hb=>exact H9
   case h=>
    intro vs W d hd
    go_simp
    have A:=(ab W.heap.size W).alloc (ac _) (.cells #[.int .i64 0,.int .i64 0,.int .i64 0,.int .i64 0,.int .i64 0] 68);exact⟨ba d A,A,λ_=>⟨W.heap.size,by simp[upd],d.size,au _ _⟩⟩
   refine cP λvs W d hd=>?_;obtain⟨k,K,Ll,l⟩:=hd 11 (by omega) rfl rfl;have HC1:=aa d;have HX:=aa l;have y0:W.cell? ⟨k,0,none⟩=some (.int .i64 0):=by simp[dT,l]
   have y1:W.cell? ⟨k,1,none⟩=some (.int .i64 0):=by simp[dT,l]
   have y2:W.cell? ⟨k,2,none⟩=some (.int .i64 0):=by simp[dT,l]
   have y3:W.cell? ⟨k,3,none⟩=some (.int .i64 0):=by simp[dT,l]
   have y4:W.cell? ⟨k,4,none⟩=some (.int .i64 0):=by simp[dT,l]
   have fz:=tO l;have arZ:=a9 l;rw[K];clear d hd K l
   go_upto_region 9 with fail
   obtain⟨f,z⟩:∃X:World,X=((((W.setCell ⟨k,0,none⟩ (.int .i64 r)).setCell ⟨k,1,none⟩ (.int .i64 s)).setCell ⟨k,2,none⟩ (.int .i64 t)).setCell ⟨k,3,none⟩ (.int .i64 I)).setCell ⟨k,4,none⟩ (.int .i64 J):=⟨_,rfl⟩
   have L:Hid (Below wr.heap.size wr f):=aa (by
    rw[z]
    exact((((HC1.out.setCell (p:=⟨k,0,none⟩) Ll _).setCell (p:=⟨k,1,none⟩) Ll _).setCell (p:=⟨k,2,none⟩) Ll _).setCell (p:=⟨k,3,none⟩) Ll _).setCell (p:=⟨k,4,none⟩) Ll _)
   have M:Hid (f.heap[k]?=some (.cells #[.int .i64 r,.int .i64 s,.int .i64 t,.int .i64 I,.int .i64 J] 68)):=aa (by rw[z];exact acu HX.out);rw[<-z];clear z y0 y1 y2 y3 y4 fz arZ HC1 HX;have m:=M.out;have y0:f.cell? ⟨k,0,none⟩=some (.int .i64 r):=by simp[dT,m]
   have y1:f.cell? ⟨k,1,none⟩=some (.int .i64 s):=by simp[dT,m]
   have y2:f.cell? ⟨k,2,none⟩=some (.int .i64 t):=by simp[dT,m]
   have y3:f.cell? ⟨k,3,none⟩=some (.int .i64 I):=by simp[dT,m]
   have y4:f.cell? ⟨k,4,none⟩=some (.int .i64 J):=by simp[dT,m]
   clear m;have HO5:Hid (AY f (w.heap.size+3) u7 (mD C g i)):=aa (q.out.own.on L.out);have ao1:w.heap.size+3<=f.heap.size:=by have:=a9 q.out.cm;have:=L.out.size;omega
   go_upto_region 10 with(at_builtin;refine acv rfl _ _ rfl (w.heap.size+3) _ (mD C g i) (r,s,t,I,J) _ rfl (HO5.out.on ((ab _ _).alloc (ac _) _)) rfl (au _ _) (by rw[R7];omega) (by simp;omega) ?_;intro v' w4 fO N)
   have v:Below (w.heap.size+3) f w4:=((ab f.heap.size f).alloc (ac _) _ |>.mono ao1).trans ((ab _ _).grown N (by simp;omega) (cZ q.out.own));have ER:w4.heap[k]?=some (.cells #[.int .i64 r,.int .i64 s,.int .i64 t,.int .i64 I,.int .i64 J] 68):=by
    have hl:=a9 M.out;refine(N.block k (by simp;omega) λe=>?_).trans (((ab f.heap.size f).alloc (ac _) _).block k hl |>.trans M.out);have:=(World.ownsRow.lt q.out.own k e.symm).2;omega
   have K4:Hid (KVs C g w s t v' (mD C g (i+1)) w4):=aa (by
    have P:=q.out.on L.out;have l1:=a9 q.out.cm
    exact⟨(v.block _ (by omega)).trans P.box,(v.block _ (by omega)).trans P.PM,(v.block _ (by omega)).trans P.cm,by rw[uM,HVI.out];exact fO,P.low.trans (v.mono (by omega))⟩)
   have HK4:=aa ER;clear v ER fO N HO5 ao1 y0 y1 y2 y3 y4;refine cT 9 (λW=>Below w4.heap.size w4 W) (λ_ _=>True) (λ_=>true) (λ_ _ _=>True) rfl (by kernel_rfl) (by kernel_rfl) (λ_ _ _ _ _ _=>trivial) (λ_ _ _ _ _ _ _ _ h=>h) (ab _ _).drew ?_
   iterate 9 (
    apply aY
    case hE=>rfl
    case h=>
     intro vs W d hd;have KW:=K4.out.on d;obtain⟨R,T,U,V,f4,O⟩:=bf KW.box;rw[s4]at f4;have l:=(d.block _ (a9 HK4.out)).trans HK4.out;have y3:W.cell? ⟨k,3,none⟩=some (.int .i64 I):=by simp[dT,l]
     have y4:W.cell? ⟨k,4,none⟩=some (.int .i64 J):=by simp[dT,l]
     have p7:=(D.out.below KW.low).dB r Tk 9 (by omega) (by omega);have p8:=(D.out.below KW.low).dB r Tk 10 (by omega) (by omega);clear KW l
     go_simp
     first
      |with_reducible exact rfl
      |(go_at_call 61;(with_reducible refine(H.out W).mono ?_);rintro e W'⟨rfl,A⟩;first|exact⟨_,rfl,rfl,ba d A⟩|exact⟨_,rfl,rfl,ba d A,trivial⟩)
      |exact⟨rfl,d⟩
      |exact⟨rfl,d,trivial⟩
      |trace_state
    case hb=>exact H9)
   refine cP λvs W d hd=>?_;have B:=aa (K4.out.on d);clear d hd K4;obtain⟨c0,c1⟩:=KD B.out.cm;have fz:=tO B.out.cm;have hl2:=a9 B.out.cm
   go_wp2
   refine⟨⟨i+1,aH,by go_num,⟨(tv (by omega)).trans B.out.box,(tv (by omega)).trans B.out.PM,?_,ah9 (ah9 B.out.own (by omega)) (by omega),(B.out.low.setCell (p:=⟨w.heap.size+1+1,0,none⟩) (by simp only;omega) _).setCell (p:=⟨w.heap.size+1+1,1,none⟩) (by simp only;omega) _⟩⟩,by simp only[intOf];omega⟩;rw[y.out.1,y.out.2];exact abj B.out.cm
  ·obtain rfl:i=C.n4:=by omega
   go_wp2
   go_ret
   exact⟨_,rfl,dJ q.out.own (by omega),q.out.low⟩
def N5(C:CD)(g:Nat):Int:=Ej (decide ((nU C g).1<=C.l)) (decide ((nU C g).2 > C.l))
def ado(C:CD)(g:Nat)(w:World)(h:C.At w)(hg:g<C.n5)(m5:C.n5<=3)(hf:C.b6 true=0)(r:yR C g) :
 Calls PL 11 #[.agg C.val,.int .i64 g] w (aO (.tuple #[.int .i64 (N5 C g),.int .i64 0]) w):=by
 have s:=aa h;have H:=aa hf;have I:=aa r;have t:Hid (KB C w (w.alloc (.cells C.val 27))):=aa ⟨au _ _,(ab _ _).alloc (ac _) _⟩;clear h hf r
 go_enter (fx (by decide) cQ),c8
 go_upto_region 1 with fail
 refine cT 10 (KB C w) (Fo C) (λj=>j != 8&&j != 9) (alU C w) rfl (by kernel_rfl) (by kernel_rfl)
  (λi vs W u m h=>⟨λe=>(h.1 e).imp λk a=>⟨a.1,a.2.1,(m k).2 a.2.2⟩,λe=>(h.2 e).imp λk a=>⟨a.1,a.2.1,(m k).1 a.2.2⟩⟩) (λi o x vs J W K hd h=>⟨λe=>?_,λe=>?_⟩) ?_ ?_
 ·subst e;rw[<-K];exact h.1 rfl
 ·subst e;have L:vs 8=J 8:=by
   simp only[bM,bR,bT,ei]at x;subst x;exact hd ⟨8,.data⟩ (cH.2 ⟨by simp,rfl⟩)
  rw[<-L];exact h.2 rfl
 ·exact⟨t.out.box,t.out.low.drew⟩
 ·iterate 8 (
   apply aY
   case hE=>rfl
   case h=>
    intro vs W b hd;obtain⟨y,z,A,B,f4,D⟩:=bf b.box
    go_simp
    first
    |(go_at_call 29;refine(AZ C g hg m5 _).mono ?_;rintro e u⟨rfl,d⟩;exact⟨_,rfl,rfl,b.on d,Fo.on d⟩)
    |(go_at_call 28;refine(kF H.out (s.out.below b.low)).mono ?_;rintro e u⟨rfl,d⟩;exact⟨_,rfl,rfl,b.on d,Fo.on d⟩)
    |exact⟨rfl,Fo.on (ab _ _)⟩
   case hb=>exact H9)
  apply eH
  case hE=>rfl
  case hb=>exact H9
  case h=>
   intro vs W b hd
   go_simp
   have d:=(ab W.heap.size W).alloc (ac _) (.cells #[.int .i64 0,.int .i64 0,.slice none 0 0,.slice none 0 0,.slice none 0 0,.slice none 0 0] 74)
   first
   |exact⟨b.on d,Fo.on d,⟨λ_=>⟨W.heap.size,by simp[upd],b.lt,_,_,_,_,_,_,au W _⟩,λe=>absurd e (by decide)⟩⟩
  apply eH
  case hE=>rfl
  case hb=>exact H9
  case h=>
   intro vs W b hd;obtain⟨k,a,E,x0,x1,x2,x3,x4,O,c⟩:=(hd ⟨8,.data⟩ (cH.2 ⟨by simp,rfl⟩) rfl).1 rfl;obtain⟨y,z,A,B,f4,D⟩:=bf c;have P:=tO c;rw[a]
   go_simp
   refine⟨⟨(cM (by omega)).trans b.box,bc b.low (by omega) _ _ _ _ _ _⟩,λq=>?_,⟨λe=>absurd e (by decide),λ_=>⟨k,by simp[upd,a],E,nC c⟩⟩⟩;by_cases p:q=k
   ·subst p;exact⟨λ_=>nC c,λ_=>⟨_,_,_,_,_,_,nC c⟩⟩
   ·exact⟨λe=>(cM p).trans e,fun⟨_,_,_,_,_,_,e⟩=>⟨_,_,_,_,_,_,(cM p).trans e⟩⟩
  refine cP λvs W b hd=>?_;obtain⟨k,a,E,c⟩:=(hd 9 (by omega) rfl).2 rfl;rw[a];obtain⟨y,z,A,B,f4,D⟩:=bf c;have Q:=aa c;have f:=aa b;clear c b hd a;by_cases e1:(nU C g).1<=C.l<;>by_cases M:(nU C g).2 > C.l
  all_goals (
   go_wp2_with (first
    |(go_at_call 34;refine(Lm C g I.out _ (s.out.below f.out.low)).mono ?_;rintro e w3⟨rfl,n⟩;obtain⟨d0,d1,d2,d3,d4,d5⟩:=bf ((n.block _ (a9 f.out.box)).trans f.out.box);have R:=a9 ((n.block _ (a9 f.out.box)).trans f.out.box);have N:=aa n;clear n)
    |(go_at_call 36;refine(yH _ _ _).mono ?_;rintro e w4⟨rfl,rfl⟩)))
  all_goals (
   have F:=ba f.out.low N.out;refine aw (v:=.tuple #[.int .i64 (N5 C g),.int .i64 0]) ?_ rfl ⟨rfl,F.alloc F.size _⟩
   simp[N5,e1,M,aB,da,go_sem])
def abc{C:CD}{g:Nat}{w:World}(h:C.At w)(hc:C.cx=0)(hg:g<C.n5):Calls PL 33 #[.agg C.val,.int .i64 g] w λe w'=>∃b c,e=.returned (.slice b C.n4 c)/\j9 w' (.slice b C.n4 c) (mD C g C.n4)/\Below w.heap.size w w':=by
 refine(abX C g w h hc hg).mono ?_;rintro e w'⟨u,rfl,d,f⟩;have a:=d.reads;have i:=a;obtain⟨b,c,rfl,_⟩:=i;rw[R7]at a⊢;exact⟨b,c,rfl,a,f⟩
def abC(C:CD)(g:Nat)(w:World)(h:C.At w)(hc:C.cx=0)(hg:g<C.n5) :
 Calls PL 35 #[.agg C.val,.int .i64 g] w (aO (.agg #[.int .i64 (nU C g).1,.int .i64 (nU C g).2]) w):=by
 obtain⟨u,x⟩:=s8 hc;have y:=aa h;have VO:Hid (∀W,C.At W->Calls PL 33 #[.agg C.val,.int .i64 g] W λe w'=>∃b c,e=.returned (.slice b C.n4 c)/\j9 w' (.slice b C.n4 c) (mD C g C.n4)/\Below W.heap.size W w'):=aa λW z=>abc z hc hg;obtain⟨m,l⟩:∃m,C.n4=m+1:=⟨C.n4-1,by omega⟩
 have n:nU C g=(Nu C g m).2.2.2:=by have:=afA C g (by omega);rw[this,l];rfl
 have f:Hid (KE C w ((w.alloc (.cells C.val 27)).alloc (.cells #[.int .i64 0,.int .i64 0] 36))):=aa ⟨(((ab (w.alloc (.cells C.val 27)).heap.size _).alloc (ac _) _).block _ (by simp)).trans (au w _),by
  have q:=au (w.alloc (.cells C.val 27)) (.cells #[.int .i64 0,.int .i64 0] 36);rw[dU]at q
  exact q,((ab _ _).alloc (ac _) _).alloc (by simp) _⟩
 have A:IntKind.i64.wrap ((C.n4:Int)-1)=(m:Int):=by rw[eD _ (by omega)];omega
 have a:m<C.n4:=by omega
 have B:(m:Int)<C.n4:=by omega
 have D:=aa n;clear h hc l n
 go_enter (fx (by decide) Tryz.func35),Tryz.ntmps35
 go_upto_region 1 with fail
 obtain⟨F,H,I,J,f4,K⟩:=bf f.out.box
 go_upto_region 2 with(go_at_call 33;(with_reducible refine(VO.out _ (y.out.below f.out.low)).mono ?_);rintro e w1⟨b,c,rfl,r,s⟩;have d:=aa (f.out.on s);have L:=aa r;clear r s F H I J f4 K)
 obtain⟨k,o,e1,j⟩:=acp L.out (i:=m) (by rw[R7];exact a);have t:(mD C g C.n4)[m]'(by rw[R7];exact a)=Nu C g m:=by simp[mD]
 rw[t]at j;obtain⟨c0,c1,P,c3,Q⟩:=j w1 (ab _ _);subst e1;obtain⟨y0,y1⟩:=KD d.out.res;have M:=tO d.out.res;have N:=a9 d.out.res;clear j t
 go_wp2
 refine aw (v:=.agg #[.int .i64 (nU C g).1,.int .i64 (nU C g).2]) ?_ rfl ⟨rfl,(d.out.low.setCell (p:=⟨w.heap.size+1,0,none⟩) (by simp only;omega) _).setCell (p:=⟨w.heap.size+1,1,none⟩) (by simp only;omega) _⟩;have O:=abj (u0:=.int .i64 (nU C g).1) (u1:=.int .i64 (nU C g).2) d.out.res;obtain⟨a0,a1⟩:=KD O;have E:=D.out;clear M;simp only[E]at a0 a1 ⊢;simp[aB,Tryz.results35,go_sem,a0,a1]
def aaf(x0 x1 a b:Int):Int:=if a<=x0/\x1<=b then 1 else if x1<a\/b<x0 then 2 else 0
def adI(x0 x1 a b:Int)(w:World):Calls PL 37 #[.agg #[.int .i64 x0,.int .i64 x1],.agg #[.int .i64 a,.int .i64 b]] w (aO (.int .i64 (aaf x0 x1 a b)) w):=by
 have c:Hid (Below w.heap.size w ((w.alloc (.cells #[.int .i64 x0,.int .i64 x1] 36)).alloc (.cells #[.int .i64 a,.int .i64 b] 36))):=aa (((ab _ _).alloc (ac _) _).alloc (by simp) _);obtain⟨v,hv⟩:∃v,v=aaf x0 x1 a b:=⟨_,rfl⟩
 rw[<-hv];unfold aaf at hv;by_cases f:a<=x0
 ·by_cases g:x1<=b
  ·obtain rfl:v=1:=by rw[hv,if_pos ⟨f,g⟩]
   clear hv
   go_enter (fx (by decide) db),dd
   go_wp2
   go_ret
   exact⟨rfl,c.out⟩
  ·rw[if_neg (by omega)]at hv;by_cases d:x1<a
   ·obtain rfl:v=2:=by rw[hv,if_pos (.inl d)]
    clear hv
    go_enter (fx (by decide) db),dd
    go_wp2
    go_ret
    exact⟨rfl,c.out⟩
   ·by_cases e:b<x0
    ·obtain rfl:v=2:=by rw[hv,if_pos (.inr e)]
     clear hv
     go_enter (fx (by decide) db),dd
     go_wp2
     go_ret
     exact⟨rfl,c.out⟩
    ·obtain rfl:v=0:=by rw[hv,if_neg (by omega)]
     clear hv
     go_enter (fx (by decide) db),dd
     go_wp2
     go_ret
     exact⟨rfl,c.out⟩
 ·rw[if_neg (by omega)]at hv;by_cases d:x1<a
  ·obtain rfl:v=2:=by rw[hv,if_pos (.inl d)]
   clear hv
   go_enter (fx (by decide) db),dd
   go_wp2
   go_ret
   exact⟨rfl,c.out⟩
  ·by_cases e:b<x0
   ·obtain rfl:v=2:=by rw[hv,if_pos (.inr e)]
    clear hv
    go_enter (fx (by decide) db),dd
    go_wp2
    go_ret
    exact⟨rfl,c.out⟩
   ·obtain rfl:v=0:=by rw[hv,if_neg (by omega)]
    clear hv
    go_enter (fx (by decide) db),dd
    go_wp2
    go_ret
    exact⟨rfl,c.out⟩
def abd(C:CD)(n:Int)(w:World)(h:C.At w):Calls PL 32 #[.agg C.val,.int .i64 n] w (aO (.int .i64 (C.b6 (bO n 0 (C.n5-1)))) w):=by
 have d:=λw1 g=>h.below (w':=w1) g;have f:=aa d;have m5:=h.m5;clear d h;by_cases hc:C.cx=0
 ·have b:=aa hc;clear hc;obtain⟨z,c⟩:∃z,z=bO n 0 (C.n5-1):=⟨_,rfl⟩
  have i:Hid (∀W,Calls PL 60 #[.int .i64 n,.int .i64 0,.int .i64 (C.n5-1)] W λe w'=>e=.returned (.bool z)/\w'=W):=aa λW=>by rw[c];exact rJ n 0 (C.n5-1) W
  rw[<-c];clear c;cases z
  all_goals
   go_enter (fx (by decide) df),di
   go_wp2_with (first|(go_at_call 41;refine(EH (f.out _ ((ab _ _).alloc (ac _) _)) b.out).mono ?_;rintro e w1⟨rfl,a⟩;obtain⟨j,k⟩:=cW a)|(go_at_call 60;refine(i.out _).mono ?_;rintro e w'⟨rfl,rfl⟩))
   go_ret
   exact⟨aC (by simp[CD.b6,b.out]),ba ((ab _ _).alloc (ac _) _) a⟩
 ·have b:=aa hc;have l:(C.cx != 0)=true:=by simpa using hc
  clear hc
  go_enter (fx (by decide) df),di
  go_wp2_with (go_at_call 41;refine(rK C _ (f.out _ ((ab _ _).alloc (ac _) _))).mono ?_;rintro e w1⟨rfl,a⟩;obtain⟨j,k⟩:=cW a)
  go_ret
  exact⟨aC (by simp[CD.b6,b.out]),ba ((ab _ _).alloc (ac _) _) a⟩
def abD(m:Int)(w:World):Calls PL 42 #[.int .i64 m] w λe w'=>e=.returned (.int .i64 (if bO m 0 999 then 0 else 1))/\w=w':=by
 obtain⟨z,a⟩:∃z,z=bO m 0 999:=⟨_,rfl⟩
 have b:Hid (∀W,Calls PL 60 #[.int .i64 m,.int .i64 0,.int .i64 999] W λe w'=>e=.returned (.bool z)/\w'=W):=aa λW=>by rw[a];exact rJ m 0 999 W
 rw[<-a];clear a;cases z
 all_goals
  go_enter (fx (by decide) Tryz.func42),Tryz.ntmps42
  go_wp2_with (go_at_call 60;refine(b.out _).mono ?_;rintro e w'⟨rfl,rfl⟩)
  go_ret
  exact⟨rfl,rfl⟩
structure KVo(C:CD)(w W:World):Prop where
 box:W.heap[w.heap.size]?=some (.cells C.val 27)
 res:W.heap[w.heap.size+1]?=some (.cells #[.int .i64 0,.int .i64 0,.int .i64 0,.int .i64 0,.int .i64 0] 68)
 low:Below w.heap.size w W
def KVo.on{C:CD}{w W b:World}(h:KVo C w W)(a:Below W.heap.size W b):KVo C w b:=
 ⟨(a.block _ (a9 h.box)).trans h.box,(a.block _ (a9 h.res)).trans h.res,ba h.low a⟩
def afB(C:CD)(l:List nR)(x:nR)(q:Nat)(j:Nat)(vs:Nat->Value)(W:World):Prop:=
 (j=2->∃b c,vs 2=.slice b C.n4 c/\j9 W (.slice b C.n4 c) l)/\
 (j=15->∃k o,vs 15=.pointer (some ⟨k,o,none⟩)/\k<W.heap.size/\W.cell? ⟨k,o,none⟩=some (.int .i64 (x.1:Nat))/\W.cell? ⟨k,o+1,none⟩=some (.int .i64 x.2.1)/\W.cell? ⟨k,o+2,none⟩=some (.int .i64 x.2.2.1)/\W.cell? ⟨k,o+3,none⟩=some (.int .i64 x.2.2.2.1)/\W.cell? ⟨k,o+4,none⟩=some (.int .i64 x.2.2.2.2))
def afB.le{C:CD}{l:List nR}{x:nR}{q j:Nat}{vs:Nat->Value}{W f:World}(h:afB C l x q j vs W)(g:Below W.heap.size W f):afB C l x q j vs f:=
 ⟨λe=>by obtain⟨b,c,i,d⟩:=h.1 e;exact⟨b,c,i,d.on g⟩,λe=>by
   obtain⟨k,o,i,d,m,n,r,s,t⟩:=h.2 e;have a:∀p,f.cell? ⟨k,p,none⟩=W.cell? ⟨k,p,none⟩:=λp=>g.cell (p:=⟨k,p,none⟩) d
   exact⟨k,o,i,ag d g.size,(a _).trans m,(a _).trans n,(a _).trans r,(a _).trans s,(a _).trans t⟩⟩
def acw(C:CD)(g p:Nat)(w:World)(h:C.At w)(hc:C.cx=0)(hg:g<C.n5)(hp:p<C.n4) :
 Calls PL 72 #[.agg C.val,.int .i64 g,.int .i64 p] w (aO (.agg (aaW (Nu C g (P2 C.n4 (C.S g) p)))) w):=by
 obtain⟨T,U⟩:=s8 hc;have hs:=(abR hc hg).1;have N:=aa h;have V:=aa (h.s5 (by omega));obtain⟨q,r⟩:∃q,q=P2 C.n4 (C.S g) p:=⟨_,rfl⟩
 have l:q<C.n4:=by rw[r];exact X0 (by omega)
 have X:((p:Int)-(C.x5 g).2.1+(C.n4:Int)).tmod (C.n4:Int)=(q:Int):=by
  rw[eF (by omega),r,P2,CD.S,eE];congr 1;omega
 have w1:IntKind.i64.wrap ((p:Int)-(C.x5 g).2.1)=(p:Int)-(C.x5 g).2.1:=eD _ (by omega);have w2:IntKind.i64.wrap ((p:Int)-(C.x5 g).2.1+(C.n4:Int))=(p:Int)-(C.x5 g).2.1+(C.n4:Int):=eD _ (by omega);have Y:(C.n4:Int)≠0:=by omega
 have Z:¬C.n4=0:=by omega
 have i1:(g:Int)<C.n5:=by omega
 have i2:(q:Int)<C.n4:=by omega
 rw[<-r];obtain⟨x,y⟩:∃x,x=Nu C g q:=⟨_,rfl⟩
 rw[<-y];have z:=aa y;have VO:Hid (∀W,C.At W->Calls PL 33 #[.agg C.val,.int .i64 g] W λe w'=>∃b c,e=.returned (.slice b C.n4 c)/\j9 w' (.slice b C.n4 c) (mD C g C.n4)/\Below W.heap.size W w'):=aa λW hW=>abc hW hc hg
 have O:Hid (KVo C w ((w.alloc (.cells C.val 27)).alloc (.cells #[.int .i64 0,.int .i64 0,.int .i64 0,.int .i64 0,.int .i64 0] 68))):=aa ⟨(((ab (w.alloc (.cells C.val 27)).heap.size _).alloc (ac _) _).block _ (by simp)).trans (au w _),by
  have P:=au (w.alloc (.cells C.val 27)) (.cells #[.int .i64 0,.int .i64 0,.int .i64 0,.int .i64 0,.int .i64 0] 68);rw[dU]at P
  exact P,((ab _ _).alloc (ac _) _).alloc (by simp) _⟩
 clear h hc r y;obtain⟨x0,x1,x2,x3,x4⟩:=x
 go_enter (fx (by decide) Tryz.func72),Tryz.ntmps72
 obtain⟨A,B,D,E,f4,s⟩:=bf O.out.box
 go_upto_region 2 with fail
 clear A B D E f4 s;refine cT 17 (KVo C w) (λW F=>Below W.heap.size W F) (λj=>j != 2&&j != 15) (afB C (mD C g C.n4) (x0,x1,x2,x3,x4) q) rfl (by kernel_rfl) (by kernel_rfl) (λj vs W F H h=>h.le H) (λj o ho vs eX W Q hd h=>⟨λe=>by subst e;rw[<-Q];exact h.1 rfl,λe=>by subst e;rw[<-Q];exact h.2 rfl⟩) ?_ ?_
 ·exact O.out.on (ab _ _).drew
 ·iterate 2 (
   apply aY
   case hE=>rfl
   case h=>
    intro vs W a hd;obtain⟨A,B,D,E,f4,s⟩:=bf a.box
    go_simp
    first
     |with_reducible exact rfl
     |exact⟨rfl,ab _ _⟩
     |trace_state
   case hb=>exact H9)
  apply eH
  case hE=>rfl
  case hb=>exact H9
  case h=>
   intro vs W a hd
   go_simp
   go_at_call 33
   (with_reducible refine(VO.out _ (N.out.below a.low)).mono ?_)
   rintro e F⟨b,c,rfl,t,R⟩;exact⟨_,rfl,a.on R,R,⟨λ_=>⟨b,c,by simp[upd],t⟩,λe=>absurd e (by decide)⟩⟩
  iterate 12 (
   apply aY
   case hE=>rfl
   case h=>
    intro vs W a hd;obtain⟨A,B,D,E,f4,s⟩:=bf a.box;rw[V.out]at s;have g1:=(N.out.below a.low).HU g hg
    go_simp
    first
     |with_reducible exact rfl
     |exact⟨rfl,ab _ _⟩
     |trace_state
   case hb=>exact H9)
  apply eH
  case hE=>rfl
  case hb=>exact H9
  case h=>
   intro vs W a hd;obtain⟨b,c,h2,t⟩:=(hd ⟨2,.data⟩ (cH.2 ⟨by simp,rfl⟩) rfl).1 rfl;obtain⟨k,o,e1,u⟩:=acp t (i:=q) (by rw[R7];exact l);have m:(mD C g C.n4)[q]'(by rw[R7];exact l)=Nu C g q:=by simp[mD]
   rw[m,<-z.out]at u;have I:=aa (u W (ab _ _));have J:Hid (k<W.heap.size):=by
    refine aa ?_;have:=(u W (ab _ _)).1
    rcases aq k W.heap.size with K|K
    ·exact K
    ·simp[dT,Array.getElem?_eq_none K]at this
   subst e1;rw[h2];have HC:=aa a;clear a hd t u m
   go_simp
   refine⟨HC.out,ab _ _,⟨λe=>absurd e (by decide),λ_=>⟨k,o+q*5,by simp[upd],J.out,I.out⟩⟩⟩
  apply aY (v:=.agg #[.int .i64 (x0:Nat),.int .i64 x1,.int .i64 x2,.int .i64 x3,.int .i64 x4])
  case hE=>rfl
  case hb=>exact H9
  case h=>
   intro vs W a hd;obtain⟨k,o,L,_,c0,c1,c2,c3,c4⟩:=(hd ⟨15,.data⟩ (cH.2 ⟨by simp,rfl⟩) rfl).2 rfl;simp only at c0 c1 c2 c3 c4;rw[L]
   go_simp
   first|exact ab _ _|exact⟨a,ab _ _⟩
  refine cP λvs W a hd=>?_;have M:=aa a;clear a hd;have d:=M.out.res;have y0:W.cell? ⟨w.heap.size+1,0,none⟩=some (.int .i64 0):=by simp[dT,d]
  have y1:W.cell? ⟨w.heap.size+1,1,none⟩=some (.int .i64 0):=by simp[dT,d]
  have y2:W.cell? ⟨w.heap.size+1,2,none⟩=some (.int .i64 0):=by simp[dT,d]
  have y3:W.cell? ⟨w.heap.size+1,3,none⟩=some (.int .i64 0):=by simp[dT,d]
  have y4:W.cell? ⟨w.heap.size+1,4,none⟩=some (.int .i64 0):=by simp[dT,d]
  have fz:=tO d;have hl2:=a9 d;clear d
  go_wp2
  have f:=acu (u0:=.int .i64 (x0:Nat)) (u1:=.int .i64 x1) (u2:=.int .i64 x2) (u3:=.int .i64 x3) (u4:=.int .i64 x4) M.out.res;have hl:=((((M.out.low.setCell (p:=⟨w.heap.size+1,0,none⟩) (by simp only;omega) (.int .i64 (x0:Nat))).setCell (p:=⟨w.heap.size+1,1,none⟩) (by simp only;omega) (.int .i64 x1)).setCell (p:=⟨w.heap.size+1,2,none⟩) (by simp only;omega) (.int .i64 x2)).setCell (p:=⟨w.heap.size+1,3,none⟩) (by simp only;omega) (.int .i64 x3)).setCell (p:=⟨w.heap.size+1,4,none⟩) (by simp only;omega) (.int .i64 x4);generalize((((W.setCell ⟨w.heap.size+1,0,none⟩ (.int .i64 (x0:Nat))).setCell ⟨w.heap.size+1,1,none⟩ (.int .i64 x1)).setCell ⟨w.heap.size+1,2,none⟩ (.int .i64 x2)).setCell ⟨w.heap.size+1,3,none⟩ (.int .i64 x3)).setCell ⟨w.heap.size+1,4,none⟩ (.int .i64 x4)=n at f hl ⊢;refine aw (v:=.agg (aaW (x0,x1,x2,x3,x4))) ?_ rfl ⟨rfl,hl⟩;have a0:n.cell? ⟨w.heap.size+1,0,none⟩=some (.int .i64 (x0:Nat)):=by simp[dT,f]
  have a1:n.cell? ⟨w.heap.size+1,1,none⟩=some (.int .i64 x1):=by simp[dT,f]
  have a2:n.cell? ⟨w.heap.size+1,2,none⟩=some (.int .i64 x2):=by simp[dT,f]
  have a3:n.cell? ⟨w.heap.size+1,3,none⟩=some (.int .i64 x3):=by simp[dT,f]
  have a4:n.cell? ⟨w.heap.size+1,4,none⟩=some (.int .i64 x4):=by simp[dT,f]
  simp[aB,Tryz.results72,go_sem,aaW,a0,a1,a2,a3,a4]
def adS(C:CD)(p:Nat)(m:Int)(w:World)(h:C.At w)(hc:C.cx=0)(k:p<C.n4) :
 Calls PL 43 #[.agg C.val,.int .i64 p,.int .i64 m] w (aO (.int .i64 (kU C.tab p m C.n5 0 false)) w):=by
 have h5:=mb hc;have T:=aa h;have VO:Hid (∀W g,C.At W->g<C.n5->Calls PL 72 #[.agg C.val,.int .i64 (g:Nat),.int .i64 p] W (aO (.agg (aaW (Nu C g (P2 C.n4 (C.S g) p)))) W)):=aa λW g A hg=>acw C g p W A hc hg k;have U:Hid (∀g,g<C.n5->C.tab.getD (g*25+p*5+1) 0=(Nu C g (P2 C.n4 (C.S g) p)).2.1/\C.tab.getD (g*25+p*5+2) 0=(Nu C g (P2 C.n4 (C.S g) p)).2.2.1/\C.tab.getD (g*25+p*5+3) 0=(Nu C g (P2 C.n4 (C.S g) p)).2.2.2.1/\C.tab.getD (g*25+p*5+4) 0=(Nu C g (P2 C.n4 (C.S g) p)).2.2.2.2):=aa λg hg=>⟨CD.abW hc hg k (j:=1) (by omega),CD.abW hc hg k (j:=2) (by omega),CD.abW hc hg k (j:=3) (by omega),CD.abW hc hg k (j:=4) (by omega)⟩
 have V:Hid (KB C w (w.alloc (.cells C.val 27))):=aa ⟨au _ _,(ab _ _).alloc (ac _) _⟩;clear h hc
 go_enter (fx (by decide) Tryz.func43),Tryz.ntmps43
 go_wp2
 go_loopw [7,8] (λv7 B wr=>∃(g:Nat)(can:Bool),g<=C.n5/\B=.int .i64 g/\v7=.int .i64 (if can then 0 else 2)/\kU C.tab p m C.n5 0 false=kU C.tab p m (C.n5-g) g can/\KB C w wr) (λ_ B _=>C.n5-(intOf B).toNat)
 case atStart=>exact⟨0,false,ad _,rfl,rfl,rfl,V.out⟩
 case round=>
  obtain⟨g,can,hg,rfl,rfl,H,I⟩:=hrel;have t:=aa I;have J:=aa H;clear I H;obtain⟨Y,Z,f2,f3,f4,f5⟩:=bf t.out.box;obtain⟨o,D⟩:∃o:Int,o=if can then 0 else 2:=⟨_,rfl⟩
  rw[<-D];have l:=aa D;clear D;by_cases c:g<C.n5
  ·have i1:(g:Int)<C.n5:=by omega
   obtain⟨t1,t2,K,L⟩:=U.out g c;have V2:=VO.out;obtain⟨x,E⟩:∃x,x=Nu C g (P2 C.n4 (C.S g) p):=⟨_,rfl⟩
   have V3:Hid (∀W,C.At W->Calls PL 72 #[.agg C.val,.int .i64 (g:Nat),.int .i64 p] W (aO (.agg (aaW x)) W)):=aa λW A=>by rw[E];exact V2 W g A c
   have M:kU C.tab p m (C.n5-g) g can=if bO m x.2.2.1 (x.2.2.2.1-1) then 1 else kU C.tab p m (C.n5-(g+1)) (g+1) (can||bO m x.2.1 (x.2.2.2.2-1)):=by
    rw[show C.n5-g=(C.n5-(g+1))+1 by omega,kU,t1,t2,K,L,E]
   have N:=aa (J.out.trans M);clear M t1 t2 K L V2 E;obtain⟨x0,x1,x2,x3,x4⟩:=x;simp only[aaW]at V3
   go_upto_region 6 with(go_at_call 72;(with_reducible refine(V3.out _ (T.out.below t.out.low)).mono ?_);rintro e w2⟨rfl,O⟩;have K2:=aa (t.out.on O);clear O Y Z f2 f3 f4 f5)
   have P:Hid ((w2.alloc (.cells #[.int .i64 (x0:Nat),.int .i64 x1,.int .i64 x2,.int .i64 x3,.int .i64 x4] 68)).heap[w2.heap.size]?=some (.cells #[.int .i64 (x0:Nat),.int .i64 x1,.int .i64 x2,.int .i64 x3,.int .i64 x4] 68)):=aa (au _ _);have d:Hid (KB C w (w2.alloc (.cells #[.int .i64 (x0:Nat),.int .i64 x1,.int .i64 x2,.int .i64 x3,.int .i64 x4] 68))):=aa (K2.out.on ((ab _ _).alloc (ac _) _));obtain⟨u,n⟩:∃X:World,X=w2.alloc (.cells #[.int .i64 (x0:Nat),.int .i64 x1,.int .i64 x2,.int .i64 x3,.int .i64 x4] 68):=⟨_,rfl⟩
   rw[<-n]at P d ⊢;clear n;have q:=P.out;have y1:u.cell? ⟨w2.heap.size,1,none⟩=some (.int .i64 x1):=by simp[dT,q]
   have y2:u.cell? ⟨w2.heap.size,2,none⟩=some (.int .i64 x2):=by simp[dT,q]
   have y3:u.cell? ⟨w2.heap.size,3,none⟩=some (.int .i64 x3):=by simp[dT,q]
   have y4:u.cell? ⟨w2.heap.size,4,none⟩=some (.int .i64 x4):=by simp[dT,q]
   clear q;have r:Hid (∀z:Bool,bO m x2 (x3-1)=false->bO m x1 (x4-1)=z->kU C.tab p m C.n5 0 false=kU C.tab p m (C.n5-(g+1)) (g+1) (can||z)):=aa λz i v=>by
    have:=N.out;simp only[i,v,Bool.false_eq_true,if_false]at this;exact this
   by_cases a:x2<=m/\m<x3
   ·obtain⟨i,v⟩:=a;have hy:kU C.tab p m C.n5 0 false=1:=by
     have:=N.out;simp only[show bO m x2 (x3-1)=true by simp[bO];omega,if_true]at this;exact this
    have HY:=aa hy;clear hy
    go_wp2
    go_ret
    refine⟨?_,d.out.low⟩;rw[HY.out];rfl
   ·have Q:bO m x2 (x3-1)=false:=by rw[<-et,abg];omega
    have s:=aa Q;clear Q;by_cases b:x1<=m/\m<x4
    ·obtain⟨y,R⟩:=b;have f:=aa (r.out true s.out (by simp[bO];omega));by_cases i:x2<=m
     ·have v:¬m<x3:=λh=>a ⟨i,h⟩;clear a
      go_wp2
      exact⟨⟨g+1,true,c,by go_num,rfl,by rw[f.out,eu],d.out⟩,by simp only[intOf];omega⟩
     ·clear a
      go_wp2
      exact⟨⟨g+1,true,c,by go_num,rfl,by rw[f.out,eu],d.out⟩,by simp only[intOf];omega⟩
    ·have f:=aa (r.out false s.out (by rw[<-et,abg];omega));by_cases i:x2<=m
     ·have v:¬m<x3:=λh=>a ⟨i,h⟩;by_cases y:x1<=m
      ·have R:¬m<x4:=λh=>b ⟨y,h⟩;clear a b
       go_wp2
       exact⟨⟨g+1,can,c,by go_num,by rw[l.out],by rw[f.out,ev],d.out⟩,by simp only[intOf];omega⟩
      ·clear a b
       go_wp2
       exact⟨⟨g+1,can,c,by go_num,by rw[l.out],by rw[f.out,ev],d.out⟩,by simp only[intOf];omega⟩
     ·by_cases y:x1<=m
      ·have R:¬m<x4:=λh=>b ⟨y,h⟩;clear a b
       go_wp2
       exact⟨⟨g+1,can,c,by go_num,by rw[l.out],by rw[f.out,ev],d.out⟩,by simp only[intOf];omega⟩
      ·clear a b
       go_wp2
       exact⟨⟨g+1,can,c,by go_num,by rw[l.out],by rw[f.out,ev],d.out⟩,by simp only[intOf];omega⟩
  ·obtain rfl:g=C.n5:=by omega
   have e:kU C.tab p m C.n5 0 false=o:=by rw[J.out,Nat.sub_self,kU,l.out];cases can<;>rfl
   have F:=aa e;clear e
   go_wp2
   go_ret
   refine⟨?_,t.out.low⟩;rw[F.out];rfl
def abq(C:CD)(g:Int)(m5:C.n5<=20)(w:World):Calls PL 29 #[.agg C.val,.int .i64 g] w λe w'=>e=.returned (.bool (bO g 0 (C.n5-1)))/\Below w.heap.size w w':=by
 obtain⟨b,c,d,f,f4,h⟩:=bf (au w (.cells C.val 27));have a:=aa (((ab w.heap.size w).alloc (ac _) (.cells C.val 27)))
 go_enter (fx (by decide) Tryz.func29),Tryz.ntmps29
 go_wp2_with (go_at_call 44;refine(ij _ _ _ _).mono ?_;rintro e w'⟨rfl,rfl⟩)
 go_ret
 exact⟨rfl,a.out⟩
def abY{C:CD}{b:Bool}(h:C.b6 b≠0):C.sX b=.tuple #[.agg #[.int .i64 0,.int .i64 0,.slice none 0 0,.slice none 0 0,.slice none 0 0,.slice none 0 0],.int .i64 (C.b6 b)]:=by
 simp[CD.sX,h,CD.zero]
def LeZ(W a:World):Prop:=∀k,Six W k->Six a k
def LeZ.on{W a:World}(h:Below W.heap.size W a):LeZ W a:=λk⟨x0,x1,x2,x3,x4,b,e⟩=>⟨x0,x1,x2,x3,x4,b,(h.block _ (a9 e)).trans e⟩
def alM(n0:Nat)(j:Nat)(vs:Nat->Value)(W:World):Prop:=j=8->∃k,vs 8=.pointer (some ⟨k,0,none⟩)/\n0<k/\Six W k
def acz(C:CD)(n:Int)(w:World)(h:C.At w)(hf:C.b6 (bO n 0 (C.n5-1))≠0) :
 Calls PL 6 #[.agg C.val,.int .i64 n] w (aO (.tuple #[.slice none 0 0,.int .i64 (C.b6 (bO n 0 (C.n5-1)))]) w):=by
 have s:=aa h;have m5:=h.m5;obtain⟨z,d⟩:∃z,z=bO n 0 (C.n5-1):=⟨_,rfl⟩
 have IG:Hid (∀W,Calls PL 29 #[.agg C.val,.int .i64 n] W λe w'=>e=.returned (.bool z)/\Below W.heap.size W w'):=aa λW=>by rw[d];exact abq C n m5 W
 rw[<-d]at hf ⊢;obtain⟨f,g⟩:∃x,x=C.b6 z:=⟨_,rfl⟩
 have t:Hid (∀W,C.At W->Calls PL 28 #[.agg C.val,.bool z] W (aO (.tuple #[.agg #[.int .i64 0,.int .i64 0,.slice none 0 0,.slice none 0 0,.slice none 0 0,.slice none 0 0],.int .i64 f]) W)):=aa λW u=>by
  have:=Ev C z W u;rw[abY hf,<-g]at this;exact this
 rw[<-g]at hf ⊢;have y:Hid (KB C w (w.alloc (.cells C.val 27))):=aa ⟨au _ _,(ab _ _).alloc (ac _) _⟩;have A:(f != 0)=true:=by simpa using hf
 clear h d g
 go_enter (fx (by decide) Tryz.func6),Tryz.ntmps6
 go_upto_region 1 with fail
 refine cT 10 (KB C w) LeZ (λj=>j != 8&&j != 9) (alM (w.heap.size)) rfl (by kernel_rfl) (by kernel_rfl)
  (λi vs W r l h e=>(h e).imp λk c=>⟨c.1,c.2.1,l k c.2.2⟩) (λi o K vs L W B hd h e=>by subst e;rw[<-B];exact h rfl) ?_ ?_
 ·exact y.out.on (ab _ _).drew
 ·iterate 8 (
   apply aY
   case hE=>rfl
   case h=>
    intro vs W a hd;obtain⟨D,E,F,H,f4,I⟩:=bf a.box
    go_simp
    first
    |(go_at_call 29;(with_reducible refine(IG.out _).mono ?_);rintro e r⟨rfl,b⟩;exact⟨_,rfl,rfl,a.on b,LeZ.on b⟩)
    |(go_at_call 28;(with_reducible refine(t.out _ (s.out.below a.low)).mono ?_);rintro e r⟨rfl,b⟩;exact⟨_,rfl,rfl,a.on b,LeZ.on b⟩)
    |exact⟨rfl,LeZ.on (ab _ _)⟩
   case hb=>exact H9)
  apply eH
  case hE=>rfl
  case hb=>exact H9
  case h=>
   intro vs W a hd
   go_simp
   have b:=(ab W.heap.size W).alloc (ac _) (.cells #[.int .i64 0,.int .i64 0,.slice none 0 0,.slice none 0 0,.slice none 0 0,.slice none 0 0] 74);exact⟨a.on b,LeZ.on b,λ_=>⟨W.heap.size,by simp[upd],a.lt,_,_,_,_,_,_,au W _⟩⟩
  apply eH
  case hE=>rfl
  case hb=>exact H9
  case h=>
   intro vs W a hd;obtain⟨k,c,M,x0,x1,x2,x3,x4,N,m⟩:=hd ⟨8,.data⟩ (cH.2 ⟨by simp,rfl⟩) rfl rfl;obtain⟨D,E,F,H,f4,I⟩:=bf m;have O:=tO m;rw[c]
   go_simp
   refine⟨⟨(cM (by omega)).trans a.box,bc a.low (by omega) _ _ _ _ _ _⟩,λq p=>?_,λe=>absurd e (by decide)⟩;by_cases e:q=k
   ·subst e;exact⟨_,_,_,_,_,_,nC m⟩
   ·obtain⟨_,_,_,_,_,_,p⟩:=p;exact⟨_,_,_,_,_,_,(cM e).trans p⟩
  refine cP λvs W a hd=>?_;have J:=aa a;clear a hd
  go_wp2
  refine aw (v:=.tuple #[.slice none 0 0,.int .i64 f]) ?_ rfl ⟨rfl,J.out.low⟩;simp[aB,Tryz.results6,go_sem]
def acB(C:CD)(n:Int)(w:World)(h:C.At w)(hf:C.b6 (bO n 0 (C.n5-1))≠0) :
 Calls PL 11 #[.agg C.val,.int .i64 n] w (aO (.tuple #[.int .i64 0,.int .i64 (C.b6 (bO n 0 (C.n5-1)))]) w):=by
 have s:=aa h;have m5:=h.m5;obtain⟨z,d⟩:∃z,z=bO n 0 (C.n5-1):=⟨_,rfl⟩
 have IG:Hid (∀W,Calls PL 29 #[.agg C.val,.int .i64 n] W λe w'=>e=.returned (.bool z)/\Below W.heap.size W w'):=aa λW=>by rw[d];exact abq C n m5 W
 rw[<-d]at hf ⊢;obtain⟨f,g⟩:∃x,x=C.b6 z:=⟨_,rfl⟩
 have t:Hid (∀W,C.At W->Calls PL 28 #[.agg C.val,.bool z] W (aO (.tuple #[.agg #[.int .i64 0,.int .i64 0,.slice none 0 0,.slice none 0 0,.slice none 0 0,.slice none 0 0],.int .i64 f]) W)):=aa λW u=>by
  have:=Ev C z W u;rw[abY hf,<-g]at this;exact this
 rw[<-g]at hf ⊢;have y:Hid (KB C w (w.alloc (.cells C.val 27))):=aa ⟨au _ _,(ab _ _).alloc (ac _) _⟩;have A:(f != 0)=true:=by simpa using hf
 clear h d g
 go_enter (fx (by decide) cQ),c8
 go_upto_region 1 with fail
 refine cT 10 (KB C w) LeZ (λj=>j != 8&&j != 9) (alM (w.heap.size)) rfl (by kernel_rfl) (by kernel_rfl)
  (λi vs W r l h e=>(h e).imp λk c=>⟨c.1,c.2.1,l k c.2.2⟩) (λi o K vs L W B hd h e=>by subst e;rw[<-B];exact h rfl) ?_ ?_
 ·exact y.out.on (ab _ _).drew
 ·iterate 8 (
   apply aY
   case hE=>rfl
   case h=>
    intro vs W a hd;obtain⟨D,E,F,H,f4,I⟩:=bf a.box
    go_simp
    first
    |(go_at_call 29;(with_reducible refine(IG.out _).mono ?_);rintro e r⟨rfl,b⟩;exact⟨_,rfl,rfl,a.on b,LeZ.on b⟩)
    |(go_at_call 28;(with_reducible refine(t.out _ (s.out.below a.low)).mono ?_);rintro e r⟨rfl,b⟩;exact⟨_,rfl,rfl,a.on b,LeZ.on b⟩)
    |exact⟨rfl,LeZ.on (ab _ _)⟩
   case hb=>exact H9)
  apply eH
  case hE=>rfl
  case hb=>exact H9
  case h=>
   intro vs W a hd
   go_simp
   have b:=(ab W.heap.size W).alloc (ac _) (.cells #[.int .i64 0,.int .i64 0,.slice none 0 0,.slice none 0 0,.slice none 0 0,.slice none 0 0] 74);exact⟨a.on b,LeZ.on b,λ_=>⟨W.heap.size,by simp[upd],a.lt,_,_,_,_,_,_,au W _⟩⟩
  apply eH
  case hE=>rfl
  case hb=>exact H9
  case h=>
   intro vs W a hd;obtain⟨k,c,M,x0,x1,x2,x3,x4,N,m⟩:=hd ⟨8,.data⟩ (cH.2 ⟨by simp,rfl⟩) rfl rfl;obtain⟨D,E,F,H,f4,I⟩:=bf m;have O:=tO m;rw[c]
   go_simp
   refine⟨⟨(cM (by omega)).trans a.box,bc a.low (by omega) _ _ _ _ _ _⟩,λq p=>?_,λe=>absurd e (by decide)⟩;by_cases e:q=k
   ·subst e;exact⟨_,_,_,_,_,_,nC m⟩
   ·obtain⟨_,_,_,_,_,_,p⟩:=p;exact⟨_,_,_,_,_,_,(cM e).trans p⟩
  refine cP λvs W a hd=>?_;have J:=aa a;clear a hd
  go_wp2
  refine aw (v:=.tuple #[.int .i64 0,.int .i64 f]) ?_ rfl ⟨rfl,J.out.low⟩;simp[aB,da,go_sem]
def agB(C:CD)(n:Int)(w:World)(h:C.At w)(hf:C.b6 (bO n 0 (C.n5-1))≠0) :
 Calls PL 9 #[.agg C.val,.int .i64 n] w (aO (.tuple #[.agg #[.int .i64 0,.int .i64 0],.int .i64 (C.b6 (bO n 0 (C.n5-1)))]) w):=by
 have y:=aa h;have m5:=h.m5;obtain⟨z,c⟩:∃z,z=bO n 0 (C.n5-1):=⟨_,rfl⟩
 have IG:Hid (∀W,Calls PL 29 #[.agg C.val,.int .i64 n] W λe w'=>e=.returned (.bool z)/\Below W.heap.size W w'):=aa λW=>by rw[c];exact abq C n m5 W
 rw[<-c]at hf ⊢;obtain⟨g,l⟩:∃x,x=C.b6 z:=⟨_,rfl⟩
 have A:Hid (∀W,C.At W->Calls PL 28 #[.agg C.val,.bool z] W (aO (.tuple #[.agg #[.int .i64 0,.int .i64 0,.slice none 0 0,.slice none 0 0,.slice none 0 0,.slice none 0 0],.int .i64 g]) W)):=aa λW B=>by
  have:=Ev C z W B;rw[abY hf,<-l]at this;exact this
 rw[<-l]at hf ⊢
 have D:Hid (KE C w ((w.alloc (.cells C.val 27)).alloc (.cells #[.int .i64 0,.int .i64 0] 36))):=aa ⟨(((ab (w.alloc (.cells C.val 27)).heap.size _).alloc (ac _) _).block _ (by simp)).trans (au w _),by
  have t:=au (w.alloc (.cells C.val 27)) (.cells #[.int .i64 0,.int .i64 0] 36);rw[dU]at t
  exact t,((ab _ _).alloc (ac _) _).alloc (by simp) _⟩
 have E:(g != 0)=true:=by simpa using hf
 clear h c l
 go_enter (fx (by decide) Tryz.func9),Tryz.ntmps9
 go_upto_region 1 with fail
 refine cT 10 (KE C w) LeZ (λj=>j != 8&&j != 9) (alM (w.heap.size+1)) rfl (by kernel_rfl) (by kernel_rfl)
  (λi vs W u m h e=>(h e).imp λk d=>⟨d.1,d.2.1,m k d.2.2⟩) (λi o O vs P W F hd h e=>by subst e;rw[<-F];exact h rfl) ?_ ?_
 ·exact D.out.on (ab _ _).drew
 ·iterate 8 (
   apply aY
   case hE=>rfl
   case h=>
    intro vs W a hd;obtain⟨H,I,J,K,f4,L⟩:=bf a.box
    go_simp
    first
    |(go_at_call 29;(with_reducible refine(IG.out _).mono ?_);rintro e u⟨rfl,b⟩;exact⟨_,rfl,rfl,a.on b,LeZ.on b⟩)
    |(go_at_call 28;(with_reducible refine(A.out _ (y.out.below a.low)).mono ?_);rintro e u⟨rfl,b⟩;exact⟨_,rfl,rfl,a.on b,LeZ.on b⟩)
    |exact⟨rfl,LeZ.on (ab _ _)⟩
   case hb=>exact H9)
  apply eH
  case hE=>rfl
  case hb=>exact H9
  case h=>
   intro vs W a hd
   go_simp
   have b:=(ab W.heap.size W).alloc (ac _) (.cells #[.int .i64 0,.int .i64 0,.slice none 0 0,.slice none 0 0,.slice none 0 0,.slice none 0 0] 74);exact⟨a.on b,LeZ.on b,λ_=>⟨W.heap.size,by simp[upd],a.lt,_,_,_,_,_,_,au W _⟩⟩
  apply eH
  case hE=>rfl
  case hb=>exact H9
  case h=>
   intro vs W a hd;obtain⟨k,d,Q,x0,x1,x2,x3,x4,R,r⟩:=hd ⟨8,.data⟩ (cH.2 ⟨by simp,rfl⟩) rfl rfl;obtain⟨H,I,J,K,f4,L⟩:=bf r;have M:=tO r;rw[d]
   go_simp
   refine⟨⟨(cM (by omega)).trans a.box,(cM (by omega)).trans a.res,bc a.low (by omega) _ _ _ _ _ _⟩,λq s=>?_,λe=>absurd e (by decide)⟩;by_cases e:q=k
   ·subst e;exact⟨_,_,_,_,_,_,nC r⟩
   ·obtain⟨_,_,_,_,_,_,s⟩:=s;exact⟨_,_,_,_,_,_,(cM e).trans s⟩
  refine cP λvs W a hd=>?_;have f:=aa a;clear a hd;obtain⟨y0,y1⟩:=KD f.out.res;have M:=tO f.out.res;have N:=a9 f.out.res
  go_wp2
  have c:=abj (u0:=.int .i64 0) (u1:=.int .i64 0) f.out.res;have hl:=(f.out.low.setCell (p:=⟨w.heap.size+1,0,none⟩) (by simp only;omega) (.int .i64 0)).setCell (p:=⟨w.heap.size+1,1,none⟩) (by simp only;omega) (.int .i64 0);generalize(W.setCell ⟨w.heap.size+1,0,none⟩ (.int .i64 0)).setCell ⟨w.heap.size+1,1,none⟩ (.int .i64 0)=S at c hl ⊢;refine aw (v:=.tuple #[.agg #[.int .i64 0,.int .i64 0],.int .i64 g]) ?_ rfl ⟨rfl,hl⟩;obtain⟨a0,a1⟩:=KD c;simp[aB,Tryz.results9,go_sem,a0,a1]
def R9(C:CD)(n:Int):List nR:=if C.b6 (bO n 0 (C.n5-1))=0 then mD C n.toNat C.n4 else[]
def aag{C:CD}{n:Int}(h:C.b6 (bO n 0 (C.n5-1))=0):C.cx=0/\∃g:Nat,n=(g:Nat)/\g<C.n5:=by
 unfold CD.b6 at h
 split at h
 ·rename_i hc
  split at h
  ·rename_i hb;simp only[bO,ep,decide_eq_true_eq]at hb;exact⟨hc,n.toNat,by omega,by omega⟩
  ·cases h
 ·rename_i hc;exact absurd h hc
def aha(C:CD)(n:Int)(w:World)(h:C.At w):Calls PL 6 #[.agg C.val,.int .i64 n] w λe w'=>∃b c,e=.returned (.tuple #[.slice b (R9 C n).length c,.int .i64 (C.b6 (bO n 0 (C.n5-1)))])/\j9 w' (.slice b (R9 C n).length c) (R9 C n)/\Below w.heap.size w w':=by
 by_cases hf:C.b6 (bO n 0 (C.n5-1))=0
 ·obtain⟨hc,g,rfl,hg⟩:=aag hf;have e:R9 C (g:Nat)=mD C g C.n4:=by rw[R9,if_pos hf,eI]
  rw[e,hf,R7];exact ah8 h hc hg
 ·have e:R9 C n=[]:=by rw[R9,if_neg hf]
  rw[e];exact(acz C n w h hf).mono λe w'⟨a,d⟩=>⟨none,0,a,⟨none,0,rfl,λh=>absurd h (by decide)⟩,d⟩
def abk(C:CD)(n:Int):Int×Int:=if C.b6 (bO n 0 (C.n5-1))=0 then nU C n.toNat else(0,0)
def alN(C:CD)(n:Int)(w:World)(h:C.At w):Calls PL 9 #[.agg C.val,.int .i64 n] w (aO (.tuple #[.agg #[.int .i64 (abk C n).1,.int .i64 (abk C n).2],.int .i64 (C.b6 (bO n 0 (C.n5-1)))]) w):=by
 by_cases hf:C.b6 (bO n 0 (C.n5-1))=0
 ·obtain⟨hc,g,rfl,hg⟩:=aag hf;have e:abk C (g:Nat)=nU C g:=by rw[abk,if_pos hf,eI]
  rw[e,hf];exact Sj C g w h hg (mb hc) (by rw[CD.b6,if_pos hc];rfl) (Sa C hc hg)
 ·have e:abk C n=(0,0):=by rw[abk,if_neg hf]
  rw[e];exact agB C n w h hf
def yd(C:CD)(n:Int):Int:=if C.b6 (bO n 0 (C.n5-1))=0 then N5 C n.toNat else 0
def ahb(C:CD)(n:Int)(w:World)(h:C.At w):Calls PL 11 #[.agg C.val,.int .i64 n] w (aO (.tuple #[.int .i64 (yd C n),.int .i64 (C.b6 (bO n 0 (C.n5-1)))]) w):=by
 by_cases hf:C.b6 (bO n 0 (C.n5-1))=0
 ·obtain⟨hc,g,rfl,hg⟩:=aag hf;have e:yd C (g:Nat)=N5 C g:=by rw[yd,if_pos hf,eI]
  rw[e,hf];exact ado C g w h hg (mb hc) (by rw[CD.b6,if_pos hc];rfl) (Sa C hc hg)
 ·have e:yd C n=0:=by rw[yd,if_neg hf]
  rw[e];exact acB C n w h hf
def s9(C:CD)(m:Int):Int:=if C.cx=0 then(if bO m 0 999 then 0 else 1) else C.cx
def NR(C:CD)(m:Int):List Int:=if s9 C m=0 then tB C.tab m C.n5 C.n4 else[]
def afC{C:CD}{m:Int}(h:s9 C m=0):C.cx=0/\bO m 0 999=true:=by
 unfold s9 at h
 split at h
 ·rename_i hc
  split at h
  ·rename_i hb;exact⟨hc,hb⟩
  ·cases h
 ·rename_i hc;exact absurd h hc
def agC(C:CD)(m:Int)(w:World)(h:C.At w)(hf:s9 C m≠0):Calls PL 13 #[.agg C.val,.int .i64 m] w (aO (.tuple #[.slice none 0 0,.int .i64 (s9 C m)]) w):=by
 have r:=aa h;have b:Hid (KB C w (w.alloc (.cells C.val 27))):=aa ⟨au _ _,(ab _ _).alloc (ac _) _⟩;obtain⟨f,a⟩:∃x,x=s9 C m:=⟨_,rfl⟩
 rw[<-a]at hf ⊢;have g:(f != 0)=true:=by simpa using hf
 unfold s9 at a;by_cases hc:C.cx=0
 ·have i:bO m 0 999=false:=by
   cases hb:bO m 0 999 with
   |false=>rfl
   |true=>rw[if_pos hc,hb]at a;exact absurd a hf
  rw[if_pos hc,i]at a;obtain rfl:f=1:=a;have j:Hid (∀W,C.At W->Calls PL 28 #[.agg C.val,.bool true] W (aO (.tuple #[.agg C.val,.int .i64 0]) W)):=aa λW k=>kF (by rw[CD.b6,if_pos hc];rfl) k;have IM:Hid (∀W,Calls PL 38 #[.int .i64 m] W λe w'=>e=.returned (.bool false)/\W=w'):=aa λW=>by rw[<-i];exact Cs m W
  clear h hc i hf g
  go_enter (fx (by decide) dj),dk
  obtain⟨l,n,o,p,f4,q⟩:=bf b.out.box
  go_wp2_with (first
   |(go_at_call 28;(with_reducible refine(j.out _ (r.out.below b.out.low)).mono ?_);rintro e w1⟨rfl,c⟩;have d:=aa (b.out.on c);clear c l n o p f4 q)
   |(go_at_call 38;refine(IM.out _).mono ?_;rintro e w'⟨rfl,rfl⟩))
  have s:=d.out.low.alloc d.out.low.size (.cells C.val 74);refine aw (v:=.tuple #[.slice none 0 0,.int .i64 1]) ?_ rfl ⟨rfl,s⟩;simp[aB,dp,go_sem]
 ·rw[if_neg hc]at a;have j:Hid (∀W,C.At W->Calls PL 28 #[.agg C.val,.bool true] W (aO (.tuple #[.agg #[.int .i64 0,.int .i64 0,.slice none 0 0,.slice none 0 0,.slice none 0 0,.slice none 0 0],.int .i64 f]) W)):=aa λW k=>by
   have:=Ev C true W k;rw[Ra hc,<-a]at this;exact this
  clear h hc a
  go_enter (fx (by decide) dj),dk
  obtain⟨l,n,o,p,f4,q⟩:=bf b.out.box
  go_wp2_with (go_at_call 28;(with_reducible refine(j.out _ (r.out.below b.out.low)).mono ?_);rintro e w1⟨rfl,c⟩;have d:=aa (b.out.on c);clear c l n o p f4 q)
  refine aw (v:=.tuple #[.slice none 0 0,.int .i64 f]) ?_ rfl ⟨rfl,?_⟩
  ·simp[aB,dp,go_sem]
  ·exact d.out.low.alloc d.out.low.size _
def alO(C:CD)(m:Int)(w:World)(h:C.At w):Calls PL 13 #[.agg C.val,.int .i64 m] w λe w'=>∃b c,e=.returned (.tuple #[.slice b (NR C m).length c,.int .i64 (s9 C m)])/\bB w' (.slice b (NR C m).length c) (NR C m)/\Below w.heap.size w w':=by
 by_cases hf:s9 C m=0
 ·obtain⟨hc,a⟩:=afC hf;rw[NR,if_pos hf,hf,Nt];exact alH h hc a
 ·rw[NR,if_neg hf];exact(agC C m w h hf).mono λe w'⟨d,f⟩=>⟨none,0,d,⟨none,0,rfl,λh=>absurd h (by decide)⟩,f⟩
def agD(C:CD)(n:Int)(w:World)(h:C.At w):Calls PL 7 #[.agg C.val,.int .i64 n] w λe w'=>∃b c,e=.returned (.tuple #[.slice b (R9 C n).length c,.int .i64 (C.b6 (bO n 0 (C.n5-1)))])/\j9 w' (.slice b (R9 C n).length c) (R9 C n)/\Below w.heap.size w w':=by
 have o:=aa h;have d:Hid (KB C w (w.alloc (.cells C.val 27))):=aa ⟨au _ _,(ab _ _).alloc (ac _) _⟩;have AG:Hid (∀W,C.At W->Calls PL 32 #[.agg C.val,.int .i64 n] W (aO (.int .i64 (C.b6 (bO n 0 (C.n5-1)))) W)):=aa λW p=>abd C n W p;by_cases hf:C.b6 (bO n 0 (C.n5-1))=0
 ·obtain⟨hc,g,rfl,hg⟩:=aag hf;have e:R9 C (g:Nat)=mD C g C.n4:=by rw[R9,if_pos hf,eI]
  rw[e,hf,R7];rw[hf]at AG;have VO:Hid (∀W,C.At W->Calls PL 33 #[.agg C.val,.int .i64 g] W λe w'=>∃b c,e=.returned (.slice b C.n4 c)/\j9 w' (.slice b C.n4 c) (mD C g C.n4)/\Below W.heap.size W w'):=aa λW p=>abc p hc hg;clear h e hf hc
  go_enter (fx (by decide) dq),dt
  obtain⟨i,j,k,l,f4,m⟩:=bf d.out.box
  go_wp2_with (first
   |(go_at_call 32;(with_reducible refine(AG.out _ (o.out.below d.out.low)).mono ?_);rintro e w1⟨rfl,a⟩;have f:=aa (d.out.on a);clear a i j k l f4 m;obtain⟨i,j,k,l,f4,m⟩:=bf f.out.box)
   |(go_at_call 33;(with_reducible refine(VO.out _ (o.out.below f.out.low)).mono ?_);rintro e w2⟨b,c,rfl,q,a⟩;have t:=aa q;have u:=aa (ba f.out.low a);clear q a))
  refine aw (v:=.tuple #[.slice b C.n4 c,.int .i64 0]) ?_ rfl ⟨b,c,rfl,t.out,u.out⟩;simp[aB,du,go_sem]
 ·have e:R9 C n=[]:=by rw[R9,if_neg hf]
  rw[e];obtain⟨r,s⟩:∃x,x=C.b6 (bO n 0 (C.n5-1)):=⟨_,rfl⟩
  rw[<-s]at hf AG ⊢;have y:(r != 0)=true:=by simpa using hf
  clear h e hf s
  go_enter (fx (by decide) dq),dt
  obtain⟨i,j,k,l,f4,m⟩:=bf d.out.box
  go_wp2_with (go_at_call 32;(with_reducible refine(AG.out _ (o.out.below d.out.low)).mono ?_);rintro e w1⟨rfl,a⟩;have f:=aa (d.out.on a);clear a i j k l f4 m)
  refine aw (v:=.tuple #[.slice none 0 0,.int .i64 r]) ?_ rfl ⟨none,0,rfl,⟨none,0,rfl,λh=>absurd h (by decide)⟩,f.out.low⟩;simp[aB,du,go_sem]
def ahC(C:CD)(n:Int)(w:World)(h:C.At w):Calls PL 10 #[.agg C.val,.int .i64 n] w (aO (.tuple #[.agg #[.int .i64 (abk C n).1,.int .i64 (abk C n).2],.int .i64 (C.b6 (bO n 0 (C.n5-1)))]) w):=by
 have y:=aa h
 have i:Hid (KE C w ((w.alloc (.cells C.val 27)).alloc (.cells #[.int .i64 0,.int .i64 0] 36))):=aa ⟨(((ab (w.alloc (.cells C.val 27)).heap.size _).alloc (ac _) _).block _ (by simp)).trans (au w _),by
  have D:=au (w.alloc (.cells C.val 27)) (.cells #[.int .i64 0,.int .i64 0] 36);rw[dU]at D
  exact D,((ab _ _).alloc (ac _) _).alloc (by simp) _⟩
 obtain⟨j,l⟩:∃x,x=C.b6 (bO n 0 (C.n5-1)):=⟨_,rfl⟩
 obtain⟨e1,b⟩:∃x,x=(abk C n).1:=⟨_,rfl⟩
 obtain⟨k,c⟩:∃x,x=(abk C n).2:=⟨_,rfl⟩
 have AG:Hid (∀W,C.At W->Calls PL 32 #[.agg C.val,.int .i64 n] W (aO (.int .i64 j) W)):=aa λW z=>by rw[l];exact abd C n W z
 have EO:Hid (j=0->∀W,C.At W->Calls PL 35 #[.agg C.val,.int .i64 n] W (aO (.agg #[.int .i64 e1,.int .i64 k]) W)):=aa λa W z=>by
  rw[l]at a;obtain⟨hc,g,rfl,hg⟩:=aag a;rw[b,c,abk,if_pos a,eI];exact abC C g W z hc hg
 have E:Hid (j≠0->e1=0/\k=0):=aa λa=>by rw[l]at a;rw[b,c,abk,if_neg a];exact⟨rfl,rfl⟩
 rw[<-l,<-b,<-c];clear h l b c;by_cases a:j=0
 ·subst a;have A:=aa (EO.out rfl)
  go_enter (fx (by decide) dv),dy
  obtain⟨q,r,s,t,f4,u⟩:=bf i.out.box
  go_upto_region 4 with(go_at_call 32;(with_reducible refine(AG.out _ (y.out.below i.out.low)).mono ?_);rintro e w1⟨rfl,f⟩;have d:=aa (i.out.on f);clear f q r s t f4 u;obtain⟨q,r,s,t,f4,u⟩:=bf d.out.box)
  go_wp2_with (go_at_call 35;(with_reducible refine(A.out _ (y.out.below d.out.low)).mono ?_);rintro e w2⟨rfl,f⟩;have m:=aa (d.out.on f);clear f;obtain⟨y0,y1⟩:=KD m.out.res;have F:=tO m.out.res;have B:=a9 m.out.res)
  have o:=abj (u0:=.int .i64 e1) (u1:=.int .i64 k) m.out.res;have hl:=(m.out.low.setCell (p:=⟨w.heap.size+1,0,none⟩) (by simp only;omega) (.int .i64 e1)).setCell (p:=⟨w.heap.size+1,1,none⟩) (by simp only;omega) (.int .i64 k);generalize(w2.setCell ⟨w.heap.size+1,0,none⟩ (.int .i64 e1)).setCell ⟨w.heap.size+1,1,none⟩ (.int .i64 k)=H at o hl ⊢;refine aw (v:=.tuple #[.agg #[.int .i64 e1,.int .i64 k],.int .i64 0]) ?_ rfl ⟨rfl,hl⟩;obtain⟨a0,a1⟩:=KD o;simp[aB,dz,go_sem,a0,a1]
 ·obtain⟨rfl,rfl⟩:=E.out a;have I:(j != 0)=true:=by simpa using a
  clear a
  go_enter (fx (by decide) dv),dy
  obtain⟨q,r,s,t,f4,u⟩:=bf i.out.box
  go_upto_region 3 with(go_at_call 32;(with_reducible refine(AG.out _ (y.out.below i.out.low)).mono ?_);rintro e w1⟨rfl,f⟩;have d:=aa (i.out.on f);clear f q r s t f4 u)
  obtain⟨y0,y1⟩:=KD d.out.res;have F:=tO d.out.res;have B:=a9 d.out.res
  go_wp2
  have o:=abj (u0:=.int .i64 0) (u1:=.int .i64 0) d.out.res;have hl:=(d.out.low.setCell (p:=⟨w.heap.size+1,0,none⟩) (by simp only;omega) (.int .i64 0)).setCell (p:=⟨w.heap.size+1,1,none⟩) (by simp only;omega) (.int .i64 0);generalize(w1.setCell ⟨w.heap.size+1,0,none⟩ (.int .i64 0)).setCell ⟨w.heap.size+1,1,none⟩ (.int .i64 0)=H at o hl ⊢;refine aw (v:=.tuple #[.agg #[.int .i64 0,.int .i64 0],.int .i64 j]) ?_ rfl ⟨rfl,hl⟩;obtain⟨a0,a1⟩:=KD o;simp[aB,dz,go_sem,a0,a1]
def abI{C:CD}(hc:C.cx=0){g:Nat}(hg:g<C.n5):aaf (nU C g).1 (nU C g).2 0 C.l=N5 C g:=by
 have c:0<C.n4:=by have:=(s8 hc).1;omega
 have e1:nU C g=(Nu C g (C.n4-1)).2.2.2:=afA C g c;have b:=abV hc hg (r:=C.n4-1) (by omega) 3;have a:=abV hc hg (r:=C.n4-1) (by omega) 4;simp only[Q3]at b a;rw[<-e1]at a;have b:0<=(nU C g).1:=by rw[e1];exact b.1
 have a:0<=(nU C g).2:=a.1;unfold aaf N5 Ej;by_cases k1:(nU C g).2<=C.l<;>by_cases k2:(nU C g).1<=C.l<;>simp[k1,k2,b,a]<;>omega
def agE(C:CD)(n:Int)(w:World)(h:C.At w):Calls PL 12 #[.agg C.val,.int .i64 n] w (aO (.tuple #[.int .i64 (yd C n),.int .i64 (C.b6 (bO n 0 (C.n5-1)))]) w):=by
 have t:=aa h;have f:Hid (KB C w (w.alloc (.cells C.val 27))):=aa ⟨au _ _,(ab _ _).alloc (ac _) _⟩;obtain⟨i,j⟩:∃x,x=C.b6 (bO n 0 (C.n5-1)):=⟨_,rfl⟩
 obtain⟨m,b⟩:∃x,x=yd C n:=⟨_,rfl⟩
 have AG:Hid (∀W,C.At W->Calls PL 32 #[.agg C.val,.int .i64 n] W (aO (.int .i64 i) W)):=aa λW u=>by rw[j];exact abd C n W u
 have D:Hid (i≠0->m=0):=aa λa=>by rw[j]at a;rw[b,yd,if_neg a]
 have EO:Hid (i=0->∃e1 k,(∀W,C.At W->Calls PL 35 #[.agg C.val,.int .i64 n] W (aO (.agg #[.int .i64 e1,.int .i64 k]) W))/\aaf e1 k 0 C.l=m):=aa λa=>by
  rw[j]at a;obtain⟨hc,g,rfl,hg⟩:=aag a;refine⟨(nU C g).1,(nU C g).2,λW u=>abC C g W u hc hg,?_⟩;rw[b,yd,if_pos a,eI];exact abI hc hg
 rw[<-j,<-b];clear h j b;by_cases a:i=0
 ·subst a;obtain⟨e1,k,A,B⟩:=EO.out rfl;have y:=aa A;have WI:Hid (∀W,Calls PL 37 #[.agg #[.int .i64 e1,.int .i64 k],.agg #[.int .i64 0,.int .i64 C.l]] W (aO (.int .i64 m) W)):=aa λW=>by rw[<-B];exact adI e1 k 0 C.l W
  clear A B
  go_enter (fx (by decide) dC),dK
  obtain⟨o,p,q,r,f4,s⟩:=bf f.out.box
  go_upto_region 4 with(go_at_call 32;(with_reducible refine(AG.out _ (t.out.below f.out.low)).mono ?_);rintro e w1⟨rfl,c⟩;have z:=aa (f.out.on c);clear c o p q r f4 s)
  refine ig (KB C w) (λ_ _=>True) (λ_=>true) (λ_ _ _=>True) rfl (by kernel_rfl) (λ_ _ _ _ _ _=>trivial) (λ_ _ _ _ _ _ _ _ h=>h) (z.out.on (ab _ _).drew) ?_
  iterate 9 (
   apply aY
   case hE=>rfl
   case h=>
    intro vs W d hd;obtain⟨o,p,q,r,f4,s⟩:=bf d.box
    go_simp
    first
     |with_reducible exact rfl
     |(go_at_call 35;(with_reducible refine(y.out W (t.out.below d.low)).mono ?_);rintro e E⟨rfl,c⟩;exact⟨_,rfl,rfl,d.on c⟩)
     |(go_at_call 37;(with_reducible refine(WI.out W).mono ?_);rintro e E⟨rfl,c⟩;exact⟨_,rfl,rfl,d.on c⟩)
     |exact⟨rfl,d⟩
     |trace_state
   case hb=>exact H9)
  refine cP λvs W d hd=>?_;have F:=aa d;clear d hd
  go_wp2
  refine aw (v:=.tuple #[.int .i64 m,.int .i64 0]) ?_ rfl ⟨rfl,F.out.low⟩;simp[aB,dL,go_sem]
 ·obtain rfl:=D.out a;have H:(i != 0)=true:=by simpa using a
  clear a EO
  go_enter (fx (by decide) dC),dK
  obtain⟨o,p,q,r,f4,s⟩:=bf f.out.box
  go_wp2_with (go_at_call 32;(with_reducible refine(AG.out _ (t.out.below f.out.low)).mono ?_);rintro e w1⟨rfl,c⟩;have z:=aa (f.out.on c);clear c o p q r f4 s)
  refine aw (v:=.tuple #[.int .i64 0,.int .i64 i]) ?_ rfl ⟨rfl,z.out.low⟩;simp[aB,dL,go_sem]
def ahD(C:CD)(m:Int)(w:World)(h:C.At w):Calls PL 14 #[.agg C.val,.int .i64 m] w λe w'=>∃b c,e=.returned (.tuple #[.slice b (NR C m).length c,.int .i64 (s9 C m)])/\bB w' (.slice b (NR C m).length c) (NR C m)/\Below w.heap.size w w':=by
 have s:=aa h;have d:Hid (KB C w (w.alloc (.cells C.val 27))):=aa ⟨au _ _,(ab _ _).alloc (ac _) _⟩;have RC:Hid (∀W,C.At W->Calls PL 41 #[.agg C.val] W (aO (.int .i64 C.cx) W)):=aa λW r=>rK C W r;by_cases hf:s9 C m=0
 ·obtain⟨hc,i⟩:=afC hf;rw[NR,if_pos hf,hf,Nt];have AM:Hid (∀W,Calls PL 42 #[.int .i64 m] W λe w'=>e=.returned (.int .i64 0)/\W=w'):=aa λW=>by have:=abD m W;rw[i]at this;exact this
  have SO:Hid (∀W p,C.At W->p<C.n4->Calls PL 43 #[.agg C.val,.int .i64 (p:Nat),.int .i64 m] W (aO (.int .i64 (kU C.tab p m C.n5 0 false)) W)):=aa λW p r H=>adS C p m W r hc H;rw[hc]at RC;have V:=(s8 hc).2;clear h hc i hf
  go_enter (fx (by decide) dO),dP
  obtain⟨j,k,l,n,f4,o⟩:=bf d.out.box
  go_wp2_with (first
   |(go_at_call 41;(with_reducible refine(RC.out _ (s.out.below d.out.low)).mono ?_);rintro e w1⟨rfl,a⟩;have q:=aa (d.out.on a);clear a j k l n f4 o)
   |(go_at_call 42;refine(AM.out _).mono ?_;rintro e w'⟨rfl,rfl⟩))
  have X:=q.out.lt
  go_loopw [8,9] (λL u wr=>∃p:Nat,p<=C.n4/\u=.int .i64 p/\eO 39 wr w1.heap.size L (tB C.tab m C.n5 p)/\Below w1.heap.size w1 wr) (λ_ u _=>C.n4-(intOf u).toNat)
  case atStart=>exact⟨0,ad _,rfl,⟨rfl,.inl ⟨rfl,rfl⟩⟩,ab _ _⟩
  case round=>
   obtain⟨p,H,rfl,I,a⟩:=hrel;have y:=aa I;have z:=aa (q.out.on a);have M:=aa a;have N:=a.size;clear I a;obtain⟨j,k,l,n,f4,o⟩:=bf z.out.box;by_cases J:p<C.n4
   ·have Y:(p:Int)<C.n4:=by omega
    have A:Hid ((tB C.tab m C.n5 p).length=p):=aa (Nt _ _ _ _);obtain⟨B,g⟩:∃x,x=kU C.tab p m C.n5 0 false:=⟨_,rfl⟩
    have O:Hid (∀W,C.At W->Calls PL 43 #[.agg C.val,.int .i64 (p:Nat),.int .i64 m] W (aO (.int .i64 B) W)):=aa λW r=>by rw[g];exact SO.out W p r J
    have P:Hid (tB C.tab m C.n5 (p+1)=tB C.tab m C.n5 p++[B]):=aa (by rw[Iu,g]);clear g
    go_wp2_with (first
     |(go_at_call 43;(with_reducible refine(O.out _ (s.out.below z.out.low)).mono ?_);rintro e w3⟨rfl,t⟩;have Q:=t.size;have R:=aa (y.out.on t);have S:=aa (M.out.trans (t.mono N));clear t)
     |(at_builtin;refine Fb afJ aaI rfl _ _ rfl w1.heap.size _ _ B w3.heap.size rfl (R.out.alloc _) rfl (cell_one_new _ _ _ 0 _ rfl) (by rw[A.out];omega) (by simp;omega) ?_;intro v' w4 T D))
    exact⟨⟨p+1,J,by go_num,by rw[P.out];exact T,(S.out.alloc (by omega) _).trans D⟩,by simp only[intOf];omega⟩
   ·obtain rfl:p=C.n4:=by omega
    have U:=aa y.out.reads;obtain⟨b,c,K,_⟩:=y.out.reads;rw[Nt]at K;subst K
    go_wp2
    refine aw (v:=.tuple #[.slice b C.n4 c,.int .i64 0]) ?_ rfl ⟨b,c,rfl,U.out,z.out.low⟩;simp[aB,dQ,go_sem]
 ·rw[NR,if_neg hf];obtain⟨E,f⟩:∃x,x=s9 C m:=⟨_,rfl⟩
  rw[<-f]at hf ⊢;have F:(E != 0)=true:=by simpa using hf
  unfold s9 at f;by_cases hc:C.cx=0
  ·have i:bO m 0 999=false:=by
    cases hb:bO m 0 999 with
    |false=>rfl
    |true=>rw[if_pos hc,hb]at f;exact absurd f hf
   rw[if_pos hc,i]at f;obtain rfl:E=1:=f;have AM:Hid (∀W,Calls PL 42 #[.int .i64 m] W λe w'=>e=.returned (.int .i64 1)/\W=w'):=aa λW=>by have:=abD m W;rw[i]at this;exact this
   rw[hc]at RC;clear h hc i hf F
   go_enter (fx (by decide) dO),dP
   obtain⟨j,k,l,n,f4,o⟩:=bf d.out.box
   go_wp2_with (first
    |(go_at_call 41;(with_reducible refine(RC.out _ (s.out.below d.out.low)).mono ?_);rintro e w1⟨rfl,a⟩;have q:=aa (d.out.on a);clear a j k l n f4 o)
    |(go_at_call 42;refine(AM.out _).mono ?_;rintro e w'⟨rfl,rfl⟩))
   refine aw (v:=.tuple #[.slice none 0 0,.int .i64 1]) ?_ rfl ⟨none,0,rfl,⟨none,0,rfl,λh=>absurd h (by decide)⟩,q.out.low⟩;simp[aB,dQ,go_sem]
  ·rw[if_neg hc]at f;rw[<-f]at RC;clear h hc f hf
   go_enter (fx (by decide) dO),dP
   obtain⟨j,k,l,n,f4,o⟩:=bf d.out.box
   go_wp2_with (go_at_call 41;(with_reducible refine(RC.out _ (s.out.below d.out.low)).mono ?_);rintro e w1⟨rfl,a⟩;have q:=aa (d.out.on a);clear a j k l n f4 o)
   refine aw (v:=.tuple #[.slice none 0 0,.int .i64 E]) ?_ rfl ⟨none,0,rfl,⟨none,0,rfl,λh=>absurd h (by decide)⟩,q.out.low⟩;simp[aB,dQ,go_sem]
end Go.Proofs
