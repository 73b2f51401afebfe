/- Part of the proof of FieldAnyOrder. -/
import Derived.Test.YtnflmiiljmmciaaGreatV07
import Derived.Deep.DeepMust
import Derived.Laws.OwnMore
import Derived.Shelf.SlSortCmp.InsertionK
set_option linter.all false
open Go renaming World->aa,Value->ac,Calls->ad,bodyPost_ret->ag,results->ai,TypeId->aF,Addr->aI,info_parts->aJ,maxLen->aP,Oper->aT,Operand->a7,run_append_own->a8,resolve->a9,builtin->bi
open Go.Lib renaming hid->bj
open Go.RowKit.Below renaming refl->bm
open Nat renaming le_refl->bq,zero_le->bv,mod_lt->bC,zero_add->bT,lt_of_lt_of_le->b8,lt_irrefl->cd,le_trans->ce,le_of_lt->cf,add_zero->ch,not_lt_zero->ci
open Go.Proofs renaming getElem?_lt'->cm,Reads->co,kU->cq,tB->ct,mD->cv
open Go.Proofs.Below renaming on->cC,zQ->cQ
open List renaming flatMap_cons->c8,foldl->da,length_cons->db,length_nil->dd,getElem?_take_of_lt->df,mem_cons->dk,not_mem_nil->dp,length_append->dq,getElem?_toArray->dt,getElem?_cons_succ->du,getElem?_cons_zero->dv,append_assoc->dC,getD_eq_getElem?_getD->dL,getElem?_map->dO,getElem?_range->dQ,length->dT,map_toArray->dU,map_cons->d8,map_nil->d9,map_append->ea,mem_of_find?_eq_some->ed,mem_of_getElem?->eg,range->eh,mem_map->ei,mem_range->ej,map_congr_left->ek,getElem?_eq_getElem->el
open Go.Proofs.Tryz renaming func61->em,func4->ep,ntmps4->eq,results9->eu,func53->eA,ntmps53->eD,func3->eE,ntmps3->eF
open Go.Value.slice renaming inj->eI
open Go.World renaming cell?->eM,size_alloc->eN,setCell->eQ,size_setCell->eS
open Array renaming getElem?_modify->eT
open Option renaming map_some->eV,getD_some->fb
open And renaming symm->fg,intro->fi
open Option.some renaming injEq->fm,inj->fo
open Go.Value renaming oneCell'->fp,ownBlock->ft,agg->fA,tuple->fB,int->fJ,slice->fP,bool->fY,func->f6,pointer->f8,string->gc,nilFunc->ge
open Go.IntWalk renaming i64_in->gf
open Go.Sem renaming run_bind->gg,run_pure->gj
open Go.Result renaming andThen_ok->gl
open Go.aU renaming of_heap->gp
open Classical renaming byContradiction->gr
open Go.Ending renaming returned->gt
open Go.IntKind renaming i64->gw
open Go.Obj renaming cells->gy,mapIter->gB,map->gD
open Or renaming inl->gE,inr->gG
open Go.Ground renaming data->gL
set_option maxHeartbeats 4000000
set_option maxRecDepth 100000
namespace Go.Proofs
open Go.RowKit Go.Shelf
attribute [local go_sem] Oper.semAt_some
def Fp(C:CD)(R:aa->ac->Prop)(w:aa)(h:C.At w)(hf:C.b6 true=0)
 (b:∀W,C.At W->ad PL 32 #[fA C.val] W λe w'=>∃v,e=gt v/\R w' v/\bA W w') :
 ad PL 8 #[fA C.val] w λe w'=>∃v,e=gt (fB #[v,fJ gw 0])/\R w' v/\bA w w':=by
 have c:=bj h;have k:=bj hf;have a:=bj b;have d:Hid (KB C w (w.alloc (gy C.val 27))):=bj ⟨au _ _,(bm _ _).alloc (bq _) _⟩;clear h hf b;go_enter (fx ao Tryz.func8),Tryz.ntmps8
 go_wp2_with (first
  |(go_at_call 27;refine(kF k.out (c.out.below d.out.low)).mono ?_;rintro e w1⟨rfl,f⟩;have g:=bj (d.out.on f);clear f)
  |(go_at_call 32;refine(a.out _ (c.out.below (g.out.alloc (gy C.val 77)).low)).mono ?_;rintro e w2⟨v,rfl,i,j⟩;have l:=bj ((g.out.alloc (gy C.val 77)).on j);have m:=bj i;clear j i))
 refine ag (v:=fB #[v,fJ gw 0]) ?_ rfl ⟨v,rfl,m.out,l.out.low⟩;simp[ai,Tryz.results8,go_sem]
structure KT(C:CD)(w W:aa):Prop where
 box:W.heap[w.heap.size]?=some (gy C.val 77)
 low:bA w W
def KT.on{C:CD}{w W a:aa}(h:KT C w W)(b:bA W a):KT C w a:=
 ⟨(b.block _ (cm h.box)).trans h.box,cC h.low b⟩
def qP(C:CD)(p:Nat):Bool:=decide (∀g,g<p->(nU C g).2<=C.l)
def IF{C:CD}{p:Nat}(h:qP C p=true)(k:(nU C p).2<=C.l):qP C (p+1)=true:=by
 simp only[qP,decide_eq_true_eq]at *;intro g hg
 rcases Nat.lt_succ_iff_lt_or_eq.1 hg with a|rfl
 .exact h g a
 .exact k
def Sk{C:CD}{p n:Nat}(a:p<n)(k:¬(nU C p).2<=C.l):qP C n=false:=by
 simp only[qP,decide_eq_false_iff_not];exact λh=>k (h p a)
def ag1(a b:Int)(W:aa):Sem.run PL (Instr.field 56 (fA #[fJ gw a,fJ gw b]) 1) W=.ok (fJ gw b) W:=ae
def VY(C:CD)(n:Nat)(w:aa)(h:C.At w)(hc:C.cx=0)(m5:C.n5<=3)
 (q:∀W,C.At W->ad PL 32 #[fA C.val] W λe w'=>∃b c,e=gt (fP b n c)/\bA W w') :
 ad PL 31 #[fA C.val] w (aO (fY (qP C C.n5&&decide (n=0))) w):=by
 have r:=bj h;have j:=bj q;have v:=bj hc;have x:Hid (KT C w (w.alloc (gy C.val 77))):=bj ⟨au _ _,(bm _ _).alloc (bq _) _⟩;clear h q hc;go_enter (fx ao Tryz.func31),Tryz.ntmps31;go_wp2
 go_loopw [8] (λk wr=>∃p:Nat,p<=C.n5/\k=fJ gw p/\qP C p=true/\KT C w wr) (λk _=>C.n5-(intOf k).toNat)
 case atStart=>exact⟨0,bv _,rfl,by simp[qP],x.out⟩
 case round=>
  obtain⟨p,K,rfl,hs,s⟩:=hrel;have f:=bj s;have t:=bj hs;clear s hs;by_cases i:p<C.n5
  .have y:(p:Int)<C.n5:=ab;have z:=bj (Sa C v.out i)
   go_upto_region 4 with fail
   refine ig (KT C w) (λ_ _=>True) (λ_=>true) (λ_ _ _=>True) rfl ae (λ_ _ _ _ _ _=>trivial) (λ_ _ _ _ _ _ _ _ _=>trivial) ⟨f.out.box,f.out.low.drew⟩ ?_
   iterate 8 (
    apply aY
    case hE=>rfl
    case h=>
     intro vs W d hd;obtain⟨A,B,D,E,f4,F⟩:=bf d.box;have q1:=ag1;go_simp
     first
     |(go_at_call 50;refine(Lm C p z.out _ (r.out.below d.low)).mono ?_;rintro e L⟨rfl,H⟩;exact⟨_,rfl,rfl,d.on H⟩)
     |exact rfl
    case hb=>exact KD)
   refine cP λvs W d hd=>?_;have g:=bj d;clear hd d;by_cases a:(nU C p).2<=C.l
   .have m:=bj a;have I:¬(C.l<(nU C p).2):=ab;clear a;go_wp2;exact⟨⟨p+1,i,by go_num,IF t.out m.out,g.out⟩,by simp only[intOf];omega⟩
   .have m:=bj a;have I:C.l<(nU C p).2:=ab;clear a;go_wp2;go_ret;have hs:=Sk i (Int.not_le.2 m.out);refine⟨?_,g.out.low⟩;rw[hs,Bool.false_and];rfl
  .have o:p=C.n5:=ab;have y:¬((p:Int)<C.n5):=ab;clear i;obtain⟨A,B,D,E,f4,F⟩:=bf f.out.box
   go_wp2_with (go_at_call 32;refine(j.out _ (r.out.below f.out.low)).mono ?_;rintro e w2⟨b,c,rfl,u⟩;have J:=bj (f.out.on u);clear u)
   go_ret;have hs:qP C C.n5=true:=by have h:=t.out;first|(rw[o]at h;exact h)|exact h
   have e:((n:Int)==0)=decide (n=0):=by by_cases h:n=0<;>simp[h]
   refine⟨?_,J.out.low⟩;rw[hs,e,Bool.true_and];rfl
end Go.Proofs
namespace Go.Proofs
open Go.RowKit
def afF(l:List nR)(i j:Nat)(hi:i<l.length)(a:j<5):(l.flatMap vV)[i*5+j]?=(vV l[i])[j]?:=by
 induction l generalizing i with
 |nil=>cases hi
 |cons x l b=>
  rw[c8];have e:(vV x).length=5:=rfl;grind
def ac4{a:Type}(b:a->a->Bool)(x:a):List a->List a
 |[]=>[x]
 |y::P=>if b x y then y::ac4 b x P else x::y::P
def abg{a:Type}(b:a->a->Bool):List a->List a:=da (λP x=>ac4 b x P) []
def xu{a:Type}(b:a->a->Bool)(l:List a):List a:=(abg b l).reverse
def ai3{a:Type}(b:a->a->Bool)(x:a)(P:List a):(ac4 b x P).length=P.length+1:=by
 induction P with
 |nil=>rfl
 |cons y P c=>rw[ac4];split<;>simp[c]
def agu{a:Type}(b:a->a->Bool)(l:List a)(x:a):abg b (l++[x])=ac4 b x (abg b l):=by simp[abg,List.foldl_append]
def ace{a:Type}(b:a->a->Bool)(l:List a):(abg b l).length=l.length:=by
 have key:∀(l P:List a),(da (λP x=>ac4 b x P) P l).length=P.length+l.length:=by
  intro l
  induction l with
  |nil=>intro P;simp
  |cons x l c=>intro P;rw[List.foldl_cons,c,ai3,db];omega
 rw[abg,key];simp
def acg{a:Type}(b:a->a->Bool)(l:List a):(xu b l).length=l.length:=by simp[xu,ace]
def aam(x y:nR):Bool:=decide (x.2.2.2.2<y.2.2.2.2)
def agv(x y:nR)(w:aa):ad PL 61 #[fA (aaW x),fA (aaW y)] w λe w'=>e=gt (fJ gw (Ip x.2.2.2.2 y.2.2.2.2))/\w'=(w.alloc (gy (aaW x) 75)).alloc (gy (aaW y) 75):=by
 go_enter (fx ao em),Tryz.ntmps61
 go_wp2_with (go_at_call 62;refine(Kw _ _ _).mono ?_;rintro e w'⟨rfl,rfl⟩)
 go_ret;exact⟨rfl,rfl⟩
def anl(x y:nR):(Ip x.2.2.2.2 y.2.2.2.2<0)↔aam x y=true:=by
 unfold Ip aam;rw[decide_eq_true_iff];split
 .simp[*]
 .split<;>simp[*]
open Go.Shelf Go.Sort
def alJ{a:Type}[Inhabited a](P R:List a)(x y:a):(P++y::x::R).toArray[P.length]! = y/\(P++y::x::R).toArray[P.length+1]! = x:=by
 grind
def ai4{a:Type}[Inhabited a](P R:List a)(x y:a):swp (P++y::x::R).toArray (P.length+1) P.length=(P++x::y::R).toArray:=by
 unfold swp;simp_all
def aas{a:Type}[Inhabited a](b:a->a->Bool)(x:a):∀(P R:List a),insInner b 0 P.length (P.reverse++x::R).toArray=((ac4 b x P).reverse++R).toArray
 |[],R=>by rw[dd,insInner];simp[ac4]
 |y::P,R=>by
  have h:(y::P).reverse++x::R=P.reverse++y::x::R:=ar;have e:=alJ P.reverse R x y;have hs:=ai4 P.reverse R x y;rw[List.length_reverse]at e hs;rw[h,db,insInner,e.1,e.2,ac4];by_cases hl:b x y=true
  .rw[if_pos (by simp[hl]),if_pos hl,hs,aas b x P (y::R)];simp
  grind
def aav{b:Type}[Inhabited b](a:b->b->Bool)(L:List b):∀(n i:Nat),L.length-i=n->insOuter a 0 L.length i (xu a (L.take i)++L.drop i).toArray=(xu a L).toArray
 |0,i,h=>by
  grind [insOuter_stop,List.take_of_length_le,List.drop_of_length_le]
 |n+1,i,h=>by
  have hi:i<L.length:=ab;have hl:(abg a (L.take i)).length=i:=by rw[ace];simp;omega
  rw[insOuter_go _ _ _ _ _ hi,<-aav a L n (i+1) ab,List.drop_eq_getElem_cons hi];congr 1;have:=aas a L[i] (abg a (L.take i)) (L.drop (i+1));rw[hl]at this;rw[xu,this,xu,List.take_succ_eq_append_getElem hi,agu]
def aaG{b:Type}[Inhabited b](c:b->b->Bool)(L:List b):insertionSort c L.toArray 0 L.length=(xu c L).toArray:=by
 unfold insertionSort;have:=aav c L (L.length-1) 1 rfl;have e:xu c (L.take 1)++L.drop 1=L:=by
  cases L with
  |nil=>rfl
  |cons a L=>simp[xu,abg,ac4]
 rw[e]at this;exact this
def ag2:PL.underlying 39=some (.slice 75):=ae
def aaX:(PL.info? 75).map (λi=>(i.zero,i.size,i.bytes))=some (some (fA #[fJ gw 0,fJ gw 0,fJ gw 0,fJ gw 0,fJ gw 0]),5,40):=ae
def kV(W:aa)(base:Nat)(v:ac)(l:List nR):Prop:=W.ownsRow base 75 5 v l.length (l.flatMap vV)
def kV.alloc{W:aa}{base:Nat}{v:ac}{l:List nR}(h:kV W base v l)(o:Obj):kV (W.alloc o) base v l:=World.ownsRow.alloc h o
def kV.on{W b:aa}{base:Nat}{v:ac}{l:List nR}(h:kV W base v l)(d:bA W b):kV b base v l:=by
 obtain⟨c,h⟩:=h
 rcases h with h|⟨g,cap,a,e1,hb,hg,e⟩
 .exact⟨c,gE h⟩
 .exact⟨c,gG ⟨g,cap,a,e1,hb,(d.block _ (cm hg)).trans hg,e⟩⟩
def vB{W:aa}{base e size n:Nat}{v:ac}{xs:List ac}(h:W.ownsRow base e size v n xs):∃b c,v=fP b n c:=by
 rcases h.2 with⟨rfl,d⟩|⟨g,cap,a,rfl,_⟩
 .grind
 .exact⟨_,_,rfl⟩
def atg:Ren:=⟨λ_=>126,λt=>if t=24 then 75 else if t=22 then 39 else if t=25 then 130 else t,λt=>t⟩
def ath:SlLaysF0.n20 PL atg where
 mixed:=rfl
 f20:=⟨ "slices.insertionSortCmpFunc[nock/api.FieldTrouble]",ao,(fx ao Tryz.func126).trans ae⟩
 t0:=ae
 a0:=by intro w;kernel_rfl
 z0:=by intro w;kernel_rfl
 v0:=by intro w;kernel_rfl
 t3:=ae
 a3:=by intro w;kernel_rfl
 z3:=by intro w;kernel_rfl
 v3:=by intro w;kernel_rfl
 t4:=ae
 a4:=by intro w;kernel_rfl
 z4:=by intro w;kernel_rfl
 v4:=by intro w;kernel_rfl
 t22:=ae
 a22:=by intro w;kernel_rfl
 z22:=by intro w;kernel_rfl
 v22:=by intro w;kernel_rfl
 t25:=ae
 a25:=by intro w;kernel_rfl
 z25:=by intro w;kernel_rfl
 v25:=by intro w;kernel_rfl
def afH(L:List nR)(t:Nat)(h:t<L.length*5):(L.flatMap vV)[t]?=some (flatK vV 5 L.toArray)[t]!:=by
 have a:t / 5<L.length:=ab;have e:=afF L (t / 5) (t % 5) a ab;rw[show t / 5*5+t % 5=t by omega]at e;have b:L.toArray[t / 5]! = L[t / 5]:=aS;rw[e,get_flatK _ _ _ _ (by simpa using h),b];have c:t % 5<(vV L[t / 5]).length:=bC _ ao;grind
def afI(L:List nR)(b c base:Nat)(w:aa)(h:kV w base (fP (some ⟨b,0,none⟩) L.length c) L)(hl:L.length<=20) :
 ad PL 126 #[fP (some ⟨b,0,none⟩) L.length c,fJ gw 0,fJ gw L.length,f6 (.func 61) #[] #[]] w λe w'=>(∃v,e=gt v)/\kV w' base (fP (some ⟨b,0,none⟩) L.length c) (xu aam L)/\Below base w w':=by
 obtain⟨F,⟨z,_⟩|⟨g,cap,a,e,hb,hg,hc,A,hs,B⟩⟩:=h
 .cases z
 obtain⟨e1,_,C⟩:=eI e;cases e1;cases C;have f:=cm hg;have D:HoldsK vV 5 w b 0 L.toArray:=by
  intro j p;have p:j<L.length*5:=by simpa using p
  refine⟨?_,tO hg _⟩;have:=afH L j p;rw[<-B,df p]at this;simp only[eM,hg,bT];simpa using this
 have q:CmpLays PL 61 #[] vV 5 (λx y=>Ip x.2.2.2.2 y.2.2.2.2) b 0 L.toArray.size w:=λm r H hd x y=>by
  refine(agv x y _).mono ?_;rintro e w'⟨rfl,rfl⟩;exact⟨rfl,0,_,by rw[alloc_eq_grow,alloc_eq_grow,grow_grow];rfl⟩
 refine(AnyQ.insertionSortCmpFunc ath 5 (by intro w;kernel_rfl) (by intro w;kernel_rfl) vV (λ_=>rfl) (λx v hv=>by simp only[vV,dk,dp,or_false]at hv;rcases hv with rfl|rfl|rfl|rfl|rfl<;>rfl) _ 61 #[] b 0 c 0 L.length L.toArray w (JZ (fx ao em) (by decide +kernel) rfl) q D f (bv _) ar (by simp;omega)).mono ?_;rintro e w'⟨rfl,n,r,rfl⟩;have E:(ltOf λx y:nR=>Ip x.2.2.2.2 y.2.2.2.2)=aam:=by
  funext x y;have:=anl x y;unfold ltOf;grind
 rw[E,aaG];obtain⟨S,u⟩:=br (xu aam L);have d:S.length=L.length:=by rw[u,acg]
 rw[<-u];have hF:(flatK vV 5 S.toArray).size=L.length*5:=by simp[d]
 have i:(sortWorldK vV 5 w b 0 n S.toArray r).heap=w.heap.modify b (onCells (putCells id 0 (flatK vV 5 S.toArray)))++r:=rfl;refine⟨⟨_,rfl⟩,⟨?_,gG ⟨b,c,putCells id 0 (flatK vV 5 S.toArray) a,by rw[d],hb,?_,by rw[d];exact hc,A,?_,?_⟩⟩,?_⟩
 .have:∀l:List nR,(l.flatMap vV).length=l.length*5:=λl=>by
   induction l with
   |nil=>rfl
   |cons x l s=>rw[c8,dq,s];simp[vV];omega
  exact this S
 .rw[i,Array.getElem?_append_left (by simpa using f),eT,if_pos rfl,hg];rfl
 .simpa[putCells]using hs
 .apply List.ext_getElem?;intro t;rw[List.getElem?_take];have hcs:L.length*5<=a.size:=ab;split
  .rename_i o;rw[d]at o;rw[afH S t ab];have:a[t]?=some a[t]:=Array.getElem?_eq_getElem ab;simp only[putCells,Array.getElem?_toList,Array.getElem?_mapIdx,this,eV];grind
  .rename_i o;rw[List.getElem?_eq_none];have:∀l:List nR,(l.flatMap vV).length=l.length*5:=λl=>by
    induction l with
    |nil=>rfl
    |cons x l s=>rw[c8,dq,s];simp[vV];omega
   rw[this];omega
 .exact⟨rfl,rfl,rfl,by rw[i];simp,λk I=>aS⟩
end Go.Proofs
namespace Go.Proofs
open Go.RowKit Go.Shelf
attribute [local go_sem] Oper.semAt_some
def acj(a1 a2 a3 a4 a b c d:Int):Int:=Ej (decide (a1<d)&&decide (a<a4)) (decide (a3<=b)||decide (c<=a2))
def IU(L:List Int)(a b p:Nat):nR:=(a,(b:Nat),(p:Nat),acj (L.getD (a*25+p*5+1) 0) (L.getD (a*25+p*5+2) 0) (L.getD (a*25+p*5+3) 0) (L.getD (a*25+p*5+4) 0) (L.getD (b*25+p*5+1) 0) (L.getD (b*25+p*5+2) 0) (L.getD (b*25+p*5+3) 0) (L.getD (b*25+p*5+4) 0),max (L.getD (a*25+p*5+1) 0) (L.getD (b*25+p*5+1) 0))
def CO(L:List Int)(a b:Nat):Nat->List nR
 |0=>[]
 |p+1=>CO L a b p++if(IU L a b p).2.2.2.1=2 then[] else[IU L a b p]
def NK(L:List Int)(n a:Nat):Nat->List nR
 |0=>[]
 |k+1=>NK L n a k++CO L a (a+1+k) n
def NQ(L:List Int)(n m:Nat):Nat->List nR
 |0=>[]
 |a+1=>NQ L n m a++NK L n a (m-(a+1))
def alM(L:List Int)(n m:Nat):List nR:=xu aam (NQ L n m m)
def afK(L:List Int)(a b p:Nat):(CO L a b p).length<=p:=by
 induction p with
 |zero=>exact bq _
 |succ p c=>rw[CO,dq];split<;>simp<;>omega
def u7(L:List Int){n:Nat}(b:n<=5)(a k:Nat):(NK L n a k).length<=5*k:=by
 induction k with
 |zero=>exact bq _
 |succ k c=>have:=afK L a (a+1+k) n;rw[NK,dq];omega
def ai7(L:List Int){n m:Nat}(b:n<=5)(c:m<=3)(a:Nat):(NQ L n m a).length<=15*a:=by
 induction a with
 |zero=>exact bq _
 |succ a d=>have:=u7 L b a (m-(a+1));rw[NQ,dq];omega
def ai9(L:List Int){n m:Nat}(a:n<=5)(c:m<=3):(NQ L n m m).length<=15:=by
 match m,c with
 |0,_=>exact bv _
 |1,_=>
  have b:=u7 L a 0 0;rw[show NQ L n 1 1=NK L n 0 0 from rfl];omega
 |2,_=>
  have b:=u7 L a 0 1;have d:=u7 L a 1 0;rw[show NQ L n 2 2=NK L n 0 1++NK L n 1 0 from rfl,dq];omega
 |3,_=>
  have b:=u7 L a 0 2;have d:=u7 L a 1 1;have e:=u7 L a 2 0;rw[show NQ L n 3 3=NK L n 0 2++NK L n 1 1++NK L n 2 0 from rfl,dq,dq];omega
def z61:Array ac:=#[fJ gw 0,fJ gw 0,fJ gw 0,fJ gw 0,fJ gw 0]
def IG(n0:Nat)(A:Array ac)(j:Nat)(vs:Nat->ac)(W:aa):Prop:=
 (j=14->∃k,vs 14=f8 (some ⟨k,0,none⟩)/\n0<=k/\k<W.heap.size/\∃x0 x1 x2 x3 x4,W.heap[k]?=some (gy #[x0,x1,x2,x3,x4] 72))/\
 (j=15->∃k,vs 15=f8 (some ⟨k,0,none⟩)/\n0<=k/\k<W.heap.size/\W.heap[k]?=some (gy z61 72))/\
 (j=16->∃k,vs 14=f8 (some ⟨k,0,none⟩)/\W.heap[k]?=some (gy A 72))
def ExT(t:Nat):Bool:=t != 14&&t != 15&&t != 16
def neT(i j:Nat)(u v:ac):Prop:=(i=14/\j=15\/i=15/\j=14)->u≠v
def IG.le{n0:Nat}{A:Array ac}{j:Nat}{vs:Nat->ac}{W g:aa}(h:IG n0 A j vs W)(b:bA W g):IG n0 A j vs g:=
 ⟨λe=>(h.1 e).imp λq⟨c,f,d,x0,x1,x2,x3,x4,a⟩=>⟨c,f,b8 d b.size,x0,x1,x2,x3,x4,(b.block _ d).trans a⟩,
  λe=>(h.2.1 e).imp λq⟨c,f,d,a⟩=>⟨c,f,b8 d b.size,(b.block _ d).trans a⟩,
  λe=>(h.2.2 e).imp λq⟨c,a⟩=>⟨c,(b.block _ (cm a)).trans a⟩⟩
def Sl{n0:Nat}{A:Array ac}{W:aa}{vs:Nat->ac}{D:List Nat}{i:Nat}(f:n0<=W.heap.size)(hi:i=14\/i=15)(hd:∀j∈D,ExT j=false->IG n0 A j vs W) :
 (∀j∈D,ExT j=false->IG n0 A j vs (W.alloc (gy z61 72)))/\IG n0 A i (upd vs i (f8 (some ⟨W.heap.size,0,none⟩))) (W.alloc (gy z61 72))/\∀j∈D,ExT j=false->neT j i (vs j) (f8 (some ⟨W.heap.size,0,none⟩)):=by
 have g:=(bm W.heap.size W).alloc (bq _) (gy z61 72);refine⟨λj c d=>(hd j c d).le g,⟨λe=>⟨W.heap.size,by simp[upd,e],f,ar,_,_,_,_,_,au _ _⟩,λe=>⟨W.heap.size,by simp[upd,e],f,ar,au _ _⟩,λe=>ab⟩,λj c d e1 e=>?_⟩;obtain⟨q,a,b⟩:∃q,vs j=f8 (some ⟨q,0,none⟩)/\q<W.heap.size:=by
  rcases e1 with⟨rfl,_⟩|⟨rfl,_⟩
  .obtain⟨q,a,_,b,_⟩:=(hd _ c d).1 rfl;exact⟨q,a,b⟩
  .obtain⟨q,a,_,b,_⟩:=(hd _ c d).2.1 rfl;exact⟨q,a,b⟩
 rw[a]at e;cases e;exact cd _ b
structure KR(C:CD)(w:aa)(k:Nat)(L:List Int)(B:Nat)(W:aa):Prop where
 pK:B<=W.heap.size
 kl:k<B
 bl:w.heap.size<B
 box:W.heap[w.heap.size]?=some (gy C.val 77)
 row:Row W k (L.map bh)
 low:bA w W
def KR.on{C:CD}{w W b:aa}{k:Nat}{L:List Int}{B:Nat}(h:KR C w k L B W)(a:bA W b):KR C w k L B b:=
 ⟨ce h.pK a.size,h.kl,h.bl,(a.block _ (cm h.box)).trans h.box,h.row.on a,cC h.low a⟩
def Below.ag3{B:Nat}{a w:aa}(h:Below B a w){k:Nat}(b:B<=k)(u0 u1 u2 u3 u4:ac):Below B a (((((w.setCell ⟨k,0,none⟩ u0).setCell ⟨k,1,none⟩ u1).setCell ⟨k,2,none⟩ u2).setCell ⟨k,3,none⟩ u3).setCell ⟨k,4,none⟩ u4):=
 ((((h.setCell (p:=⟨k,0,none⟩) b _).setCell (p:=⟨k,1,none⟩) b _).setCell (p:=⟨k,2,none⟩) b _).setCell (p:=⟨k,3,none⟩) b _).setCell (p:=⟨k,4,none⟩) b _
def Sm{W:aa}{b:Nat}{x:nR}{t:aF}(h:W.heap[b]?=some (gy #[fJ gw x.1,fJ gw x.2.1,fJ gw x.2.2.1,fJ gw x.2.2.2.1,fJ gw x.2.2.2.2] t)):∀(j:Nat)(u:ac),(vV x)[j]?=some u->W.cell? ((⟨b,0,none⟩:aI).add j)=some u:=by
 intro j u e
 match j,e with
 |0,e=>cases e;simp[eM,Addr.add,h]
 |1,e=>cases e;simp[eM,Addr.add,h]
 |2,e=>cases e;simp[eM,Addr.add,h]
 |3,e=>cases e;simp[eM,Addr.add,h]
 |4,e=>cases e;simp[eM,Addr.add,h]
 |j+5,e=>simp[vV]at e
def KR.alloc{C:CD}{w W:aa}{k:Nat}{L:List Int}{B:Nat}(h:KR C w k L B W)(o:Obj):KR C w k L B (W.alloc o):=h.on ((bm _ _).alloc (bq _) o)
def agw(v:ac)(L:List nR){base:Nat}{w:aa}(h:kV w base v L)(hl:L.length<=15):ad PL 60 #[v,f6 (.func 61) #[] #[]] w λe w'=>e=gt v/\kV w' base v (xu aam L)/\Below base w w':=by
 obtain⟨n,d⟩:=br L.length;obtain⟨b,c,rfl⟩:=vB h;rw[<-d]
 have H:Hid (ad PL 126 #[fP b n c,fJ gw 0,fJ gw n,f6 (.func 61) #[] #[]] w λe w'=>(∃v,e=gt v)/\kV w' base (fP b n c) (xu aam L)/\Below base w w'):=bj (by
  have k:=h
  rcases h.2 with⟨e,l⟩|⟨g,cap,m,e,_⟩
  .obtain⟨rfl,_,rfl⟩:=eI e;obtain rfl:=List.length_eq_zero_iff.1 l;subst d;refine(zW none 0 0 0 _ w ab).mono ?_;rintro e w'⟨a,rfl⟩;exact⟨a,k,bm _ _⟩
  .obtain⟨rfl,_,rfl⟩:=eI e;rw[d]
   exact afI L g c base w k ab)
 rw[<-d]at hl;clear h d;have p:(n:Int)<20:=ab;have q:(n:Int)<=20:=ab
 have i:Hid (ad PL 117 #[fP b n c,fJ gw n,f6 (.func 61) #[] #[]] w λe w'=>(∃v,e=gt v)/\kV w' base (fP b n c) (xu aam L)/\Below base w w'):=bj (by
  go_enter (fx ao Tryz.func117),Tryz.ntmps117;go_wp2
  go_loop [7,8] (λv7 o=>v7=fJ gw 0/\o=fJ gw 20) (λ_ _=>0)
  case atStart=>exact⟨rfl,rfl⟩
  case round=>
   obtain⟨rfl,rfl⟩:=hrel
   go_wp2_with (go_at_call 126;refine H.out.mono ?_;rintro e w3⟨⟨v,rfl⟩,a⟩;have f:=bj a;clear a)
   go_loop [6] (λv=>v=fJ gw 20) (λ_=>0)
   case atStart=>rfl
   case round=>
    subst hrel;go_wp2
    go_end0
    exact⟨⟨_,rfl⟩,f.out⟩)
 have j:Hid (ad PL 96 #[fP b n c,f6 (.func 61) #[] #[]] w λe w'=>(∃v,e=gt v)/\kV w' base (fP b n c) (xu aam L)/\Below base w w'):=bj (by
  go_enter (fx ao Tryz.func96),Tryz.ntmps96
  go_wp2_with (go_at_call 117;refine i.out.mono ?_;rintro e w'⟨⟨v,rfl⟩,a⟩;have f:=bj a;clear a)
  go_end0
  exact⟨⟨_,rfl⟩,f.out⟩)
 go_enter (fx ao Tryz.func60),Tryz.ntmps60
 go_wp2_with (go_at_call 96;refine j.out.mono ?_;rintro e w'⟨⟨v,rfl⟩,a⟩;have f:=bj a;clear a)
 go_ret;exact⟨rfl,f.out⟩
def abh(C:CD)(L:List Int)(hL:L.length=75)(h4:C.n4<=5)(h5:C.n5<=3)(w:aa)(h:C.At w)
 (HT:∀W,C.At W->ad PL 29 #[fA C.val] W λe w'=>∃k,e=gt (f8 (some ⟨k,0,none⟩))/\Row w' k (L.map bh)/\bA W w') :
 ad PL 32 #[fA C.val] w λe w'=>∃v,e=gt v/\kV w' w.heap.size v (alM L C.n4 C.n5)/\bA w w':=by
 have HA:=bj h;have HTT:=bj HT;have HLL:=bj hL;have K0:Hid (KT C w (w.alloc (gy C.val 77))):=bj ⟨au _ _,(bm _ _).alloc (bq _) _⟩;clear h HT hL;go_enter (fx ao Tryz.func32),Tryz.ntmps32
 go_upto_region 1 with fail
 obtain⟨W0,kS⟩:=br (w.alloc (gy C.val 77));rw[<-kS]at K0 ⊢;clear kS;obtain⟨r,s,t,y,f4,z⟩:=bf K0.out.box
 go_wp2_with (go_at_call 29;refine(HTT.out _ (HA.out.below K0.out.low)).mono ?_;rintro e w2⟨k,rfl,hR,qA⟩;have k2:=K0.out.on qA;clear qA r s t y f4 z;have K2:Hid (KR C w k L w2.heap.size w2):=bj (KR.mk (bq _) hR.1 (cm k2.box) k2.box hR k2.low);clear k2 hR;obtain⟨r,s,t,y,f4,z⟩:=bf K2.out.box)
 go_loopw [4,19] (λv4 O wr=>∃a:Nat,a<=C.n5/\O=fJ gw a/\kV wr w2.heap.size v4 (NQ L C.n4 C.n5 a)/\KR C w k L w2.heap.size wr) (λ_ O _=>C.n5-(intOf O).toNat)
 case atStart=>exact⟨0,bv _,rfl,⟨rfl,gE ⟨rfl,rfl⟩⟩,K2.out⟩
 case round=>
  obtain⟨a,ha,rfl,I,J⟩:=hrel;clear r s t y f4 z;have HO:=bj I;have HK:=bj J;clear I J K2;obtain⟨r,s,t,y,f4,z⟩:=bf HK.out.box;by_cases aH:a<C.n5
  .have i1:(a:Int)<C.n5:=ab;have i3:(a:Int)<3:=ab;clear r s t y f4 z;go_wp2
   go_loopw [4,6] (λv4 v6 wq=>∃b j:Nat,b=a+1+j/\b<=C.n5/\v6=fJ gw b/\kV wq w2.heap.size v4 (NQ L C.n4 C.n5 a++NK L C.n4 a j)/\KR C w k L w2.heap.size wq) (λ_ v6 _=>C.n5-(intOf v6).toNat)
   case atStart=>exact⟨a+1,0,rfl,aH,by go_num,by simpa[NK]using HO.out,HK.out⟩
   case round=>
    obtain⟨b,j,hb,eP,rfl,I,J⟩:=hrel;have A:=bj hb;have hab:a<b:=ab;have P:=bj I;have B:=bj J;clear I J HO HK hb;obtain⟨r,s,t,y,f4,z⟩:=bf B.out.box;by_cases ato:b<C.n5
    .have i2:(b:Int)<C.n5:=ab;have i6:(b:Int)<3:=ab;go_wp2
     go_loopw [4,36] (λv4 Q wp=>∃p:Nat,p<=C.n4/\Q=fJ gw p/\kV wp w2.heap.size v4 (NQ L C.n4 C.n5 a++NK L C.n4 a j++CO L a b p)/\KR C w k L w2.heap.size wp) (λ_ Q _=>C.n4-(intOf Q).toNat)
     case atStart=>exact⟨0,bv _,rfl,by simpa[CO]using P.out,B.out⟩
     case round=>
      obtain⟨p,hp,rfl,I,J⟩:=hrel;have HO3:=bj I;have f:=bj J;clear I J P B r s t y f4 z;by_cases apE:p<C.n4
      .have i4:(p:Int)<C.n4:=ab;have i5:(p:Int)<5:=ab;have cell:∀j,j<75->wr.cell? ⟨k,j,none⟩=some (fJ gw (L.getD j 0)):=λj hj=>f.out.row.getD (by rw[HLL.out];exact hj);obtain⟨a0,ea0⟩:=br (L.getD (a*25+p*5) 0);obtain⟨a1,R⟩:=br (L.getD (a*25+p*5+1) 0);obtain⟨a2,S⟩:=br (L.getD (a*25+p*5+2) 0);obtain⟨a3,U⟩:=br (L.getD (a*25+p*5+3) 0);obtain⟨a4,V⟩:=br (L.getD (a*25+p*5+4) 0);obtain⟨b0,eb0⟩:=br (L.getD (b*25+p*5) 0);obtain⟨g,X⟩:=br (L.getD (b*25+p*5+1) 0);obtain⟨E,Y⟩:=br (L.getD (b*25+p*5+2) 0);obtain⟨K,Z⟩:=br (L.getD (b*25+p*5+3) 0);obtain⟨F,eb4⟩:=br (L.getD (b*25+p*5+4) 0)
       have T:Hid (wr.cell? ⟨k,a*25+p*5,none⟩=some (fJ gw a0)/\wr.cell? ⟨k,a*25+p*5+1,none⟩=some (fJ gw a1)/\wr.cell? ⟨k,a*25+p*5+2,none⟩=some (fJ gw a2)/\wr.cell? ⟨k,a*25+p*5+3,none⟩=some (fJ gw a3)/\wr.cell? ⟨k,a*25+p*5+4,none⟩=some (fJ gw a4)/\
        wr.cell? ⟨k,b*25+p*5,none⟩=some (fJ gw b0)/\wr.cell? ⟨k,b*25+p*5+1,none⟩=some (fJ gw g)/\wr.cell? ⟨k,b*25+p*5+2,none⟩=some (fJ gw E)/\wr.cell? ⟨k,b*25+p*5+3,none⟩=some (fJ gw K)/\wr.cell? ⟨k,b*25+p*5+4,none⟩=some (fJ gw F)):=bj
        ⟨by rw[ea0];exact cell _ ab,by rw[R];exact cell _ ab,by rw[S];exact cell _ ab,by rw[U];exact cell _ ab,by rw[V];exact cell _ ab,by rw[eb0];exact cell _ ab,by rw[X];exact cell _ ab,by rw[Y];exact cell _ ab,by rw[Z];exact cell _ ab,by rw[eb4];exact cell _ ab⟩
       obtain⟨mt,hmt⟩:=br (acj a1 a2 a3 a4 g E K F);have ET:Hid (IU L a b p=(a,(b:Int),(p:Int),mt,max a1 g)):=bj (by rw[IU,hmt,R,S,U,V,X,Y,Z,eb4]);have HMT:=bj hmt;have Ll:=f.out.row.1;clear cell ea0 R S U V eb0 X Y Z eb4 hmt;obtain⟨r,s,t,y,f4,z⟩:=bf f.out.box
       go_upto_region 12 with fail
       clear r s t y f4 z;refine iL 17 14 (λ_ W=>bA wr W) (λW W'=>bA W W') ExT (λ_=>IG wr.heap.size #[fJ gw a0,fJ gw a1,fJ gw a2,fJ gw a3,fJ gw a4]) neT (λ_ _ _ _ h e=>(h (e.symm.imp fg fg)).symm) rfl ae ae rfl
        (λ_ i vs W W' hle h=>h.le hle) (λi o ho vs eX W he aaZ _ h=>⟨λe=>by subst e;rw[<-he];exact h.1 rfl,λe=>by subst e;rw[<-he];exact h.2.1 rfl,λe=>?_⟩) (bm _ _).drew ?_
       .subst e;have e14:vs 14=eX 14:=by
         simp only[dt,du,dv,fm]at ho;subst ho;exact aaZ ⟨14,gL⟩ (cH.2 ⟨ar,rfl⟩)
        rw[<-e14];exact h.2.2 rfl
       iterate 14 (
        apply iK
        case hE=>rfl
        case h=>
         intro vs W _ l hd;obtain⟨t0,t1,t2,t3,t4,t5,t6,t7,t8,t9⟩:=T.out;rw[<-l.cell (p:=⟨k,_,none⟩) Ll]at t0 t1 t2 t3 t4 t5 t6 t7 t8 t9;go_simp;exact⟨rfl,bm _ _⟩
        case hb=>exact KD)
       iterate 2 (
        apply ey
        case hE=>rfl
        case hb=>exact KD
        case h=>
         intro vs W D _ _ l _ hi _ hd hP;go_simp
         exact⟨l.alloc l.size _,Sl l.size ar hd⟩)
       apply ey
       case hE=>rfl
       case hb=>exact KD
       case h=>
        intro vs W D _ _ l jw hi _ hd hP;have m14:14∈D:=jw ⟨14,gL⟩ (cH.2 ⟨ar,rfl⟩);have m15:15∈D:=jw ⟨15,.phase⟩ (cH.2 ⟨ar,rfl⟩);obtain⟨ka,H,hla,alY,x0,x1,x2,x3,x4,M⟩:=(hd 14 m14 rfl).1 rfl;obtain⟨n,NZ,Tg,ab0,iC⟩:=(hd 15 m15 rfl).2.1 rfl;have bu:n≠ka:=λe=>hP 14 m14 15 m15 ao rfl rfl (gE ⟨rfl,rfl⟩) (by rw[H,NZ,e]);have fz:=tO M;rw[H];obtain⟨y0,y1,y2,y3,y4⟩:=qO M;go_simp;refine⟨Below.ag3 l hla _ _ _ _ _,λj hj hE=>?_,⟨bp,bp,λ_=>⟨ka,by simp[upd,H],tD M⟩⟩,λj _ _ e=>ab⟩;refine⟨λe=>⟨ka,H,hla,by simpa using alY,_,_,_,_,_,tD M⟩,λe=>⟨n,NZ,Tg,by simpa using ab0,(gh bu).trans iC⟩,λe=>⟨ka,H,tD M⟩⟩
       refine nv λvs W _ _ l hd hX=>?_;obtain⟨ka,H,M⟩:=(hd 16 ab rfl).2.2 rfl;obtain⟨n,NZ,Tg,ab0,iC⟩:=(hd 15 ab rfl).2.1 rfl;have bu:ka≠n:=λe=>hX 14 15 ab ab ab rfl rfl (gE ⟨rfl,rfl⟩) (by rw[H,NZ,e]);have NE:=bj bu;have HBA:=bj M;have wC:=bj iC;have HC:=bj l;have HLB:=bj Tg;obtain⟨y0,y1,y2,y3,y4⟩:=qO iC;have fz:=tO iC;rw[H,NZ];clear M iC l hd hX H NZ bu Tg
       go_upto_region 13 with fail
       obtain⟨W2,vp⟩:=br (((((W.setCell ⟨n,0,none⟩ (fJ gw b0)).setCell ⟨n,1,none⟩ (fJ gw g)).setCell ⟨n,2,none⟩ (fJ gw E)).setCell ⟨n,3,none⟩ (fJ gw K)).setCell ⟨n,4,none⟩ (fJ gw F));have BA:Hid (W2.heap[ka]?=some (gy #[fJ gw a0,fJ gw a1,fJ gw a2,fJ gw a3,fJ gw a4] 72)):=bj (by rw[vp];exact(gh NE.out).trans HBA.out);have BB:Hid (W2.heap[n]?=some (gy #[fJ gw b0,fJ gw g,fJ gw E,fJ gw K,fJ gw F] 72)):=bj (by rw[vp];exact tD wC.out);have HB:Hid (bA wr W2):=bj (by rw[vp];exact Below.ag3 HC.out HLB.out _ _ _ _ _);rw[<-vp];clear vp y0 y1 y2 y3 y4 fz HBA wC HC HLB NE;clear T Ll
       go_cut [10] from 37 to 111 (fun(v10:ac)(wx:aa)=>v10=fJ gw mt/\wx=W2)
       case first=>
        obtain⟨z0,z1,z2,z3,z4⟩:=qO BA.out;obtain⟨y0,y1,y2,y3,y4⟩:=qO BB.out;have la:=cm BA.out;have lb:=cm BB.out;have s1:(a1<F/\g<a4)\/(a1<F/\¬g<a4)\/¬a1<F:=ab;have s2:(a3<=E)\/(¬a3<=E/\K<=a2)\/(¬a3<=E/\¬K<=a2):=ab
        rcases s1 with⟨e1,e2⟩|⟨e1,e2⟩|e1<;>rcases s2 with e3|⟨e3,e4⟩|⟨e3,e4⟩
        all_goals (
         go_wp2_with (go_at_call 46;refine(yH _ _ _).mono ?_;rintro e w'⟨rfl,rfl⟩)
         go_meet
         case rel=>
          refine⟨?_,rfl⟩;rw[HMT.out,acj]
          first|rw[show(decide (a1<F)&&decide (g<a4))=true by simp;omega]|rw[show(decide (a1<F)&&decide (g<a4))=false by simp;omega]
          first|rw[show(decide (a3<=E)||decide (K<=a2))=true by simp;omega]|rw[show(decide (a3<=E)||decide (K<=a2))=false by simp;omega])
       case rest=>
        obtain⟨rfl,rfl⟩:=hcut;obtain⟨z0,z1,z2,z3,z4⟩:=qO BA.out;obtain⟨y0,y1,y2,y3,y4⟩:=qO BB.out;have la:=cm BA.out;have lb:=cm BB.out;have q1:=Rw;have q2:=Kv;have O2:=bj (HO3.out.on HB.out);have K2:=bj (f.out.on HB.out)
        go_upto_region 16 with fail
        obtain⟨mx,hmx⟩:∃m,max a1 g=m:=⟨_,rfl⟩
        rw[hmx];have HMX:Hid (IU L a b p=(a,(b:Int),(p:Int),mt,mx)):=bj (by rw[ET.out,hmx]);clear hmx z0 z1 z2 z3 z4 y0 y1 y2 y3 y4 la lb;obtain⟨N,Sn⟩:=br ((wc.alloc (gy #[fJ gw a,fJ gw b,fJ gw p,fJ gw mt,fJ gw mx] 75)).alloc (gy #[fJ gw a,fJ gw b,fJ gw p,fJ gw 2,fJ gw mx] 75));have r1:N.heap[wc.heap.size]?=some (gy #[fJ gw a,fJ gw b,fJ gw p,fJ gw mt,fJ gw mx] 75):=by rw[Sn];exact(((bm _ (wc.alloc _)).alloc (bq _) _).block _ ar).trans (au wc _)
        have r2:N.heap[wc.heap.size+1]?=some (gy #[fJ gw a,fJ gw b,fJ gw p,fJ gw 2,fJ gw mx] 75):=by
         have h:=au (wc.alloc (gy #[fJ gw a,fJ gw b,fJ gw p,fJ gw mt,fJ gw mx] 75)) (gy #[fJ gw a,fJ gw b,fJ gw p,fJ gw 2,fJ gw mx] 75);rw[eN]at h;rw[Sn];exact h
        have O4:=bj (show kV N w2.heap.size u4 _ by rw[Sn];exact(O2.out.alloc _).alloc _);have K4:Hid (KR C w k L w2.heap.size N):=bj (by rw[Sn];exact(K2.out.alloc _).alloc _);rw[<-Sn];clear Sn;have z1:=cm r1;have z2:=cm r2;obtain⟨c0,c1,c2,c3,c4⟩:=qO r1;obtain⟨d0,d1,d2,d3,d4⟩:=qO r2;clear r1 r2;by_cases hm2:mt=2
        .subst hm2;go_wp2;exact⟨⟨p+1,apE,by go_num,by rw[CO,if_pos (by rw[HMX.out]),List.append_nil];exact O4.out,K4.out⟩,by simp only[intOf];omega⟩
        .obtain⟨i0,hi,mF,dx,wD⟩:=aJ aaX;have NB:=bj K4.out.pK;have Tl:(NQ L C.n4 C.n5 a++NK L C.n4 a j++CO L a b p).length<=80:=by
          have:=ai7 L h4 h5 a;have:=Go.Proofs.u7 L h4 a j;have:=afK L a b p;have:=A.out;simp only[dq];omega
         have HLN:=bj Tl;clear Tl
         go_wp2_with (at_builtin;refine wpList_append_own _ rfl _ _ _ rfl w2.heap.size 75 i0 _ 5 40 ag2 hi mF dx wD rfl ao u4 _ _ rfl (O4.out.alloc _) ⟨N.heap.size,0,none⟩ 1 1 (vV (a,(b:Int),(p:Int),mt,mx)) rfl rfl (Sm (x:=(a,(b:Int),(p:Int),mt,mx)) (au N _)) (by simp[vV,fp]) (by have:=HLN.out;simp only[aP];omega) (by have:=HLN.out;omega) (by have:=NB.out;simp;omega) ?_;intro v' w4 h1 h2 _;have H1:=bj h1;have H2:=bj h2;clear h1 h2)
         have bu:=cZ O4.out;have d:=K4.out.alloc (gy #[fJ gw a,fJ gw b,fJ gw p,fJ gw mt,fJ gw mx] 75);have hg:=(bm w2.heap.size _).grown H2.out d.pK bu;refine⟨⟨p+1,apE,by go_num,?_,ce d.pK H2.out.size,d.kl,d.bl,(hg.block _ d.bl).trans d.box,⟨b8 d.row.1 H2.out.size,λj u e=>(hg.cell (p:=⟨k,j,none⟩) d.kl).trans (d.row.2 j u e)⟩,d.low.grown H2.out d.low.size λq e=>ce (cf d.bl) (bu q e)⟩,by simp only[intOf];omega⟩;rw[CO,if_neg (by rw[HMX.out];exact hm2),HMX.out,<-dC];unfold kV;rw[dq,List.flatMap_append];simpa using H1.out
      .obtain rfl:p=C.n4:=ab;go_wp2;exact⟨⟨b+1,j+1,by rw[A.out];rfl,ato,by go_num,by rw[NK,<-A.out,<-dC];exact HO3.out,f.out⟩,by simp only[intOf];omega⟩
    .have hbn:b=C.n5:=ab;have i2:¬((b:Int)<C.n5):=ab;go_wp2;exact⟨⟨a+1,aH,by go_num,by rw[NQ,show C.n5-(a+1)=j by have:=A.out;omega];exact P.out,B.out⟩,by simp only[intOf];omega⟩
  .obtain rfl:a=C.n5:=ab;obtain⟨b,c,rfl⟩:=vB HO.out;have hm:=ai9 L h4 h5
   go_wp2_with (go_at_call 60;refine(agw _ _ HO.out ab).mono ?_;rintro e w3⟨rfl,hO3,qi⟩)
   go_ret;exact⟨_,rfl,dJ hO3 (cf HK.out.bl),HK.out.low.trans (qi.mono (cf HK.out.bl))⟩
def Cv(d:Int)(p:Nat):List nR:=if d=1/\p=3 then[(0,1,2,0,13)] else[]
def ann{d:Int}(hd:d=0\/d=1):alM (mC d) 3 2=Cv d 3:=by
 rcases hd with rfl|rfl<;>decide +kernel
def vC(C:CD)(d:Int)(hd:d=0\/d=1)(a:C.n4=3)(b:C.n5=2)(w:aa)(h:C.At w)
 (c:∀W,C.At W->ad PL 29 #[fA C.val] W λe w'=>∃k,e=gt (f8 (some ⟨k,0,none⟩))/\Row w' k ((mC d).map bh)/\bA W w') :
 ad PL 32 #[fA C.val] w λe w'=>∃v,e=gt v/\kV w' w.heap.size v (Cv d 3)/\bA w w':=by
 have:=abh C (mC d) (by rcases hd with rfl|rfl<;>rfl) ab ab w h c;rwa[a,b,ann hd]at this
end Go.Proofs
namespace Go.Proofs
open Go.RowKit
def CD.LR(C:CD):Bool:=C.small&&decide (C.cx=0)
def agO(C:CD)(w:aa)(h:C.Mem w):ad PL 4 #[fA C.val] w (aO (fY C.LR) w):=by
 have f:Hid (∀W,bA w W->C.Mem W):=bj λW g=>h.below g;have b:=bj (show KB C w (w.alloc (gy C.val 27)) from⟨au _ _,(bm _ _).alloc (bq _) _⟩);clear h;by_cases hs:C.small=true
 .have r:Hid (∀W,bA w W->C.At W):=bj λW g=>CD.At.Ri (f.out W g) hs;have a:(!C.small)=false:=by rw[hs];rfl
  have i:Hid (∀W,C.Mem W->ad PL 14 #[fA C.val] W (aO (fY false) W)):=bj λW j=>by have:=AK C W j;rwa[a]at this
  have k:=bj hs;clear hs a;by_cases hc:C.cx=0
  all_goals
   have s:=bj hc;clear hc;go_enter (fx ao ep),eq;obtain⟨l,m,n,o,f4,p⟩:=bf b.out.box
   go_wp2_with (first
    |(go_at_call 14;refine(i.out _ (f.out _ b.out.low)).mono ?_;rintro e w1⟨rfl,c⟩;have d:=bj (b.out.on c);clear c;clear l m n o f4 p;obtain⟨l,m,n,o,f4,p⟩:=bf d.out.box)
    |(go_at_call 15;refine(rK C _ (r.out _ d.out.low)).mono ?_;rintro e w2⟨rfl,q⟩;have t:=bj (d.out.on q);clear q))
   go_ret;refine⟨?_,t.out.low⟩;have:=s.out;have:=k.out;simp_all [CD.LR]
 .have a:(!C.small)=true:=by simpa using hs
  have i:Hid (∀W,C.Mem W->ad PL 14 #[fA C.val] W (aO (fY true) W)):=bj λW j=>by have:=AK C W j;rwa[a]at this
  have k:=bj hs;clear hs a;go_enter (fx ao ep),eq
  go_wp2_with (first
   |(go_at_call 14;refine(i.out _ (f.out _ b.out.low)).mono ?_;rintro e w1⟨rfl,c⟩;have d:=bj (b.out.on c);clear c))
  go_ret;refine⟨?_,d.out.low⟩;have:=k.out;simp_all [CD.LR]
open Go.Shelf
attribute [local go_sem] Oper.semAt_some
def ad1(W:aa)(v:ac)(l:List nR):Prop:=∃b c,v=fP b l.length c/\(0<l.length->∃k o,b=some ⟨k,o,none⟩/\k<W.heap.size/\∀i(hi:i<l.length),
 W.cell? ⟨k,o+i*5,none⟩=some (fJ gw (l[i].1:Nat))/\W.cell? ⟨k,o+i*5+1,none⟩=some (fJ gw l[i].2.1)/\W.cell? ⟨k,o+i*5+2,none⟩=some (fJ gw l[i].2.2.1)/\W.cell? ⟨k,o+i*5+3,none⟩=some (fJ gw l[i].2.2.2.1)/\W.cell? ⟨k,o+i*5+4,none⟩=some (fJ gw l[i].2.2.2.2))
def SQ{T:aF}{W:aa}{base:Nat}{v:ac}{l:List nR}(h:W.ownsRow base T 5 v l.length (l.flatMap vV)):ad1 W v l:=by
 obtain⟨_,h⟩:=h
 rcases h with⟨rfl,a⟩|⟨g,cap,b,rfl,hb,hg,hc,f,hs,c⟩
 .exact⟨none,0,by rw[a],λh=>ab⟩
 .refine⟨_,_,rfl,λa=>⟨g,0,rfl,cm hg,λi hi=>?_⟩⟩;have key:∀j u,j<5->(vV l[i])[j]?=some u->W.cell? ⟨g,0+i*5+j,none⟩=some u:=by
   intro j u d e;rw[<-afF l i j hi d,<-c,df ab]at e;simp only[eM,hg,bT];simpa using e
  exact⟨key 0 _ ab rfl,key 1 _ ab rfl,key 2 _ ab rfl,key 3 _ ab rfl,key 4 _ ab rfl⟩
def CD.rp(C:CD)(g i:Nat):Nat:=j8 C.n4 (C.S g) i
end Go.Proofs
namespace Go.Proofs
open Go.RowKit
def abP{C:CD}(hc:C.cx=0){g:Nat}(hg:g<C.n5)(k:Nat):(nT C g k).1=C.rp g k:=by
 have b:=(ni hc).1;have hs:=(ahU hc hg).1
 induction k with
 |zero=>
  show C.S g=j8 C.n4 (C.S g) 0;unfold j8;rw[ch,Nat.mod_eq_of_lt];unfold CD.S;omega
 |succ k a=>
  show Ff C (nT C g k).1=j8 C.n4 (C.S g) (k+1);rw[a,abk ab];rfl
def ano{C:CD}(hc:C.cx=0){g:Nat}(hg:g<C.n5){r:Nat}(d:r<=C.n4):cmV C.pn C.n4 (C.S g) (C.dl g) r=(nT C g r).2:=by
 have a:=Sa C hc hg
 induction r with
 |zero=>rfl
 |succ r f=>
  have b:=a.lo (r+1) d;have c:=a.hi (r+1) d;have h:=a.lo r ab;have i:=a.hi r ab;have e:=a.nn _ (a.p4 r);have j:=a.m4;rw[cmV,f ab];simp only[nT]at b c ⊢;rw[abP hc hg]at b c e ⊢;simp only[CD.rp]at b c e ⊢;grind[gf]
def abq(x:nR):Nat->Int
 |0=>(x.1:Nat)
 |1=>x.2.1
 |2=>x.2.2.1
 |3=>x.2.2.2.1
 |_=>x.2.2.2.2
def alO{C:CD}(hc:C.cx=0){g:Nat}(hg:g<C.n5){r:Nat}(c:r<C.n4)(j:Nat):vsV C.pn C.n4 (C.S g) (C.dl g) r j=abq (Nu C g r) j:=by
 have a:=Sa C hc hg;have d:=a.lo r ab;have f:=a.hi r ab;have b:=a.nn _ (a.p4 r);have h:=a.m4;rw[abP hc hg]at b;have e:=ano hc hg (show r<=C.n4 by omega)
 match j with
 |0=>simp only[vsV,abq,Nu,abP hc hg];rfl
 |1=>simp only[vsV,abq,Nu,e]
 |2=>simp only[vsV,abq,Nu,e]
 |3=>
  simp only[vsV,abq,Nu,e,abP hc hg];simp only[CD.rp,CD.pn]at b ⊢;exact gf _ ab
 |j+4=>
  simp only[vsV,abq,Nu,e,abP hc hg];simp only[CD.rp,CD.pn]at b ⊢;exact gf _ ab
def alQ{C:CD}(hc:C.cx=0){g:Nat}(hg:g<C.n5){r:Nat}(b:r<C.n4)(j:Nat):0<=abq (Nu C g r) j/\abq (Nu C g r) j<=1000:=by
 have a:=Sa C hc hg;have c:=a.lo r ab;have d:=a.hi r ab;have e:=a.nn _ (a.p4 r);have f:=a.m4;have h:=a.p4 r
 match j with
 |0=>simp only[abq,Nu];omega
 |1=>simp only[abq,Nu];omega
 |2=>simp only[abq,Nu];omega
 |3=>simp only[abq,Nu];omega
 |j+4=>simp only[abq,Nu];omega
def CD.V5{C:CD}(hc:C.cx=0):Ir C.yd:=by
 have key:∀o,-10000<=C.yd.getD o 0/\C.yd.getD o 0<=10000:=λo=>by
  unfold CD.yd ac2;rw[dL,dO]
  rcases Nat.lt_or_ge o 75 with a|a
  .rw[dQ a];simp only[eV,fb];rw[agc];split
   .rename_i b;have:=alQ hc b.1 (abB (np:=C.n4) (s:=C.S (o / 25)) (p:=o % 25 / 5) ab) (o % 5);rw[alO hc b.1 (abB ab)];omega
   .omega
  grind
 exact⟨by simp[CD.yd,ac2],λj=>(key j).1,λj=>(key j).2⟩
open Go.Shelf
attribute [local go_sem] Oper.semAt_some
def CD.Cv(C:CD):List nR:=alM C.yd C.n4 C.n5
def CD.abQ(C:CD):Bool:=qP C C.n5&&decide (C.Cv.length=0)
def agP{C:CD}(hc:C.cx=0){w:aa}(h:C.At w):ad PL 32 #[fA C.val] w λe w'=>∃v,e=gt v/\kV w' w.heap.size v C.Cv/\bA w w':=
 abh C C.yd (CD.V5 hc).len (ni hc).2 (fc hc) w h (λ_ a=>acw a hc)
def kV.reads{W:aa}{base:Nat}{v:ac}{l:List nR}(h:kV W base v l):ad1 W v l:=SQ h
def abR{C:CD}{w:aa}(h:C.At w)(hc:C.cx=0):ad PL 8 #[fA C.val] w λe w'=>∃b c,e=gt (fB #[fP b C.Cv.length c,fJ gw 0])/\ad1 w' (fP b C.Cv.length c) C.Cv/\bA w w':=by
 refine(Fp C (λW v=>ad1 W v C.Cv) w h (by rw[CD.b6,if_pos hc];rfl) λW f=>(agP hc f).mono ?_).mono ?_
 .rintro e w'⟨v,rfl,a,d⟩;exact⟨v,rfl,a.reads,d⟩
 .rintro e w'⟨v,rfl,a,d⟩;have g:=a;obtain⟨b,c,rfl,_⟩:=g;exact⟨b,c,rfl,a,d⟩
def aid{C:CD}{w:aa}(h:C.At w)(hc:C.cx=0):ad PL 7 #[fA C.val] w (aO (fB #[fY C.abQ,fJ gw 0]) w):=by
 have d:=bj h;have l:Hid (C.b6 true=0):=bj (by rw[CD.b6,if_pos hc];rfl)
 have f:Hid (∀W,C.At W->ad PL 31 #[fA C.val] W (aO (fY C.abQ) W)):=bj λW a=>VY C C.Cv.length W a hc (fc hc) λW a=>(agP hc a).mono (by
  rintro e w'⟨v,rfl,m,n⟩;obtain⟨b,c,rfl⟩:=vB m
  exact⟨b,c,rfl,n⟩)
 have g:Hid (KB C w (w.alloc (gy C.val 27))):=bj ⟨au _ _,(bm _ _).alloc (bq _) _⟩;clear h hc;obtain⟨s,hs⟩:=br C.abQ;rw[<-hs]at f ⊢;clear hs;go_enter (fx ao Tryz.func7),Tryz.ntmps7
 go_wp2_with (first
  |(go_at_call 27;refine(kF l.out (d.out.below g.out.low)).mono ?_;rintro e w1⟨rfl,i⟩;have j:=bj (g.out.on i);clear i)
  |(go_at_call 31;refine(f.out _ (d.out.below (j.out.alloc (gy C.val 77)).low)).mono ?_;rintro e w2⟨rfl,k⟩;have o:=bj ((j.out.alloc (gy C.val 77)).on k);clear k))
 refine ag (v:=fB #[fY s,fJ gw 0]) ?_ rfl ⟨rfl,o.out.low⟩;simp[ai,Tryz.results7,go_sem]
end Go.Proofs
namespace Go.Proofs
open Go.RowKit Go.Shelf
end Go.Proofs
namespace Go.Proofs
open Go.RowKit
open Go.Shelf
attribute [local go_sem] Oper.semAt_some
def anp:PL.underlying 42=some (.slice 3):=ae
def anq:(PL.info? 3).map (λi=>(i.zero,i.size,i.bytes))=some (some (fJ gw 0),1,8):=ae
def apG(C:CD)(w:aa)(j:Nat)(vs:Nat->ac)(W:aa):Prop:=
 (j=10->∃k,vs 10=f8 (some ⟨k,0,none⟩)/\w.heap.size<k/\Six W k)/\(j=11->∃k,vs 10=f8 (some ⟨k,0,none⟩)/\w.heap.size<k/\W.heap[k]?=some (gy C.val 77))
abbrev zn:Int->ac:=λn=>fJ gw n
def CD.ClP(C:CD)(m:Int)(p:Nat)(n:Int):Prop:=∃i,i<p/\kU C.yd i m C.n5 0 false≠2/\∃j,j<(C.x4 i).ln/\(C.x4 i).lane j=n
abbrev CD.Cl(C:CD)(m:Int):Int->Prop:=C.ClP m C.n4
structure KQ(C:CD)(w:aa)(kx kt:Nat)(W:aa):Prop where
 box:W.heap[w.heap.size]?=some (gy C.val 27)
 bx:W.heap[kx]?=some (gy C.val 77)
 row:Row W kt (C.yd.map bh)
 low:bA w W
def KQ.on{C:CD}{w W b:aa}{c d:Nat}(h:KQ C w c d W)(a:bA W b):KQ C w c d b:=
 ⟨(a.block _ (cm h.box)).trans h.box,(a.block _ (cm h.bx)).trans h.bx,h.row.on a,cC h.low a⟩
def KQ.turned{C:CD}{w W l:aa}{m i b:Nat}{o:Obj}(h:KQ C w m i W)(d:gv W l b)(hb:W.heap[b]?=some o)(n:∀c t f,o≠gy c t f)(q:w.heap.size<=b):KQ C w m i l:=by
 have p:∀{k:Nat}{c:Array ac}{t:aF}{f:Nat×Nat},W.heap[k]?=some (gy c t f)->k≠b:=λ{k c t f}e g=>by
  rw[g,hb]at e;cases e;exact n _ _ _ rfl
 refine⟨(d.block _ (p h.box)).trans h.box,(d.block _ (p h.bx)).trans h.bx,⟨by rw[d.size];exact h.row.1,λj v e=>(d.cell (a:=⟨i,j,none⟩) λg=>?_).trans (h.row.2 j v e)⟩,h.low.trans (d.below q)⟩;have:=h.row.2 j v e;simp only at g;subst g;simp only[eM,hb]at this
 cases o with
 |cells c t f=>exact n c t f rfl
 |_=>simp at this
def Sz(C:CD)(hc:C.cx=0)(k p:Nat)(m:Int)(w:aa)(a:Row w k (C.yd.map bh))(b:p<5) :
 ad PL 30 #[fA C.val,f8 (some ⟨k,0,none⟩),fJ gw p,fJ gw m] w (aO (fJ gw (kU C.yd p m C.n5 0 false)) w):=
 Fa C k p m C.yd (CD.V5 hc) w a (fc hc) b
def jy.turned{W a:aa}{b c:Nat}{R:List WE}(h:jy W b R)(d:gv W a c)(hc:∃o,W.heap[c]?=some o/\∀x t f,o≠gy x t f)(g:b≠c):jy a b R:=by
 obtain⟨o,i,j⟩:=hc;exact⟨(d.block _ g).trans h.map,λx e=>jN (h.reads x e) (h.ne x e) d i j,h.ne⟩
def Ft(W:aa)(r:Nat):Nat:=match W.heap[r]? with
 |some (gB _ n seen _)=>Fs n seen
 |_=>0
def Fu{W:aa}{r b n:Nat}{seen:Array Nat}(h:tE W r b n seen):Ft W r=Fs n seen:=by
 have a:W.heap[r]?=some (gB (some b) n seen n):=h;simp only[Ft,a]
def tE.on{W a:aa}{r b n:Nat}{seen:Array Nat}(h:tE W r b n seen)(c:bA W a):tE a r b n seen:=(c.block _ (cm h)).trans h
def ab4(W:aa)(b:Nat):Nat:=match W.heap[b]? with
 |some (gD es _)=>es.size
 |_=>0
def Fv{W:aa}{b:Nat}{l:List Int}(h:aU W zn b l):ab4 W b=l.length:=by
 obtain⟨es,c,a,d,_⟩:=h;have:=congrArg dT d;simp only[ab4,a];simpa using this
structure Wb(n0:Nat)(xp:List Int)(tq n:Int)(b:Bool)(j:Nat)(vs:Nat->ac)(W:aa):Prop where
 c4:j=4->b=false->eO 3 W n0 (vs 4) xp
 c6:j=6->b=false->∃k,vs 6=fP (some ⟨k,0,none⟩) 1 1/\W.heap[k]?=some (gy #[fJ gw tq] 3)
 c7:j=7->eO 3 W n0 (vs 7) (xp++[tq])
 c15:j=15->vs 15=fA #[vs 7,fJ gw n]
 c16:j=16->∃k,vs 16=f8 (some ⟨k,0,none⟩)/\n0<=k/\W.heap[k]?=some (gy #[fP none 0 0,fJ gw 0] 90)
def zc(a b:ac)(W:aa):(Instr.field 90 (fA #[a,b]) 0).run PL W=.ok a W:=ae
def ze(a b:ac)(W:aa):(Instr.field 90 (fA #[a,b]) 1).run PL W=.ok b W:=ae
def A8{W:aa}{base e size n B o:Nat}{v u:ac}{xs:List ac}(h:W.ownsRow base e size v n xs)(c:∀j,v.ownBlock=some j->j≠B):(W.setCell ⟨B,o,none⟩ u).ownsRow base e size v n xs:=by
 obtain⟨b,h⟩:=h
 rcases h with h|⟨g,cap,a,rfl,hb,hg,d⟩
 .exact⟨b,gE h⟩
 .refine⟨b,gG ⟨g,cap,a,rfl,hb,?_,d⟩⟩;have f:g≠B:=c g rfl;simp only[eQ,eT,if_neg (Ne.symm f)];exact hg
def Wc{W:aa}{r:Nat}{x0 x1 u0 u1:ac}{t:aF}(h:W.heap[r]?=some (gy #[x0,x1] t)):((W.setCell ⟨r,0,none⟩ u0).setCell ⟨r,1,none⟩ u1).heap[r]?=some (gy #[u0,u1] t):=by
 simp only[eQ,eT,if_pos,h,eV];rfl
def yX{T e:aF}(a:PL.underlying T=some (.slice e))(c:(PL.info? e).map (λi=>(i.zero,i.size,i.bytes))=some (some (fJ gw 0),1,8)){ops:Array aT}{o:aT}{b:Act}{K:ac->aa->Prop}{W:aa}(d:o.guard=none)(s x:a7)
 (f:o.op=.call { callee:=.builtin .append,args:=#[s,x],argTypes:=#[T,T] }) (base:Nat) (v:ac) (l:List Int) (j:Int) (k:Nat) (hs:b.eval s=v) (g:eO e W base v l)
 (m:b.eval x=fP (some ⟨k,0,none⟩) 1 1) (hc:W.cell? ⟨k,0,none⟩=some (fJ gw j)) (hl:l.length<=1000) (n:base<=W.heap.size)
 (h:∀v' w',eO e w' base v' (l++[j])->W.grownBy w' v.ownBlock->K v' w'):fC PL ops K o b W:=by
 obtain⟨p,hi,r,t,y⟩:=aJ c
 obtain⟨v',w',z,A,B,_⟩:=a8 (P:=PL) (w:=W) base T o.type e p (fJ gw 0) 1 8 a hi r t y rfl ao v l.length _ g ⟨k,0,none⟩ 1 1 [fJ gw j] rfl (λq u e=>by
  match q,e with
  |0,e=>cases e;exact hc) (by simp[fp]) (by simp only[aP];omega) ab n
 unfold fC;rw[if_pos (by simp[Region.wanted,d])];unfold execOp;simp only[f,a9,invoke,bi,gg,gj,gl,dU,d8,d9,hs,m,z];refine h v' w' ?_ B;unfold eO;rw[dq,ea];exact A
def aii{W:aa}{b:Nat}{R:List WE}(h:jy W b R)(k:Int):∃p n c l ok,(Instr.lookup 91 (.map (some b)) (fJ gw k) true).run PL W=.ok (fB #[fA #[fP p n c,fJ gw l],fY ok]) W/\(R.find? (λz=>z.1==k)=none->ok=false)/\
 ∀z,R.find? (λz=>z.1==k)=some z->ok=true/\l=z.2.2.2/\n=z.2.2.1.length/\bB W (fP p n c) z.2.2.1/\z∈R/\z.1=k:=by
 cases e:R.find? (λz=>z.1==k) with
 |none=>exact⟨none,0,0,0,false,Sx h.map e,λ_=>rfl,λz h=>by cases h⟩
 |some x=>
  have a:=ed e;have d:=h.reads _ a;obtain⟨p,c,f,_⟩:=h.reads _ a;have:=Sw h.map e;simp only[nD,f]at this;refine⟨p,_,c,_,true,this,λh=>(by cases h),λz g=>?_⟩;cases g;rw[f]at d;exact⟨rfl,rfl,rfl,d,a,by simpa using List.find?_some e⟩
def ExW(t:Nat):Bool:=t != 4&&t != 6&&t != 7&&t != 15&&t != 16
def Wb.le{n0:Nat}{d:List Int}{g n:Int}{b:Bool}{j:Nat}{vs:Nat->ac}{W i:aa}(h:Wb n0 d g n b j vs W)(c:bA W i):Wb n0 d g n b j vs i:=
 ⟨λe f=>(h.c4 e f).on c,λe f=>(h.c6 e f).imp λ_ a=>⟨a.1,(c.block _ (cm a.2)).trans a.2⟩,λe=>(h.c7 e).on c,h.c15,λe=>(h.c16 e).imp λ_ a=>⟨a.1,a.2.1,(c.block _ (cm a.2.2)).trans a.2.2⟩⟩
def atD(r:Option abc)(w:aa)(e:Ending)(w':aa):Prop:=
 (match r with
   |some x=>∃b c,e=gt (fB #[fP b x.1.length c,fJ gw x.2,fY true,fJ gw 0])/\bB w' (fP b x.1.length c) x.1
   |none=>e=gt (fB #[fP none 0 0,fJ gw 0,fY false,fJ gw 0]))/\bA w w'
def abS(C:CD)(s m:Int)(w:aa)(h:C.At w)(hc:C.cx=0)(hs:0<=s/\s<C.p)(hm:bO m 0 999=true) :
 ad PL 9 #[fA C.val,fJ gw s,fJ gw m] w λe w'=>∃r,abd (C.edge (C.Cl m)) s 0 r/\atD r w e w':=by
 have HA:=bj h;have HC:=bj hc;have HF:Hid (C.b6 true=0):=bj (by rw[CD.b6,if_pos hc];rfl);have HB:Hid (bO s 0 (C.p-1)=true):=bj (by simp[bO];omega);have Kf:=bj hm;have HT:Hid (∀W,C.At W->ad PL 29 #[fA C.val] W λe w'=>∃k,e=gt (f8 (some ⟨k,0,none⟩))/\Row w' k (C.yd.map bh)/\bA W w'):=bj λW hW=>acw hW hc;have hp6:=Lf hc;have HW:Hid (IntKind.i64.wrap (C.p-1)=C.p-1):=bj (gf _ ab);have HS:=bj hs;have HP6:=bj hp6;have H45:=bj (ni hc);have H39:=bj (agt hc);obtain⟨b3,FJ⟩:=br C.b3;have IB:=bj FJ;clear FJ;have K0:Hid (KB C w (w.alloc (gy C.val 27))):=bj ⟨au _ _,(bm _ _).alloc (bq _) _⟩;clear h hc hm hp6 hs;go_enter (fx ao Tryz.func9),Tryz.ntmps9
 go_upto_region 1 with fail
 apply wp_scope_straight;apply wp_seq_k;intro _ _;refine cT 12 (KB C w) (Fo C) (λj=>j != 10&&j != 11) (apG C w) rfl ae ae
  (λi vs W W' hle h=>⟨λe=>(h.1 e).imp λk P=>⟨P.1,P.2.1,(hle k).2 P.2.2⟩,λe=>(h.2 e).imp λk P=>⟨P.1,P.2.1,(hle k).1 P.2.2⟩⟩) (λi o ho vs eX W he hd h=>⟨λe=>?_,λe=>?_⟩) ?_ ?_
 .subst e;rw[<-he];exact h.1 rfl
 .subst e;have e8:vs 10=eX 10:=by
   simp only[dt,du,dv,fm]at ho;subst ho;exact hd ⟨10,gL⟩ (cH.2 ⟨ar,rfl⟩)
  rw[<-e8];exact h.2 rfl
 .exact⟨K0.out.box,K0.out.low.drew⟩
 .iterate 10 (
   apply aY
   case hE=>rfl
   case h=>
    intro vs W d hd;obtain⟨f0,f1,f2,f3,f4,f5⟩:=bf d.box;have hwr:=HW.out;go_simp
    first
    |(go_at_call 33;refine(rM HB.out _).mono ?_;rintro e W'⟨rfl,rfl⟩;exact⟨_,rfl,rfl,d,Fo.on (bm _ _)⟩)
    |(go_at_call 27;refine(kF HF.out (HA.out.below d.low)).mono ?_;rintro e W'⟨rfl,c⟩;exact⟨_,rfl,rfl,d.on c,Fo.on c⟩)
    |exact⟨rfl,Fo.on (bm _ _)⟩
   case hb=>exact KD)
  apply eH
  case hE=>rfl
  case hb=>exact KD
  case h=>
   intro vs W d hd;go_simp;have c:=(bm W.heap.size W).alloc (bq _) (gy #[fJ gw 0,fJ gw 0,fP none 0 0,fP none 0 0,fP none 0 0,fP none 0 0] 77);exact⟨d.on c,Fo.on c,⟨λ_=>⟨W.heap.size,by simp[upd],d.lt,_,_,_,_,_,_,au W _⟩,bp⟩⟩
  apply eH
  case hE=>rfl
  case hb=>exact KD
  case h=>
   intro vs W d hd;obtain⟨k,P,Ll,x0,x1,x2,x3,x4,x5,hx⟩:=(hd ⟨10,gL⟩ (cH.2 ⟨ar,rfl⟩) rfl).1 rfl;obtain⟨f0,f1,f2,f3,f4,f5⟩:=bf hx;have fz:=tO hx;rw[P];go_simp;refine⟨⟨(cM ab).trans d.box,cQ d.low ab _ _ _ _ _ _⟩,λq=>?_,⟨bp,λ_=>⟨k,by simp[upd,P],Ll,nC hx⟩⟩⟩;by_cases hq:q=k
   .subst hq;exact⟨λ_=>nC hx,λ_=>⟨_,_,_,_,_,_,nC hx⟩⟩
   .exact⟨λe=>(cM hq).trans e,fun⟨_,_,_,_,_,_,e⟩=>⟨_,_,_,_,_,_,(cM hq).trans e⟩⟩
  refine cP λvs W d hd=>?_;obtain⟨kx,P,Ll,hx⟩:=(hd 11 ab rfl).2 rfl;rw[P];obtain⟨f0,f1,f2,f3,f4,f5⟩:=bf hx;have HX:=bj hx;have HC1:=bj d;have HKL:=bj Ll;clear hx d hd P Ll;have hmm:=@run_makeMap PL
  go_upto_region 8 with(first
   |(go_at_call 28;refine(yO Kf.out _).mono ?_;rintro e w'⟨rfl,rfl⟩)
   |(go_at_call 29;go_must (refine(HT.out _ (HA.out.below HC1.out.low)).mono ?_);rintro e w1⟨kt,rfl,hR,aL⟩;have K1:Hid (KQ C w kx kt w1):=bj ⟨(HC1.out.on aL).box,(aL.block _ (cm HX.out)).trans HX.out,hR,(HC1.out.on aL).low⟩;clear hR aL))
  obtain⟨bM,hbM⟩:=br w1.heap.size;obtain⟨W0,kS⟩:=br (w1.alloc (gD #[] 0));have K2:Hid (KQ C w kx kt W0):=bj (by rw[kS];exact K1.out.on ((bm _ _).alloc (bq _) _));have S2:Hid (aU W0 zn bM ([]:List Int)):=bj (by rw[kS,hbM];exact aU.made w1);have ZM:Hid (w.heap.size<=bM):=bj (by rw[hbM];exact K1.out.low.size);rw[<-kS,<-hbM];clear kS hbM f0 f1 f2 f3 f4 f5;obtain⟨f0,f1,f2,f3,f4,f5⟩:=bf K2.out.box;have hb4:C.b4=some ⟨C.k4,C.o4,none⟩:=HA.out.s4 (by have:=H45.out;omega);go_wp2
  go_loopw [51] (λv51 wr=>∃(p:Nat)(l:List Int),p<=C.n4/\v51=fJ gw p/\aU wr zn bM l/\(∀n,n∈l↔C.ClP m p n)/\KQ C w kx kt wr) (λv51 _=>C.n4-(intOf v51).toNat)
  case atStart=>exact⟨0,[],bv _,rfl,S2.out,λn=>⟨λh=>(by cases h),fun⟨i,h,_⟩=>ab⟩,K2.out⟩
  case round=>
   obtain⟨p,l,hp,rfl,O,sB,hK⟩:=hrel;clear hb4;have HS1:=bj O;have HCL:=bj sB;have HK:=bj hK;clear O hK sB f0 f1 f2 f3 f4 f5 K2 S2;by_cases f:p<C.n4
   .have i1:(p:Int)<C.n4:=ab;have hp5:p<5:=by have:=H45.out;omega
    have hA:=HA.out.below HK.out.low;have p0:=hA.AD p f;have p1:=hA.dB p f 1 ab ab;have p2:=hA.dB p f 2 ab ab;have p3:=hA.dB p f 3 ab ab;have p4:=hA.dB p f 4 ab ab;have p5:=hA.dB p f 5 ab ab;have p6:=hA.dB p f 6 ab ab;have p7:=hA.dB p f 7 ab ab;have p8:=hA.dB p f 8 ab ab;have p9:=hA.dB p f 9 ab ab;have Cz:=hA.dB p f 10 ab ab;have Fy:=hA.nj p f;have atE:=(hA.cu p f).2;clear hA;obtain⟨xb,hxb⟩:=br ((C.x4 p).lb);obtain⟨xn,hxn⟩:=br ((C.x4 p).ln);obtain⟨xc,hxc⟩:=br ((C.x4 p).lc);rw[<-hxb,<-hxn,<-hxc]at Fy;rw[<-hxn]at atE;have HXB:=bj hxb;have HXN:=bj hxn;clear hxb hxn hxc
    go_upto_region 11 with fail
    obtain⟨W1,mG⟩:=br (wr.alloc (gy #[gc (C.x4 p).name,fJ gw ((C.x4 p).n 1),fJ gw ((C.x4 p).n 2),fJ gw ((C.x4 p).n 3),fJ gw ((C.x4 p).n 4),fJ gw ((C.x4 p).n 5),fJ gw ((C.x4 p).n 6),fJ gw ((C.x4 p).n 7),fJ gw ((C.x4 p).n 8),fJ gw ((C.x4 p).n 9),fJ gw ((C.x4 p).n 10),fP xb xn xc] 88));rw[<-mG];have iC:bA wr W1:=by rw[mG];exact(bm _ _).alloc (bq _) _
    have hpk:W1.cell? ⟨wr.heap.size,11,none⟩=some (fP xb xn xc):=by
     have h:=au wr (gy #[gc (C.x4 p).name,fJ gw ((C.x4 p).n 1),fJ gw ((C.x4 p).n 2),fJ gw ((C.x4 p).n 3),fJ gw ((C.x4 p).n 4),fJ gw ((C.x4 p).n 5),fJ gw ((C.x4 p).n 6),fJ gw ((C.x4 p).n 7),fJ gw ((C.x4 p).n 8),fJ gw ((C.x4 p).n 9),fJ gw ((C.x4 p).n 10),fP xb xn xc] 88);rw[mG];simp only[eM,h];rfl
    have Wf:wr.heap.size<W1.heap.size:=by rw[mG];simp
    have HPK:=bj (fi hpk Wf);have K3:=bj (HK.out.on iC);have S3:=bj (aG iC HS1.out);clear mG iC hpk Wf p0 p1 p2 p3 p4 p5 p6 p7 p8 p9 Cz Fy;obtain⟨f0,f1,f2,f3,f4,f5⟩:=bf K3.out.bx;obtain⟨sg,hsg⟩:=br (kU C.yd p m C.n5 0 false);have SG:Hid (∀W,Row W kt (C.yd.map bh)->ad PL 30 #[fA C.val,f8 (some ⟨kt,0,none⟩),fJ gw p,fJ gw m] W (aO (fJ gw sg) W)):=bj λW hR=>by rw[hsg];exact Sz C HC.out kt p m W hR hp5
    have HSG:=bj hsg;clear hsg;by_cases hs:sg=2
    .have CN:Hid (∀n,n∈l↔C.ClP m (p+1) n):=bj λn=>(HCL.out n).trans ⟨fun⟨i,K,E⟩=>⟨i,ab,E⟩,fun⟨i,K,E,h3⟩=>by
      rcases Nat.lt_succ_iff_lt_or_eq.1 K with K|rfl
      .exact⟨i,K,E,h3⟩
      .exact absurd (HSG.out.symm.trans hs) E⟩
     subst hs
     go_wp2_with (go_at_call 30;(with_reducible refine(SG.out _ K3.out.row).mono ?_);rintro e w3⟨rfl,qi⟩;have K4:=bj (K3.out.on qi);have S4:=bj (aG qi S3.out);clear qi)
     exact⟨⟨p+1,l,f,by go_num,S4.out,CN.out,K4.out⟩,by simp only[intOf];omega⟩
    .have CN:Hid (∀n,C.ClP m (p+1) n↔(n∈l\/∃j,j<xn/\(C.x4 p).lane j=n)):=bj λn=>⟨fun⟨i,K,E,h3⟩=>by
      rcases Nat.lt_succ_iff_lt_or_eq.1 K with K|rfl
      .exact gE ((HCL.out n).2 ⟨i,K,E,h3⟩)
      .rw[HXN.out];exact gG h3,λh=>by
      rcases h with h|h
      .obtain⟨i,K,E⟩:=(HCL.out n).1 h;exact⟨i,ab,E⟩
      .exact⟨p,ab,λe=>hs (HSG.out.trans e),by rw[HXN.out]at h;exact h⟩⟩
     have fR:(sg != 2)=true:=by simpa using hs
     have HLE:Hid (∀W,bA w W->0<xn->∃lk lo,xb=some ⟨lk,lo,none⟩/\∀q,q<xn->W.cell? ⟨lk,lo+q,none⟩=some (fJ gw ((C.x4 p).lane q))):=bj λW c hn=>by
      have hA:=HA.out.below c;rw[HXN.out]at hn;exact⟨_,_,HXB.out.trans (hA.l4 p f hn).1,λq hq=>hA.J5 p f q (by rw[HXN.out]at hq;exact hq)⟩
     go_upto_region 12 with(go_at_call 30;(with_reducible refine(SG.out _ K3.out.row).mono ?_);rintro e w3⟨rfl,qi⟩;have K4:=bj (K3.out.on qi);have S4:=bj (aG qi S3.out);have am6:=bj ((qi.cell (p:=⟨wr.heap.size,11,none⟩) HPK.out.2).trans HPK.out.1);clear qi)
     have atU:=am6.out;clear hs fR;go_wp2
     go_loopw [65] (λv65 wq=>∃(q:Nat)(l2:List Int),q<=xn/\v65=fJ gw q/\aU wq zn bM l2/\(∀n,n∈l2↔(n∈l\/∃j,j<q/\(C.x4 p).lane j=n))/\KQ C w kx kt wq) (λv65 _=>xn-(intOf v65).toNat)
     case atStart=>exact⟨0,l,bv _,rfl,S4.out,λn=>⟨gE,λh=>h.elim id fun⟨j,Q,_⟩=>ab⟩,K4.out⟩
     case round=>
      obtain⟨q,l2,hq,rfl,O,hm2,hK⟩:=hrel;have S5:=bj O;have K5:=bj hK;have M5:=bj hm2;clear O hK hm2;by_cases hqn:q<xn
      .have i2:(q:Int)<xn:=ab;obtain⟨lk,lo,rfl,hcc⟩:=HLE.out wr K5.out.low ab;have ec:=hcc q hqn;obtain⟨y,hy⟩:=br ((C.x4 p).lane q);rw[<-hy]at ec;have HY:=bj hy;clear hcc hy
       go_wp2_with (at_mapUpdate;go_must (refine abN _ rfl _ _ _ rfl ju bM l2 rfl S5.out y rfl rfl ?_);intro w5 l3 O T1 J;have S6:=bj O;have M6:=bj T1;have K6:=bj (by obtain⟨es,cl,hh,_⟩:=S5.out;exact K5.out.turned J hh (λ_ _ _ e=>by cases e) ZM.out:KQ C w kx kt w5);clear O J T1;go_frame)
       refine⟨⟨q+1,l3,hqn,by go_num,S6.out,λn=>?_,K6.out⟩,by simp only[intOf];omega⟩;rw[M6.out n,M5.out n,HY.out];constructor
       .rintro((h|⟨j,K,E⟩)|h)
        .exact gE h
        .exact gG ⟨j,ab,E⟩
        .exact gG ⟨q,ab,h.symm⟩
       .rintro(h|⟨j,K,E⟩)
        .exact gE (gE h)
        .rcases Nat.lt_succ_iff_lt_or_eq.1 K with K|rfl
         .exact gE (gG ⟨j,K,E⟩)
         .exact gG E.symm
      .obtain rfl:q=xn:=ab;go_wp2;exact⟨⟨p+1,l2,f,by go_num,S5.out,λn=>(M5.out n).trans (CN.out n).symm,K5.out⟩,by simp only[intOf];omega⟩
   .obtain rfl:p=C.n4:=ab;obtain⟨cl,apH⟩:=br l;rw[<-apH]at HS1 HCL;clear f hp apH;have ag8:=aU.lt HS1.out;have HSZ:=bj ag8;have hBa:=((bm wr.heap.size wr).alloc (bq _) (gD #[] 0)).alloc ar (gy #[fJ gw s] 3);have M0:Hid (jy ((wr.alloc (gD #[] 0)).alloc (gy #[fJ gw s] 3)) wr.heap.size []):=bj ((jy.made wr).on ((bm _ _).alloc (bq _) _))
    have R0:Hid (bB ((wr.alloc (gD #[] 0)).alloc (gy #[fJ gw s] 3)) (fP (some ⟨wr.heap.size+1,0,none⟩) 1 1) [s]):=bj ⟨_,_,rfl,λ_=>⟨_,_,rfl,ar,λj Q=>by
     obtain rfl:j=0:=by simp at Q;omega
     have h:=au (wr.alloc (gD #[] 0)) (gy #[fJ gw s] 3);rw[eN]at h;show eM _ ⟨wr.heap.size+1,0+0,none⟩=some (fJ gw s);simp only[eM,h]
     rfl⟩⟩
    have KA:=bj (HK.out.on hBa);have SA:=bj (aG hBa HS1.out);clear hBa ag8
    go_upto_region 20 with(refine tF _ rfl _ _ _ (gG rfl) wr.heap.size [] (s,fP (some ⟨wr.heap.size+1,0,none⟩) 1 1,[s],0) rfl rfl rfl M0.out rfl R0.out ar ?_;intro w5 hM J;have MB:=bj hM;have KB5:=bj (KA.out.turned J M0.out.map (λ_ _ _ e=>by cases e) HK.out.low.size);have SB:=bj (gp SA.out (J.block _ (by have:=HSZ.out;omega)));clear hM J)
    obtain⟨bR,hbR⟩:=br wr.heap.size;obtain⟨bL,hbL⟩:=br w5.heap.size;have ZR:Hid (bM<bR/\bR<bL):=bj (by have:=HSZ.out;have:=cm MB.out.map;rw[hbR,hbL];omega);obtain⟨W3,hW3⟩:=br (w5.alloc (gD #[] 0));have hBb:bA w5 W3:=by rw[hW3];exact(bm _ _).alloc (bq _) _
    have K6:=bj (KB5.out.on hBb);have S6:=bj (aG hBb SB.out);have M6:Hid (jy W3 bR ([]++[(s,fP (some ⟨bR+1,0,none⟩) 1 1,[s],0)])):=bj (by rw[hbR];exact MB.out.on hBb);have L6:Hid (aU W3 zn bL ([]:List Int)):=bj (by rw[hbL,hW3];exact aU.made w5);have D6:Hid (RDx C (C.Cl m) s ([]++[(s,fP (some ⟨bR+1,0,none⟩) 1 1,[s],0)]) []):=bj (RDx.first _ HS.out _);rw[<-hbR,<-hbL,<-hW3];clear hbR hbL hW3 hBb MB SB KB5 M0 R0 KA SA HK HS1 HSZ;refine wp_label ?_;go_wp2
    go_loopw [19] (λ_ wr=>∃(R:List WE)(L:List Int),RDx C (C.Cl m) s R L/\jy wr bR R/\aU wr zn bL L/\aU wr zn bM cl/\KQ C w kx kt wr) (λ_ wr=>7-ab4 wr bL)
    case atStart=>exact⟨_,[],D6.out,M6.out,L6.out,S6.out,K6.out⟩
    case round=>
     obtain⟨R,L,hD,XP,hL,O,hK⟩:=hrel;have DD:=bj hD;have MM:=bj XP;have LL:=bj hL;have SS:=bj O;have KK:=bj hK;clear hD XP hL O hK K6 S6 M6 L6 D6;have hrg:=V4 MM.out
     go_upto_region 22 with fail
     obtain⟨r,hr⟩:=br wr.heap.size;obtain⟨W4,Sn⟩:=br (wr.alloc (gB (some bR) R.length #[] R.length));have Ts:bA wr W4:=by rw[Sn];exact(bm _ _).alloc (bq _) _
     have I4:Hid (tE W4 r bR R.length #[]):=bj (by rw[Sn,hr];exact au _ _);have M4:=bj (MM.out.on Ts);have L4:=bj (aG Ts LL.out);have S4:=bj (aG Ts SS.out);have K4:=bj (KK.out.on Ts);have ZI:Hid (bR<r/\bL<r/\bM<r/\w.heap.size<=r):=bj (by have K:=cm MM.out.map;have E:=aU.lt LL.out;have h3:=aU.lt SS.out;have h4:=KK.out.low.size;rw[hr];exact⟨K,E,h3,h4⟩);rw[<-Sn,<-hr];clear Sn hr Ts hrg MM SS KK
     go_loopw [19] (λv19 wq=>∃(seen:Array Nat)(S:Option WE),tE wq r bR R.length seen/\jy wq bR R/\aU wq zn bL L/\aU wq zn bM cl/\KQ C w kx kt wq/\v19=fJ gw (apy S)/\Sel L R seen S) (λ_ wq=>Ft wq r)
     case atStart=>exact⟨#[],none,I4.out,M4.out,L4.out,S4.out,K4.out,rfl,Sel.start _ _⟩
     case round=>
      obtain⟨seen,S,hI,XP,hL,O,hK,hv,apJ⟩:=hrel;have I5:=bj hI;have M5:=bj XP;have L5:=bj hL;have S5:=bj O;have K5:=bj hK;have E5:=bj apJ;clear hI XP hL O hK apJ I4 M4 L4 S4 K4;obtain⟨F,hca⟩:=br (apy S);rw[<-hca]at hv;have HCA:=bj hca;clear hca;subst hv
      go_upto_region 23 with(first|(at_mapUpdate;go_must (refine dH (enc:=zn) _ rfl _ _ _ 86 3 4 rfl qz ju bL L rfl L5.out F rfl rfl HNA.out ?_);intro w6 O J;go_must (have LP:=bj O;have MP:=bj (M5.out.turned J (by obtain⟨es,cl,hh,_⟩:=L5.out;exact⟨_,hh,λ_ _ _ e=>by cases e⟩) (by have:=ZR.out;omega));have SP:=bj (gp S5.out (J.block _ (by have:=ZR.out;omega)));have KP:Hid (KQ C w kx kt w6):=bj (by obtain⟨es,cl,hh,_⟩:=L5.out;exact K5.out.turned J hh (λ_ _ _ e=>by cases e) (by have:=ZM.out;have:=ZR.out;omega)));clear O J;obtain⟨f0,f1,f2,f3,f4,f5⟩:=bf KP.out.box;rw[<-IB.out]at f3)|(at_next;go_must (refine zX _ rfl _ rfl r bR R seen rfl I5.out M5.out ?_ ?_);rotate_left;intro j x w' Q hs hI J OL hen;obtain⟨xk,xv,M,T⟩:=x;have JJ:=bj Q;have NS:=bj hs;have I6:=bj hI;have T6:=bj J;have M6:=bj OL;have hk6:=cm hI;obtain⟨yb,yc,hxv,hyy⟩:=OL.reads _ (eg Q);clear hyy;simp only at hxv;subst hxv;clear Q hs hI J OL;simp only[nD]at hen ⊢;rotate_left;intro oh;have U:=bj (E5.out.all oh);clear oh;rcases S with _|xa;rotate_left;rcases Int.lt_or_le 0 F with ha|ha;have HNA:Hid (F∉L):=bj (by rw[HCA.out];exact(U.out.2 _ rfl).2.1);rotate_left;go_must (obtain⟨xk,xv,M,T⟩:=xa;have hre:=DD.out.some HC.out (U.out.2 _ rfl).1 (U.out.2 _ rfl).2.1 (U.out.2 _ rfl).2.2 (by rw[HCA.out]at ha;exact ha);have HRE:=bj hre;have FH:=Sw M5.out.map hre.1;obtain⟨yb,yc,hxv,hyy⟩:=M5.out.reads _ (U.out.2 _ rfl).1;have RD:=bj (M5.out.reads _ (U.out.2 _ rfl).1);clear hyy hre;simp only at hxv;subst hxv;simp only[nD]at FH);rotate_left;rotate_left;go_must (obtain rfl:F = -1:=HCA.out;have hre:=DD.out.none HC.out (U.out.1 rfl);have HRE:=bj hre;have FH:=Sx M5.out.map hre.1;clear hre)))
      .obtain⟨W7,V⟩:=br (wr.alloc (gy #[fP none 0 0,fJ gw 0] 90));have hB7:bA wr W7:=by rw[V];exact(bm _ _).alloc (bq _) _
       have hc7:W7.heap[wr.heap.size]?=some (gy #[fP none 0 0,fJ gw 0] 90):=by rw[V];exact au _ _
       have c0:W7.cell? ⟨wr.heap.size,0,none⟩=some (fP none 0 0):=by simp[eM,hc7]
       have c1:W7.cell? ⟨wr.heap.size,1,none⟩=some (fJ gw 0):=by simp[eM,hc7]
       have LO7:=bj (cC K5.out.low hB7);rw[<-V];clear V hB7 hc7 FH
       go_quiet (fail)
       go_wp2;rw[Exit.noGoto_ret];refine ag (v:=fB #[fP none 0 0,fJ gw 0,fY false,fJ gw 0]) ?_ rfl ⟨none,HRE.out.2,rfl,below_drewN LO7.out _⟩;simp[ai,eu,go_sem]
      .obtain⟨xk,xv,M,T⟩:=xa;obtain rfl:F=xk:=HCA.out;have eW:Hid ((F,xv,M,T)∈R):=bj (U.out.2 _ rfl).1;have HMI:Hid (∀y∈R,y.1∉L->wle (M,T) y.2.2):=bj (U.out.2 _ rfl).2.2;have SC0:Hid (SCx C (C.Cl m) s R L (F,xv,M,T) 0 R):=bj (SCx.start DD.out _);obtain⟨bX0,bX1,bX2,bX3,bX4⟩:=DD.out.bd _ eW.out;simp only at bX0 bX1 bX2 bX3 bX4;have bC1:F<=5:=by have:=HP6.out;omega
       have bL5:L.length<=5:=by have K:=abp (L:=L) (a:=F) ab ab HNA.out;have E:=DD.out.cnt;omega
       clear f0 f1 f2 f3 f4 f5 bX3 bX4
       go_loopw [110] (λab7 wq=>∃(q:Nat)(R':List WE),q<=C.n3/\ab7=fJ gw q/\SCx C (C.Cl m) s R L (F,xv,M,T) q R'/\jy wq bR R'/\aU wq zn bL (L++[F])/\aU wq zn bM cl/\KQ C w kx kt wq) (λab7 _=>C.n3-(intOf ab7).toNat)
       case atStart=>exact⟨0,R,bv _,rfl,SC0.out,MP.out,LP.out,SP.out,KP.out⟩
       case round=>
        obtain⟨q,R',hq,rfl,hsc,XP,hL,O,hK⟩:=hrel;have SC:=bj hsc;have M7:=bj XP;have L7:=bj hL;have S7:=bj O;have K7:=bj hK;clear hsc XP hL O hK MP LP SP KP SC0;by_cases f:q<C.n3
        case neg=>
         obtain rfl:q=C.n3:=ab;go_wp2;refine⟨?_,?_⟩
         .exact⟨R',L++[F],SCx.stop HC.out DD.out eW.out HNA.out ha HMI.out SC.out (bq _),M7.out,L7.out,S7.out,K7.out⟩
         .rw[Fv L7.out,Fv LL.out];simp;omega
        have j1:((q:Int)<C.n3):=ab;have h39:=H39.out;have hA:=HA.out.below K7.out.low;have g0:=hA.Es q f;have g1:=hA.Et q f;have g2:=hA.Eu q f;obtain rfl:b3=some ⟨C.k3,C.o3,none⟩:=IB.out.trans (HA.out.s3 ab);obtain⟨A,hAe⟩:=br ((C.x3 q).1);obtain⟨B,hBe⟩:=br ((C.x3 q).2.1);obtain⟨G,hGe⟩:=br ((C.x3 q).2.2);rw[<-hAe]at g0;rw[<-hBe]at g1;rw[<-hGe]at g2;have bd:0<=A/\A<=5/\0<=B/\B<=5/\0<=G/\G<=999:=by
         have:=abe HC.out f;have:=HP6.out;rw[hAe,hBe,hGe];omega
        obtain⟨bA0,bA1,bB0,bB1,bG0,bG1⟩:=bd;have EA:=bj hAe;have EB:=bj hBe;have EG:=bj hGe;clear hAe hBe hGe hA
        go_upto_region 31 with fail
        obtain⟨W9,hW9⟩:=br (wr.alloc (gy #[fJ gw A,fJ gw B,fJ gw G] 94));have hB9:bA wr W9:=by rw[hW9];exact(bm _ _).alloc (bq _) _
        have P9:Hid (W9.heap[wr.heap.size]?=some (gy #[fJ gw A,fJ gw B,fJ gw G] 94)):=bj (by rw[hW9];exact au _ _);have M9:=bj (M7.out.on hB9);have L9:=bj (aG hB9 L7.out);have S9:=bj (aG hB9 S7.out);have K9:=bj (K7.out.on hB9);rw[<-hW9];clear hW9 hB9 g0 g1 g2 M7 L7 S7 K7;have h0:W9.cell? ⟨wr.heap.size,0,none⟩=some (fJ gw A):=by have h:=P9.out;simp[eM,h]
        have K:W9.cell? ⟨wr.heap.size,1,none⟩=some (fJ gw B):=by have h:=P9.out;simp[eM,h]
        have E:W9.cell? ⟨wr.heap.size,2,none⟩=some (fJ gw G):=by have h:=P9.out;simp[eM,h]
        have Wf:=cm P9.out;by_cases sB:(q:Int)∈cl
        .have SK:=bj (SC.out.skip (gE ((HCL.out _).1 sB)))
         go_wp2_with (at_lookup;go_must (refine aR (enc:=zn) _ rfl _ _ 86 3 4 rfl qz ju (mq _) bM cl rfl S9.out (q:Int) rfl true (by simpa using sB) ?_))
         exact⟨⟨q+1,R',f,by go_num,SK.out,M9.out,L9.out,S9.out,K9.out⟩,by simp only[intOf];omega⟩
        have HCN:=bj sB;clear sB;have HPN:Hid (¬C.Cl m (q:Nat)):=bj λh=>HCN.out ((HCL.out _).2 h);by_cases hs:A≠F/\B≠F
        .obtain⟨s1,s2⟩:=hs;have SK:=bj (SC.out.skip (gG (by rw[<-EA.out,<-EB.out];exact⟨s1,s2⟩)));have e1:(A != F)=true:=by simpa using s1
         have e2:(B != F)=true:=by simpa using s2
         clear s1 s2
         go_wp2_with (at_lookup;go_must (refine aR (enc:=zn) _ rfl _ _ 86 3 4 rfl qz ju (mq _) bM cl rfl S9.out (q:Int) rfl false (by simpa using HCN.out) ?_))
         exact⟨⟨q+1,R',f,by go_num,SK.out,M9.out,L9.out,S9.out,K9.out⟩,by simp only[intOf];omega⟩
        have HAB:Hid ((C.x3 q).1=F\/(C.x3 q).2.1=F):=bj (by
         rw[<-EA.out,<-EB.out];by_cases h:A=F
         .exact gE h
         .exact gG (gr λE=>hs ⟨h,E⟩))
        have E12:((A != F)=false)\/((A != F)=true/\(B != F)=false):=by
         by_cases h:A=F
         .exact gE (by simpa using h)
         .exact gG ⟨by simpa using h,by have:B=F:=gr λE=>hs ⟨h,E⟩;simpa using this⟩
        clear hs
        rcases E12 with e1|⟨e1,e2⟩
        all_goals go_upto_region 33 with(at_lookup;go_must (refine aR (enc:=zn) _ rfl _ _ 86 3 4 rfl qz ju (mq _) bM cl rfl S9.out (q:Int) rfl false (by simpa using HCN.out) ?_))
        all_goals (
         obtain⟨⟨zk,zv,H,zl⟩,hxf,hsx⟩:=SC.out.at_ eW.out;simp only[strip,Prod.mk.injEq]at hsx;obtain⟨e3,e4,e5⟩:=hsx;subst e3 e4 e5;have hrx:=M9.out.reads _ (ed hxf);have qH:=M9.out.ne _ (ed hxf);simp only at hrx qH;have HRX:=bj hrx;obtain⟨pb,pc,rfl,hyy⟩:=hrx;obtain⟨kp,op,rfl,Tt,hcp⟩:=hyy (by cases H with|nil=>exact absurd rfl qH|cons _ _=>simp);have HCP:=bj hcp;have HXF:=bj hxf;have HKP:=bj Tt;clear hyy hcp hxf qH Tt;have OX2:Hid (H.length<=10):=bj ab;obtain⟨g,hto⟩:=br (A+B-zk);have HTO:Hid (g=(C.x3 q).1+(C.x3 q).2.1-zk):=bj (by rw[hto,EA.out,EB.out]);rw[<-hto];clear hto;refine iL 17 7 (λ_ W=>bA W9 W) (λW W'=>bA W W') ExW (Wb W9.heap.size H g (zl+G)) (λ_ _ _ _=>True) (λ_ _ _ _ _=>trivial) rfl ae ae rfl
          (λb i vs W W' hle h=>h.le hle) (λi o ho vs eX W he aaZ b h=>⟨λe=>by subst e;rw[<-he];exact h.c4 rfl,λe=>by subst e;rw[<-he];exact h.c6 rfl,λe=>by subst e;rw[<-he];exact h.c7 rfl,λe=>?_,λe=>by subst e;rw[<-he];exact h.c16 rfl⟩) (bm _ _).drew ?_
         .subst e;have e7:vs 7=eX 7:=by
           simp only[dt,du,dv,fm]at ho;subst ho;exact aaZ ⟨7,gL⟩ (cH.2 ⟨ar,rfl⟩)
          rw[<-he,<-e7];exact h.c15 rfl
         have HWR:Hid (IntKind.i64.wrap (zl+G)=zl+G):=bj (gf _ ab)
         iterate 4 (
          apply iK
          case hE=>rfl
          case h=>
           intro vs W b d hd;have hl:=IJ ((d.block _ (cm M9.out.map)).trans M9.out.map) HXF.out;have q0:=zc;have q1:=ze;have g2:=(d.cell (p:=⟨wr.heap.size,2,none⟩) Wf).trans E;have hw:=HWR.out;simp only[nD]at hl;go_simp;exact⟨rfl,bm _ _⟩
          case hb=>exact KD)
         apply ey
         case hE=>rfl
         case hb=>exact KD
         case h=>
          intro vs W D b hb d jw hi _ hd hP;go_simp;refine(tC kp op H.length pc (H.map λz=>fJ gw z) _ ar (λj u e=>?_) (by simp[fp]) (by have:=OX2.out;omega) (b8 HKP.out d.size)).mono ?_
          .obtain⟨z,hz,rfl⟩:∃z,H[j]?=some z/\u=fJ gw z:=by
            rw[dO]at e
            cases h:H[j]? with
            |none=>rw[h]at e;cases e
            |some z=>rw[h]at e;cases e;exact⟨z,rfl,rfl⟩
           have Q:=(List.getElem?_eq_some_iff.1 hz).1;rw[d.cell (p:=⟨kp,op+j,none⟩) HKP.out,HCP.out j ab];simp[dL,hz]
          .rintro e W'⟨v,rfl,_,hO,c⟩;exact⟨v,rfl,cC d c,λj Q hE=>(hd j Q hE).le c,⟨λ_ _=>by simp only[upd,if_pos];exact dJ hO d.size,bp,bp,bp,bp⟩⟩
         iterate 1 (
          apply iK
          case hE=>rfl
          case h=>
           intro vs W b d hd;have hl:=IJ ((d.block _ (cm M9.out.map)).trans M9.out.map) HXF.out;have q0:=zc;have q1:=ze;have g2:=(d.cell (p:=⟨wr.heap.size,2,none⟩) Wf).trans E;have hw:=HWR.out;simp only[nD]at hl;go_simp;exact⟨rfl,bm _ _⟩
          case hb=>exact KD)
         apply ey
         case hE=>rfl
         case hb=>exact KD
         case h=>
          intro vs W D b hb d jw hi _ hd hP;have c:=(bm W.heap.size W).alloc (bq _) (gy #[fJ gw g] 3);have HBC:=bj (cC d c);clear d;go_simp;exact⟨HBC.out,λj Q hE=>(hd j Q hE).le c,⟨bp,λ_ _=>⟨W.heap.size,by simp[upd],au _ _⟩,bp,bp,bp⟩⟩
         apply ey
         case hE=>rfl
         case hb=>exact KD
         case h=>
          intro vs W D bb iC d jw hi _ hd hP;have hf:=iC rfl;have m4:4∈D:=jw ⟨4,gL⟩ (cH.2 ⟨ar,rfl⟩);have m6:6∈D:=jw ⟨6,gL⟩ (cH.2 ⟨ar,rfl⟩);have fO:=(hd 4 m4 rfl).c4 rfl hf;obtain⟨kq,hkq,hkc⟩:=(hd 6 m6 rfl).c6 rfl hf;have bu:=cZ fO;have hoc:=qm fO;refine yX anp anq rfl _ _ rfl W9.heap.size (vs 4) H g kq rfl fO hkq (by simp[eM,hkc]) (by have:=OX2.out;omega) d.size λv' w' e1 e2=>?_;have c:Below W9.heap.size W w':=(bm _ W).grown e2 d.size bu;refine⟨d.trans c,λj Q hE=>⟨λ_ e=>by simp at e,λ_ e=>by simp at e,λe=>absurd Q (by rw[e];exact hi),(hd j Q hE).c15,λe=>((hd j Q hE).c16 e).imp λk P=>⟨P.1,P.2.1,(e2.block k (cm P.2.2) λe=>?_).trans P.2.2⟩⟩,⟨bp,bp,λ_=>by simpa[upd]using e1,bp,bp⟩,λ_ _ _=>trivial⟩;obtain⟨S,SF⟩:=hoc k e.symm;rw[P.2.2]at SF;cases SF
         iterate 7 (
          apply iK
          case hE=>rfl
          case h=>
           intro vs W b d hd;have hl:=IJ ((d.block _ (cm M9.out.map)).trans M9.out.map) HXF.out;have q0:=zc;have q1:=ze;have g2:=(d.cell (p:=⟨wr.heap.size,2,none⟩) Wf).trans E;have hw:=HWR.out;simp only[nD]at hl;go_simp;exact⟨rfl,bm _ _⟩
          case hb=>exact KD)
         apply ey
         case hE=>rfl
         case hb=>exact KD
         case h=>
          intro vs W D bb iC d jw hi _ hd hP;have m7:7∈D:=jw ⟨7,gL⟩ (cH.2 ⟨ar,rfl⟩);obtain⟨vb,vc,h7⟩:=vB ((hd 7 m7 rfl).c7 rfl);rw[h7];have HD:=bj hd;clear hd;go_simp;exact⟨HD.out,⟨bp,bp,bp,λ_=>by simp[upd,h7],bp⟩⟩
         apply ey
         case hE=>rfl
         case hb=>exact KD
         case h=>
          intro vs W D b hb d jw hi _ hd hP;have c:=(bm W.heap.size W).alloc (bq _) (gy #[fP none 0 0,fJ gw 0] 90);have HBC:=bj (cC d c);have HSZ:=bj d.size;clear d;go_simp;exact⟨HBC.out,λj Q hE=>(hd j Q hE).le c,⟨bp,bp,bp,bp,λ_=>⟨W.heap.size,by simp[upd],HSZ.out,au _ _⟩⟩⟩
         refine nv λvs W bb _ d hd _=>?_;have hO7:=(hd 7 ab rfl).c7 rfl;have ab8:=(hd 15 ab rfl).c15 rfl;obtain⟨kw,h16,hkw,hcw⟩:=(hd 16 ab rfl).c16 rfl;obtain⟨vb,vc,h7⟩:=vB hO7;rw[h7]at ab8 hO7;have HO7:=bj hO7;have HC1:=bj d;have HKW:=bj hkw;have HCW:=bj hcw;have y0:W.cell? ⟨kw,0,none⟩=some (fP none 0 0):=by simp[eM,hcw]
         have y1:W.cell? ⟨kw,1,none⟩=some (fJ gw 0):=by simp[eM,hcw]
         have fz:=tO hcw;rw[h16,ab8];clear hd d hO7 ab8 h16 hkw hcw h7;obtain⟨nn,Va⟩:=br ((H++[g]).length);have HNN:=bj Va;rw[<-Va];clear Va
         go_upto_region 34 with fail
         obtain⟨XR,SG⟩:=br ((W.setCell ⟨kw,0,none⟩ (fP vb nn vc)).setCell ⟨kw,1,none⟩ (fJ gw (zl+G)));have SI:bA W9 XR:=by rw[SG];exact(HC1.out.setCell (p:=⟨kw,0,none⟩) HKW.out _).setCell (p:=⟨kw,1,none⟩) HKW.out _
         have P10:Hid (XR.heap[kw]?=some (gy #[fP vb nn vc,fJ gw (zl+G)] 90)):=bj (by rw[SG];exact Wc HCW.out)
         have O10:Hid (eO 3 XR W9.heap.size (fP vb nn vc) (H++[g])):=bj (by
          have hoc:=qm HO7.out;rw[HNN.out];have bu:∀j,ft (fP vb (H++[g]).length vc)=some j->j≠kw:=λj e Q=>by
           obtain⟨S,SF⟩:=hoc j e;rw[Q,HCW.out]at SF;cases SF
          rw[SG]
          exact A8 (A8 HO7.out bu) bu)
         have M10:=bj (M9.out.on SI);have L10:=bj (aG SI L9.out);have S10:=bj (aG SI S9.out);have Ry:=bj (K9.out.on SI);rw[<-SG];clear SG SI y0 y1 fz;obtain⟨tp,tn,tc,tl,ok,FH,Ag⟩:=aii M10.out g;have HOK:=bj Ag;clear Ag h0 K E
         go_upto_region 35 with fail
         obtain⟨I,ab9⟩:=br (XR.alloc (gy #[fP tp tn tc,fJ gw tl] 90));have IP:bA XR I:=by rw[ab9];exact(bm _ _).alloc (bq _) _
         have P11:=bj ((IP.block _ (cm P10.out)).trans P10.out);have Q11:Hid (I.heap[XR.heap.size]?=some (gy #[fP tp tn tc,fJ gw tl] 90)):=bj (by rw[ab9];exact au _ _);have O11:=bj (O10.out.on IP);have M11:=bj (M10.out.on IP);have L11:=bj (aG IP L10.out);have S11:=bj (aG IP S10.out);have Tr:=bj (Ry.out.on IP);have B11:=bj IP;rw[<-ab9];clear ab9 IP FH M10 L10 S10 Ry O10;by_cases ht:g∈L++[zk]
         .have HT1:=bj ht;clear ht;have SK:=bj (SC.out.old HC.out DD.out eW.out f HPN.out HAB.out (by rw[<-HTO.out];exact HT1.out))
          go_wp2_with (at_lookup;go_must (refine aR (enc:=zn) _ rfl _ _ 86 3 4 rfl qz ju (mq _) bL (L++[zk]) rfl L11.out g rfl true (by simpa using HT1.out) ?_))
          exact⟨⟨q+1,R',f,by go_num,SK.out,M11.out,L11.out,S11.out,Tr.out⟩,by simp only[intOf];omega⟩
         .have HT1:=bj ht;clear ht;have z0:I.cell? ⟨kw,0,none⟩=some (fP vb nn vc):=by have h:=P11.out;simp[eM,h]
          have z1:I.cell? ⟨kw,1,none⟩=some (fJ gw (zl+G)):=by have h:=P11.out;simp[eM,h]
          have z2:I.cell? ⟨XR.heap.size,0,none⟩=some (fP tp tn tc):=by have h:=Q11.out;simp[eM,h]
          have z3:I.cell? ⟨XR.heap.size,1,none⟩=some (fJ gw tl):=by have h:=Q11.out;simp[eM,h]
          have RD:Hid (bB I (fP vb nn vc) (H++[g])):=bj (eO.reads O11.out);have PUT:Hid ((∀y∈R',y.1=g->wlt (H++[g],zl+G) y.2.2=true)->∀X,X.map strip=H9 (R'.map strip) (g,H++[g],zl+G)->SCx C (C.Cl m) s R L (zk,xv,H,zl) (q+1) X):=bj λh X E=>by
           rw[HTO.out,EG.out]at h E;exact SC.out.put HC.out DD.out eW.out f HPN.out HAB.out (by rw[<-HTO.out];exact HT1.out) h E
          have NDR:=bj SC.out.nodup
          cases hft:R'.find? (λz=>z.1==g) with
          |none=>
           have Ag:ok=false:=HOK.out.1 hft;subst Ag
           have PU:Hid (∀X,X.map strip=H9 (R'.map strip) (g,H++[g],zl+G)->SCx C (C.Cl m) s R L (zk,xv,H,zl) (q+1) X):=bj (PUT.out λy hy e=>by
            rw[List.find?_eq_none]at hft
            exact absurd (by simpa using e) (hft y hy))
           clear hft
           go_wp2_with (first
            |(at_lookup;go_must (refine aR (enc:=zn) _ rfl _ _ 86 3 4 rfl qz ju (mq _) bL (L++[zk]) rfl L11.out g rfl false (by simpa using HT1.out) ?_))
            |(at_mapUpdate;go_must (refine abw _ rfl _ _ _ (gE rfl) bR R' (g,fP vb nn vc,H++[g],zl+G) rfl rfl rfl M11.out NDR.out RD.out ar ?_);intro w12 R2 hM hRR J;go_must (have SN:=bj (PU.out R2 hRR);have N:=bj hM;have Y:=bj (gp L11.out (J.block _ (by have:=ZR.out;omega)));have Z:=bj (gp S11.out (J.block _ (by have:=ZR.out;omega)));have VC:=bj (Tr.out.turned J M11.out.map (λ_ _ _ e=>by cases e) (by have:=ZM.out;have:=ZR.out;omega):KQ C w kx kt w12));clear hM J hRR;go_frame))
           exact⟨⟨q+1,R2,f,by go_num,SN.out,N.out,Y.out,Z.out,VC.out⟩,by simp only[intOf];omega⟩
          |some z=>
           obtain⟨Ag,k1,k2,k3,k4,k5⟩:=HOK.out.2 z hft;subst Ag;obtain⟨bt,hbt⟩:=br (wlt (H++[g],zl+G) z.2.2)
           have BT:Hid (ad PL 34 #[fA #[fP vb nn vc,fJ gw (zl+G)],fA #[fP tp tn tc,fJ gw tl]] I (aO (fY bt) I)):=bj (by
            have hz:=SC.out.bd z k4;have K:=RD.out;have E:=k3.on B11.out;have hl:(H++[g]).length<=20:=by rw[dq];have:=OX2.out;simp;omega
            have:=abM vb tp vc tc (H++[g]) z.2.2.1 (zl+G) z.2.2.2 I (by rw[<-HNN.out];exact K) (by rw[<-k2];exact E) hl ab;rw[afw,<-HNN.out,<-k2]at this;have e2:z.2.2=(z.2.2.1,tl):=Prod.ext rfl k1.symm;rw[hbt,e2];rw[<-k1]at this
            exact this)
           have HBT:=bj hbt;have HZZ:=bj (fi k4 k5);have FM:Hid (∀y∈R',y.1=g->y=z):=bj λy hy e=>by
            have:=abf NDR.out hy;rw[e,hft]at this;exact(fo this).symm
           clear hbt k1 k2 k3 k4 k5 hft
           cases bt with
           |false=>
            have SN:Hid (SCx C (C.Cl m) s R L (zk,xv,H,zl) (q+1) R'):=bj (SC.out.AW HC.out HAB.out HZZ.out.1 (by rw[HZZ.out.2];exact HTO.out) (by have:=HBT.out;rw[HTO.out,EG.out]at this;exact this.symm))
            go_wp2_with (first
             |(at_lookup;go_must (refine aR (enc:=zn) _ rfl _ _ 86 3 4 rfl qz ju (mq _) bL (L++[zk]) rfl L11.out g rfl false (by simpa using HT1.out) ?_))
             |(go_at_call 34;(with_reducible refine(BT.out).mono ?_);rintro e w12⟨rfl,c⟩;have N:=bj (M11.out.on c);have Y:=bj (aG c L11.out);have Z:=bj (aG c S11.out);have VC:=bj (Tr.out.on c);clear c))
            exact⟨⟨q+1,R',f,by go_num,SN.out,N.out,Y.out,Z.out,VC.out⟩,by simp only[intOf];omega⟩
           |true=>
            have PU:Hid (∀X,X.map strip=H9 (R'.map strip) (g,H++[g],zl+G)->SCx C (C.Cl m) s R L (zk,xv,H,zl) (q+1) X):=bj (PUT.out λy hy e=>by rw[FM.out y hy e];exact HBT.out.symm)
            go_wp2_with (first
             |(at_lookup;go_must (refine aR (enc:=zn) _ rfl _ _ 86 3 4 rfl qz ju (mq _) bL (L++[zk]) rfl L11.out g rfl false (by simpa using HT1.out) ?_))
             |(go_at_call 34;(with_reducible refine(BT.out).mono ?_);rintro e w12⟨rfl,c⟩;have N:=bj (M11.out.on c);have Y:=bj (aG c L11.out);have Z:=bj (aG c S11.out);have VC:=bj (Tr.out.on c);have RD2:=bj (RD.out.on c);have y0:=(c.cell (p:=⟨kw,0,none⟩) (cm P11.out)).trans z0;have y1:=(c.cell (p:=⟨kw,1,none⟩) (cm P11.out)).trans z1;clear c)
             |(at_mapUpdate;go_must (refine abw _ rfl _ _ _ (gE rfl) bR R' (g,fP vb nn vc,H++[g],zl+G) rfl rfl rfl N.out NDR.out RD2.out ar ?_);intro w13 R2 hM hRR J;go_must (have SN:=bj (PU.out R2 hRR);have M13:=bj hM;have L13:=bj (gp Y.out (J.block _ (by have:=ZR.out;omega)));have S13:=bj (gp Z.out (J.block _ (by have:=ZR.out;omega)));have K13:=bj (VC.out.turned J N.out.map (λ_ _ _ e=>by cases e) (by have:=ZM.out;have:=ZR.out;omega):KQ C w kx kt w13));clear hM J hRR;go_frame))
            exact⟨⟨q+1,R2,f,by go_num,SN.out,M13.out,L13.out,S13.out,K13.out⟩,by simp only[intOf];omega⟩)
      .obtain⟨W7,V⟩:=br (wr.alloc (gy #[fP yb M.length yc,fJ gw T] 90));have hB7:bA wr W7:=by rw[V];exact(bm _ _).alloc (bq _) _
       have hc7:W7.heap[wr.heap.size]?=some (gy #[fP yb M.length yc,fJ gw T] 90):=by rw[V];exact au _ _
       have c0:W7.cell? ⟨wr.heap.size,0,none⟩=some (fP yb M.length yc):=by simp[eM,hc7]
       have c1:W7.cell? ⟨wr.heap.size,1,none⟩=some (fJ gw T):=by simp[eM,hc7]
       have RD7:=bj (RD.out.on hB7);have LO7:=bj (cC K5.out.low hB7);rw[<-V];clear V hB7 hc7 FH
       go_quiet (fail)
       go_wp2;rw[Exit.noGoto_ret];refine ag (v:=fB #[fP yb M.length yc,fJ gw T,fY true,fJ gw 0]) ?_ rfl ⟨some (M,T),HRE.out.2,⟨_,_,rfl,RD7.out.on (below_drewN (bm _ _) _)⟩,below_drewN LO7.out _⟩;simp[ai,eu,go_sem]
      .go_upto_region 24 with fail
       have L6:aU w' zn bL L:=gp L5.out (T6.out.block _ (by have:=ZI.out;omega));have S6:aU w' zn bM cl:=gp S5.out (T6.out.block _ (by have:=ZI.out;omega));have K6:KQ C w kx kt w':=K5.out.turned T6.out I5.out (λ_ _ _ e=>by cases e) ZI.out.2.2.2;obtain⟨W8,hW8⟩:=br (w'.alloc (gy #[fP yb M.length yc,fJ gw T] 90));have hB8:bA w' W8:=by rw[hW8];exact(bm _ _).alloc (bq _) _
       have L8:=bj (aG hB8 L6);have S8:=bj (aG hB8 S6);have K8:=bj (K6.on hB8);have M8:=bj (M6.out.on hB8);have I8:=bj (I6.out.on hB8);have P8:Hid (W8.heap[w'.heap.size]?=some (gy #[fP yb M.length yc,fJ gw T] 90)):=bj (by rw[hW8];exact au _ _);rw[<-hW8];clear hW8 hB8 L6 S6 K6 hen;have XQ:Ft W8 r<Ft wr r:=by
        rw[Fu I8.out,Fu I5.out];exact IK (List.getElem?_eq_some_iff.1 JJ.out).1 NS.out
       have HME:=bj XQ;clear XQ;by_cases hx:xk∈L
       .have SN:=bj (E5.out.skip JJ.out hx)
        go_wp2_with (at_lookup;go_must (refine aR (enc:=zn) _ rfl _ _ 86 3 4 rfl qz ju (mq _) bL L rfl L8.out xk rfl true (by simpa using hx) ?_))
        exact⟨⟨seen.push j,S,I8.out,M8.out,L8.out,S8.out,K8.out,by rw[HCA.out],SN.out⟩,HME.out⟩
       .have HX:=bj hx
        rcases S with _|y
        .obtain rfl:F = -1:=HCA.out;have SN:=bj (E5.out.first JJ.out hx);clear hx
         go_wp2_with (at_lookup;go_must (refine aR (enc:=zn) _ rfl _ _ 86 3 4 rfl qz ju (mq _) bL L rfl L8.out xk rfl false (by simpa using HX.out) ?_))
         exact⟨⟨seen.push j,some (xk,fP yb M.length yc,M,T),I8.out,M8.out,L8.out,S8.out,K8.out,rfl,SN.out⟩,HME.out⟩
        .obtain⟨yk,yv,yp,yl⟩:=y;obtain rfl:F=yk:=HCA.out;have hy:=(E5.out.yes _ rfl).1;have hyb:=DD.out.bd _ hy;have hxb:=DD.out.bd _ (eg JJ.out);simp only at hyb hxb;have hcn:¬F<0:=ab;have hl8:=DD.out.cnt;have FH:=IJ (k:=F) M8.out.map (abf DD.out.nodup hy);have hry:=M8.out.reads _ hy;have hrx:=M8.out.reads _ (eg JJ.out);simp only at hry hrx;have HRY:=bj hry;obtain⟨zb,zc,rfl,XZ⟩:=hry;clear XZ;simp only[nD]at FH;obtain⟨bt,hbt⟩:=br (wlt (M,T) (yp,yl))
         have BT:Hid (ad PL 34 #[fA #[fP yb M.length yc,fJ gw T],fA #[fP zb yp.length zc,fJ gw yl]] W8 (aO (fY bt) W8)):=bj (by
          have:=abM yb zb yc zc M yp T yl W8 hrx HRY.out ab ab;rw[afw]at this;rw[hbt]
          exact this)
         have z0:W8.cell? ⟨w'.heap.size,0,none⟩=some (fP yb M.length yc):=by have h:=P8.out;simp[eM,h]
         have z1:W8.cell? ⟨w'.heap.size,1,none⟩=some (fJ gw T):=by have h:=P8.out;simp[eM,h]
         have HBT:=bj hbt;clear hbt hrx hyb hxb hl8 hy
         cases bt with
         |false=>
          have SN:=bj (E5.out.AW JJ.out HBT.out.symm);clear hx
          go_wp2_with (first
           |(at_lookup;refine aR (enc:=zn) _ rfl _ _ 86 3 4 rfl qz ju (mq _) bL L rfl L8.out xk rfl false (by simpa using HX.out) ?_)
           |(go_at_call 34;(with_reducible refine(BT.out).mono ?_);rintro e w12⟨rfl,c⟩;have I12:=bj (I8.out.on c);have N:=bj (M8.out.on c);have Y:=bj (aG c L8.out);have Z:=bj (aG c S8.out);have VC:=bj (K8.out.on c);clear c))
          exact⟨⟨seen.push j,some (F,fP zb yp.length zc,yp,yl),I12.out,N.out,Y.out,Z.out,VC.out,rfl,SN.out⟩,by rw[Fu I12.out];have h:=HME.out;rw[Fu I8.out]at h;exact h⟩
         |true=>
          have SN:=bj (E5.out.better JJ.out hx HBT.out.symm);clear hx
          go_wp2_with (first
           |(at_lookup;refine aR (enc:=zn) _ rfl _ _ 86 3 4 rfl qz ju (mq _) bL L rfl L8.out xk rfl false (by simpa using HX.out) ?_)
           |(go_at_call 34;(with_reducible refine(BT.out).mono ?_);rintro e w12⟨rfl,c⟩;have I12:=bj (I8.out.on c);have N:=bj (M8.out.on c);have Y:=bj (aG c L8.out);have Z:=bj (aG c S8.out);have VC:=bj (K8.out.on c);clear c))
          exact⟨⟨seen.push j,some (xk,fP yb M.length yc,M,T),I12.out,N.out,Y.out,Z.out,VC.out,rfl,SN.out⟩,by rw[Fu I12.out];have h:=HME.out;rw[Fu I8.out]at h;exact h⟩
abbrev afL(a b c:Nat):ac:=f6 (.func 53) #[] #[f8 (some ⟨a,0,none⟩),f8 (some ⟨b,0,none⟩),f8 (some ⟨c,0,none⟩)]
structure DE(V:Array ac)(k2 k3 k4 k5 la ca lb cb Bc Bd Bt B1:Nat)(W:aa):Prop where
 lo:k2<B1/\k3<B1/\k4<B1/\k5<B1/\la<B1/\lb<B1/\Bc<B1/\Bd<B1/\Bt<B1
 hi:B1<=W.heap.size
 c:W.heap[Bc]?=some (gy V 27)
 d:∃v,W.heap[Bd]?=some (gy #[v] 42)
 t:W.heap[Bt]?=some (gy #[afL Bc Bd Bt] 110)
 ex:CJ W k2 k3 k4 k5 la ca lb cb 1
def Row.XM{W a:aa}{k B:Nat}{l:List ac}(h:Row W k l)(c:k<B)(b:Below B W a):Row a k l:=
 ⟨b8 h.1 b.size,λj v e=>(b.cell (p:=⟨k,j,none⟩) c).trans (h.2 j v e)⟩
def DE.XM{V:Array ac}{k2 k3 f g i ca lb j k l m b:Nat}{W n:aa}(h:DE V k2 k3 f g i ca lb j k l m b W)(a:Below b W n):DE V k2 k3 f g i ca lb j k l m b n:=by
 obtain⟨a1,a2,a3,a4,o,p,q,r,s⟩:=h.lo;exact⟨h.lo,ce h.hi a.size,(a.block _ q).trans h.c,h.d.imp λ_ e=>(a.block _ r).trans e,(a.block _ s).trans h.t,⟨h.ex.r2.XM a1 a,h.ex.r3.XM a2 a,h.ex.r4.XM a3 a,h.ex.r5.XM a4 a,h.ex.ra.XM o a,h.ex.rb.XM p a⟩⟩
def DE.on{V:Array ac}{k2 k3 b f g ca lb i j k l m:Nat}{W n:aa}(h:DE V k2 k3 b f g ca lb i j k l m W)(a:bA W n):DE V k2 k3 b f g ca lb i j k l m n:=
 ⟨h.lo,ce h.hi a.size,(a.block _ (cm h.c)).trans h.c,h.d.imp λ_ e=>(a.block _ (cm e)).trans e,(a.block _ (cm h.t)).trans h.t,h.ex.on a⟩
def DP(a b:Nat)(w:aa)(e:Ending)(w':aa):Prop:=e=gt (fY true)/\(∃v,w'.heap[b]?=some (gy #[v] 42)/\bB w' v [0,0])/\Below a w w'
def Sr{k2 a k3 c3 b c d e f ca lb g:Nat}:qP (ir k2 a k3 c3 b c d e f ca lb g 0) (ir k2 a k3 c3 b c d e f ca lb g 0).n5=true:=ae
def Ss{k2 a k3 c3 d f g i j ca lb k:Nat}(w:aa)(h:(ir k2 a k3 c3 d f g i j ca lb k 0).At w):ad PL 31 #[fA (ir k2 a k3 c3 d f g i j ca lb k 0).val] w (aO (fY true) w):=by
 have m:=VY (ir k2 a k3 c3 d f g i j ca lb k 0) 0 w h (yQ (gE rfl)) (by simp[ir]) λW n=>(vC _ 0 (gE rfl) rfl rfl W n λq l=>tA (gE rfl) ⟨k2,a,k3,c3,d,f,g,i,j,ca,lb,k,rfl⟩ l).mono ?_
 .rw[Sr]at m;exact m
 .rintro e w'⟨v,rfl,o,p⟩;obtain⟨b,c,rfl⟩:=vB o;exact⟨b,c,rfl,p⟩
def aik{W:aa}{base e size n B:Nat}{v u:ac}{xs:List ac}(h:W.ownsRow base e size v n xs)(d:B<base):(W.setCell ⟨B,0,none⟩ u).ownsRow base e size v n xs:=by
 obtain⟨b,h⟩:=h
 rcases h with h|⟨g,cap,a,e1,hb,hg,c⟩
 .exact⟨b,gE h⟩
 .exact⟨b,gG ⟨g,cap,a,e1,hb,(aZ ab).trans hg,c⟩⟩
def aht{k2 I k3 c3 o J q K r ca lb s L k M X N:Nat}{l:ac}(w:aa)(h:DE (ir k2 I k3 c3 o J q K r ca lb s 1).val k2 k3 o q r ca lb s L k M X w)(hl:bB w l [0,0])(O:N<=k) :
 ad PL 53 #[l,fJ gw 0,f8 (some ⟨L,0,none⟩),f8 (some ⟨k,0,none⟩),f8 (some ⟨M,0,none⟩)] w (DP N k w):=by
 have P:=bj hl;obtain⟨b,c,rfl,Q⟩:=hl;obtain⟨g,m,rfl,t,x⟩:=Q ar;have y:=bj h;have Y:=bj (x 0 ar);have Z:=bj (x 1 ar);simp only[db,dd,Nat.reduceAdd]at P ⊢;have R:Hid (∀W,CJ W k2 k3 o q r ca lb s 1->bB W (fP (some ⟨g,m,none⟩) 2 c) [0,0]->ad PL 52 #[fA (ir k2 I k3 c3 o J q K r ca lb s 1).val,fP (some ⟨g,m,none⟩) 2 c] W _):=bj λW hW hR=>yP W hW hR;have z:=h.c;clear h Q x;simp only[ir,CD.val]at R z y;obtain⟨f0,f1,f2,f3,f4,f5⟩:=bf z;clear z;go_enter (fx ao eA),eD
 go_upto_region 4 with(first
  |(go_at_call 52;go_must (refine(R.out _ y.out.ex P.out).mono ?_);rintro e w1⟨q2,p2,q3,p3,q4,p4,q5,p5,xa,ya,xb,yb,rfl,S⟩;have i:=bj S;clear S)
  |(go_at_call 31;go_must (refine(Ss _ (Rx i.out.rows.r2 i.out.rows.r3 i.out.rows.r4 i.out.rows.r5 i.out.rows.ra i.out.rows.rb)).mono ?_);rintro e w2⟨rfl,T⟩;have B2:=bj T;clear T))
 have T2:=bj (cC i.out.low B2.out);have U:∀j u,[bh 0,bh 0][j]?=some u->w2.cell? ⟨g,m+j,none⟩=some u:=λj u e=>by
  match j,e with
  |0,e=>cases e;exact(T2.out.cell (p:=⟨g,m,none⟩) t).trans Y.out
  |1,e=>cases e;exact(T2.out.cell (p:=⟨g,m+1,none⟩) t).trans Z.out
 have CL:=bj U;obtain⟨v0,a⟩:=y.out.d;have A:=bj a;have n:=(T2.out.block _ (cm a)).trans a;have B:=bj n;have V:g<w2.heap.size:=b8 t T2.out.size;have C:=bj V;clear U a n V
 go_wp2_with (go_at_call 35;go_must (refine(tC g m 2 c [bh 0,bh 0] _ rfl CL.out (by simp[fp]) ab C.out).mono ?_);rintro e w3⟨v,rfl,hv,D,E⟩;have f:=(E.block _ (cm B.out)).trans B.out;have fz:=tO f;have y0:w3.cell? ⟨k,0,none⟩=some v0:=(by simp[eM,f]);obtain⟨bb,cc,rfl⟩:=vB D;have F:=bj f;have HO:=bj D;have B3:=bj E;clear f D E hv)
 go_ret;have H:k<w2.heap.size:=cm B.out;refine⟨rfl,⟨_,yV F.out,eO.reads (e:=3) (base:=w2.heap.size) (aik HO.out H)⟩,((cC T2.out B3.out).mono (ce O (cf (cm A.out)))).setCell O _⟩
def afM{T e:aF}(a:PL.underlying T=some (.slice e))(c:(PL.info? e).map (λi=>(i.zero,i.size,i.bytes))=some (some (fJ gw 0),1,8)){ops:Array aT}{o:aT}{b:Act}{K:ac->aa->Prop}{W:aa}(d:o.guard=none)(s x:a7)
 (f:o.op=.call { callee:=.builtin .append,args:=#[s,x],argTypes:=#[T,T] }) (base:Nat) (v:ac) (l:List Int) (j:Int) (k:Nat) (hs:b.eval s=v) (g:eO e W base v l)
 (m:b.eval x=fP (some ⟨k,0,none⟩) 1 1) (hc:W.cell? ⟨k,0,none⟩=some (fJ gw j)) (hl:l.length<=1000) (n:base<=W.heap.size)
 (h:∀v' w',eO e w' base v' (l++[j])->W.grownBy w' v.ownBlock->K v' w'):fC PL ops K o b W:=by
 obtain⟨p,hi,r,t,y⟩:=aJ c
 obtain⟨v',w',z,A,B,_⟩:=a8 (P:=PL) (w:=W) base T o.type e p (fJ gw 0) 1 8 a hi r t y rfl ao v l.length _ g ⟨k,0,none⟩ 1 1 [fJ gw j] rfl (λq u e=>by
  match q,e with
  |0,e=>cases e;exact hc) (by simp[fp]) (by simp only[aP];omega) ab n
 unfold fC;rw[if_pos (by simp[Region.wanted,d])];unfold execOp;simp only[f,a9,invoke,bi,gg,gj,gl,dU,d8,d9,hs,m,z];refine h v' w' ?_ B;unfold eO;rw[dq,ea];exact A
structure CT(V:Array ac)(k2 k3 k4 k5 la ca lb cb Bc Bd Bt B1:Nat)(w1:aa)(b:Bool)(W:aa):Prop where
 de:DE V k2 k3 k4 k5 la ca lb cb Bc Bd Bt B1 W
 low:Below B1 w1 W
 old:b=false->bA w1 W
def V1(n0 a:Nat)(xs:List Int)(j:Nat)(vs:Nat->ac)(W:aa):Prop:=
 (j=3->∃k,vs 3=fP (some ⟨k,0,none⟩) 1 1/\n0<=k/\W.heap[k]?=some (gy #[fJ gw 0] 3))/\
 (j=4->eO 3 W a (vs 4) (xs++[0]))
def V1.le{n0 b:Nat}{xs:List Int}{j:Nat}{vs:Nat->ac}{W c:aa}(h:V1 n0 b xs j vs W)(d:bA W c):V1 n0 b xs j vs c:=
 ⟨λe=>(h.1 e).imp λ_ a=>⟨a.1,a.2.1,(d.block _ (cm a.2.2)).trans a.2.2⟩,λe=>(h.2 e).on d⟩
def ExD(t:Nat):Bool:=t != 3&&t != 4
def ack{k2 x k3 c3 f y g z m ca lb p v r s d F:Nat}{l:ac}(xs:List Int)(L:xs.length<2)(w:aa)(h:DE (ir k2 x k3 c3 f y g z m ca lb p 1).val k2 k3 f g m ca lb p v r s d w)(hl:eO 3 w d l xs)(cB:F<=d)
 (M:∀W l',DE (ir k2 x k3 c3 f y g z m ca lb p 1).val k2 k3 f g m ca lb p v r s d W->eO 3 W d l' (xs++[0])->ad PL 53 #[l',fJ gw 0,f8 (some ⟨v,0,none⟩),f8 (some ⟨r,0,none⟩),f8 (some ⟨s,0,none⟩)] W (DP F r W)) :
 ad PL 53 #[l,fJ gw 0,f8 (some ⟨v,0,none⟩),f8 (some ⟨r,0,none⟩),f8 (some ⟨s,0,none⟩)] w (DP F r w):=by
 obtain⟨b,c,rfl⟩:=vB hl;have HX:=bj h;have N:=bj hl;have IH:=bj M;have O:=h.c;have i1:¬((xs.length:Int)=2):=ab;have H:=bj L;clear h hl M L;obtain⟨P,Q,R,S,f4,T⟩:=bf O;clear O;simp only[ir]at P Q R S f4 T;go_enter (fx ao eA),eD;go_wp2
 go_loopw [8] (λv8 wr=>v8=fJ gw 0/\wr=w) (λ_ _=>0)
 case atStart=>exact⟨rfl,rfl⟩
 case round=>
  obtain⟨rfl,hw⟩:=hrel;subst hw
  go_upto_region 9 with(go_at_call 51;refine(uK (n:=0) rfl _).mono ?_;rintro e w'⟨rfl,rfl⟩)
  have C0:Hid (CT (ir k2 x k3 c3 f y g z m ca lb p 1).val k2 k3 f g m ca lb p v r s d wr false wr.drew):=bj ⟨HX.out.on (bm _ _).drew,(bm _ _).drew,λ_=>(bm _ _).drew⟩;clear P Q R S f4 T i1;refine iL 8 4 (CT (ir k2 x k3 c3 f y g z m ca lb p 1).val k2 k3 f g m ca lb p v r s d wr) (λW U=>bA W U) ExD (λ_=>V1 wr.heap.size d xs) (λ_ _ _ _=>True) (λ_ _ _ _ _=>trivial) rfl ae ae rfl
   (λ_ i vs W U I h=>h.le I) (λi o ho vs eX W V _ _ h=>⟨λe=>by subst e;rw[<-V];exact h.1 rfl,λe=>by subst e;rw[<-V];exact h.2 rfl⟩) C0.out ?_
  iterate 3 (
   apply iK
   case hE=>rfl
   case h=>
    intro vs W b a hd;have A:=a.de.t;have t0:W.cell? ⟨s,0,none⟩=some (afL v r s):=by simp[eM,A]
    clear A;go_simp
    first
    |exact⟨rfl,bm _ _⟩
    |exact⟨rfl,a,bm _ _⟩
   case hb=>exact KD)
  apply ey
  case hE=>rfl
  case hb=>exact KD
  case h=>
   intro vs W D b hb a X hi _ hd hP;have u:=(bm W.heap.size W).alloc (bq _) (gy #[fJ gw 0] 3);have B:Hid (CT (ir k2 x k3 c3 f y g z m ca lb p 1).val k2 k3 f g m ca lb p v r s d wr b (W.alloc (gy #[fJ gw 0] 3))):=bj ⟨a.de.on u,a.low.trans (u.mono a.de.hi),λe=>cC (a.old e) u⟩;have HW:=bj (a.low.size);clear a;go_simp;exact⟨B.out,λj C J=>(hd j C J).le u,⟨λ_=>⟨W.heap.size,by simp[upd],HW.out,au _ _⟩,bp⟩⟩
  apply ey
  case hE=>rfl
  case hb=>exact KD
  case h=>
   intro vs W D bb iC a X hi _ hd hP;have m3:3∈D:=X ⟨3,gL⟩ (cH.2 ⟨ar,rfl⟩);obtain⟨q,hq,hql,K⟩:=(hd 3 m3 rfl).1 rfl;have hold:=a.old (iC rfl);have Y:=N.out.on hold;have bu:=cZ Y;have aH:∀j,ft (fP b xs.length c)=some j->j<wr.heap.size:=λj e=>by
    obtain⟨cur,hc⟩:=qm N.out j e;exact cm hc
   refine afM Rz RE rfl _ _ rfl d (fP b xs.length c) xs 0 q rfl Y hq (by simp[eM,K]) (by have:=H.out;omega) a.de.hi λv' w' h1 Z=>?_;have u:Below d W w':=(bm d W).grown Z a.de.hi bu;refine⟨⟨a.de.XM u,a.low.trans u,λe=>by simp at e⟩,λj C J=>⟨λe=>?_,λe=>absurd C (by rw[e];exact hi)⟩,⟨bp,λ_=>by simpa[upd]using h1⟩,λ_ _ _=>trivial⟩;refine((hd j C J).1 e).imp λk E=>⟨E.1,E.2.1,(Z.block k (cm E.2.2) λe=>?_).trans E.2.2⟩
   have:=aH _ e.symm;omega
  iterate 3 (
   apply iK
   case hE=>rfl
   case h=>
    intro vs W b a hd;go_simp;exact⟨rfl,bm _ _⟩
   case hb=>exact KD)
  refine nv λvs W bb _ a hd _=>?_;have hO:=(hd 4 ab rfl).2 rfl;have HO:=bj hO;have B:=bj a;clear hd hO a
  go_wp2_with (go_at_call 53;go_must (refine(IH.out _ _ B.out.de HO.out).mono ?_);rintro e w2⟨rfl,hp,u⟩)
  go_ret;exact⟨rfl,hp,(B.out.low.mono cB).trans u⟩
def ab1{k2 m k3 c3 d n e o f ca lb g i a j k b:Nat}(w:aa)(h:DE (ir k2 m k3 c3 d n e o f ca lb g 1).val k2 k3 d e f ca lb g i a j k w)(p:b<=a)(l:b<=k) :
 ad PL 53 #[fP none 0 0,fJ gw 0,f8 (some ⟨i,0,none⟩),f8 (some ⟨a,0,none⟩),f8 (some ⟨j,0,none⟩)] w (DP b a w):=
 ack [] ao w h ⟨rfl,gE ⟨rfl,rfl⟩⟩ l λW t q hl=>ack [0] ao W q hl l λr u s c=>aht r s (eO.reads c) p
end Go.Proofs
namespace Go.Proofs
open Go.RowKit Go.Shelf
def ac5{P:Program}{w:aa}{a:aI}{m:Mode}(f:Fn)(ts b:Array ac):(store a (f6 f ts b) m).run P w=stored P w a (f6 f ts b) m:=run_store P w a _ m rfl
attribute [local go_sem] ac5
def V2{w:aa}{B:Nat}{v:ac}{t:aF}(h:w.heap[B]?=some (gy #[v] t)):bA w (w.setCell ⟨B,0,none⟩ v):=
 ⟨rfl,rfl,rfl,ar,λk _=>by
   by_cases e:k=B
   .subst e;rw[yV h,h]
   .exact aZ (Ne.symm e)⟩
structure aiD(V:Array ac)(w:aa)(W:aa):Prop where
 c:W.heap[w.heap.size]?=some (gy V 27)
 d:W.heap[w.heap.size+1]?=some (gy #[fP none 0 0] 42)
 low:bA w W
def aiD.on{V:Array ac}{w W b:aa}(h:aiD V w W)(a:bA W b):aiD V w b:=
 ⟨(a.block _ (cm h.c)).trans h.c,(a.block _ (cm h.d)).trans h.d,cC h.low a⟩
def II{k2 i k3 c3 a j b k f ca lb g:Nat}(w:aa)(h:CJ w k2 k3 a b f ca lb g 1) :
 ad PL 23 #[fA (ir k2 i k3 c3 a j b k f ca lb g 1).val] w λe w'=>∃v,e=gt (fB #[v,fY true,fJ gw 0])/\bB w' v [0,0]/\bA w w':=by
 have l:=bj h
 have q:Hid (aiD (ir k2 i k3 c3 a j b k f ca lb g 1).val w ((w.alloc (gy (ir k2 i k3 c3 a j b k f ca lb g 1).val 27)).alloc (gy #[fP none 0 0] 42))):=bj (by
  refine⟨(((bm (w.alloc _).heap.size _).alloc (bq _) _).block _ ar).trans (au w _),?_,((bm _ _).alloc (bq _) _).alloc ar _⟩;have h:=au (w.alloc (gy (ir k2 i k3 c3 a j b k f ca lb g 1).val 27)) (gy #[fP none 0 0] 42);rw[eN]at h
  exact h)
 have M:Hid (∀W,CJ W k2 k3 a b f ca lb g 1->ad PL 36 #[fA (ir k2 i k3 c3 a j b k f ca lb g 1).val] W (aO (fJ gw 0) W)):=bj λW Y=>sY (yQ (gG rfl)) Y.at;clear h;simp only[ir,CD.val]at q M ⊢;go_enter (fx ao Tryz.func23),Tryz.ntmps23
 go_upto_region 1 with fail
 obtain⟨N,O⟩:=br ((w.alloc (gy #[fJ gw 60,fJ gw 4,fP (some ⟨k2,0,none⟩) 2 i,fP (some ⟨k3,0,none⟩) 4 c3,fP (some ⟨a,0,none⟩) 3 j,fP (some ⟨b,0,none⟩) 2 k] 27)).alloc (gy #[fP none 0 0] 42));rw[<-O]at q ⊢;clear O;obtain⟨z,A,B,C,f4,D⟩:=bf q.out.c
 go_upto_region 4 with(go_at_call 36;go_must (refine(M.out _ (l.out.on q.out.low)).mono ?_);rintro e w1⟨rfl,r⟩;have I:=bj (q.out.on r);clear r z A B C f4 D;obtain⟨z,A,B,C,f4,D⟩:=bf I.out.c)
 go_upto_region 5 with fail
 obtain⟨n,E⟩:=br (w1.alloc (gy #[ge] 110));have r:bA w1 n:=by rw[E];exact(bm _ _).alloc (bq _) _
 have F:n.heap[w1.heap.size]?=some (gy #[ge] 110):=by rw[E];exact au _ _
 rw[<-E];clear E z A B C f4 D;have J:=bj (I.out.on r);have Z:=bj F;have t0:n.cell? ⟨w1.heap.size,0,none⟩=some ge:=by simp[eM,F]
 have P:=tO F;clear F r
 go_upto_region 6 with fail
 obtain⟨m,H⟩:=br (n.setCell ⟨w1.heap.size,0,none⟩ (afL w.heap.size (w.heap.size+1) w1.heap.size));rw[<-H];have s:=cm I.out.d
 have o:Hid (aiD #[fJ gw 60,fJ gw 4,fP (some ⟨k2,0,none⟩) 2 i,fP (some ⟨k3,0,none⟩) 4 c3,fP (some ⟨a,0,none⟩) 3 j,fP (some ⟨b,0,none⟩) 2 k] w m):=bj (by
  rw[H]
  exact⟨(aZ ab).trans J.out.c,(aZ ab).trans J.out.d,J.out.low.setCell (p:=⟨w1.heap.size,0,none⟩) (by simp only;omega) _⟩)
 have Q:Hid (DE (ir k2 i k3 c3 a j b k f ca lb g 1).val k2 k3 a b f ca lb g w.heap.size (w.heap.size+1) w1.heap.size (w1.heap.size+1) m):=bj (by
  have e:=l.out.on o.out.low;have l2:=l.out.r2.1;have l3:=l.out.r3.1;have l4:=l.out.r4.1;have l5:=l.out.r5.1;have f:=l.out.ra.1;have lb:=l.out.rb.1;have R:m.heap[w1.heap.size]?=some (gy #[afL w.heap.size (w.heap.size+1) w1.heap.size] 110):=by rw[H];exact yV Z.out
  exact⟨⟨ab,ab,ab,ab,ab,ab,ab,ab,ab⟩,cm R,o.out.c,⟨_,o.out.d⟩,R,e⟩)
 have S:=Q.out.t;have t1:m.cell? ⟨w1.heap.size,0,none⟩=some (afL w.heap.size (w.heap.size+1) w1.heap.size):=by simp[eM,S]
 obtain⟨z,A,B,C,f4,D⟩:=bf o.out.c;clear H t0 P S;have K:=bj s;clear s;go_wp2
 go_loopw [19] (λL wr=>L=fJ gw 0/\wr=m) (λ_ _=>0)
 case atStart=>exact⟨rfl,rfl⟩
 case round=>
  obtain⟨rfl,hw⟩:=hrel;subst hw
  go_wp2_with (go_at_call 53;go_must (refine(ab1 _ Q.out (Nat.le_succ _) (by have:=K.out;omega)).mono ?_);rintro e w3⟨rfl,⟨v,hv,T⟩,U⟩;have HR:=bj T;obtain⟨x,y,rfl,Yc⟩:=T;clear Yc;have y0:w3.cell? ⟨w.heap.size+1,0,none⟩=some (fP x 2 y):=(by simp[eM,hv]);have P:=tO hv;have V:=bj hv;have X:=bj U;clear hv U)
  have hs:=V2 V.out;have hy:=yV (u:=fP x 2 y) V.out;refine ag (v:=fB #[fP x 2 y,fY true,fJ gw 0]) ?_ rfl ⟨_,rfl,HR.out.on hs,(o.out.low.trans X.out).trans (hs.mono (ce o.out.low.size X.out.size))⟩;have hz:=cm hy;have sB:(w3.setCell ⟨w.heap.size+1,0,none⟩ (fP x 2 y)).cell? ⟨w.heap.size+1,0,none⟩=some (fP x 2 y):=by simp[eM,hy]
  clear hs;simp[ai,Tryz.results23,go_sem,sB]
def Sy:Ir je:=by
 have:=CD.V5 (C:=ir 0 0 0 0 0 0 0 0 0 0 0 0 0) (yQ (gE rfl));rwa[acy]at this
def XO(m:Int):List Int:=if m=5 then[2,3,0] else[]
def A6(m:Int):Int:=if m=5 then 110 else 0
def SC(m:Int):Bool:=decide (m=5)
section
variable {k2 c2 k3 c3 k4 c4 k5 c5 la ca lb cb:Nat}
def aiL(m:Int)(p:Nat)(a:p<2)(h:kU je p m 2 0 false≠2):(ir k2 c2 k3 c3 k4 c4 k5 c5 la ca lb cb 0).Cl m ((p:Int)+1):=by
 refine⟨p,by show p<3;omega,by rw[acy];exact h,0,?_,?_⟩
 .match p,a with
  |0,_=>show 0<1;decide
  |1,_=>show 0<1;decide
 .match p,a with
  |0,_=>rfl
  |1,_=>rfl
theorem agQ{P:Int->Prop}{a b d:Int}(h:(ir k2 c2 k3 c3 k4 c4 k5 c5 la ca lb cb 0).edge P a b d)(e:P 1):(a=0/\b=1/\d=40\/a=1/\b=0/\d=40)\/(¬P 2/\(a=2/\b=3/\d=30\/a=3/\b=2/\d=30))\/(a=0/\b=3/\d=80\/a=3/\b=0/\d=80):=by
 obtain⟨i,hi,f,hd,c⟩:=h;have hi:i<4:=hi
 match i,hi with
 |0,_=>
  have c:((0:Int)=a/\(1:Int)=b\/(0:Int)=b/\(1:Int)=a):=c;have hd:(40:Int)=d:=hd;exact gE ab
 |1,_=>exact absurd e f
 |2,_=>
  have c:((2:Int)=a/\(3:Int)=b\/(2:Int)=b/\(3:Int)=a):=c;have hd:(30:Int)=d:=hd;grind
 |3,_=>
  have c:((0:Int)=a/\(3:Int)=b\/(0:Int)=b/\(3:Int)=a):=c;have hd:(80:Int)=d:=hd;exact gG (gG ab)
def aj7:abd ((ir k2 c2 k3 c3 k4 c4 k5 c5 la ca lb cb 0).edge ((ir k2 c2 k3 c3 k4 c4 k5 c5 la ca lb cb 0).Cl 5)) 2 0 (some ([2,3,0],110)):=by
 have k:(ir k2 c2 k3 c3 k4 c4 k5 c5 la ca lb cb 0).Cl 5 1:=aiL 5 0 ao ao;have f:¬(ir k2 c2 k3 c3 k4 c4 k5 c5 la ca lb cb 0).Cl 5 ((2:Nat):Int):=by
  rintro⟨i,hi,hs,j,c,e⟩;have hi:i<3:=hi;rw[acy]at hs
  match i,hi with
  |0,_=>
   have c:j<1:=c;obtain rfl:j=0:=ab;have e:(1:Int)=2:=e;omega
  |1,_=>exact absurd (show kU je 1 5 2 0 false=2 by decide) hs
  |2,_=>exact absurd c (ci _)
 have g:¬(ir k2 c2 k3 c3 k4 c4 k5 c5 la ca lb cb 0).Cl 5 ((3:Nat):Int):=by
  rintro⟨i,hi,hs,j,c,e⟩;have hi:i<3:=hi
  match i,hi with
  |0,_=>
   have c:j<1:=c;obtain rfl:j=0:=ab;have e:(1:Int)=3:=e;omega
  |1,_=>
   have c:j<1:=c;obtain rfl:j=0:=ab;have e:(2:Int)=3:=e;omega
  |2,_=>exact absurd c (ci _)
 refine⟨?_,λl n h=>?_⟩
 .have w1:=Wlk.start (E:=(ir k2 c2 k3 c3 k4 c4 k5 c5 la ca lb cb 0).edge ((ir k2 c2 k3 c3 k4 c4 k5 c5 la ca lb cb 0).Cl 5)) (s:=2);have w2:=w1.step (b:=3) (d:=30) ⟨2,by show 2<4;decide,f,rfl,gE ⟨rfl,rfl⟩⟩;exact w2.step (b:=0) (d:=80) ⟨3,by show 3<4;decide,g,rfl,gG ⟨rfl,rfl⟩⟩
 .have key:∀l a n,Wlk ((ir k2 c2 k3 c3 k4 c4 k5 c5 la ca lb cb 0).edge ((ir k2 c2 k3 c3 k4 c4 k5 c5 la ca lb cb 0).Cl 5)) 2 l a n->(a=2/\0<=n/\(n=0->l=[2]))\/(a=3/\30<=n/\(n=30->l=[2,3]))\/(a=0/\110<=n/\(n=110->l=[2,3,0]))\/(a=1/\150<=n):=by
   intro l a n h
   induction h with
   |start=>grind
   |@step l a n b d h m o=>
    rcases agQ m k with(⟨rfl,rfl,rfl⟩|⟨rfl,rfl,rfl⟩)|⟨_,⟨rfl,rfl,rfl⟩|⟨rfl,rfl,rfl⟩⟩|(⟨rfl,rfl,rfl⟩|⟨rfl,rfl,rfl⟩)
    .grind
    .grind
    .grind
    .grind
    .grind
    grind
  grind[s9,L1]
def ajd:abd ((ir k2 c2 k3 c3 k4 c4 k5 c5 la ca lb cb 0).edge ((ir k2 c2 k3 c3 k4 c4 k5 c5 la ca lb cb 0).Cl 3)) 2 0 none:=by
 have e:(ir k2 c2 k3 c3 k4 c4 k5 c5 la ca lb cb 0).Cl 3 1:=aiL 3 0 ao ao;have f:(ir k2 c2 k3 c3 k4 c4 k5 c5 la ca lb cb 0).Cl 3 2:=aiL 3 1 ao ao;intro l n c;have key:∀l a n,Wlk ((ir k2 c2 k3 c3 k4 c4 k5 c5 la ca lb cb 0).edge ((ir k2 c2 k3 c3 k4 c4 k5 c5 la ca lb cb 0).Cl 3)) 2 l a n->a=2:=by
  intro l a n c
  induction c with
  |start=>rfl
  |@step l a n b d c g h=>
   grind[agQ]
 have:=key l 0 n c;omega
def Ba(C:CD)(m:Int)(a:m=5\/m=3)(g:C=ir k2 c2 k3 c3 k4 c4 k5 c5 la ca lb cb 0)(w:aa)(h:C.At w) :
 ad PL 9 #[fA C.val,fJ gw 2,fJ gw m] w λe w'=>∃v,e=gt (fB #[v,fJ gw (A6 m),fY (SC m),fJ gw 0])/\bB w' v (XO m)/\bA w w':=by
 subst g;refine(abS _ 2 m w h (yQ (gE rfl)) ⟨ao,by show(2:Int)<4;decide⟩ (by rcases a with rfl|rfl<;>decide)).mono ?_;rintro e w'⟨r,hb,d,f⟩
 rcases a with rfl|rfl
 .obtain rfl:=hb.unique aj7;obtain⟨b,c,i,j⟩:=d;exact⟨_,i,j,f⟩
 .obtain rfl:=hb.unique ajd;exact⟨_,d,⟨none,0,rfl,bp⟩,f⟩
end
def uP(d:Int)(C:CD)(W:aa):Prop:=∃k2 g k3 c3 a h b i c e lb f,C=ir k2 g k3 c3 a h b i c e lb f d/\CJ W k2 k3 a b c e lb f d
def uP.on{d:Int}{C:CD}{W a:aa}(h:uP d C W)(b:bA W a):uP d C a:=by
 obtain⟨k2,c,k3,c3,f,g,i,j,k,l,lb,m,e,h⟩:=h;exact⟨k2,c,k3,c3,f,g,i,j,k,l,lb,m,e,h.on b⟩
def uP.at{d:Int}{C:CD}{W:aa}(h:uP d C W):C.At W:=by
 obtain⟨k2,a,k3,c3,b,c,e,f,g,i,lb,j,rfl,h⟩:=h;exact h.at
def uP.is{d:Int}{C:CD}{W:aa}(h:uP d C W):VB d C:=by
 obtain⟨k2,a,k3,c3,b,c,e,f,g,i,lb,j,rfl,_⟩:=h;exact⟨k2,a,k3,c3,b,c,e,f,g,i,lb,j,rfl⟩
def tG{d:Int}{C:CD}(hd:d=0\/d=1)(h:VB d C):C.b6 true=0:=by
 obtain⟨k2,a,k3,c3,b,c,e,f,g,i,lb,j,rfl⟩:=h
 rcases hd with rfl|rfl<;>kernel_rfl
def IQ{d:Int}{C:CD}(hd:d=0\/d=1)(h:VB d C):C.cx=0:=IC (tG hd h)
def agd(w:aa):ad PL 17 #[fJ gw 13,fJ gw (-5)] w λe w'=>e=gt (fB #[fJ gw 12,fJ gw 0])/\w=w':=(uD 13 (-5) w).mono λ_ _ k=>⟨k.1.trans ae,k.2.symm⟩
def age(w:aa):ad PL 17 #[fJ gw 20,fJ gw 11] w λe w'=>e=gt (fB #[fJ gw 16,fJ gw 0])/\w=w':=(uD 20 11 w).mono λ_ _ k=>⟨k.1.trans ae,k.2.symm⟩
def agf{C:CD}(w:aa)(h:uP 0 C w):ad PL 18 #[fA C.val,fJ gw 0] w (aO (fB #[fA #[fJ gw 16,fJ gw 20],fJ gw 0]) w):=by
 have k:=nB C 0 w h.at;have e:C.kR 0=fB #[fA #[fJ gw 16,fJ gw 20],fJ gw 0]:=by
  obtain⟨k2,a,k3,c3,b,c,d,f,g,i,lb,j,rfl⟩:=h.is
  kernel_rfl
 rwa[e]at k
def agh{C:CD}(w:aa)(h:uP 0 C w):ad PL 18 #[fA C.val,fJ gw 2] w (aO (fB #[fA #[fJ gw 24,fJ gw 25],fJ gw 0]) w):=by
 have k:=nB C 2 w h.at;have e:C.kR 2=fB #[fA #[fJ gw 24,fJ gw 25],fJ gw 0]:=by
  obtain⟨k2,a,k3,c3,b,c,d,f,g,i,lb,j,rfl⟩:=h.is
  kernel_rfl
 rwa[e]at k
def agi{C:CD}(w:aa)(h:uP 0 C w):ad PL 19 #[fA C.val,fJ gw 0] w (aO (fB #[fJ gw 0,fJ gw 0]) w):=by
 have k:=pH C 0 w h.at;have e:C.iq 0=fB #[fJ gw 0,fJ gw 0]:=by
  obtain⟨k2,a,k3,c3,b,c,d,f,g,i,lb,j,rfl⟩:=h.is
  kernel_rfl
 rwa[e]at k
def agj{C:CD}(w:aa)(h:uP 0 C w):ad PL 19 #[fA C.val,fJ gw 2] w (aO (fB #[fJ gw 2,fJ gw 0]) w):=by
 have k:=pH C 2 w h.at;have e:C.iq 2=fB #[fJ gw 2,fJ gw 0]:=by
  obtain⟨k2,a,k3,c3,b,c,d,f,g,i,lb,j,rfl⟩:=h.is
  kernel_rfl
 rwa[e]at k
def SJ:List Int:=[0,0,0,4,6,1,6,9,10,14,2,13,17,18,22]
def aaJ:List Int:=[0,1,2,0,13]
def ajf{W:aa}{base e n:Nat}{v:ac}{xs:List ac}(h:W.ownsRow base e 5 v n xs)(l:List Int)(c:xs=l.map λz=>fJ gw z):co W v n 5 λj=>fJ gw (l.getD j 0):=by
 obtain⟨hl,h⟩:=h
 rcases h with⟨rfl,rfl⟩|⟨g,cap,a,rfl,hb,hg,hc,d,hs,b⟩
 .exact⟨none,0,rfl,λh=>absurd h (cd _)⟩
 .refine⟨_,_,rfl,λf=>⟨g,0,rfl,cm hg,λj i=>?_⟩⟩;have k:l.length=n*5:=aS;have e:xs[j]?=some (fJ gw (l.getD j 0)):=by
   grind
  rw[<-b,df ab]at e;simp only[eM,hg,bT];simpa using e
def e34{C:CD}(w:aa)(h:uP 0 C w):ad PL 20 #[fA C.val,fJ gw 0] w λe w'=>∃v,e=gt (fB #[v,fJ gw 0])/\(co w' v 3 5 λj=>fJ gw (SJ.getD j 0))/\bA w w':=by
 have k:=ID C 0 w h.at (by obtain⟨k2,a,k3,c3,b,c,d,f,g,i,lb,l,rfl⟩:=h.is;show 0<2;decide) (by obtain⟨k2,a,k3,c3,b,c,d,f,g,i,lb,l,rfl⟩:=h.is;show 2<=3;decide) (tG (gE rfl) h.is) (Sa C (IQ (gE rfl) h.is) (by obtain⟨k2,a,k3,c3,b,c,d,f,g,i,lb,l,rfl⟩:=h.is;show 0<2;decide));refine k.mono ?_;rintro e w'⟨v,rfl,m,n⟩;have e:mD C 0 C.n4=[(0,0,0,4,6),(1,6,9,10,14),(2,13,17,18,22)]:=by
  obtain⟨k2,a,k3,c3,b,c,d,f,g,i,lb,l,rfl⟩:=h.is
  kernel_rfl
 unfold AY at m;rw[e]at m;exact⟨v,rfl,ajf m SJ rfl,n⟩
def e59{C:CD}(w:aa)(h:uP 0 C w):ad PL 21 #[fA C.val,fJ gw 1] w (aO (fB #[fA #[fJ gw 18,fJ gw 23],fJ gw 0]) w):=by
 have k:=Sj C 1 w h.at (by obtain⟨k2,a,k3,c3,b,c,d,f,g,i,lb,j,rfl⟩:=h.is;show 1<2;decide) (by obtain⟨k2,a,k3,c3,b,c,d,f,g,i,lb,j,rfl⟩:=h.is;show 2<=3;decide) (tG (gE rfl) h.is) (Sa C (IQ (gE rfl) h.is) (by obtain⟨k2,a,k3,c3,b,c,d,f,g,i,lb,j,rfl⟩:=h.is;show 1<2;decide));have e:nU C 1=(18,23):=by
  obtain⟨k2,a,k3,c3,b,c,d,f,g,i,lb,j,rfl⟩:=h.is
  kernel_rfl
 rwa[e]at k
def e36{C:CD}(w:aa)(h:uP 0 C w):ad PL 6 #[fA C.val,fJ gw 8] w λe w'=>∃v,e=gt (fB #[v,fJ gw 0])/\bB w' v [2,0,1]/\bA w w':=by
 have k:=RO C 8 je Sy w h.at (tG (gE rfl) h.is) (by obtain⟨k2,a,k3,c3,b,c,d,f,g,i,lb,j,rfl⟩:=h.is;show 3<=5;decide) (by obtain⟨k2,a,k3,c3,b,c,d,f,g,i,lb,j,rfl⟩:=h.is;show 2<=3;decide) rfl λW l=>tA (gE rfl) h.is l;have e:tB je 8 C.n5 C.n4=[2,0,1]:=by
  obtain⟨k2,a,k3,c3,b,c,d,f,g,i,lb,j,rfl⟩:=h.is
  kernel_rfl
 rwa[e]at k
def e37{C:CD}{d:Int}(hd:d=0\/d=1)(w:aa)(h:uP d C w):ad PL 8 #[fA C.val] w λe w'=>∃v,e=gt (fB #[v,fJ gw 0])/\(∃b c,v=fP b (Cv d 3).length c)/\(co w' v (Cv d 3).length 5 λj=>fJ gw (aaJ.getD j 0))/\bA w w':=by
 have g:C.n4=3/\C.n5=2:=by obtain⟨k2,o,k3,c3,p,q,r,s,t,u,lb,x,rfl⟩:=h.is;exact⟨rfl,rfl⟩
 have k:=Fp C (λW v=>(∃b c,v=fP b (Cv d 3).length c)/\co W v (Cv d 3).length 5 λj=>fJ gw (aaJ.getD j 0)) w h.at (tG hd h.is) λW i=>(vC C d hd g.1 g.2 W i λy f=>tA hd h.is f).mono λe w'⟨v,l,a,m⟩=>⟨v,l,⟨vB a,?_⟩,m⟩
 .grind
 .rcases hd with rfl|rfl
  .have n:Cv 0 3=[]:=rfl;unfold kV at a;rw[n]at a⊢;obtain⟨b,c,rfl⟩:=vB a;exact⟨b,c,rfl,λh=>absurd h (cd _)⟩
  .exact ajf a aaJ rfl
def e39{C:CD}{v:ac}(w:aa)(h:uP 0 C w)(hv:bB w v [0,1]):ad PL 22 #[fA C.val,v] w λe w'=>∃a,e=gt (fB #[fA a.val,fJ gw 0])/\uP 1 a w'/\bA w w':=by
 obtain⟨k2,l,k3,c3,m,n,o,p,q,r,lb,s,rfl,b⟩:=h;exact(Iw w b hv).mono λe w'⟨q2,d2,q3,d3,q4,d4,q5,d5,c,d,f,g,i,j,k⟩=>⟨_,i,⟨q2,d2,q3,d3,q4,d4,q5,d5,c,d,f,g,rfl,j⟩,k⟩
def e52{C:CD}(w:aa)(h:uP 1 C w):ad PL 23 #[fA C.val] w λe w'=>∃v,e=gt (fB #[v,fY true,fJ gw 0])/\bB w' v [0,0]/\bA w w':=by
 obtain⟨k2,b,k3,c3,c,d,f,g,i,j,lb,k,rfl,a⟩:=h;exact II w a
def agk{C:CD}(w:aa)(h:uP 0 C w):ad PL 9 #[fA C.val,fJ gw 2,fJ gw 5] w λe w'=>∃v,e=gt (fB #[v,fJ gw 110,fY true,fJ gw 0])/\bB w' v [2,3,0]/\bA w w':=by
 have a:=h.at;obtain⟨k2,b,k3,c3,c,d,f,g,i,j,lb,k,e,_⟩:=h;exact Ba C 5 (gE rfl) e w a
def agl{C:CD}(w:aa)(h:uP 0 C w):ad PL 9 #[fA C.val,fJ gw 2,fJ gw 3] w λe w'=>∃v,e=gt (fB #[v,fJ gw 0,fY false,fJ gw 0])/\bB w' v []/\bA w w':=by
 have a:=h.at;obtain⟨k2,b,k3,c3,c,d,f,g,i,j,lb,k,e,_⟩:=h;exact Ba C 3 (gG rfl) e w a
def e31{C:CD}(w:aa)(h:uP 0 C w):ad PL 11 #[fA C.val] w λe w'=>∃v,e=gt (fB #[v,fJ gw 0])/\bB w' v [0,2]/\bA w w':=by
 have k:=Cr C w h.at (IQ (gE rfl) h.is);have e:(qC C C.p.toNat (2 ^ C.p.toNat)).getD []=[0,2]:=by
  obtain⟨k2,a,k3,c3,b,c,d,f,g,i,lb,j,rfl⟩:=h.is
  kernel_rfl
 rwa[e]at k
def agm{C:CD}(w:aa)(h:uP 0 C w):ad PL 8 #[fA C.val] w λe w'=>∃b c,e=gt (fB #[fP b 0 c,fJ gw 0])/\bA w w':=
 (e37 (gE rfl) w h).mono λe w'⟨v,a,⟨b,c,d⟩,_,f⟩=>⟨b,c,by rw[a,d];rfl,f⟩
def agn{C:CD}(w:aa)(h:uP 1 C w):ad PL 8 #[fA C.val] w λe w'=>∃v,e=gt (fB #[v,fJ gw 0])/\(co w' v 1 5 λj=>fJ gw (aaJ.getD j 0))/\bA w w':=
 (e37 (gG rfl) w h).mono λe w'⟨v,a,_,b,c⟩=>⟨v,a,b,c⟩
def iO(W:aa)(t:aF)(m:Nat)(l:List Int)(n:Nat)(hl:l.length=n*m):co (W.alloc (gy (l.map λz=>Value.int gw z).toArray t)) (fP (some ⟨W.heap.size,0,none⟩) n n) n m λj=>fJ gw (l.getD j 0):=by
 refine⟨_,_,rfl,λ_=>⟨_,_,rfl,ar,λj a=>?_⟩⟩;simp_all
attribute [local go_sem] Oper.semAt_some
def NC(P:aa->Prop):Prop:=∀W a,P W->bA W a->P a
def iy(W:aa):List (aa->Prop)->Prop
 |[]=>True
 |P::l=>(P W/\NC P)/\iy W l
def iy.on{W a:aa}:∀{l:List (aa->Prop)},iy W l->bA W a->iy a l
 |[],_,_=>trivial
 |_::_,h,b=>⟨⟨h.1.2 _ _ h.1.1 b,h.1.2⟩,iy.on h.2 b⟩
def iy.add{W:aa}{l:List (aa->Prop)}(h:iy W l)(P:aa->Prop)(a:P W)(b:NC P):iy W (P::l):=⟨⟨a,b⟩,h⟩
def mE(k:Nat)(x:Obj):NC λW=>W.heap[k]?=some x:=λ_ _ h a=>(a.block _ (cm h)).trans h
def gz(v:ac)(n m:Nat)(f:Nat->ac):NC λW=>co W v n m f:=λ_ _ h a=>Reads.on h a
def Lp(d:Int)(C:CD):NC (uP d C):=λ_ _ h a=>h.on a
def SU(w:aa):NC λW=>bA w W:=λ_ _ h a=>cC h a
def IV(w:aa):ad PL 5 #[] w (aO (fY true) w):=by
 go_enter (fx ao Tryz.func5),Tryz.ntmps5
 go_upto_region 2 with(go_at_call 16;go_must (refine(EV _).mono ?_);rintro e w0⟨k2,L,k3,c3,M,q,N,r,O,P,lb,Q,rfl,⟨r2,r3,r4,r5,ra,rb⟩,a⟩;have z:Hid (uP 0 (ir k2 L k3 c3 M q N r O P lb Q 0) w0):=bj ⟨k2,L,k3,c3,M,q,N,r,O,P,lb,Q,rfl,⟨r2,r3,r4,r5,ra,rb⟩⟩;have HB:=bj a;clear r2 r3 r4 r5 ra rb a;obtain⟨C,m⟩:=br (ir k2 L k3 c3 M q N r O P lb Q 0);rw[<-m]at z ⊢;clear m)
 obtain⟨kb,R⟩:=br w0.heap.size;obtain⟨W2,i⟩:=br (w0.alloc (gy C.val 27));have s:bA w0 W2:=by rw[i];exact(bm _ _).alloc (bq _) _
 have S:Hid (iy W2 [λW=>W.heap[kb]?=some (gy C.val 27),uP 0 C,λW=>bA w W]):=bj ⟨⟨by rw[i,R];exact au _ _,mE _ _⟩,⟨z.out.on s,Lp _ _⟩,⟨cC HB.out s,SU _⟩,trivial⟩;rw[<-i,<-R];clear i R s z HB
 go_upto_region 3 with(go_at_call 17;go_must (refine(agd _).mono ?_);rintro e w'⟨rfl,rfl⟩)
 go_upto_region 4 with(go_at_call 17;go_must (refine(age _).mono ?_);rintro e w'⟨rfl,rfl⟩)
 obtain⟨b,c,d,f,f4,g⟩:=bf S.out.1.1
 go_upto_region 5 with(go_at_call 18;go_must (refine(agf _ (S.out.2.1.1)).mono ?_);rintro e n⟨rfl,a⟩;have A:=bj (S.out.on a);clear a b c d f f4 g)
 obtain⟨T,hb⟩:=br n.heap.size;obtain⟨W4,i⟩:=br (n.alloc (gy #[fJ gw 16,fJ gw 20] 56));have U:=bj ((A.out.on (show bA n W4 by rw[i];exact(bm _ _).alloc (bq _) _)).add (λW=>W.heap[T]?=some (gy #[fJ gw 16,fJ gw 20] 56)) (by rw[i,hb];exact au _ _) (mE _ _));rw[<-i,<-hb];clear i hb A;obtain⟨b,c,d,f,f4,g⟩:=bf (U.out.2.1.1)
 go_upto_region 6 with(go_at_call 18;go_must (refine(agh _ (U.out.2.2.1.1)).mono ?_);rintro e o⟨rfl,a⟩;have B:=bj (U.out.on a);clear a b c d f f4 g)
 obtain⟨V,hb⟩:=br o.heap.size;obtain⟨W5,i⟩:=br (o.alloc (gy #[fJ gw 24,fJ gw 25] 56));have X:=bj ((B.out.on (show bA o W5 by rw[i];exact(bm _ _).alloc (bq _) _)).add (λW=>W.heap[V]?=some (gy #[fJ gw 24,fJ gw 25] 56)) (by rw[i,hb];exact au _ _) (mE _ _));rw[<-i,<-hb];clear i hb B;obtain⟨b,c,d,f,f4,g⟩:=bf (X.out.2.2.1.1)
 go_upto_region 7 with(go_at_call 19;go_must (refine(agi _ (X.out.2.2.2.1.1)).mono ?_);rintro e w6x⟨rfl,a⟩;have Y:=bj (X.out.on a);clear a b c d f f4 g;obtain⟨b,c,d,f,f4,g⟩:=bf (Y.out.2.2.1.1))
 go_upto_region 8 with(go_at_call 19;go_must (refine(agj _ (Y.out.2.2.2.1.1)).mono ?_);rintro e w7x⟨rfl,a⟩;have Z:=bj (Y.out.on a);clear a b c d f f4 g;obtain⟨b,c,d,f,f4,g⟩:=bf (Z.out.2.2.1.1))
 go_upto_region 9 with(go_at_call 20;go_must (refine(e34 _ (Z.out.2.2.2.1.1)).mono ?_);rintro e w8x⟨v8,rfl,l,a⟩;have K8:=bj ((Z.out.on a).add (λW=>co W v8 3 5 λj=>fJ gw (SJ.getD j 0)) l (gz _ _ _ _));clear l;clear a b c d f f4 g;obtain⟨b,c,d,f,f4,g⟩:=bf (K8.out.2.2.2.1.1))
 go_upto_region 10 with(go_at_call 21;go_must (refine(e59 _ (K8.out.2.2.2.2.1.1)).mono ?_);rintro e p⟨rfl,a⟩;have D:=bj (K8.out.on a);clear a b c d f f4 g)
 obtain⟨b9,hb⟩:=br p.heap.size;obtain⟨W9,i⟩:=br (p.alloc (gy #[fJ gw 18,fJ gw 23] 56));have K9:=bj ((D.out.on (show bA p W9 by rw[i];exact(bm _ _).alloc (bq _) _)).add (λW=>W.heap[b9]?=some (gy #[fJ gw 18,fJ gw 23] 56)) (by rw[i,hb];exact au _ _) (mE _ _));rw[<-i,<-hb];clear i hb D;obtain⟨b,c,d,f,f4,g⟩:=bf (K9.out.2.2.2.2.1.1)
 go_upto_region 11 with(go_at_call 6;go_must (refine(e36 _ (K9.out.2.2.2.2.2.1.1)).mono ?_);rintro e aul⟨E,rfl,l,a⟩;have Ry:=bj ((K9.out.on a).add (λW=>bB W E [2,0,1]) l (gz _ _ _ _));clear l;clear a b c d f f4 g;obtain⟨b,c,d,f,f4,g⟩:=bf (Ry.out.2.2.2.2.2.1.1))
 go_upto_region 12 with(go_at_call 8;go_must (refine(agm _ (Ry.out.2.2.2.2.2.2.1.1)).mono ?_);rintro e aum⟨Fy,q11,rfl,a⟩;have Tr:=bj (Ry.out.on a);clear a b c d f f4 g;obtain⟨b,c,d,f,f4,g⟩:=bf (Tr.out.2.2.2.2.2.1.1))
 go_upto_region 13 with(go_at_call 22;go_must (refine(e39 _ ((Tr.out.2.2.2.2.2.2.1.1).on ((bm _ _).alloc (bq _) _)) (iO _ 3 1 [0,1] 2 rfl)).mono ?_);rintro e K⟨C1,rfl,hE,a⟩;have F:=bj ((Tr.out.on ((bm _ _).alloc (bq _) _)).on a);have z:=bj hE;clear hE;clear a b c d f f4 g)
 obtain⟨Vv,hb⟩:=br K.heap.size;obtain⟨W12,i⟩:=br (K.alloc (gy C1.val 27));have t:bA K W12:=by rw[i];exact(bm _ _).alloc (bq _) _
 have VC:=bj (((F.out.on t).add (λW=>W.heap[Vv]?=some (gy C1.val 27)) (by rw[i,hb];exact au _ _) (mE _ _)).add (uP 1 C1) (z.out.on t) (Lp _ _));rw[<-i,<-hb];clear i hb t F z;obtain⟨b,c,d,f,f4,g⟩:=bf (VC.out.2.1.1)
 go_upto_region 14 with(go_at_call 8;go_must (refine(agn _ (VC.out.1.1)).mono ?_);rintro e aun⟨UW,rfl,l,a⟩;have u:=bj ((VC.out.on a).add (λW=>co W UW 1 5 λj=>fJ gw (aaJ.getD j 0)) l (gz _ _ _ _));clear l;clear a b c d f f4 g;obtain⟨b,c,d,f,f4,g⟩:=bf (u.out.2.2.1.1))
 go_upto_region 15 with(go_at_call 23;go_must (refine(e52 _ (u.out.2.1.1)).mono ?_);rintro e auo⟨UX,rfl,l,a⟩;have Tq:=bj ((u.out.on a).add (λW=>bB W UX [0,0]) l (gz _ _ _ _));clear l;clear a b c d f f4 g;obtain⟨b,c,d,f,f4,g⟩:=bf (Tq.out.2.2.2.2.2.2.2.2.2.1.1))
 go_upto_region 16 with(go_at_call 9;go_must (refine(agk _ (Tq.out.2.2.2.2.2.2.2.2.2.2.1.1)).mono ?_);rintro e aup⟨H,rfl,l,a⟩;have v:=bj ((Tq.out.on a).add (λW=>bB W H [2,3,0]) l (gz _ _ _ _));clear l;clear a b c d f f4 g;obtain⟨b,c,d,f,f4,g⟩:=bf (v.out.2.2.2.2.2.2.2.2.2.2.1.1))
 go_upto_region 17 with(go_at_call 9;go_must (refine(agl _ (v.out.2.2.2.2.2.2.2.2.2.2.2.1.1)).mono ?_);rintro e auq⟨v16,rfl,l,a⟩;have x:=bj ((v.out.on a).add (λW=>bB W v16 []) l (gz _ _ _ _));clear l;clear a b c d f f4 g;obtain⟨b,c,d,f,f4,g⟩:=bf (x.out.2.2.2.2.2.2.2.2.2.2.2.1.1))
 go_upto_region 18 with(go_at_call 11;go_must (refine(e31 _ (x.out.2.2.2.2.2.2.2.2.2.2.2.2.1.1)).mono ?_);rintro e y⟨I,rfl,l,a⟩;have J:=bj ((x.out.on a).add (λW=>bB W I [0,2]) l (gz _ _ _ _));clear l;clear a b c d f f4 g;obtain⟨b,c,d,f,f4,g⟩:=bf (J.out.2.2.2.2.2.2.2.2.2.2.2.2.1.1))
 clear b c d f f4 g
 go_upto_region 20 with fail
 have KK:=J;have e4:=KK.out.2.2.2.2.2.2.2.2.2.2.2.1.1;have e5:=KK.out.2.2.2.2.2.2.2.2.2.2.1.1;have e9:=KK.out.2.2.2.2.2.2.2.2.1.1;obtain⟨wq,hwq⟩:=br y;have E4:=bj e4;have E5:=bj e5;have E9:=bj e9;clear e4 e5 e9 hwq;refine ig (λW=>bA y W) (λ_ _=>True) (λ_=>true) (λ_ _ _=>True) rfl ae (λ_ _ _ _ _ _=>trivial) (λ_ _ _ _ _ _ _ _ _=>trivial) (bm _ _).drew ?_
 iterate 49 (
  apply aY
  case hE=>rfl
  case h=>
   intro vs W m hd;have q:=(m.block _ (cm E4.out)).trans E4.out;have r:=(m.block _ (cm E5.out)).trans E5.out;have c9:=(m.block _ (cm E9.out)).trans E9.out;have x0:W.cell? ⟨T,0,none⟩=some (fJ gw 16):=by simp[eM,q]
   have x1:W.cell? ⟨T,1,none⟩=some (fJ gw 20):=by simp[eM,q]
   have x2:W.cell? ⟨V,0,none⟩=some (fJ gw 24):=by simp[eM,r]
   have x3:W.cell? ⟨V,1,none⟩=some (fJ gw 25):=by simp[eM,r]
   have x4:W.cell? ⟨b9,0,none⟩=some (fJ gw 18):=by simp[eM,c9]
   have x5:W.cell? ⟨b9,1,none⟩=some (fJ gw 23):=by simp[eM,c9]
   have q1:=yM;have q2:=Co;clear q r c9;go_simp
   first
   |(go_at_call 24;refine(fU _ _ _).mono ?_;rintro e W'⟨rfl,a⟩;exact⟨_,rfl,rfl,cC m a⟩)
   |exact rfl
  case hb=>exact KD)
 refine cP λvs W m hd=>?_;have KK:=bj (KK.out.on m);clear hd m
 go_wp2_with (first
  |(go_at_call 24;go_must (refine(fU _ _ _).mono ?_);rintro e w'⟨rfl,a⟩;have KK:=bj (iy.on KK.out a);clear a)
  |(go_at_call 25;go_must (refine(zT v8 _ 3 (λj=>SJ.getD j 0) _ ((iy.on KK.out ((bm _ _).alloc (bq _) _)).2.2.2.2.2.2.2.2.2.1.1) (iO _ 72 5 SJ 3 rfl) ao).mono ?_);rintro e w'⟨rfl,a⟩;have KK:=bj (iy.on (iy.on KK.out ((bm _ _).alloc (bq _) _)) a);clear a)
  |(go_at_call 12;go_must (refine(Cp E _ 3 (λj=>[2,0,1].getD j 0) _ ((iy.on KK.out ((bm _ _).alloc (bq _) _)).2.2.2.2.2.2.2.1.1) (iO _ 59 1 [2,0,1] 3 rfl) ao).mono ?_);rintro e w'⟨rfl,a⟩;have KK:=bj (iy.on (iy.on KK.out ((bm _ _).alloc (bq _) _)) a);clear a)
  |(go_at_call 26;go_must (refine(vS UW _ 1 (λj=>aaJ.getD j 0) _ ((iy.on KK.out ((bm _ _).alloc (bq _) _)).2.2.2.2.1.1) (iO _ 75 5 aaJ 1 rfl) ao).mono ?_);rintro e w'⟨rfl,a⟩;have KK:=bj (iy.on (iy.on KK.out ((bm _ _).alloc (bq _) _)) a);clear a))
 refine(pI UX _ 2 (λj=>[0,0].getD j 0) _ ((iy.on KK.out ((bm _ _).alloc (bq _) _)).2.2.2.1.1) (iO _ 3 1 [0,0] 2 rfl) ao).mono ?_;rintro e w1x⟨rfl,a⟩;have KK:=bj (iy.on (iy.on KK.out ((bm _ _).alloc (bq _) _)) a);clear a;go_wp2;refine(pI H _ 3 (λj=>[2,3,0].getD j 0) _ ((iy.on KK.out ((bm _ _).alloc (bq _) _)).2.2.1.1) (iO _ 3 1 [2,3,0] 3 rfl) ao).mono ?_;rintro e w2x⟨rfl,a⟩;have KK:=bj (iy.on (iy.on KK.out ((bm _ _).alloc (bq _) _)) a);clear a;go_wp2;refine(pI I _ 2 (λj=>[0,2].getD j 0) _ ((iy.on KK.out ((bm _ _).alloc (bq _) _)).1.1) (iO _ 3 1 [0,2] 2 rfl) ao).mono ?_;rintro e w3x⟨rfl,a⟩;have KK:=bj (iy.on (iy.on KK.out ((bm _ _).alloc (bq _) _)) a);clear a;go_wp2;go_ret;exact⟨rfl,KK.out.2.2.2.2.2.2.2.2.2.2.2.2.2.2.1.1⟩
end Go.Proofs
namespace Go.Proofs
open Go.RowKit
section
variable {C:CD}{p:Nat}(hp:p<=6)
include hp
end
open Go.Shelf
structure abT(n:Nat)(f:Nat->Nat):Prop where
 lt:∀i,i<n->f i<n
 inj:∀i j,i<n->j<n->f i=f j->i=j
 sur:∀i,i<n->∃j,j<n/\f j=i
def aag(n b j:Nat):Nat:=(n-1-j+b) % n
def agR{n:Nat}(c:n<=3)(b:Nat):abT n (aag n b):=by
 obtain rfl|rfl|rfl|rfl:n=0\/n=1\/n=2\/n=3:=ab
 .exact⟨λi hi=>absurd hi ab,λi j hi=>absurd hi ab,λi hi=>absurd hi ab⟩
 .exact⟨λi hi=>by simp only[aag];omega,λi j hi a=>by simp only[aag];omega,λi hi=>⟨0,ab,by simp only[aag];omega⟩⟩
 .exact⟨λi hi=>by simp only[aag];omega,λi j hi a=>by simp only[aag];omega,λi hi=>⟨(1+b+i) % 2,ab,by simp only[aag];omega⟩⟩
 .exact⟨λi hi=>by simp only[aag];omega,λi j hi a=>by simp only[aag];omega,λi hi=>⟨(2+b+2*i) % 3,ab,by simp only[aag];omega⟩⟩
structure j9(C D:CD)(f:Nat->Nat):Prop where
 l:D.l=C.l
 p:D.p=C.p
 n2:D.n2=C.n2
 x2:D.x2=C.x2
 n3:D.n3=C.n3
 x3:D.x3=C.x3
 n4:D.n4=C.n4
 x4:D.x4=C.x4
 n5:D.n5=C.n5
 x5:∀j,j<C.n5->D.x5 j=C.x5 (f j)
structure LN(C D:CD):Prop where
 l:D.l=C.l
 p:D.p=C.p
 n2:D.n2=C.n2
 x2:D.x2=C.x2
 n3:D.n3=C.n3
 x3:∀j,j<C.n3->D.x3 j=((C.x3 (C.n3-1-j)).2.1,(C.x3 (C.n3-1-j)).1,(C.x3 (C.n3-1-j)).2.2)
 n4:D.n4=C.n4
 x4:∀i,(D.x4 i).name=(C.x4 i).name/\(D.x4 i).n=(C.x4 i).n/\(D.x4 i).ln=(C.x4 i).ln
 lane:∀i,i<C.n4->∀j,j<(C.x4 i).ln->(D.x4 i).lane j=C.n3-1-(C.x4 i).lane ((C.x4 i).ln-1-j)
 n5:D.n5=C.n5
 x5:D.x5=C.x5
def abi(np:Nat)(x:Nat->ByteArray×Int×Int)(i:Nat):iI np x i=0↔ku (x i).1=true/\bO (x i).2.1 0 (np-1)=true/\bO (x i).2.2 0 12=true/\∀j,j<i->(x j).1≠(x i).1/\(x j).2.1≠(x i).2.1:=by
 have hA:(∀j,j<i->(x j).1≠(x i).1/\(x j).2.1≠(x i).2.1)↔(x i).1∉(eh i).map (λj=>(x j).1)/\(x i).2.1∉(eh i).map λj=>(x j).2.1:=by
  simp only[ei,ej,not_exists,not_and];exact⟨λh=>⟨λj f e=>(h j f).1 e,λj f e=>(h j f).2 e⟩,λh j f=>⟨λe=>h.1 j f e,λe=>h.2 j f e⟩⟩
 rw[hA];unfold iI iH;by_cases a:ku (x i).1=true<;>by_cases b:(x i).1∈(eh i).map (λj=>(x j).1)<;>by_cases c:bO (x i).2.1 0 (np-1)=true<;>by_cases d:(x i).2.1∈(eh i).map (λj=>(x j).2.1)<;>by_cases e:bO (x i).2.2 0 12=true<;>simp only[a,b,c,d,e]<;>simp
def abr(p:Int)(x:Nat->Int×Int×Int)(i:Nat):fQ p x i=0↔bO (x i).1 0 (p-1)=true/\bO (x i).2.1 0 (p-1)=true/\(x i).1≠(x i).2.1/\bO (x i).2.2 1 999=true/\∀j,j<i->eB (x j).1 (x j).2.1≠eB (x i).1 (x i).2.1:=by
 have hA:(∀j,j<i->eB (x j).1 (x j).2.1≠eB (x i).1 (x i).2.1)↔eB (x i).1 (x i).2.1∉(eh i).map (λj=>eB (x j).1 (x j).2.1):=by
  simp only[ei,ej,not_exists,not_and]
 rw[hA];unfold fQ;by_cases a:bO (x i).1 0 (p-1)=true<;>by_cases b:bO (x i).2.1 0 (p-1)=true<;>by_cases c:(x i).1=(x i).2.1<;>by_cases d:bO (x i).2.2 1 999=true<;>by_cases e:eB (x i).1 (x i).2.1∈(eh i).map (λj=>eB (x j).1 (x j).2.1)<;>simp only[a,b,c,d,e]<;>simp[c]
def X0(a:Nat)(lane:Nat->Int)(j:Nat):fy a lane j=0↔(0<=lane j/\lane j<=a-1)/\(0<j->lane (j-1)<lane j):=by
 unfold fy bO;grind
def j9.check{C D:CD}{f:Nat->Nat}(h:j9 C D f)(hf:abT C.n5 f)(hc:C.cx=0):D.cx=0:=by
 have b:∀j,j<5->C.dP j=0:=ck hc;refine cz λj c=>?_;have a:=b j c
 match j,c with
 |0,_=>simp only[CD.dP,h.l,h.p]at *;exact a
 |1,_=>simp only[CD.dP,h.n2,h.x2]at *;exact a
 |2,_=>simp only[CD.dP,h.p,h.n3,h.x3]at *;exact a
 |3,_=>simp only[CD.dP,h.p,h.n2,h.n3,h.n4,h.x4]at *;exact a
 |4,_=>
  simp only[CD.dP,h.n4,h.n5,pE]at *;split at a
  .cases a
  .rename_i hb;rw[if_neg hb];have b:=ck a;refine cz λi hi=>?_;rw[abi,h.x5 i hi];obtain⟨d,g,k,_⟩:=(abi _ _ _).1 (b (f i) (hf.lt i hi));refine⟨d,g,k,λj c=>?_⟩;rw[h.x5 j ab]
   rcases Nat.lt_trichotomy (f j) (f i) with e|e|e
   .exact((abi _ _ _).1 (b (f i) (hf.lt i hi))).2.2.2 _ e
   .exact absurd (hf.inj j i ab hi e) ab
   .have:=((abi _ _ _).1 (b (f j) (hf.lt j ab))).2.2.2 _ e;exact⟨this.1.symm,this.2.symm⟩
def LN.check{C D:CD}(h:LN C D)(hc:C.cx=0):D.cx=0:=by
 have b:∀j,j<5->C.dP j=0:=ck hc;refine cz λj c=>?_;have a:=b j c
 match j,c with
 |0,_=>simp only[CD.dP,h.l,h.p]at *;exact a
 |1,_=>simp only[CD.dP,h.n2,h.x2]at *;exact a
 |2,_=>
  simp only[CD.dP,h.p,h.n3,kz]at *;split at a
  .cases a
  .rename_i hb;rw[if_neg hb];have b:=ck a;refine cz λi hi=>?_;rw[abr,h.x3 i hi];obtain⟨d,e,f,g,_⟩:=(abr _ _ _).1 (b (C.n3-1-i) ab);refine⟨e,d,f.symm,g,λj c=>?_⟩;rw[h.x3 j ab];have:=((abr _ _ _).1 (b (C.n3-1-j) ab)).2.2.2.2 (C.n3-1-i) ab;show eB (C.x3 (C.n3-1-j)).2.1 (C.x3 (C.n3-1-j)).1≠eB (C.x3 (C.n3-1-i)).2.1 (C.x3 (C.n3-1-i)).1;rw[abo,abo (C.x3 (C.n3-1-i)).2.1];exact this.symm
 |3,_=>
  simp only[CD.dP,h.p,h.n2,h.n3,h.n4,kA]at *;split at a
  .rename_i hb;rw[if_pos hb];have b:=ck a;refine cz λi hi=>?_;have d:=b i hi;obtain⟨e1,m,n⟩:=h.x4 i;have o:((eh i).map λj=>(D.x4 j).name)=(eh i).map λj=>(C.x4 j).name:=ek λj _=>(h.x4 j).1;have r:ia (C.x4 i).ln (fy C.n3 (C.x4 i).lane)=0->ia (C.x4 i).ln (fy C.n3 (D.x4 i).lane)=0:=λhl=>by
    have hl:=ck hl;refine cz λk q=>?_;rw[X0,h.lane i hi k q];have k1:=(X0 _ _ _).1 (hl ((C.x4 i).ln-1-k) ab);refine⟨ab,λs=>?_⟩;rw[h.lane i hi (k-1) ab,show(C.x4 i).ln-1-(k-1)=(C.x4 i).ln-1-k+1 by omega];have k2:=((X0 _ _ _).1 (hl ((C.x4 i).ln-1-k+1) ab)).2 ab;rw[Nat.add_sub_cancel]at k2;omega
   unfold gM at d⊢;rw[e1,m,n,o];grind
  .cases a
 |4,_=>simp only[CD.dP,h.n4,h.n5,h.x5]at *;exact a
def any_succ(q:Nat->Bool)(k g:Nat):(eh (k+1)).any (λi=>q (g+i))=(q g||(eh k).any λi=>q (g+1+i)):=by
 rw[List.range_succ_eq_map,List.any_cons,List.any_map,ch];congr 2;funext i;show q (g+(i+1))=_;rw[show g+(i+1)=g+1+i by omega]
def abU(L:List Int)(p:Nat)(m:Int):∀(k g:Nat)(can:Bool),kU L p m k g can =
 if(eh k).any (λi=>bO m (L.getD ((g+i)*25+p*5+2) 0) (L.getD ((g+i)*25+p*5+3) 0-1)) then 1
 else Ej (can||(eh k).any λi=>bO m (L.getD ((g+i)*25+p*5+1) 0) (L.getD ((g+i)*25+p*5+4) 0-1)) true
 |0,g,can=>by simp[kU]
 |k+1,g,can=>by
  rw[kU,abU L p m k (g+1),any_succ (λi=>bO m (L.getD (i*25+p*5+2) 0) (L.getD (i*25+p*5+3) 0-1)),any_succ (λi=>bO m (L.getD (i*25+p*5+1) 0) (L.getD (i*25+p*5+4) 0-1))];by_cases e:bO m (L.getD (g*25+p*5+2) 0) (L.getD (g*25+p*5+3) 0-1)=true
  .rw[if_pos e,e,Bool.true_or,if_pos rfl]
  .rw[if_neg e,Bool.eq_false_iff.2 e,Bool.false_or,Bool.or_assoc]
def agS{n:Nat}{f:Nat->Nat}(hf:abT n f){q r:Nat->Bool}(h:∀i,i<n->r i=q (f i)):(eh n).any r=(eh n).any q:=by
 rw[Bool.eq_iff_iff];simp only[List.any_eq_true,ej];constructor
 .rintro⟨i,hi,e⟩;exact⟨f i,hf.lt i hi,by rw[<-h i hi];exact e⟩
 .rintro⟨i,hi,e⟩;obtain⟨j,a,rfl⟩:=hf.sur i hi;exact⟨j,a,by rw[h j a];exact e⟩
def j9.yd{C D:CD}{f:Nat->Nat}(h:j9 C D f)(hf:abT C.n5 f)(d:C.n5<=3){g p j:Nat}(hg:g<C.n5)(e:p<5)(i:j<5):D.yd.getD (g*25+p*5+j) 0=C.yd.getD (f g*25+p*5+j) 0:=by
 have c:=hf.lt g hg;unfold CD.yd ac2;rw[dL,dL,dO,dO,dQ ab,dQ ab];simp only[eV,fb]
 rw[agc,agc,show(g*25+p*5+j) / 25=g by omega,show(g*25+p*5+j) % 25 / 5=p by omega,show(g*25+p*5+j) % 5=j by omega,
  show(f g*25+p*5+j) / 25=f g by omega,show(f g*25+p*5+j) % 25 / 5=p by omega,show(f g*25+p*5+j) % 5=j by omega]
 simp only[CD.S,CD.dl,h.n4,h.n5,hg,c,h.x5 g hg,true_and,show D.pn=C.pn from by funext a b;simp only[CD.pn,h.x4]]
def LN.yd{C D:CD}(h:LN C D):D.yd=C.yd:=by
 show ac2 D.pn D.n4 D.S D.dl D.n5=ac2 C.pn C.n4 C.S C.dl C.n5;rw[show D.pn=C.pn from by funext a b;simp only[CD.pn,(h.x4 a).2.1],show D.S=C.S from by funext k;simp only[CD.S,h.x5],show D.dl=C.dl from by funext k;simp only[CD.dl,h.x5],h.n4,h.n5]
def j9.kU{C D:CD}{f:Nat->Nat}(h:j9 C D f)(hf:abT C.n5 f)(a:C.n5<=3){p:Nat}(b:p<5)(m:Int):cq D.yd p m D.n5 0 false=cq C.yd p m C.n5 0 false:=by
 have T:=λg hg j c=>h.yd (g:=g) hf a hg b (j:=j) c;rw[abU,abU,h.n5];simp only[bT]
 rw[agS hf (q:=λi=>bO m (C.yd.getD (i*25+p*5+2) 0) (C.yd.getD (i*25+p*5+3) 0-1)) (r:=λi=>bO m (D.yd.getD (i*25+p*5+2) 0) (D.yd.getD (i*25+p*5+3) 0-1)) (λi hi=>by simp only[T i hi 2 ao,T i hi 3 ao]),
  agS hf (q:=λi=>bO m (C.yd.getD (i*25+p*5+1) 0) (C.yd.getD (i*25+p*5+4) 0-1)) (r:=λi=>bO m (D.yd.getD (i*25+p*5+1) 0) (D.yd.getD (i*25+p*5+4) 0-1)) (λi hi=>by simp only[T i hi 1 ao,T i hi 4 ao])]
def j9.tB{C D:CD}{f:Nat->Nat}(h:j9 C D f)(hf:abT C.n5 f)(hc:C.cx=0)(m:Int):ct D.yd m D.n5 D.n4=ct C.yd m C.n5 C.n4:=by
 have b:=(ni hc).2;rw[ct,ct,h.n4];refine ek λp a=>h.kU hf (fc hc) (by have:=List.mem_range.1 a;omega) m
def ajg(a1 a2 a3 a4 a b c d:Int):acj a1 a2 a3 a4 a b c d=acj a b c d a1 a2 a3 a4:=by
 unfold acj;rw[Bool.and_comm,Bool.or_comm]
def abV{L M:List Int}{a b c d:Nat}:∀p,(∀q,q<p->(IU L a b q).2.2.2.1=(IU M c d q).2.2.2.1)->(CO L a b p).length=(CO M c d p).length
 |0,_=>rfl
 |p+1,h=>by
  rw[CO,CO,dq,dq,abV p λq e=>h q ab,h p ab];split<;>rfl
def j9.CO{C D:CD}{f:Nat->Nat}(h:j9 C D f)(hf:abT C.n5 f)(hc:C.cx=0){a b:Nat}(c:a<C.n5)(hb:b<C.n5) :
 (Go.Proofs.CO D.yd a b C.n4).length=(Go.Proofs.CO C.yd (f a) (f b) C.n4).length:=by
 have e:=(ni hc).2;refine abV _ λq i=>?_;have T:=λg hg j d=>h.yd (g:=g) hf (fc hc) hg (show q<5 by omega) (j:=j) d;simp only[IU,T a c _ (show 1<5 by decide),T a c _ (show 2<5 by decide),T a c _ (show 3<5 by decide),T a c _ (show 4<5 by decide),T b hb _ (show 1<5 by decide),T b hb _ (show 2<5 by decide),T b hb _ (show 3<5 by decide),T b hb _ (show 4<5 by decide)]
def ajv(L:List Int)(a b n:Nat):(CO L a b n).length=(CO L b a n).length:=abV _ λ_ _=>ajg ..
def j9.Cv{C D:CD}{f:Nat->Nat}(h:j9 C D f)(hf:abT C.n5 f)(hc:C.cx=0):D.Cv.length=C.Cv.length:=by
 have j:=fc hc;have P:=λa b k hb=>h.CO (a:=a) (b:=b) hf hc k hb;have S:=ajv C.yd;simp only[CD.Cv,alM,acg,h.n4,h.n5];obtain⟨n,l⟩:=br C.n4;obtain⟨g,hg⟩:=br C.n5;rw[<-l]at P ⊢;rw[<-hg]at P j hf ⊢
 match g,j with
 |0,_=>rfl
 |1,_=>rfl
 |2,_=>
  have e:∀L:List Int,(NQ L n 2 2).length=(Go.Proofs.CO L 0 1 n).length:=λL=>by simp[NQ,NK]
  rw[e,e,P 0 1 ab ab];have m:=hf.lt 0 ab;have o:=hf.lt 1 ab;have i:=hf.inj 0 1 ab ab;obtain⟨c,e1⟩|⟨c,e1⟩:(f 0=0/\f 1=1)\/(f 0=1/\f 1=0):=ab
  .rw[c,e1]
  .rw[c,e1,S]
 |3,_=>
  have e:∀L:List Int,(NQ L n 3 3).length=(Go.Proofs.CO L 0 1 n).length+(Go.Proofs.CO L 0 2 n).length+(Go.Proofs.CO L 1 2 n).length:=λL=>by simp[NQ,NK,Nat.add_assoc]
  rw[e,e,P 0 1 ab ab,P 0 2 ab ab,P 1 2 ab ab];have m:=hf.lt 0 ab;have o:=hf.lt 1 ab;have r:=hf.lt 2 ab;have i:=hf.inj 0 1 ab ab;have p:=hf.inj 0 2 ab ab;have q:=hf.inj 1 2 ab ab;have s:=S 1 0 n;have t:=S 2 0 n;have u:=S 2 1 n;obtain⟨c,e1,d⟩|⟨c,e1,d⟩|⟨c,e1,d⟩|⟨c,e1,d⟩|⟨c,e1,d⟩|⟨c,e1,d⟩:(f 0=0/\f 1=1/\f 2=2)\/(f 0=0/\f 1=2/\f 2=1)\/(f 0=1/\f 1=0/\f 2=2)\/(f 0=1/\f 1=2/\f 2=0)\/(f 0=2/\f 1=0/\f 2=1)\/(f 0=2/\f 1=1/\f 2=0):=ab
  all_goals (rw[c,e1,d];try omega)
def j9.mD{C D:CD}{f:Nat->Nat}(h:j9 C D f){g:Nat}(hg:g<C.n5)(n:Nat):cv D g n=cv C (f g) n:=by
 have e:∀k,nT D g k=nT C (f g) k:=λk=>by
  induction k with
  |zero=>simp only[nT,h.x5 g hg]
  |succ k a=>simp only[nT,a,h.x4,Ff,h.n4]
 refine ek λk _=>?_;simp only[Nu,e,h.x4]
def j9.safe{C D:CD}{f:Nat->Nat}(h:j9 C D f)(hf:abT C.n5 f)(hc:C.cx=0):D.abQ=C.abQ:=by
 have e:∀g,g<C.n5->nU D g=nU C (f g):=λg hg=>by rw[nU,nU,h.n4,h.mD hg]
 unfold CD.abQ qP;rw[h.Cv hf hc,h.n5,h.l];congr 1;rw[decide_eq_decide];constructor
 .intro k g hg;obtain⟨j,a,rfl⟩:=hf.sur g hg;rw[<-e j a];exact k j a
 .intro k g hg;rw[e g hg];exact k _ (hf.lt g hg)
def j9.Cl{C D:CD}{f:Nat->Nat}(h:j9 C D f)(hf:abT C.n5 f)(hc:C.cx=0)(m:Int):D.Cl m=C.Cl m:=by
 have a:=(ni hc).2;funext n;simp only[CD.Cl,CD.ClP,h.n4,h.x4];refine propext (exists_congr λi=>and_congr_right λhi=>?_);rw[h.kU hf (fc hc) ab]
def j9.edge{C D:CD}{f:Nat->Nat}(h:j9 C D f)(P:Int->Prop):D.edge P=C.edge P:=by
 funext a b d;simp only[CD.edge,h.n3,h.x3]
def LN.edge{C D:CD}(h:LN C D)(m:Int):D.edge (D.Cl m)=C.edge (C.Cl m):=by
 have e:∀i,i<C.n3->(D.Cl m (i:Nat)↔C.Cl m ((C.n3-1-i:Nat):Int)):=λi hi=>by
  simp only[CD.Cl,CD.ClP,h.n4,h.yd,h.n5];refine exists_congr λq=>and_congr_right λl=>and_congr_right λ_=>?_;rw[(h.x4 q).2.2];constructor
  .rintro⟨j,n,k⟩;rw[h.lane q l j n]at k;exact⟨_,(show(C.x4 q).ln-1-j<_ by omega),ab⟩
  .rintro⟨j,n,k⟩;refine⟨(C.x4 q).ln-1-j,ab,?_⟩;rw[h.lane q l _ ab,show(C.x4 q).ln-1-((C.x4 q).ln-1-j)=j by omega];omega
 funext a b d;refine propext ?_;simp only[CD.edge,h.n3];constructor
 .rintro⟨i,hi,f,c,g⟩;rw[h.x3 i hi]at c g;exact⟨C.n3-1-i,ab,λk=>f ((e i hi).2 k),c,by simp only at g;omega⟩
 .rintro⟨i,hi,f,c,g⟩;refine⟨C.n3-1-i,ab,λk=>f ?_,?_⟩
  .have:=(e (C.n3-1-i) ab).1 k;rwa[show C.n3-1-(C.n3-1-i)=i by omega]at this
  .rw[h.x3 _ ab,show C.n3-1-(C.n3-1-i)=i by omega];exact⟨c,by simp only;omega⟩
def abW{C D:CD}(h:∀s,RG D s=RG C s)(p:Nat):∀q,qC D p q=qC C p q
 |0=>rfl
 |q+1=>by rw[qC,qC,abW h p q,kT,kT,h]
def j9.cov{C D:CD}{f:Nat->Nat}(h:j9 C D f)(s:Nat):RG D s=RG C s:=by
 unfold RG Iq;rw[h.n3,h.x3]
def LN.cov{C D:CD}(h:LN C D)(s:Nat):RG D s=RG C s:=by
 unfold RG Iq;rw[h.n3,Bool.eq_iff_iff];simp only[List.all_eq_true,ej,Bool.or_eq_true];constructor
 .intro k i hi;have:=k (C.n3-1-i) ab;rw[h.x3 _ ab,show C.n3-1-(C.n3-1-i)=i by omega]at this;exact this.symm
 .intro k i hi;rw[h.x3 i hi];exact(k (C.n3-1-i) ab).symm
end Go.Proofs
namespace Go.Proofs
open Go.RowKit
def mb(e m:Nat)(f:Nat->List ac)(W:aa)(base:Nat)(v:ac)(n:Nat):Prop:=W.ownsRow base e m v n (rowOf f n)
def mb.on{e m:Nat}{f:Nat->List ac}{W b:aa}{base:Nat}{v:ac}{n:Nat}(h:mb e m f W base v n)(d:bA W b):mb e m f b base v n:=by
 obtain⟨c,h⟩:=h
 rcases h with h|⟨g,cap,a,e1,hb,hg,i⟩
 .exact⟨c,gE h⟩
 .exact⟨c,gG ⟨g,cap,a,e1,hb,(d.block _ (cm hg)).trans hg,i⟩⟩
def mb.nil(e m:Nat)(f:Nat->List ac)(W:aa)(base:Nat):mb e m f W base (fP none 0 0) 0:=⟨by simp[rowOf],gE ⟨rfl,rfl⟩⟩
def mb.pick{e m:Nat}{f:Nat->List ac}{W:aa}{base:Nat}{v:ac}{n:Nat}(a:∀i,(f i).length=m)(h:mb e m f W base v n){d:Nat}(hd:d<W.heap.size) :
 ∃B c K,v=fP B n c/\K<W.heap.size/\(0<n->B=some ⟨K,0,none⟩/\base<=K/\Typ W K e)/\b7 W K 0 n m f:=by
 obtain⟨_,h⟩:=h
 rcases h with⟨rfl,b⟩|⟨g,cap,j,rfl,hb,hg,hc,hs,l,k⟩
 .exact⟨none,0,d,by rw[b],hd,λh=>ab,λi hi=>ab⟩
 .exact⟨_,_,g,rfl,cm hg,λ_=>⟨rfl,hb,_,hg⟩,(b7.of a hg k).1⟩
def agx(f:Nat->List ac)(n:Nat):rowOf f (n+1)=rowOf f n++f n:=by simp[rowOf,List.range_succ]
open Go.Shelf
attribute [local go_sem] Oper.semAt_some
def aaS{T e:aF}{z:ac}{m bytes:Nat}(c:PL.underlying T=some (.slice e))(d:(PL.info? e).map (λi=>(i.zero,i.size,i.bytes))=some (some z,m,bytes))(g:z.cells.size=m)(l:0<m)(a:bytes<=1000){f:Nat->List ac}(hf:∀i,(f i).length=m)(p:∀i,∀u∈f i,u.oneCell'=true)
 {ops:Array aT} {o:aT} {b:Act} {K:ac->aa->Prop} {W:aa} (q:o.guard=none) (s x:a7)
 (r:o.op=.call { callee:=.builtin .append,args:=#[s,x],argTypes:=#[T,T] }) (base:Nat) (v:ac) (n k:Nat) (hs:b.eval s=v) (t:mb e m f W base v n)
 (y:b.eval x=fP (some ⟨k,0,none⟩) 1 1) (hc:W.heap[k]?=some (gy (f n).toArray e)) (hl:n<=1000) (A:base<=W.heap.size)
 (h:∀v' w',mb e m f w' base v' (n+1)->W.grownBy w' v.ownBlock->K v' w'):fC PL ops K o b W:=by
 obtain⟨B,hi,C,D,E⟩:=aJ d;obtain⟨v',w',F,H,I,_⟩:=a8 (P:=PL) (w:=W) base T o.type e B z m bytes c hi C D E g l v n _ t ⟨k,0,none⟩ 1 1 (f n) (by rw[hf];omega) (abl (off:=0) (λj u e=>by simpa[eM,hc]using e)) (p n) (by simp only[aP];omega) (by have:=Nat.mul_le_mul (show n+1<=1001 by omega) a;omega) A;unfold fC;rw[if_pos (by simp[Region.wanted,q])];unfold execOp;simp only[r,a9,invoke,bi,gg,gj,gl,dU,d8,d9,hs,y,F];refine h v' w' ?_ I;unfold mb;rw[agx];exact H
structure NR(e m:Nat)(f:Nat->List ac)(base n s c:Nat)(b:Bool)(j:Nat)(vs:Nat->ac)(W:aa):Prop where
 cs:j=s->b=false->∃k,vs s=fP (some ⟨k,0,none⟩) 1 1/\W.heap[k]?=some (gy (f n).toArray e)
 cc:j=c->mb e m f W base (vs c) (n+1)
def NR.le{e m:Nat}{f:Nat->List ac}{base n s c:Nat}{b:Bool}{j:Nat}{vs:Nat->ac}{W a:aa}(h:NR e m f base n s c b j vs W)(d:bA W a):NR e m f base n s c b j vs a:=
 ⟨λe k=>(h.cs e k).imp λ_ k=>⟨k.1,(d.block _ (cm k.2)).trans k.2⟩,λe=>(h.cc e).on d⟩
def NR.loc{e m:Nat}{f:Nat->List ac}{base n s c:Nat}{b:Bool}{j:Nat}{vs a:Nat->ac}{W:aa}(d:vs j=a j)(h:NR e m f base n s c b j vs W):NR e m f base n s c b j a W:=
 ⟨λe=>by subst e;rw[<-d];exact h.cs rfl,λe=>by subst e;rw[<-d];exact h.cc rfl⟩
structure CAx(B:Nat)(Wr:aa)(b:Bool)(W:aa):Prop where
 low:Below B Wr W
 all:b=false->bA Wr W
def CAx.start{B:Nat}{a:aa}:CAx B a false a.drew:=⟨(bm _ _).drew,λ_=>(bm _ _).drew⟩
def CAx.on{B:Nat}{a W c:aa}{b:Bool}(d:B<=a.heap.size)(h:CAx B a b W)(k:bA W c):CAx B a b c:=
 ⟨h.low.trans (k.mono (ce d h.low.size)),λe=>cC (h.all e) k⟩
def CAx.app{B:Nat}{a W c:aa}{b:Bool}{v:ac}{e m n:Nat}{f:Nat->List ac}(d:B<=a.heap.size)(h:CAx B a b W)(g:mb e m f W B v n)(k:W.grownBy c v.ownBlock):CAx B a true c:=
 ⟨h.low.trans ((bm B W).grown k (ce d h.low.size) (cZ g)),λe=>(by cases e)⟩
def NR.made{e m:Nat}{f:Nat->List ac}{base n s c:Nat}{b:Bool}{vs:Nat->ac}{W:aa}(a:s≠c):NR e m f base n s c b s (upd vs s (fP (some ⟨W.heap.size,0,none⟩) 1 1)) (W.alloc (gy (f n).toArray e)):=
 ⟨λ_ _=>⟨W.heap.size,by simp[upd],au _ _⟩,λh=>absurd h a⟩
def CD.ajw(C:CD):∀u∈C.ac3,u.oneCell'=true:=by
 intro u a;obtain⟨i,_,h⟩:=List.mem_flatMap.1 a;exact aeP _ u h
def anC(w:aa)(a b c:Obj):(((w.alloc a).alloc b).alloc c).heap[w.heap.size]?=some a/\(((w.alloc a).alloc b).alloc c).heap[w.heap.size+1]?=some b/\(((w.alloc a).alloc b).alloc c).heap[w.heap.size+2]?=some c/\(((w.alloc a).alloc b).alloc c).heap.size=w.heap.size+3/\bA w (((w.alloc a).alloc b).alloc c):=by
 have g:=au w a;have e:=au (w.alloc a) b;have f:=au ((w.alloc a).alloc b) c;rw[eN]at e;rw[eN,eN]at f;have k2:∀k,k<w.heap.size+1->((w.alloc a).alloc b).heap[k]?=(w.alloc a).heap[k]?:=λk d=>((bm (w.alloc a).heap.size _).alloc (bq _) b).block k (by rw[eN];exact d);have k3:∀k,k<w.heap.size+2->(((w.alloc a).alloc b).alloc c).heap[k]?=((w.alloc a).alloc b).heap[k]?:=λk d=>((bm ((w.alloc a).alloc b).heap.size _).alloc (bq _) c).block k (by rw[eN,eN];exact d);exact⟨(k3 _ ab).trans ((k2 _ ab).trans g),(k3 _ ab).trans e,f,ar,(((bm _ _).alloc (bq _) _).alloc ar _).alloc (by simp;omega) _⟩
def CD.anD(C:CD)(j:Nat):Int×Int×Int:=((C.x3 (C.n3-1-j)).2.1,(C.x3 (C.n3-1-j)).1,(C.x3 (C.n3-1-j)).2.2)
def CD.aaY(C:CD)(j:Nat):List ac:=ahm (C.anD j)
def CD.am3(C:CD)(x:iJ)(j:Nat):Int:=C.n3-1-x.lane (x.ln-1-j)
def CD.abX(C:CD)(x:iJ)(j:Nat):List ac:=[fJ gw (C.am3 x j)]
structure KTp(C:CD)(w:aa)(g c:Nat)(v:ac)(f:Nat->iJ)(W:aa):Prop where
 low:bA w W
 ajz:W.heap[w.heap.size]?=some (gy C.val 27)
 res:W.heap[w.heap.size+1]?=some (gy RX 27)
 box:W.heap[w.heap.size+2]?=some (gy #[fJ gw C.l,fJ gw C.p,fP C.b2 C.n2 C.c2,v,fP (some ⟨g,0,none⟩) C.n4 c,fP C.b5 C.n5 C.c5] 27)
 own:w.heap.size+2<g
 row:∃cur,W.heap[g]?=some (gy cur 88)/\C.n4*12<=cur.size/\∀j,j<C.n4->∀q,q<12->cur[j*12+q]?=(F5 (f j))[q]?
section
variable {C:CD}{w:aa}{g c:Nat}{v:ac}{f:Nat->iJ}{W W':aa}
def KTp.to{B:Nat}(h:KTp C w g c v f W)(hg:g<B)(a:Below B W W'):KTp C w g c v f W':=
 have b:=h.own
 ⟨h.low.trans (a.mono ab),(a.block _ ab).trans h.ajz,(a.block _ ab).trans h.res,(a.block _ ab).trans h.box,h.own,h.row.imp λ_ k=>⟨(a.block _ hg).trans k.1,k.2⟩⟩
def KTp.path(h:KTp C w g c v f W)(u:ac):KTp C w g c u f (W.setCell ⟨w.heap.size+2,3,none⟩ u):=
 have a:=h.own
 ⟨h.low.setCell (p:=⟨w.heap.size+2,3,none⟩) (by show w.heap.size<=w.heap.size+2;omega) _,(aZ ab).trans h.ajz,(aZ ab).trans h.res,Fe h.box,h.own,h.row.imp λ_ k=>⟨(aZ ab).trans k.1,k.2⟩⟩
def s7(f:Nat->iJ)(i:Nat)(b:Option aI)(n c:Nat):Nat->iJ:=λj=>if j=i then { f i with lb:=b,ln:=n,lc:=c } else f j
def KTp.lane(h:KTp C w g c v f W){i:Nat}(hi:i<C.n4)(b:Option aI)(n d:Nat):KTp C w g c v (s7 f i b n d) (W.setCell ⟨g,i*12+11,none⟩ (fP b n d)):=by
 have t:=h.own;obtain⟨a,e,hs,k⟩:=h.row;refine⟨h.low.setCell (p:=⟨g,_,none⟩) (by show w.heap.size<=g;omega) _,(aZ ab).trans h.ajz,(aZ ab).trans h.res,(aZ ab).trans h.box,h.own,_,Fe e,by simpa using hs,λj l q m=>?_⟩;have k:=k j l q m;simp only[Array.getElem?_setIfInBounds];by_cases o:j=i/\q=11
 .obtain⟨rfl,rfl⟩:=o;have r:j*12+11<a.size:=ab;simp[r,s7,F5]
 .rw[if_neg ab,k];unfold s7;split
  .rename_i e;subst e;by_cases s:q=0
   .subst s;rfl
   .rw[R9 _ ab ab,R9 _ ab ab]
  .rfl
def KTp.congr{f':Nat->iJ}(h:KTp C w g c v f W)(e:∀j,F5 (f' j)=F5 (f j)):KTp C w g c v f' W:=
 ⟨h.low,h.ajz,h.res,h.box,h.own,h.row.imp λ_ k=>⟨k.1,k.2.1,λj a q b=>by rw[e];exact k.2.2 j a q b⟩⟩
def KTp.cell(h:KTp C w g c v f W){i:Nat}(hi:i<C.n4):W.cell? ⟨g,i*12+11,none⟩=some (fP (f i).lb (f i).ln (f i).lc):=by
 obtain⟨a,e,hs,b⟩:=h.row;have:=b i hi 11 ao;simp only[eM,e];rw[this];rfl
end
structure abx(C:CD)(x y:iJ)(W:aa):Prop where
 name:y.name=x.name
 n:y.n=x.n
 ln:y.ln=x.ln
 lane:y.lane=C.am3 x
 at_:0<x.ln->y.lb=some ⟨y.lk,y.lo,none⟩/\y.lk<W.heap.size/\Typ W y.lk 3
 row:b7 W y.lk y.lo x.ln 1 (abm y)
def abx.to{C:CD}{x y:iJ}{W W':aa}(h:abx C x y W)(hs:W.heap.size<=W'.heap.size)(hb:0<x.ln->W'.heap[y.lk]?=W.heap[y.lk]?):abx C x y W':=
 ⟨h.name,h.n,h.ln,h.lane,λhl=>by
   obtain⟨a,c,b,d⟩:=h.at_ hl;exact⟨a,b8 c hs,b,(hb hl).trans d⟩,λi hi q e=>by
   have:=h.row i hi q e;rw[<-this]
   simp only[eM,hb ab]⟩
structure aby(C:CD)(pb:Option aI)(pk:Nat)(W:aa):Prop where
 lt:pk<W.heap.size
 at_:0<C.n3->pb=some ⟨pk,0,none⟩/\Typ W pk 94
 row:b7 W pk 0 C.n3 3 C.aaY
def aby.to{C:CD}{j:Option aI}{b:Nat}{W W':aa}(h:aby C j b W)(hs:W.heap.size<=W'.heap.size)(hb:0<C.n3->W'.heap[b]?=W.heap[b]?):aby C j b W':=
 ⟨b8 h.lt hs,λhl=>by
   obtain⟨a,e,d⟩:=h.at_ hl;exact⟨a,e,(hb hl).trans d⟩,λi hi q k=>by
   rw[<-h.row i hi q k]
   simp only[eM,hb ab]⟩
def ad8(f:Nat->iJ)(i:Nat)(b b':Option aI)(n n' c c':Nat):s7 (s7 f i b n c) i b' n' c'=s7 f i b' n' c':=by
 funext j;unfold s7;split
 .rw[if_pos rfl]
 .rfl
def CD.afN(C:CD)(a:Option aI)(b pc g c:Nat)(f:Nat->iJ):CD:=
 { C with b3:=a,k3:=b,o3:=0,c3:=pc,x3:=C.anD,b4:=some ⟨g,0,none⟩,k4:=g,o4:=0,c4:=c,x4:=f }
def am4{C:CD}(hc:C.cx=0){i:Nat}(hi:i<C.n4){j:Nat}(b:j<(C.x4 i).ln):0<=(C.x4 i).lane j/\(C.x4 i).lane j<=C.n3-1:=by
 have a:=ck hc 3 ao;simp only[CD.dP,kA]at a;split at a
 .have d:=ck a i hi;have e:ia (C.x4 i).ln (fy C.n3 (C.x4 i).lane)=0:=by
   unfold gM at d;grind
  exact((X0 _ _ _).1 (ck e j b)).1
 .cases a
def ajW(C:CD){a:Option aI}{b pc g c:Nat}{f:Nat->iJ}{W:aa}(h:∀i,i<C.n4->abx C (C.x4 i) (f i) W)(d:∀i,C.n4<=i->f i=C.x4 i):LN C (C.afN a b pc g c f):=
 ⟨rfl,rfl,rfl,rfl,rfl,λ_ _=>rfl,rfl,λi=>by
   show(f i).name=_/\(f i).n=_/\(f i).ln=_;by_cases e:i<C.n4
   .exact⟨(h i e).name,(h i e).n,(h i e).ln⟩
   .rw[d i ab];exact⟨rfl,rfl,rfl⟩,λi hi j k=>by show(f i).lane j=_;rw[(h i hi).lane];rfl,rfl,rfl⟩
def akj{C:CD}{w:aa}{g c:Nat}{n:Option aI}{k pc:Nat}{f:Nat->iJ}{W h:aa}(hA:C.At w)(K:KTp C w g c (fP n C.n3 pc) f W)(P:aby C n k W)
 (hl:∀i,i<C.n4->abx C (C.x4 i) (f i) W) (s:bA w h) (hs:W.heap.size<=h.heap.size) (hb:∀b,b≠w.heap.size+1->h.heap[b]?=W.heap[b]?):(C.afN n k pc g c f).At h:=by
 have R:=(hA.below s).rows;have u:=hA.rows;obtain⟨x,hg,hcs,o⟩:=K.row;have B:=K.own;have p:Typ W (w.heap.size+1) 27:=⟨_,K.res⟩
 refine sx.at_ ⟨R.m2,R.m3,R.m4,R.m5,R.h2,b8 P.lt hs,b8 (cm hg) hs,R.h5,R.s2,λy=>(P.at_ y).1,λ_=>rfl,R.s5,R.r2,?_,?_,R.r5,λi hi=>?_,R.nm5,λi hi z=>?_,λi hi=>?_⟩
 .intro i hi q l;have d:i<C.n3:=hi;show h.cell? ⟨k,0+i*3+q,none⟩=(C.aaY i)[q]?;rw[<-show W.cell? ⟨k,0+i*3+q,none⟩=(C.aaY i)[q]? from P.row i d q l];simp only[eM,hb k (λe=>(P.at_ ab).2.ne p ao e)]
 .intro i hi q l;show h.cell? ⟨g,0+i*12+q,none⟩=(F5 (f i))[q]?;rw[<-o i hi q l];simp[eM,hb g ab,hg]
 .show(f i).name.size<=100/\(f i).ln<=20;have d:i<C.n4:=hi;rw[(hl i d).name,(hl i d).ln];exact u.cu i d
 .have d:i<C.n4:=hi;have m:0<(f i).ln:=z;rw[(hl i d).ln]at m;obtain⟨a,b,_⟩:=(hl i d).at_ m;exact⟨a,b8 b hs⟩
 .have d:i<C.n4:=hi;intro j A q l;have r:j<(f i).ln:=A;rw[(hl i d).ln]at r;show h.cell? ⟨(f i).lk,(f i).lo+j*1+q,none⟩=(abm (f i) j)[q]?;rw[<-(hl i d).row j r q l];obtain⟨_,_,t⟩:=(hl i d).at_ ab;simp only[eM,hb _ (t.ne p ao)]
def CD.afO(C:CD)(i:Nat):(C.aaY i).length=3:=rfl
def CD.akk(C:CD)(i:Nat):∀u∈C.aaY i,u.oneCell'=true:=λu a=>by
 simp only[CD.aaY,ahm,dk,dp,or_false]at a
 rcases a with rfl|rfl|rfl<;>rfl
def CD.akn(C:CD)(x:iJ)(i:Nat):∀u∈C.abX x i,u.oneCell'=true:=λu a=>by
 simp only[CD.abX,List.mem_singleton]at a;subst a;rfl
def apR(t:Nat):Bool:=t != 21&&t != 22
def apS(t:Nat):Bool:=t != 16&&t != 17
def abY{e m:Nat}{f:Nat->List ac}{W:aa}{B:Nat}{v u:ac}{n K o:Nat}(h:mb e m f W B v n)(i:K<B):mb e m f (W.setCell ⟨K,o,none⟩ u) B v n:=by
 obtain⟨b,h⟩:=h
 rcases h with h|⟨g,cap,a,e1,hb,hg,d⟩
 .exact⟨b,gE h⟩
 .exact⟨b,gG ⟨g,cap,a,e1,hb,(aZ ab).trans hg,d⟩⟩
def agy(C:CD)(hc:C.cx=0)(w:aa)(h:C.At w) :
 ad PL 10 #[fA C.val] w λe w'=>∃D:CD,e=gt (fA D.val)/\LN C D/\D.At w'/\bA w w':=by
 have m3:C.n3<=20:=h.m3;have m4:=h.m4;have h2:=(ni hc).1;have HA:=bj h;have HC:=bj hc;have WB:KB C w (w.alloc (gy C.val 27)):=⟨au _ _,(bm _ _).alloc (bq _) _⟩
 have HB:=bj WB;have S4:=bj (h.s4 ab);have r4:Hid (∀W,bA w W->∀j u,C.ac3[j]?=some u->W.cell? ⟨C.k4,C.o4+j,none⟩=some u):=bj λW hB=>(h.below hB).ac3;clear h hc WB;go_enter (fx ao Tryz.func10),Tryz.ntmps10;obtain⟨f0,f1,f2,f3,f4,f5⟩:=bf HB.out.box
 go_upto_region 3 with fail
 obtain⟨I,hW3⟩:=br (((w.alloc (gy C.val 27)).alloc (gy RX 27)).alloc (gy C.val 27));have A3:=bj (anC w (gy C.val 27) (gy RX 27) (gy C.val 27));rw[<-hW3]at A3;rw[<-hW3];have s4:=S4.out;clear hW3 f0 f1 f2 f3 f4 f5;obtain⟨f0,f1,f2,f3,f4,f5⟩:=bf A3.out.1;rw[s4]at f4;have A3':Hid (I.heap[w.heap.size+1+1]?=some (gy C.val 27)):=bj A3.out.2.2.1;have hz:w.heap.size+1+1<I.heap.size:=by rw[A3.out.2.2.2.1];omega
 have dx:w.heap.size+1<I.heap.size:=ab;have mF:w.heap.size<I.heap.size:=ab;have hB4:bA I (I.alloc (gy #[] 88)):=(bm _ _).alloc (bq _) _;have R4:=r4.out _ (A3.out.2.2.2.2.trans (hB4.mono A3.out.2.2.2.2.size));have hn4:C.n4<=1000:=ab;have R4:=bj R4;have HB4:=bj hB4;clear hB4
 go_upto_region 4 with(at_builtin;refine ga (T:=24) (e:=88) VL VM rfl ao ao rfl _ _ rfl I.heap.size I.heap.size rfl (au I (gy #[] 88)) (bq _) C.k4 C.o4 C.n4 C.c4 C.ac3 rfl C.abK R4.out C.ajw hn4 ?_;intro v1 w4 fO hv hb4;have hb:=HB4.out.trans hb4;have B4:Hid (w4.heap[w.heap.size+1+1]?=some (gy C.val 27)):=bj ((hb.block _ hz).trans A3'.out);have fz:=tO B4.out;have hz4:=cm B4.out;have wC:=bj hb;obtain⟨g,c,cur,rfl,hog,hg,SF⟩:=Fc.form (w:=I) ⟨fO,hv⟩;have HG:=bj (fi hog (fi hg SF));clear fO hv hog hg SF hb4 hb f0 f1 f2 f3 f4 f5;obtain⟨g0,g1,g2,g3,g4,g5⟩:=bf B4.out)
 have hK0:KTp C w g c (fP none 0 0) C.x4 ((w4.setCell ⟨w.heap.size+1+1,3,none⟩ (fP none 0 0)).setCell ⟨w.heap.size+1+1,4,none⟩ (fP (some ⟨g,0,none⟩) C.n4 c)):=by
  obtain⟨hog,hg,SF⟩:=HG.out;have hs:=A3.out.2.2.2.1;have hlen:=C.abK;rw[<-SF]at hlen;have h12:C.n4*12<=cur.size:=by simp at hlen;omega
  have hw:w.heap.size<=w.heap.size+1+1:=ab;refine⟨((A3.out.2.2.2.2.trans (wC.out.mono A3.out.2.2.2.2.size)).setCell (p:=⟨_,3,none⟩) hw _).setCell (p:=⟨_,4,none⟩) hw _,?_,?_,Fe (Fe B4.out),ab,cur,?_,h12,λj A q M=>?_⟩
  .exact(aZ ab).trans ((aZ ab).trans ((wC.out.block _ ab).trans A3.out.1))
  .exact(aZ ab).trans ((aZ ab).trans ((wC.out.block _ ab).trans A3.out.2.1))
  .exact(aZ ab).trans ((aZ ab).trans hg)
  .rw[<-C.alE A M,<-SF,df ab];simp
 have K0:=bj hK0;clear hK0 HB4 R4 hz mF dx hz4 fz A3' B4 wC HG g0 g1 g2 g3 g4 g5 A3 HB r4 S4 s4;obtain⟨W5,hW5⟩:=br ((w4.setCell ⟨w.heap.size+1+1,3,none⟩ (fP none 0 0)).setCell ⟨w.heap.size+1+1,4,none⟩ (fP (some ⟨g,0,none⟩) C.n4 c));rw[<-hW5]at K0 ⊢;clear hW5;obtain⟨B,hB⟩:=br W5.heap.size;have HGB:Hid (g<B):=bj (by rw[hB];obtain⟨_,e,_⟩:=K0.out.row;exact cm e);have KB0:Hid (B<=W5.heap.size):=bj ab;clear hB;have W1:IntKind.i64.wrap ((C.n3:Int)-1)=C.n3-1:=gf _ ab;go_wp2;clear W1
 go_loopw [5] (λv5 wr=>∃(k:Nat)(v:ac),k<=C.n3/\v5=fJ gw (C.n3-1-k)/\KTp C w g c v C.x4 wr/\mb 94 3 C.aaY wr B v k/\B<=wr.heap.size) (λv5 _=>(intOf v5+1).toNat)
 case atStart=>exact⟨0,_,bv _,by go_num,K0.out,mb.nil _ _ _ _ _,KB0.out⟩
 case round=>
  obtain⟨k,v,hk,rfl,hK,hO,Za⟩:=hrel;have K1:=bj hK;have O1:=bj hO;have J:=bj Za;obtain⟨E,U,hv⟩:=vB hO;clear hK hO Za K0 KB0;subst hv;by_cases aH:k<C.n3
  .obtain⟨q,M⟩:∃q:Nat,C.n3-1-k=q:=⟨_,rfl⟩
   have e5:(C.n3:Int)-1-k=(q:Int):=ab;have K:q<C.n3:=ab;have Gy:(q:Int)<C.n3:=ab;rw[e5];have S3:=bj (HA.out.s3 ab);have EQ:=bj M;have FP:Hid ((C.aaY k).toArray=#[fJ gw (C.x3 q).2.1,fJ gw (C.x3 q).1,fJ gw (C.x3 q).2.2]):=bj (by simp only[CD.aaY,CD.anD,ahm,M]);clear M
   go_upto_region 7 with fail
   refine iL 23 22 (CAx B wr) (λW W'=>bA W W') apR (NR 94 3 C.aaY B k 21 22) (λ_ _ _ _=>True) (λ_ _ _ _ _=>trivial) rfl ae ae rfl
    (λb i vs W W' N h=>h.le N) (λi o ho vs eX W he aaZ b h=>h.loc he) CAx.start ?_
   iterate 21 (
    apply iK
    case hE=>rfl
    case h=>
     intro vs W O a hd;have KK:=K1.out.to HGB.out a.low;have hA:=HA.out.below KK.low;obtain⟨f0,f1,f2,f3,f4,f5⟩:=bf KK.ajz;rw[S3.out]at f3;obtain⟨V,X,Y,Z,p4,p5⟩:=bf KK.box;have c0:=hA.Es q K;have c1:=hA.Et q K;have c2:=hA.Eu q K;clear KK hA;go_simp
     first
      |exact⟨rfl,a,bm _ _⟩
      |exact⟨rfl,bm _ _⟩
      |trace_state
    case hb=>exact KD)
   apply ey
   case hE=>rfl
   case hb=>exact KD
   case h=>
    intro vs W D O iC a jw hi _ hd hP;have aL:=(bm W.heap.size W).alloc (bq _) (gy (C.aaY k).toArray 94);have P:=bj (a.on J.out aL);have Q:=bj (NR.made (e:=94) (m:=3) (f:=C.aaY) (base:=B) (n:=k) (s:=21) (c:=22) (b:=O) (vs:=vs) (W:=W) ao);have R:Hid (∀j∈D,apR j=false->NR 94 3 C.aaY B k 21 22 O j vs (W.alloc (gy (C.aaY k).toArray 94))):=bj λj A hE=>(hd j A hE).le aL;rw[FP.out]at P Q R;clear a hd aL;go_simp;exact⟨P.out,R.out,Q.out⟩
   apply ey
   case hE=>rfl
   case hb=>exact KD
   case h=>
    intro vs W D O iC a jw hi _ hd hP;have hf:=iC rfl;have m21:21∈D:=jw ⟨21,gL⟩ (cH.2 ⟨ar,rfl⟩);obtain⟨kq,hkq,hkc⟩:=(hd 21 m21 rfl).cs rfl hf;have fO:=O1.out.on (a.all hf);refine aaS VJ VK rfl ao ao C.afO C.akk rfl _ _ rfl B (fP E k U) k kq rfl fO hkq hkc ab (ce J.out a.low.size) λv' w' e1 e2=>?_;exact⟨by simpa using a.app J.out fO e2,λj A hE=>⟨λ_ e=>(by simp at e),λe=>absurd A (by rw[e];exact hi)⟩,⟨bp,λ_=>(by simpa[upd]using e1)⟩,λ_ _ _=>trivial⟩
   refine nv λvs W O _ a hd _=>?_;have r:=(hd 22 ab rfl).cc rfl;obtain⟨b',d',e22⟩:=vB r;rw[e22]at r ⊢;have O2:=bj r;have t:=bj (K1.out.to HGB.out a.low);have Tp:Hid (B<=W.heap.size):=bj (ce J.out a.low.size);clear a hd r e22;obtain⟨V,X,Y,Z,p4,p5⟩:=bf t.out.box;have fz:=tO t.out.box
   go_upto_region 6 with fail
   have K3:=bj (t.out.path (fP b' (k+1) d'));have O3:Hid (mb 94 3 C.aaY (W.setCell ⟨w.heap.size+2,3,none⟩ (fP b' (k+1) d')) B (fP b' (k+1) d') (k+1)):=bj (abY O2.out (by have:=HGB.out;have:=t.out.own;omega));have HS3:Hid (B<=(W.setCell ⟨w.heap.size+2,3,none⟩ (fP b' (k+1) d')).heap.size):=bj (by rw[eS];exact Tp.out);clear V X Y Z p4 p5 fz t O2 Tp;go_wp2;exact⟨⟨k+1,_,aH,by go_num,K3.out,O3.out,HS3.out⟩,by simp only[intOf];omega⟩
  .obtain rfl:k=C.n3:=ab;have e5:(C.n3:Int)-1-C.n3 = -1:=ab;rw[e5];obtain⟨pb',pd',pk,hpe,Wf,hpt,hpr⟩:=O1.out.pick (m:=3) C.afO (d:=g) (by have:=HGB.out;have:=J.out;omega);cases hpe;have P1:Hid (aby C E pk wr):=bj ⟨Wf,λF=>⟨(hpt F).1,(hpt F).2.2⟩,hpr⟩;clear Wf hpt hpr O1 J;go_wp2
   go_loopw [6] (λv6 wr=>∃(i:Nat)(f:Nat->iJ),i<=C.n4/\v6=fJ gw i/\KTp C w g c (fP E C.n3 U) f wr/\aby C E pk wr/\(∀j,j<i->abx C (C.x4 j) (f j) wr)/\(∀j,i<=j->f j=C.x4 j)) (λv6 _=>C.n4-(intOf v6).toNat)
   case atStart=>exact⟨0,_,bv _,rfl,K1.out,P1.out,λj A=>absurd A (ci _),λ_ _=>rfl⟩
   case round=>
    obtain⟨i,f,hi,rfl,hK,hP,hL,hF⟩:=hrel;have t:=bj hK;have P2:=bj hP;have L2:=bj hL;have F2:=bj hF;clear hK hP hL hF K1 P1;by_cases Nh:i<C.n4
    .have i1:(i:Int)<C.n4:=ab;obtain⟨x,hx⟩:=br (C.x4 i);have hfi:f i=x:=by rw[hx];exact F2.out i (bq _)
     have XE:=bj hx;have FI:=bj hfi;clear hx hfi;have FL:Hid (wr.cell? ⟨g,i*12+11,none⟩=some (fP x.lb x.ln x.lc)):=bj (by have:=t.out.cell Nh;rwa[FI.out]at this);have hxl:x.ln<=20:=by rw[XE.out];exact(HA.out.cu i Nh).2
     obtain⟨V,X,Y,Z,p4,p5⟩:=bf t.out.box;have fl:=FL.out;have fz:∀o,wr.frozen? ⟨g,o,none⟩=false:=t.out.row.elim λ_ k=>tO k.1
     go_upto_region 13 with fail
     obtain⟨W6,S⟩:=br (wr.setCell ⟨g,i*12+11,none⟩ (fP none 0 0));have T4:Typ wr g 88:=t.out.row.imp λ_ k=>k.1;have K6:Hid (KTp C w g c (fP E C.n3 U) (s7 f i none 0 0) W6):=bj (by rw[S];exact t.out.lane Nh none 0 0);have P6:Hid (aby C E pk W6):=bj (by rw[S];exact P2.out.to (by rw[eS];exact bq _) λF=>aZ ((P2.out.at_ F).2.ne T4 ao).symm);have L6:Hid (∀j,j<i->abx C (C.x4 j) (f j) W6):=bj λj A=>by rw[S];exact(L2.out j A).to (by rw[eS];exact bq _) λF=>aZ (((L2.out j A).at_ F).2.2.ne T4 ao).symm
     rw[<-S];clear S T4 t P2 L2 FL fl fz V X Y Z p4 p5;obtain⟨H,qA⟩:=br W6.heap.size;have am7:Hid (g<H):=bj (by rw[qA];obtain⟨_,e,_⟩:=K6.out.row;exact cm e);have L:=bj qA;clear qA;obtain⟨V,X,Y,Z,p4,p5⟩:=bf K6.out.box;have W1:IntKind.i64.wrap ((x.ln:Int)-1)=x.ln-1:=gf _ ab;go_wp2;clear W1
     go_loopw [8] (λv8 wr=>∃(k:Nat)(b2:Option aI)(d2:Nat),k<=x.ln/\v8=fJ gw (x.ln-1-k)/\KTp C w g c (fP E C.n3 U) (s7 f i b2 k d2) wr/\mb 3 1 (C.abX x) wr H (fP b2 k d2) k/\(∀q,q<H->q≠g->wr.heap[q]?=W6.heap[q]?)/\H<=wr.heap.size) (λv8 _=>(intOf v8+1).toNat)
     case atStart=>exact⟨0,none,0,bv _,by go_num,K6.out,mb.nil _ _ _ _ _,λ_ _ _=>rfl,by rw[L.out];exact bq _⟩
     case round=>
      obtain⟨k,b2,d2,hk,rfl,hK,hO,M,Za⟩:=hrel;have K7:=bj hK;have O7:=bj hO;have Q7:=bj M;have z:=bj Za;clear hK hO M Za V X Y Z p4 p5;by_cases au4:k<x.ln
      .obtain⟨q,M⟩:∃q:Nat,x.ln-1-k=q:=⟨_,rfl⟩
       have e6:(x.ln:Int)-1-k=(q:Int):=ab;have K:q<x.ln:=ab;have Gy:(q:Int)<x.ln:=ab;rw[e6];obtain⟨y,hy⟩:=br (x.lane q);have zE:0<=y/\y<=C.n3-1:=by rw[hy,XE.out];exact am4 HC.out Nh (by rw[<-XE.out];exact K)
       have LB:Hid (x.lb=some ⟨x.lk,x.lo,none⟩):=bj (by rw[XE.out];exact(HA.out.l4 i Nh (by rw[<-XE.out];omega)).1);have LC:Hid (∀W,bA w W->W.cell? ⟨x.lk,x.lo+q,none⟩=some (fJ gw y)):=bj λW hB=>by rw[hy,XE.out];exact(HA.out.below hB).J5 i Nh q (by rw[<-XE.out];exact K)
       have FPL:Hid ((C.abX x k).toArray=#[fJ gw (C.n3-1-y)]):=bj (by simp only[CD.abX,CD.am3,M,hy]);have W1:IntKind.i64.wrap ((C.n3:Int)-1)=C.n3-1:=gf _ ab;have W2:IntKind.i64.wrap ((C.n3:Int)-1-y)=C.n3-1-y:=gf _ ab;have WW:=bj (fi W1 W2);clear hy M zE W1 W2;rw[LB.out]
       go_upto_region 16 with fail
       refine iL 18 17 (CAx H wr) (λW W'=>bA W W') apS (NR 3 1 (C.abX x) H k 16 17) (λ_ _ _ _=>True) (λ_ _ _ _ _=>trivial) rfl ae ae rfl
        (λb i vs W W' N h=>h.le N) (λi o ho vs eX W he aaZ b h=>h.loc he) CAx.start ?_
       iterate 16 (
        apply iK
        case hE=>rfl
        case h=>
         intro vs W O a hd;have KK:=K7.out.to am7.out a.low;obtain⟨V,X,Y,Z,p4,p5⟩:=bf KK.box;have fl:W.cell? ⟨g,i*12+11,none⟩=some (fP b2 k d2):=by have:=KK.cell Nh;simpa[s7]using this
         have lc:=LC.out W KK.low;obtain⟨w1,w2⟩:=WW.out;clear KK;go_simp
         first
          |exact⟨rfl,a,bm _ _⟩
          |exact⟨rfl,bm _ _⟩
          |trace_state
        case hb=>exact KD)
       apply ey
       case hE=>rfl
       case hb=>exact KD
       case h=>
        intro vs W D O iC a jw hi _ hd hP;have aL:=(bm W.heap.size W).alloc (bq _) (gy (C.abX x k).toArray 3);have P:=bj (a.on z.out aL);have Q:=bj (NR.made (e:=3) (m:=1) (f:=C.abX x) (base:=H) (n:=k) (s:=16) (c:=17) (b:=O) (vs:=vs) (W:=W) ao);have R:Hid (∀j∈D,apS j=false->NR 3 1 (C.abX x) H k 16 17 O j vs (W.alloc (gy (C.abX x k).toArray 3))):=bj λj A hE=>(hd j A hE).le aL;rw[FPL.out]at P Q R;clear a hd aL;go_simp;exact⟨P.out,R.out,Q.out⟩
       apply ey
       case hE=>rfl
       case hb=>exact KD
       case h=>
        intro vs W D O iC a jw hi _ hd hP;have hf:=iC rfl;have m16:16∈D:=jw ⟨16,gL⟩ (cH.2 ⟨ar,rfl⟩);obtain⟨kq,hkq,hkc⟩:=(hd 16 m16 rfl).cs rfl hf;have fO:=O7.out.on (a.all hf);refine aaS VF VG rfl ao ao (λ_=>rfl) (C.akn x) rfl _ _ rfl H (fP b2 k d2) k kq rfl fO hkq hkc ab (ce z.out a.low.size) λv' w' e1 e2=>?_;exact⟨by simpa using a.app z.out fO e2,λj A hE=>⟨λ_ e=>(by simp at e),λe=>absurd A (by rw[e];exact hi)⟩,⟨bp,λ_=>(by simpa[upd]using e1)⟩,λ_ _ _=>trivial⟩
       refine nv λvs W O _ a hd _=>?_;have r:=(hd 17 ab rfl).cc rfl;obtain⟨b3,d3,e17⟩:=vB r;rw[e17]at r ⊢;have O8:=bj r;have K8:=bj (K7.out.to am7.out a.low);have HS8:Hid (H<=W.heap.size):=bj (ce z.out a.low.size);have Q8:Hid (∀q,q<H->q≠g->W.heap[q]?=W6.heap[q]?):=bj λq h1 h2=>(a.low.block q h1).trans (Q7.out q h1 h2);clear a hd r e17;obtain⟨V,X,Y,Z,p4,p5⟩:=bf K8.out.box;have fl:W.cell? ⟨g,i*12+11,none⟩=some (fP b2 k d2):=by have:=K8.out.cell Nh;simpa[s7]using this
       have fz:∀o,W.frozen? ⟨g,o,none⟩=false:=K8.out.row.elim λ_ k=>tO k.1
       go_upto_region 15 with fail
       have K9:Hid (KTp C w g c (fP E C.n3 U) (s7 f i b3 (k+1) d3) (W.setCell ⟨g,i*12+11,none⟩ (fP b3 (k+1) d3))):=bj (by have:=K8.out.lane Nh b3 (k+1) d3;rwa[ad8]at this);have O9:Hid (mb 3 1 (C.abX x) (W.setCell ⟨g,i*12+11,none⟩ (fP b3 (k+1) d3)) H (fP b3 (k+1) d3) (k+1)):=bj (abY O8.out am7.out);have HS9:Hid (H<=(W.setCell ⟨g,i*12+11,none⟩ (fP b3 (k+1) d3)).heap.size):=bj (by rw[eS];exact HS8.out);have Q9:Hid (∀q,q<H->q≠g->(W.setCell ⟨g,i*12+11,none⟩ (fP b3 (k+1) d3)).heap[q]?=W6.heap[q]?):=bj λq h1 h2=>(aZ (Ne.symm h2)).trans (Q8.out q h1 h2);clear V X Y Z p4 p5 fz fl K8 O8 HS8 Q8;go_wp2;exact⟨⟨k+1,b3,d3,au4,by go_num,K9.out,O9.out,Q9.out,HS9.out⟩,by simp only[intOf];omega⟩
      .obtain rfl:k=x.ln:=ab;have e6:(x.ln:Int)-1-x.ln = -1:=ab;rw[e6];obtain⟨lb,lc,lk,N,hll,anE,hlr⟩:=O7.out.pick (m:=1) (λ_=>rfl) (d:=g) (by have:=am7.out;have:=z.out;omega);cases N;obtain⟨f',hf'⟩:∃f':Nat->iJ,f'=λj=>if j=i then { x with lb:=b2,ln:=x.ln,lc:=d2,lk:=lk,lo:=0,lane:=C.am3 x } else f j:=⟨_,rfl⟩
       have K8:Hid (KTp C w g c (fP E C.n3 U) f' wr):=bj (K7.out.congr λj=>by
        subst hf';by_cases e:j=i
        .simp only[s7,e,if_true,FI.out];rfl
        .simp only[s7,e,if_false])
       have P8:Hid (aby C E pk wr):=bj (P6.out.to (by have:=z.out;rw[L.out]at this;exact this) λF=>Q7.out pk (by rw[L.out];exact P6.out.lt) ((P6.out.at_ F).2.ne (K6.out.row.imp λ_ k=>k.1) ao));have L8:Hid (∀j,j<i+1->abx C (C.x4 j) (f' j) wr):=bj λj A=>by
        subst hf';by_cases e:j=i
        .simp only[e,if_true];rw[<-XE.out];exact⟨rfl,rfl,rfl,rfl,λF=>⟨(anE F).1,hll,(anE F).2.2⟩,hlr⟩
        .simp only[e,if_false];have zK:j<i:=ab;exact(L6.out j zK).to (by have:=z.out;rw[L.out]at this;exact this) λF=>Q7.out _ (by rw[L.out];exact((L6.out j zK).at_ F).2.1) (((L6.out j zK).at_ F).2.2.ne (K6.out.row.imp λ_ k=>k.1) ao)
       have F8:Hid (∀j,i+1<=j->f' j=C.x4 j):=bj λj A=>by have e:j≠i:=ab;subst hf';simp only[e,if_false];exact F2.out j ab
       clear hf' hll anE hlr K7 O7 Q7 z K6 P6 L6 L;go_wp2;exact⟨⟨i+1,f',Nh,by go_num,K8.out,P8.out,L8.out,F8.out⟩,by simp only[intOf];omega⟩
    .have e7:i=C.n4:=ab;subst e7;obtain⟨V,X,Y,Z,p4,p5⟩:=bf t.out.box;have BG:=t.out.res;obtain⟨y0,y1,y2,y3,y4,y5⟩:=bf BG;have fz:=tO BG;have hzr:=cm BG;clear BG;go_wp2;have BG:=t.out.res;have hWF:=nC (u0:=fJ gw C.l) (u1:=fJ gw C.p) (u2:=fP C.b2 C.n2 C.c2) (u3:=fP E C.n3 U) (u4:=fP (some ⟨g,0,none⟩) C.n4 c) (u5:=fP C.b5 C.n5 C.c5) BG;have qv:=cQ t.out.low (k:=w.heap.size+1) ab (fJ gw C.l) (fJ gw C.p) (fP C.b2 C.n2 C.c2) (fP E C.n3 U) (fP (some ⟨g,0,none⟩) C.n4 c) (fP C.b5 C.n5 C.c5);refine ag (v:=fA (C.afN E pk U g c f).val) ?_ rfl ⟨C.afN E pk U g c f,rfl,ajW C L2.out F2.out,akj HA.out t.out P2.out L2.out qv (by simp only[eS];exact bq _) (λb hb=>cM hb),qv⟩;obtain⟨a0,a1,a2,a3,a4,a5⟩:=bf hWF;simp[ai,Tryz.results10,go_sem,a0,a1,a2,a3,a4,a5,CD.afN]
end Go.Proofs
namespace Go.Proofs
open Go.RowKit
def ako(C:CD)(s m:Int)(w:aa)(h:C.At w)(hc:C.cx=0)(hs:0<=s/\s<C.p)(i:bO m 0 999=true) :
 ad PL 9 #[fA C.val,fJ gw s,fJ gw m] w λe w'=>∃(b:Option aI)(c:Nat)(l:List Int)(L:Int)(f:Bool),e=gt (fB #[fP b l.length c,fJ gw L,fY f,fJ gw 0])/\bB w' (fP b l.length c) l/\bA w w'/\(f=true/\abd (C.edge (C.Cl m)) s 0 (some (l,L))\/f=false/\abd (C.edge (C.Cl m)) s 0 none/\l=[]/\L=0):=by
 refine(abS C s m w h hc hs i).mono ?_;rintro e w'⟨r,a,d,g⟩
 cases r with
 |none=>
  subst d;exact⟨none,0,[],0,false,rfl,⟨none,0,rfl,λh=>absurd h (ci _)⟩,g,gG ⟨rfl,a,rfl,rfl⟩⟩
 |some x=>
  obtain⟨b,c,rfl,j⟩:=d;exact⟨b,c,x.1,x.2,true,rfl,j,g,gE ⟨rfl,a⟩⟩
end Go.Proofs
namespace Go.Proofs
def Wlk.cut{E:Int->Int->Int->Prop}(hE:∀a b d,E a b d->0<d){s:Int}{l:List Int}{a n:Int}(h:Wlk E s l a n):∀{i j},i<j->j<l.length->l.getD i 0=l.getD j 0->∃l' n',Wlk E s l' a n'/\n'<n:=by
 induction h with
 |start=>intro i j q g _;simp at g;omega
 |@step l a n b d m r x=>
  intro i j q g c;have hd:=hE _ _ _ r;have o:∀k,k<l.length->(l++[b]).getD k 0=l.getD k 0:=λk y=>by simp only[dL];rw[List.getElem?_append_left y]
  by_cases t:j<l.length
  .rw[o i ab,o j t]at c;obtain⟨l',n',f,z⟩:=x q t c;exact⟨_,_,.step f r,ab⟩
  .have A:j=l.length:=by simp at g;omega
   have hb:(l++[b]).getD l.length 0=b:=by simp[dL]
   rw[A,hb,o i ab]at c;have hi:i<l.length:=ab;by_cases hl:i+1=l.length
   .have e:l.getD (l.length-1) 0=a:=by
     obtain⟨u,rfl⟩:=m.last;simp[dL]
    have B:i=l.length-1:=ab;rw[B,e]at c;subst c;exact⟨_,_,m,ab⟩
   .have C:l.take (i+1)≠[]:=by
     intro e;have:=congrArg dT e;rw[List.length_take,dd]at this;omega
    have p:l.drop (i+1)≠[]:=by
     intro e;have:=congrArg dT e;rw[List.length_drop,dd]at this;omega
    obtain⟨D,n',f,z⟩:=m.pre hE (List.take_append_drop (i+1) l).symm C p;have:D=l.getD i 0:=by
     obtain⟨u,v⟩:=f.last;have F:=congrArg dT v;have w:(l.take (i+1))[i]?=l[i]?:=df ab;rw[v]at w;simp at F;have H:u.length=i:=ab;rw[dL,<-w,<-H];simp
    rw[this,c]at f;exact⟨_,_,f,ab⟩
def am8{l:List Int}(b:∀i,i<l.length->0<=l.getD i 0/\l.getD i 0<6)(c:∀i j,i<j->j<l.length->l.getD i 0≠l.getD j 0):l.length<=6:=by
 have key:∀k,k<=l.length->acd (l.take k)+k<=6:=by
  intro k
  induction k with
  |zero=>intro _;exact(by decide:acd []+0<=6)
  |succ k d=>
   intro m;have n:=d ab;have e:l.take (k+1)=l.take k++[l.getD k 0]:=by
    rw[List.take_add_one,el ab];simp[dL,show k<l.length by omega]
   have a:l.getD k 0∉l.take k:=by
    intro a;obtain⟨q,f,g⟩:=List.mem_iff_getElem.1 a;have h:q<k:=by simp at f;omega
    refine c q k h ab ?_;rw[<-g];simp[dL,show q<l.length by omega]
   have:=abp (b k ab).1 (b k ab).2 a;rw[e];omega
 have:=key l.length (bq _);omega
def Wlk.all{E:Int->Int->Int->Prop}{Q:Int->Prop}(hE:∀a b d,E a b d->Q b){s:Int}(hs:Q s){l:List Int}{a n:Int}(h:Wlk E s l a n):∀x∈l,Q x:=by
 induction h with
 |start=>intro x c;rw[List.mem_singleton.1 c];exact hs
 |step _ e f=>
  intro x c
  rcases List.mem_append.1 c with h|h
  .exact f x h
  .rw[List.mem_singleton.1 h];exact hE _ _ _ e
def abd.six{C:CD}(hc:C.cx=0){P:Int->Prop}{s L:Int}(hs:0<=s/\s<C.p){l:List Int}(h:abd (C.edge P) s 0 (some (l,L))):l.length<=6:=by
 have n:=(Lf hc).2;have c:=h.1.all (Q:=λx=>0<=x/\x<6) (λa b d f=>by have:=(acH hc f).2.1;omega) ab;refine am8 (λi hi=>?_) λi j g k e=>?_
 .have:=c _ (List.getElem_mem hi);rw[dL,el hi];exact this
 .obtain⟨o,n',m,q⟩:=h.1.cut (NI hc) g k e;have:=afy (h.2 _ _ m);simp only at this;omega
open Go.RowKit Go.Shelf
attribute [local go_sem] Oper.semAt_some
set_option maxHeartbeats 40000000
def akq{C:CD}{m:Int}{w:aa}(h:C.At w)(hc:C.cx=0)(d:bO m 0 999=true):ad PL 6 #[fA C.val,fJ gw m] w λe w'=>∃b c,e=gt (fB #[fP b C.n4 c,fJ gw 0])/\bB w' (fP b C.n4 c) (tB C.yd m C.n5 C.n4)/\bA w w':=by
 refine(RO C m C.yd (CD.V5 hc) w h (by rw[CD.b6,if_pos hc];rfl) (ni hc).2 (fc hc) d (λW f=>acw f hc)).mono ?_;rintro e w'⟨v,rfl,a,g⟩;have i:=a;obtain⟨b,c,rfl,_⟩:=i;rw[Nt]at a⊢;exact⟨b,c,rfl,a,g⟩
def RRo(X:Int->Int->Int->Prop)(s:Int)(l:List Int)(L:Int)(f:Bool):Prop:=f=true/\abd X s 0 (some (l,L))\/f=false/\abd X s 0 none/\l=[]/\L=0
def RRo.unique{X:Int->Int->Int->Prop}{s:Int}{l l':List Int}{L b:Int}{f f':Bool}(h:RRo X s l L f)(a:RRo X s l' b f'):l=l'/\L=b/\f=f':=by
 rcases h with⟨rfl,h⟩|⟨rfl,h,rfl,rfl⟩<;>rcases a with⟨rfl,a⟩|⟨rfl,a,rfl,rfl⟩
 .cases h.unique a;exact⟨rfl,rfl,rfl⟩
 .cases h.unique a
 .cases h.unique a
 .exact⟨rfl,rfl,rfl⟩
structure KAo(C:CD)(w:aa)(z:Nat)(v:ac)(W:aa):Prop where
 box:W.heap[w.heap.size]?=some (gy C.val 27)
 oth:W.heap[z]?=some (gy #[fJ gw C.l,fJ gw C.p,fP C.b2 C.n2 C.c2,fP C.b3 C.n3 C.c3,fP C.b4 C.n4 C.c4,v] 27)
 lt:w.heap.size<z
 low:bA w W
def KAo.on{C:CD}{w W b:aa}{z:Nat}{v:ac}(h:KAo C w z v W)(a:bA W b):KAo C w z v b:=
 ⟨(a.block _ (cm h.box)).trans h.box,(a.block _ (cm h.oth)).trans h.oth,h.lt,cC h.low a⟩
def KAo.to{C:CD}{w W b:aa}{z B:Nat}{v:ac}(h:KAo C w z v W)(c:z<B)(a:Below B W b):KAo C w z v b:=
 have:=h.lt
 ⟨(a.block _ ab).trans h.box,(a.block _ c).trans h.oth,h.lt,h.low.trans (a.mono ab)⟩
theorem KAo.set{C:CD}{w W:aa}{z:Nat}{v:ac}(h:KAo C w z v W)(u:ac):KAo C w z u (W.setCell ⟨z,5,none⟩ u):=
 have:=h.lt
 ⟨(aZ ab).trans h.box,Fe h.oth,h.lt,h.low.setCell (p:=⟨z,5,none⟩) (by show w.heap.size<=z;omega) _⟩
def KAo.start{C:CD}{w W:aa}(h:KB C w W):KAo C w W.heap.size (fP none 0 0) (W.alloc (gy #[fJ gw C.l,fJ gw C.p,fP C.b2 C.n2 C.c2,fP C.b3 C.n3 C.c3,fP C.b4 C.n4 C.c4,fP none 0 0] 27)):=
 ⟨(((bm W.heap.size W).alloc (bq _) _).block _ (cm h.box)).trans h.box,au W _,cm h.box,h.low.alloc h.low.size _⟩
def CD.ama(C:CD)(b:Nat)(B:Option aI)(K c:Nat):CD:={ C with b5:=B,k5:=K,o5:=0,c5:=c,x5:=λj=>C.x5 (aag C.n5 b j) }
def amb(C:CD)(b:Nat)(B:Option aI)(K c:Nat):j9 C (C.ama b B K c) (aag C.n5 b):=⟨rfl,rfl,rfl,rfl,rfl,rfl,rfl,rfl,rfl,λ_ _=>rfl⟩
def amc{C:CD}{b:Nat}{B:Option aI}{K c:Nat}{W:aa}(h:C.At W)(a:C.n5<=3)(d:K<W.heap.size)(e:0<C.n5->B=some ⟨K,0,none⟩)(f:b7 W K 0 C.n5 3 λj=>acz (C.x5 (aag C.n5 b j))):(C.ama b B K c).At W:=by
 have R:=h.rows;exact sx.at_ ⟨R.m2,R.m3,R.m4,R.m5,R.h2,R.h3,R.h4,d,R.s2,R.s3,R.s4,e,R.r2,R.r3,R.r4,f,R.cu,λi hi=>R.nm5 _ ((agR a b).lt i hi),R.l4,R.rl⟩
def CD.abA(C:CD)(b j:Nat):List ac:=acz (C.x5 (aag C.n5 b j))
def CD.afP(C:CD)(b i:Nat):(C.abA b i).length=3:=rfl
def CD.akv(C:CD)(b i:Nat):∀u∈C.abA b i,u.oneCell'=true:=λu a=>by
 simp only[CD.abA,acz,dk,dp,or_false]at a
 rcases a with rfl|rfl|rfl<;>rfl
def eAo(t:Nat):Bool:=t != 14&&t != 15
structure KQo(C D:CD)(w:aa)(z:Nat)(v:ac)(R:List (ac×List Int))(W:aa):Prop where
 k:KAo C w z v W
 d:D.At W
 r:∀q∈R,bB W q.1 q.2
def KQo.on{C D:CD}{w W b:aa}{z:Nat}{v:ac}{R:List (ac×List Int)}(h:KQo C D w z v R W)(a:bA W b):KQo C D w z v R b:=
 ⟨h.k.on a,h.d.below a,λq c=>(h.r q c).on a⟩
def KQo.push{C D:CD}{w W a:aa}{z:Nat}{v:ac}{R:List (ac×List Int)}(h:KQo C D w z v R W)(b:bA W a){u:ac}{l:List Int}(e:bB a u l):KQo C D w z v ((u,l)::R) a:=
 ⟨h.k.on b,h.d.below b,λq c=>by
   rcases List.mem_cons.1 c with rfl|c
   .exact e
   .exact(h.r q c).on b⟩
def akS(D:CD)(u:ac)(W:aa):Prop:=∃T:CD,u=fA T.val/\LN D T/\T.At W
def akV{C D T:CD}{f:Nat->Nat}(h:j9 C D f)(hf:abT C.n5 f)(hc:C.cx=0)(a:LN D T)(m:Int):T.edge (T.Cl m)=C.edge (C.Cl m):=by
 rw[a.edge,h.edge,h.Cl hf hc]
def al2{C E:CD}{s m:Int}(d:E.cx=0)(g:E.edge (E.Cl m)=C.edge (C.Cl m))(hs:0<=s/\s<E.p)(h:bO m 0 999=true){W:aa}(i:E.At W) :
 ad PL 9 #[fA E.val,fJ gw s,fJ gw m] W λe w'=>∃v l L f,e=gt (fB #[v,fJ gw L,fY f,fJ gw 0])/\bB w' v l/\bA W w'/\RRo (C.edge (C.Cl m)) s l L f:=by
 refine(ako E s m W i d hs h).mono ?_;rintro e w'⟨b,c,l,L,f,rfl,j,k,a⟩;rw[g]at a;exact⟨_,l,L,f,rfl,j,k,a⟩
def al3{C E:CD}(a:E.cx=0)(b:∀s,RG E s=RG C s)(c:E.p=C.p){W:aa}(d:E.At W) :
 ad PL 11 #[fA E.val] W λe w'=>∃v,e=gt (fB #[v,fJ gw 0])/\bB w' v ((qC C C.p.toNat (2 ^ C.p.toNat)).getD [])/\bA W w':=by
 rw[<-abW b,<-c];exact Cr E W d a
def RRo.len{C:CD}(hc:C.cx=0){P:Int->Prop}{s:Int}(hs:0<=s/\s<C.p){l:List Int}{L:Int}{f:Bool}(h:RRo (C.edge P) s l L f):l.length<=20:=by
 rcases h with⟨_,h⟩|⟨_,_,rfl,_⟩
 .have:=h.six hc hs;omega
 .exact bv _
def ad9(hwk:∀w,ad PL 5 #[] w (aO (fY true) w))(C:CD)(n1 n2 n3:Int)(w:aa)(h:C.Mem w)(hg1:0<=n1/\n1<=255)(hg2:0<=n2/\n2<=255)(hg3:0<=n3/\n3<=65535) :
 ad PL 3 #[fA C.val,fJ .u8 n1,fJ .u8 n2,fJ .u16 n3] w (aO (fY true) w):=by
 have HM:Hid (∀W,bA w W->C.Mem W):=bj λW g=>h.below g;have K0:=bj (show KB C w (w.alloc (gy C.val 27)) from⟨au _ _,(bm _ _).alloc (bq _) _⟩);have HW:=bj hwk;have HN:=bj (fi hg1 (fi hg2 hg3));clear h hwk hg1 hg2 hg3;by_cases Z:C.LR=true
 case neg=>
  have hff:C.LR=false:=by simpa using Z
  have HG:Hid (∀W,C.Mem W->ad PL 4 #[fA C.val] W (aO (fY false) W)):=bj λW P=>by have:=agO C W P;rwa[hff]at this
  clear Z hff;go_enter (fx ao eE),eF;obtain⟨y,A,E,F,f4,t⟩:=bf K0.out.box
  go_wp2_with (first
   |(go_at_call 4;refine(HG.out _ (HM.out _ K0.out.low)).mono ?_;rintro e w1⟨rfl,aL⟩;have K1:=bj (K0.out.on aL);clear aL)
   |(go_at_call 5;refine(HW.out _).mono ?_;rintro e w2⟨rfl,qA⟩;have K2:=bj (K1.out.on qA);clear qA))
  go_ret;exact⟨rfl,K2.out.low⟩
 have HC:Hid (C.small=true/\C.cx=0):=bj (by simpa[CD.LR]using Z);have HA:Hid (∀W,bA w W->C.At W):=bj λW g=>CD.At.Ri (HM.out W g) HC.out.1;have HG:Hid (∀W,C.Mem W->ad PL 4 #[fA C.val] W (aO (fY true) W)):=bj λW P=>by have:=agO C W P;rwa[Z]at this
 clear Z;have h5:=fc HC.out.2;obtain⟨J0,hp6⟩:=Lf HC.out.2;have aAy:=HN.out.1.1;have aAz:=HN.out.1.2;have au5:=HN.out.2.1.1;have au6:=HN.out.2.1.2;have au7:=HN.out.2.2.1;have au8:=HN.out.2.2.2;obtain⟨b,hb⟩:∃b:Nat,n1=b:=⟨n1.toNat,ab⟩
 subst hb;have hp0:C.p≠0:=ab;have hs0:0<=n2 % C.p/\n2 % C.p<C.p:=⟨Int.emod_nonneg _ hp0,Int.emod_lt_of_pos _ ab⟩
 have hm0:bO (n3 % 1000) 0 999=true:=by simp[bO];omega
 obtain⟨s,hs⟩:∃s,n2 % C.p=s:=⟨_,rfl⟩
 obtain⟨m,hm⟩:∃s,n3 % 1000=s:=⟨_,rfl⟩
 rw[hs]at hs0;rw[hm]at hm0;have HS0:=bj hs0;have HM0:=bj hm0;clear hs0 hm0;go_enter (fx ao eE),eF;obtain⟨y,A,E,F,f4,t⟩:=bf K0.out.box
 go_upto_region 3 with(first
  |(go_at_call 4;refine(HG.out _ (HM.out _ K0.out.low)).mono ?_;rintro e w1⟨rfl,aL⟩;have K1:=bj (K0.out.on aL);clear aL;clear y A E F f4 t;obtain⟨y,A,E,F,f4,t⟩:=bf K1.out.box))
 go_quiet (fail)
 have K2:Hid (KB C w (w1.drewN nq)):=bj (K1.out.on (below_drewN (bm _ _) _));clear y A E F f4 t;obtain⟨W2,vp⟩:=br (w1.drewN nq);rw[<-vp]at K2 ⊢;rw[hm,hs];clear vp hs hm au5 au6 au7 au8 hp0;obtain⟨y,A,E,F,f4,t⟩:=bf K2.out.box
 go_upto_region 6 with fail
 have K3:=bj (KAo.start K2.out);obtain⟨W3,hW3⟩:=br (W2.alloc (gy #[fJ gw C.l,fJ gw C.p,fP C.b2 C.n2 C.c2,fP C.b3 C.n3 C.c3,fP C.b4 C.n4 C.c4,fP none 0 0] 27));rw[<-hW3]at K3 ⊢;clear hW3 y A E F f4 t;obtain⟨z,hz⟩:=br W2.heap.size;rw[<-hz]at K3 ⊢;clear hz K2 K1 K0;obtain⟨y,A,E,F,f4,t⟩:=bf K3.out.box;obtain⟨B,g⟩:=br W3.heap.size;have HZB:Hid (z<B):=bj (by rw[g];exact cm K3.out.oth);have KB0:Hid (B<=W3.heap.size):=bj ab;clear g;have W1:IntKind.i64.wrap ((C.n5:Int)-1)=C.n5-1:=gf _ ab;go_wp2;clear W1
 go_loopw [12] (λv12 wr=>∃(k:Nat)(v:ac),k<=C.n5/\v12=fJ gw (C.n5-1-k)/\KAo C w z v wr/\mb 32 3 (C.abA b) wr B v k/\B<=wr.heap.size) (λv12 _=>(intOf v12+1).toNat)
 case atStart=>exact⟨0,_,bv _,by go_num,K3.out,mb.nil _ _ _ _ _,KB0.out⟩
 case round=>
  obtain⟨k,v,hk,rfl,hK,hO,Za⟩:=hrel;have K4:=bj hK;have O4:=bj hO;have U:=bj Za;obtain⟨pb,pd,hv⟩:=vB hO;clear hK hO Za K3 KB0 y A E F f4 t;subst hv;by_cases aH:k<C.n5
  .obtain⟨q,hq⟩:∃q:Nat,C.n5-1-k=q:=⟨_,rfl⟩
   have e5:(C.n5:Int)-1-k=(q:Int):=ab;rw[e5];have hn0:(C.n5:Int)≠0:=ab;obtain⟨r,hr⟩:∃r:Nat,(q+b) % C.n5=r:=⟨_,rfl⟩
   have Mb:r<C.n5:=by rw[<-hr];exact bC _ ab
   have hri:(r:Int)<C.n5:=ab;have er:((q:Int)+(b:Int)) % (C.n5:Int)=(r:Int):=by rw[<-hr];simp
   have ew:IntKind.i64.wrap ((q:Int)+(b:Int))=(q:Int)+(b:Int):=gf _ ab;have hqb:0<=(q:Int)+(b:Int):=ab;have FP:Hid ((C.abA b k).toArray=#[gc (C.x5 r).1,fJ gw (C.x5 r).2.1,fJ gw (C.x5 r).2.2]):=bj (by simp only[CD.abA,aag,acz,hq,hr]);have et:((q:Int)+(b:Int)).tmod (C.n5:Int)=(r:Int):=by rw[Int.tmod_eq_emod_of_nonneg hqb];exact er
   have eb:IntKind.i64.wrap (b:Int)=(b:Int):=gf _ ab;have hn1:¬C.n5=0:=ab;have EW:=bj (fi er (fi ew (fi et (fi eb (fi hn1 hn0)))));have S5:=bj ((HA.out w (bm _ _)).s5 ab);clear hq hr er ew hqb et eb hn1
   go_upto_region 9 with fail
   refine iL 16 15 (CAx B wr) (λW W'=>bA W W') eAo (NR 32 3 (C.abA b) B k 14 15) (λ_ _ _ _=>True) (λ_ _ _ _ _=>trivial) rfl ae ae rfl
    (λb i vs W W' hle h=>h.le hle) (λi o ho vs eX W he aaZ b h=>h.loc he) CAx.start ?_
   iterate 14 (
    apply iK
    case hE=>rfl
    case h=>
     intro vs W bb V hd;have KK:=K4.out.to HZB.out V.low;have hA:=HA.out _ KK.low;obtain⟨y,A,E,F,f4,t⟩:=bf KK.box;rw[S5.out]at t;obtain⟨H,I,J,K,N,O⟩:=bf KK.oth;have c0:=hA.FI r Mb;have c1:=hA.HU r Mb;have c2:=hA.J6 r Mb;obtain⟨er,ew,et,eb,hn1,hn0⟩:=EW.out;clear KK hA;go_simp
     first
      |exact⟨rfl,V,bm _ _⟩
      |exact⟨rfl,bm _ _⟩
      |trace_state
    case hb=>exact KD)
   apply ey
   case hE=>rfl
   case hb=>exact KD
   case h=>
    intro vs W D bb iC V jw hi _ hd hP;have aL:=(bm W.heap.size W).alloc (bq _) (gy (C.abA b k).toArray 32);have HBC:=bj (V.on U.out aL);have HPM:=bj (NR.made (e:=32) (m:=3) (f:=C.abA b) (base:=B) (n:=k) (s:=14) (c:=15) (b:=bb) (vs:=vs) (W:=W) ao);have HDD:Hid (∀j∈D,eAo j=false->NR 32 3 (C.abA b) B k 14 15 bb j vs (W.alloc (gy (C.abA b k).toArray 32))):=bj λj hj hE=>(hd j hj hE).le aL;rw[FP.out]at HBC HPM HDD;clear V hd aL;go_simp;exact⟨HBC.out,HDD.out,HPM.out⟩
   apply ey
   case hE=>rfl
   case hb=>exact KD
   case h=>
    intro vs W D bb iC V jw hi _ hd hP;have hf:=iC rfl;have m14:14∈D:=jw ⟨14,gL⟩ (cH.2 ⟨ar,rfl⟩);obtain⟨kq,hkq,hkc⟩:=(hd 14 m14 rfl).cs rfl hf;have fO:=O4.out.on (V.all hf);refine aaS VN VO rfl ao ao (C.afP b) (C.akv b) rfl _ _ rfl B (fP pb k pd) k kq rfl fO hkq hkc ab (ce U.out V.low.size) λv' w' e1 e2=>?_;exact⟨by simpa using V.app U.out fO e2,λj hj hE=>⟨λ_ e=>(by simp at e),λe=>absurd hj (by rw[e];exact hi)⟩,⟨bp,λ_=>(by simpa[upd]using e1)⟩,λ_ _ _=>trivial⟩
   refine nv λvs W bb _ V hd _=>?_;have hO2:=(hd 15 ab rfl).cc rfl;obtain⟨b',d',e22⟩:=vB hO2;rw[e22]at hO2 ⊢;have O5:=bj hO2;have K5:=bj (K4.out.to HZB.out V.low);have VX:Hid (B<=W.heap.size):=bj (ce U.out V.low.size);clear V hd hO2 e22;obtain⟨H,I,J,K,N,O⟩:=bf K5.out.oth;have fz:=tO K5.out.oth
   go_upto_region 8 with fail
   have K6:=bj (K5.out.set (fP b' (k+1) d'));have O6:Hid (mb 32 3 (C.abA b) (W.setCell ⟨z,5,none⟩ (fP b' (k+1) d')) B (fP b' (k+1) d') (k+1)):=bj (abY O5.out HZB.out);have HS6:Hid (B<=(W.setCell ⟨z,5,none⟩ (fP b' (k+1) d')).heap.size):=bj (by rw[eS];exact VX.out);clear H I J K N O fz K5 O5 VX;go_wp2;exact⟨⟨k+1,_,aH,by go_num,K6.out,O6.out,HS6.out⟩,by simp only[intOf];omega⟩
  .obtain rfl:k=C.n5:=ab;have e5:(C.n5:Int)-1-C.n5 = -1:=ab;rw[e5];obtain⟨pb',pd',pk,hpe,Wf,hpt,hpr⟩:=O4.out.pick (m:=3) (C.afP b) (d:=z) (by have:=HZB.out;have:=U.out;omega);cases hpe;have D4:Hid ((C.ama b pb pk pd).At wr):=bj (amc (HA.out _ K4.out.low) h5 Wf (λhn=>(hpt hn).1) hpr);obtain⟨D,hD⟩:=br (C.ama b pb pk pd);have MX:Hid (j9 C D (aag C.n5 b)):=bj (by rw[hD];exact amb C b pb pk pd);have DV:Hid (D.val=#[fJ gw C.l,fJ gw C.p,fP C.b2 C.n2 C.c2,fP C.b3 C.n3 C.c3,fP C.b4 C.n4 C.c4,fP pb C.n5 pd]):=bj (by rw[hD];rfl);rw[<-hD]at D4;clear hD Wf hpt hpr O4 U hk aH;have hc:=HC.out.2;have HO:=agR h5 b;have S:=MX.out.check HO hc;obtain⟨L,hL⟩:=br (tB C.yd m C.n5 C.n4);obtain⟨sf,hsf⟩:=br C.abQ;obtain⟨nt,hnt⟩:=br C.Cv.length;obtain⟨X,hX⟩:=br (C.edge (C.Cl m));obtain⟨M,hM⟩:=br ((qC C C.p.toNat (2 ^ C.p.toNat)).getD []);have HLL:Hid (L.length=C.n4):=bj (by rw[hL,Nt]);have HML:Hid (M.length<=20):=bj (by rw[hM];have:=E3 C C.p.toNat (2 ^ C.p.toNat);omega);have HXL:Hid (∀l L f,RRo X s l L f->l.length<=20):=bj λl L f h=>by rw[hX]at h;exact h.len hc HS0.out
   have C36:Hid (∀W,C.At W->ad PL 6 #[fA C.val,fJ gw m] W λe w'=>∃b c,e=gt (fB #[fP b C.n4 c,fJ gw 0])/\bB w' (fP b C.n4 c) L/\bA W w'):=bj λW P=>by rw[hL];exact akq P hc HM0.out
   have D36:Hid (∀W,D.At W->ad PL 6 #[fA #[fJ gw C.l,fJ gw C.p,fP C.b2 C.n2 C.c2,fP C.b3 C.n3 C.c3,fP C.b4 C.n4 C.c4,fP pb C.n5 pd],fJ gw m] W λe w'=>∃b c,e=gt (fB #[fP b C.n4 c,fJ gw 0])/\bB w' (fP b C.n4 c) L/\bA W w'):=bj λW P=>by
    rw[hL,<-MX.out.tB HO hc m,<-DV.out,<-MX.out.n4];exact akq P S HM0.out
   have C49:Hid (∀W,C.At W->ad PL 7 #[fA C.val] W (aO (fB #[fY sf,fJ gw 0]) W)):=bj λW P=>by rw[hsf];exact aid P hc
   have D49:Hid (∀W,D.At W->ad PL 7 #[fA #[fJ gw C.l,fJ gw C.p,fP C.b2 C.n2 C.c2,fP C.b3 C.n3 C.c3,fP C.b4 C.n4 C.c4,fP pb C.n5 pd]] W (aO (fB #[fY sf,fJ gw 0]) W)):=bj λW P=>by
    rw[hsf,<-MX.out.safe HO hc,<-DV.out];exact aid P S
   have C37:Hid (∀W,C.At W->ad PL 8 #[fA C.val] W λe w'=>∃b c,e=gt (fB #[fP b nt c,fJ gw 0])/\bA W w'):=bj λW P=>by rw[hnt];exact(abR P hc).mono λe w'⟨b,c,Y,_,Q⟩=>⟨b,c,Y,Q⟩
   have D37:Hid (∀W,D.At W->ad PL 8 #[fA #[fJ gw C.l,fJ gw C.p,fP C.b2 C.n2 C.c2,fP C.b3 C.n3 C.c3,fP C.b4 C.n4 C.c4,fP pb C.n5 pd]] W λe w'=>∃b c,e=gt (fB #[fP b nt c,fJ gw 0])/\bA W w'):=bj λW P=>by
    rw[hnt,<-MX.out.Cv HO hc,<-DV.out];exact(abR P S).mono λe w'⟨b,c,Y,_,Q⟩=>⟨b,c,Y,Q⟩
   have C28:Hid (∀W,C.At W->ad PL 9 #[fA C.val,fJ gw s,fJ gw m] W λe w'=>∃v l L f,e=gt (fB #[v,fJ gw L,fY f,fJ gw 0])/\bB w' v l/\bA W w'/\RRo X s l L f):=bj λW P=>by rw[hX];exact al2 hc rfl HS0.out HM0.out P
   have D55:Hid (∀W,D.At W->ad PL 10 #[fA #[fJ gw C.l,fJ gw C.p,fP C.b2 C.n2 C.c2,fP C.b3 C.n3 C.c3,fP C.b4 C.n4 C.c4,fP pb C.n5 pd]] W λe w'=>∃u,e=gt u/\akS D u w'/\bA W w'):=bj λW P=>by
    rw[<-DV.out];exact(agy D S W P).mono λe w'⟨T,Y,Q,h3,h4⟩=>⟨_,Y,⟨T,rfl,Q,h3⟩,h4⟩
   have T28:Hid (∀W u,akS D u W->ad PL 9 #[u,fJ gw s,fJ gw m] W λe w'=>∃v l L f,e=gt (fB #[v,fJ gw L,fY f,fJ gw 0])/\bB w' v l/\bA W w'/\RRo X s l L f):=bj λW u⟨T,Y,Q,h3⟩=>by
    rw[Y,hX];exact al2 (Q.check S) (akV MX.out HO hc Q m) (by rw[Q.p,MX.out.p];exact HS0.out) HM0.out h3
   have C31:Hid (∀W,C.At W->ad PL 11 #[fA C.val] W λe w'=>∃v,e=gt (fB #[v,fJ gw 0])/\bB w' v M/\bA W w'):=bj λW P=>by rw[hM];exact al3 hc (λ_=>rfl) rfl P
   have T31:Hid (∀W u,akS D u W->ad PL 11 #[u] W λe w'=>∃v,e=gt (fB #[v,fJ gw 0])/\bB w' v M/\bA W w'):=bj λW u⟨T,Y,Q,h3⟩=>by
    rw[Y,hM];exact al3 (Q.check S) (λq=>(Q.cov q).trans (MX.out.cov q)) (by rw[Q.p,MX.out.p]) h3
   have SN:Hid (∀W a b(l:List Int),l.length<=20->bB W a l->bB W b l->ad PL 13 #[a,b] W (aO (fY true) W)):=bj λW a b l hl Y Q=>pI _ _ l.length _ W Y Q hl;have SS:Hid (∀W b c b' c',bB W (fP b C.n4 c) L->bB W (fP b' C.n4 c') L->ad PL 12 #[fP b C.n4 c,fP b' C.n4 c'] W (aO (fY true) W)):=bj λW b c b' c' Y Q=>Cp _ _ L.length _ W Y Q (by rw[HLL.out];have:=(ni hc).2;omega);clear hL hsf hnt hX hM S HO hc h5 J0 hp6;have Q0:Hid (KQo C D w z (fP pb C.n5 pd) [] wr):=bj ⟨K4.out,D4.out,λq hq=>by cases hq⟩;clear K4 D4;obtain⟨y,A,E,F,f4,t⟩:=bf Q0.out.k.box;obtain⟨H,I,J,K,N,O⟩:=bf Q0.out.k.oth
   go_upto_region 11 with(go_at_call 6;(with_reducible refine(C36.out _ (HA.out _ Q0.out.k.low)).mono ?_);rintro e w1⟨b1,c1,rfl,R,g⟩;have Q1:=bj (Q0.out.push g R);clear R g y A E F f4 t H I J K N O;obtain⟨y,A,E,F,f4,t⟩:=bf Q1.out.k.box;obtain⟨H,I,J,K,N,O⟩:=bf Q1.out.k.oth)
   go_upto_region 12 with(go_at_call 6;(with_reducible refine(D36.out _ Q1.out.d).mono ?_);rintro e w2⟨b2,c2,rfl,R,g⟩;have Q2:=bj (Q1.out.push g R);clear R g y A E F f4 t H I J K N O;obtain⟨y,A,E,F,f4,t⟩:=bf Q2.out.k.box;obtain⟨H,I,J,K,N,O⟩:=bf Q2.out.k.oth)
   go_upto_region 13 with(go_at_call 7;(with_reducible refine(C49.out _ (HA.out _ Q2.out.k.low)).mono ?_);rintro e w3⟨rfl,g⟩;have Q3:=bj (Q2.out.on g);clear g y A E F f4 t H I J K N O;obtain⟨y,A,E,F,f4,t⟩:=bf Q3.out.k.box;obtain⟨H,I,J,K,N,O⟩:=bf Q3.out.k.oth)
   go_upto_region 14 with(go_at_call 7;(with_reducible refine(D49.out _ Q3.out.d).mono ?_);rintro e w4⟨rfl,g⟩;have Q4:=bj (Q3.out.on g);clear g y A E F f4 t H I J K N O;obtain⟨y,A,E,F,f4,t⟩:=bf Q4.out.k.box;obtain⟨H,I,J,K,N,O⟩:=bf Q4.out.k.oth)
   go_upto_region 15 with(go_at_call 8;(with_reducible refine(C37.out _ (HA.out _ Q4.out.k.low)).mono ?_);rintro e w5⟨b5,c5,rfl,g⟩;have Q5:=bj (Q4.out.on g);clear g y A E F f4 t H I J K N O;obtain⟨y,A,E,F,f4,t⟩:=bf Q5.out.k.box;obtain⟨H,I,J,K,N,O⟩:=bf Q5.out.k.oth)
   go_upto_region 16 with(go_at_call 8;(with_reducible refine(D37.out _ Q5.out.d).mono ?_);rintro e w6⟨b6,c6,rfl,g⟩;have Q6:=bj (Q5.out.on g);clear g y A E F f4 t H I J K N O;obtain⟨y,A,E,F,f4,t⟩:=bf Q6.out.k.box;obtain⟨H,I,J,K,N,O⟩:=bf Q6.out.k.oth)
   go_upto_region 17 with(go_at_call 9;(with_reducible refine(C28.out _ (HA.out _ Q6.out.k.low)).mono ?_);rintro e w7⟨v7,l7,L7,f7,rfl,R,g,hU⟩;have Q7:=bj (Q6.out.push g R);have U7:=bj hU;clear R g hU y A E F f4 t H I J K N O;obtain⟨y,A,E,F,f4,t⟩:=bf Q7.out.k.box;obtain⟨H,I,J,K,N,O⟩:=bf Q7.out.k.oth)
   go_upto_region 18 with(first
    |(go_at_call 10;(with_reducible refine(D55.out _ Q7.out.d).mono ?_);rintro e w8⟨u8,rfl,hT,g⟩;have Q8:=bj (Q7.out.on g);have T8:=bj hT;clear hT g y A E F f4 t H I J K N O)
    |(go_at_call 9;(with_reducible refine(T28.out _ _ T8.out).mono ?_);rintro e w9⟨v9,l9,L9,f9,rfl,R,g,hU⟩;obtain⟨rfl,rfl,rfl⟩:=U7.out.unique hU;have Q9:=bj (Q8.out.push g R);clear R g hU;obtain⟨y,A,E,F,f4,t⟩:=bf Q9.out.k.box;obtain⟨H,I,J,K,N,O⟩:=bf Q9.out.k.oth))
   go_upto_region 19 with(go_at_call 11;(with_reducible refine(C31.out _ (HA.out _ Q9.out.k.low)).mono ?_);rintro e wa⟨va,rfl,R,g⟩;have Qa:=bj (Q9.out.push g R);clear R g y A E F f4 t H I J K N O;obtain⟨H,I,J,K,N,O⟩:=bf Qa.out.k.oth)
   go_upto_region 20 with(first
    |(go_at_call 10;(with_reducible refine(D55.out _ Qa.out.d).mono ?_);rintro e wb⟨ub,rfl,hT,g⟩;have Qb:=bj (Qa.out.on g);have Tb:=bj hT;clear hT g H I J K N O)
    |(go_at_call 11;(with_reducible refine(T31.out _ _ Tb.out).mono ?_);rintro e wc⟨vc,rfl,R,g⟩;have Qc:=bj (Qb.out.push g R);clear R g))
   have UL:=bj (HXL.out _ _ _ U7.out)
   go_wp2_with (first
    |(go_at_call 12;(with_reducible refine(SS.out _ _ _ _ _ (Qc.out.r (fP b1 C.n4 c1,L) ar) (Qc.out.r (fP b2 C.n4 c2,L) ar)).mono ?_);rintro e wd⟨rfl,g⟩;have Qd:=bj (Qc.out.on g);clear g)
    |(go_at_call 13;(with_reducible refine(SN.out _ v7 v9 _ UL.out (Qd.out.r (v7,l7) ar) (Qd.out.r (v9,l7) ar)).mono ?_);rintro e we⟨rfl,g⟩;have Qe:=bj (Qd.out.on g);clear g)
    |(go_at_call 13;(with_reducible refine(SN.out _ va vc _ HML.out (Qe.out.r (va,M) ar) (Qe.out.r (vc,M) ar)).mono ?_);rintro e wf⟨rfl,g⟩;have Qf:=bj (Qe.out.on g);clear g)
    |(go_at_call 5;refine(HW.out _).mono ?_;rintro e wg⟨rfl,g⟩;have hB9:=cC Qf.out.k.low g;clear g))
   go_ret;exact⟨rfl,hB9⟩
end Go.Proofs
