/- Part of the proof of FieldFlat and FieldMarshals. -/
import Derived.Test.YtmkjeaacgibnoaaGreatY35
set_option linter.all false
open List renaming range->aa,all_eq_true->ab,getD_eq_getElem?_getD->ac,getElem?_eq_getElem->ae,getElem?_map->ag,setIfInBounds_toArray->ai,set_cons_zero->ao,set_cons_succ->ap
open Nat renaming lt_or_ge->aq,le_refl->ar,zero_le->aw,not_lt_zero->aB,eq_zero_or_pos->aF,le_trans->aI
open Bool renaming eq_iff_iff->aJ,and_eq_true->aL
open Go.Lib renaming hid->aP
open Go.RowKit.Below renaming refl->aT
open Go.Act renaming put->a5
namespace Go.Proofs
open Go.RowKit
set_option maxRecDepth 100000
set_option maxHeartbeats 4000000
def aal(s:Nat):Nat:=(pJ s 6).length*64+(63-((aa 6).map λj=>if zV s j then 2 ^ (5-j) else 0).sum)
def aaY(a b:List Int):Nat->Nat->Bool
 |0,_=>false
 |k+1,q=>if a.length<=q\/b.length<=q then false else if a.getD q 0≠b.getD q 0 then decide (a.getD q 0<b.getD q 0) else aaY a b k (q+1)
def abX:((aa 64).all λs=>(aa 64).all λt=>AW (pJ s 6) (pJ t 6)==decide (aal t<aal s))=true:=by decide +kernel
def abD:((aa 64).all λs=>(aa 64).all λt=>(pJ s 6).length != (pJ t 6).length||(aaY (pJ s 6) (pJ t 6) 6 0==decide (aal s<aal t)))=true:=by decide +kernel
def abE:((aa 7).all λp=>(aa 64).all λs=>decide (2 ^ p<=s)||(pJ s p==pJ s 6))=true:=by decide +kernel
def abG:((aa 7).all λp=>(aa 256).all λs=>pJ s p==pJ (s % 2 ^ p) p)=true:=by decide +kernel
def abv:((aa 64).all λs=>(aa (pJ s 6).length).all λi=>((pJ s 6).eraseIdx i==pJ (s-2 ^ ((pJ s 6).getD i 0).toNat) 6)&&decide (2 ^ ((pJ s 6).getD i 0).toNat<=s)&&decide (aal (s-2 ^ ((pJ s 6).getD i 0).toNat)<aal s))=true:=by decide +kernel
def abr:((aa 64).all λs=>(aa 6).all λa=>(pJ s 6).contains (a:Int)==zV s a)=true:=by decide +kernel
def abY:((aa 64).all λs=>(aa (pJ s 6).length).all λi=>i==0||decide ((pJ s 6).getD (i-1) 0<(pJ s 6).getD i 0))=true:=by decide +kernel
def abZ:((aa 7).all λp=>(aa 64).all λs=>decide (2 ^ p<=s)||(pJ s p).all λx=>decide (0<=x/\x<p))=true:=by decide +kernel
def ac0:((aa 64).all λs=>(aa 64).all λt=>decide ((pJ s 6).length<(pJ t 6).length->aal s<aal t)&&decide ((pJ s 6).length=(pJ t 6).length\/(aal s<aal t↔(pJ s 6).length<(pJ t 6).length)))=true:=by decide +kernel
def abH:((aa 7).all λp=>(aa p).all λa=>zV (2 ^ p-1) a)=true:=by decide +kernel
def abj{n m:Nat}{P:Nat->Nat->Bool}(h:((aa n).all λs=>(aa m).all λt=>P s t)=true)(s t:Nat)(hs:s<n)(a:t<m):P s t=true:=by
 have:=List.all_eq_true.1 h s (List.mem_range.2 hs);exact List.all_eq_true.1 this t (List.mem_range.2 a)
def abw(s t:Nat)(hs:s<64)(a:t<64):AW (pJ s 6) (pJ t 6)=decide (aal t<aal s):=by
 simpa using abj abX s t hs a
def abI{p:Nat}(a:p<=6):2 ^ p<=64:=by
 have:=Nat.pow_le_pow_right (show 0<2 by omega) a;omega
def aaJ{p s:Nat}(a:p<=6)(hs:s<2 ^ p):pJ s p=pJ s 6:=by
 have:=abj abE p s (by omega) (Nat.lt_of_lt_of_le hs (abI a));simpa[Nat.not_le.2 hs]using this
def ab5(C:CD){p:Nat}(c:p<=6):∀q,q<=2 ^ p->(qC C p q=none/\∀t,t<q->RG C t=false)\/(∃s,s<q/\qC C p q=some (pJ s 6)/\RG C s=true/\∀t,t<q->RG C t=true->aal s<=aal t)
 |0,_=>.inl ⟨rfl,λt b=>by omega⟩
 |q+1,f=>by
  have l:=abI c
  rcases ab5 C c q (by omega) with⟨g,d⟩|⟨s,g,d,i,e⟩
  ·rw[qC,g,kT];simp only[Option.any_none,Bool.false_eq_true,if_false];cases hc:RG C q
   ·refine .inl ⟨by simp,λt b=>?_⟩
    rcases aq t q with h|h
    ·exact d t h
    ·rwa[show t=q by omega]
   ·refine .inr ⟨q,by omega,by rw[if_pos rfl,aaJ c f],hc,λt b a=>?_⟩
    rcases aq t q with h|h
    ·rw[d t h]at a;cases a
    ·rw[show t=q by omega];exact ar _
  ·have k:=abw q s (by omega) (by omega);refine .inr ?_;rw[qC,d,kT,aaJ c f];simp only[Option.any_some,k,decide_eq_true_eq];by_cases j:aal s<aal q
   ·rw[if_pos j];refine⟨s,by omega,rfl,i,λt b a=>?_⟩
    rcases aq t q with h|h
    ·exact e t h a
    ·rw[show t=q by omega];omega
   ·rw[if_neg j];cases hc:RG C q
    ·refine⟨s,by omega,by simp,i,λt b a=>?_⟩
     rcases aq t q with h|h
     ·exact e t h a
     ·rw[show t=q by omega,hc]at a;cases a
    ·refine⟨q,by omega,by rw[if_pos rfl],hc,λt b a=>?_⟩
     rcases aq t q with h|h
     ·have:=e t h a;omega
     ·rw[show t=q by omega];exact ar _
def aaD(C:CD)(l:List Int):Bool:=(aa C.n3).all λi=>l.contains (C.x3 i).1||l.contains (C.x3 i).2.1
structure abn(C:CD)(p:Nat):Prop where
 ok:∀i,i<C.n3->∃a b:Nat,(C.x3 i).1=a/\(C.x3 i).2.1=b/\a<p/\b<p
def aaz{C:CD}{p:Nat}(j:p<=6)(h:abn C p){s:Nat}(hs:s<64):aaD C (pJ s 6)=RG C s:=by
 have e:∀i,i<C.n3->((pJ s 6).contains (C.x3 i).1||(pJ s 6).contains (C.x3 i).2.1)=Iq C s i:=by
  intro i hi;obtain⟨a,b,f,hb,g,k⟩:=h.ok i hi;have c:=abj abr s a hs (by omega);have d:=abj abr s b hs (by omega);simp only[beq_iff_eq]at c d;rw[Iq,f,hb,c,d];rfl
 rw[aJ,aaD,RG,ab,ab];constructor<;>intro H i hi
 ·rw[<-e i (List.mem_range.1 hi)];exact H i hi
 ·rw[e i (List.mem_range.1 hi)];exact H i hi
def abJ{C:CD}{p:Nat}(f:p<=6)(h:abn C p):RG C (2 ^ p-1)=true:=by
 rw[RG,ab];intro i hi;obtain⟨a,b,d,hb,c,g⟩:=h.ok i (List.mem_range.1 hi);have e:=List.all_eq_true.1 (List.all_eq_true.1 abH p (List.mem_range.2 (by omega))) a (List.mem_range.2 c);simp only[Iq,d,Int.toNat_natCast,e,Bool.true_or]
def ac1{C:CD}{p:Nat}(a:p<=6)(h:abn C p):∃s,s<2 ^ p/\(qC C p (2 ^ p)).getD []=pJ s 6/\aaD C (pJ s 6)=true
 /\(∀i,i<(pJ s 6).length->aaD C ((pJ s 6).eraseIdx i)=false)
 /\(∀i,i<(pJ s 6).length->(0<=(pJ s 6).getD i 0/\(pJ s 6).getD i 0<p)/\(i≠0->(pJ s 6).getD (i-1) 0<(pJ s 6).getD i 0))
 /\∀t,t<256->aaD C (pJ t p)=true->(pJ s 6).length<(pJ t p).length\/((pJ t p).length=(pJ s 6).length/\aaY (pJ t p) (pJ s 6) 6 0=false):=by
 have y:=abI a;have n:=Nat.two_pow_pos p
 rcases ab5 C a (2 ^ p) (ar _) with⟨_,c⟩|⟨s,f,c,o,g⟩
 ·have:=c (2 ^ p-1) (by omega);rw[abJ a h]at this;cases this
 ·refine⟨s,f,by rw[c];rfl,?_,?_,?_,?_⟩
  ·rw[aaz a h (by omega)];exact o
  ·intro i hi;have:=List.all_eq_true.1 (List.all_eq_true.1 abv s (List.mem_range.2 (by omega))) i (List.mem_range.2 hi);simp only[aL,beq_iff_eq,decide_eq_true_eq]at this;obtain⟨⟨e1,z⟩,q⟩:=this;have A:=Nat.sub_le s (2 ^ ((pJ s 6).getD i 0).toNat);have B:s-2 ^ ((pJ s 6).getD i 0).toNat≠s:=λe=>by rw[e]at q;omega
   rw[e1];generalize s-2 ^ ((pJ s 6).getD i 0).toNat=d at *;rw[aaz a h (by omega)];cases hc:RG C d
   ·rfl
   ·have:=g _ (by omega) hc;omega
  ·intro i hi;have r:=List.all_eq_true.1 (List.all_eq_true.1 abY s (List.mem_range.2 (by omega))) i (List.mem_range.2 hi);have hl:=abj abZ p s (by omega) (by omega);simp only[Nat.not_le.2 f,decide_false,Bool.false_or,ab,decide_eq_true_eq]at hl;rw[aaJ a f]at hl;refine⟨hl _ ?_,λv=>?_⟩
   ·rw[ac,ae hi];exact List.getElem_mem hi
   ·simpa[v]using r
  ·intro t w b;have j:=abj abG p t (by omega) w;simp only[beq_iff_eq]at j;have k:t % 2 ^ p<2 ^ p:=Nat.mod_lt _ n;rw[j,aaJ a k]at b ⊢;generalize t % 2 ^ p=u at *;rw[aaz a h (by omega)]at b;have D:=g u k b;have hlen:=abj ac0 u s (by omega) (by omega);have l:=abj abD u s (by omega) (by omega);simp only[aL,Bool.or_eq_true,decide_eq_true_eq,bne_iff_ne,beq_iff_eq]at hlen l;obtain⟨x,E⟩:=hlen;by_cases m:(pJ u 6).length=(pJ s 6).length
   ·refine .inr ⟨m,?_⟩
    rcases l with h|h
    ·exact absurd m h
    ·rw[h];simp;omega
   ·left
    rcases aq (pJ s 6).length (pJ u 6).length with h|h
    ·exact h
    ·have:=x (by omega);omega
def contains_iff{l:List Int}{x:Int}:l.contains x=true↔∃q,q<l.length/\l.getD q 0=x:=by
 rw[List.contains_iff_mem,List.mem_iff_getElem];constructor
 ·rintro⟨q,a,e⟩;exact⟨q,a,by rw[ac,ae a];exact e⟩
 ·rintro⟨q,a,e⟩;rw[ac,ae a]at e;exact⟨q,a,e⟩
def abK(b:Option Addr)(n c:Nat)(f:Nat->Int)(x:Int)(w:World)(h:0<n->∃k o,b=some ⟨k,o,none⟩/\k<w.heap.size/\∀j,j<n->w.cell? ⟨k,o+j,none⟩=some (.int .i64 (f j)))(m:n<=20) :
 Calls PL 44 #[.slice b n c,.int .i64 x] w λe w'=>e=.returned (.bool ((aa n).any λq=>f q==x))/\w=w':=by
 have A:=aP h;clear h
 go_enter (fx (by decide) Tryz.func44),Tryz.ntmps44
 go_wp2
 go_loop [5] (λv=>∃q:Nat,q<=n/\v=.int .i64 q/\(∀j,j<q->f j≠x)) (λv=>n-(intOf v).toNat)
 case atStart=>exact⟨0,aw _,rfl,λj d=>absurd d (aB _)⟩
 case round=>
  obtain⟨q,p,rfl,g⟩:=hrel;have E:=aP g;clear g;by_cases i:q<n
  ·obtain⟨k,o,rfl,r,hc⟩:=A.out (by omega);have a0:w.cell? ⟨k,o+q,none⟩=some (.int .i64 (f q)):=hc q (by omega);clear hc;have s:(q:Int)<n:=by omega
   by_cases a:f q=x
   ·have l:(f q==x)=true:=by rw[a];exact beq_self_eq_true x
    have Z:=aP a;clear a
    go_wp2
    go_ret
    refine⟨?_,rfl⟩;have:((aa n).any λq=>f q==x)=true:=List.any_eq_true.2 ⟨q,List.mem_range.2 i,l⟩;rw[this];rfl
   ·have l:(f q==x)=false:=by simpa using a
    have Z:=aP a;clear a
    go_wp2
    refine⟨⟨q+1,i,by go_num,λj d=>?_⟩,by simp only[intOf];omega⟩;by_cases e:j=q
    ·rw[e];exact Z.out
    ·exact E.out j (by omega)
  ·obtain rfl:q=n:=by omega
   go_wp2
   go_ret
   refine⟨?_,rfl⟩;have:((aa q).any λq=>f q==x)=false:=by
    rw[List.any_eq_false];intro j d;have:=E.out j (List.mem_range.1 d);simpa using this
   rw[this];rfl
def abf{l:List Int}{x:Int}:((aa l.length).any λq=>l.getD q 0==x)=l.contains x:=by
 rw[aJ,contains_iff,List.any_eq_true];constructor
 ·rintro⟨q,a,e⟩;exact⟨q,List.mem_range.1 a,by simpa using e⟩
 ·rintro⟨q,a,e⟩;exact⟨q,List.mem_range.2 a,by rw[e];exact beq_self_eq_true x⟩
def abo{l:List Int}{v:Value}(x:Int){w:World}(h:bB w v l)(a:l.length<=20):Calls PL 44 #[v,.int .i64 x] w λe w'=>e=.returned (.bool (l.contains x))/\w=w':=by
 obtain⟨b,c,rfl,h⟩:=h
 have:=abK b l.length c (λj=>l.getD j 0) x w (λd=>by
  obtain⟨k,o,e,f,hc⟩:=h d
  exact⟨k,o,e,f,λj g=>hc j (by omega)⟩) a
 rwa[abf]at this
def anJ{l:List Int}{v:Value}{m:Nat}{w:World}(h:bB w v l)(a:l.length<=20)(d:m<=20)(n:∀i,i<l.length->(0<=l.getD i 0/\l.getD i 0<m)/\(i≠0->l.getD (i-1) 0<l.getD i 0)) :
 Calls PL 45 #[v,.int .i64 (m:Int)] w (aO (.int .i64 0) w):=by
 obtain⟨b,c,rfl,h⟩:=h;have e:ia l.length (fy m λj=>l.getD j 0)=0:=cz λj p=>by
  obtain⟨⟨s,t⟩,f⟩:=n j p;have hb:bO (l.getD j 0) 0 (m-1)=true:=by
   clear f;generalize l.getD j 0=x at *;simp[bO];omega
  have q:¬(0<j/\l.getD j 0<=l.getD (j-1) 0):=by
   rintro⟨u,y⟩;have:=f (by omega);omega
  show(if bO (l.getD j 0) 0 (m-1) then(if 0<j/\l.getD j 0<=l.getD (j-1) 0 then 7 else 0) else 6)=0;rw[if_pos hb,if_neg q]
 rcases aF l.length with g|g
 ·have:=Vh b 0 0 l.length c m (λj=>l.getD j 0) w a d (by omega) (by omega) (by omega);rwa[e]at this
 ·obtain⟨k,o,rfl,r,hc⟩:=h g;have:=Vh (some ⟨k,o,none⟩) k o l.length c m (λj=>l.getD j 0) w a d (λ_=>r) (λ_=>rfl) (λi hi=>hc i (by omega));rwa[e]at this
def aam(C:CD){l:List Int}{v:Value}{w:World}(hA:C.At w)(h:bB w v l)(B:l.length<=20):Calls PL 46 #[.agg C.val,v] w (aO (.bool (aaD C l)) w):=by
 have D:=aP hA;have m3:=hA.m3;have d:Hid (KB C w (w.alloc (.cells C.val 27))):=aP ⟨au _ _,(aT _ _).alloc (ar _) _⟩;have E:=aP h;obtain⟨b,c,rfl,_⟩:=h;clear hA
 go_enter (fx (by decide) Tryz.func46),Tryz.ntmps46
 go_wp2
 generalize F:w.alloc (.cells C.val 27)=z at d ⊢;clear F;obtain⟨A,p⟩:∃A,A=C.b3:=⟨_,rfl⟩
 have q:=aP p;have r:=aP (E.out.on d.out.low);obtain⟨K,L,M,H,f4,N⟩:=bf d.out.box;rw[<-p]at H;have O:=d.out.lt;clear p;obtain⟨f,s⟩:∃f:Int->Bool,∀x,l.contains x=f x:=⟨_,λ_=>rfl⟩
 have m:=aP s;have HH:Hid (∀x,Calls PL 44 #[.slice b l.length c,.int .i64 x] z λe w'=>e=.returned (.bool (f x))/\z=w'):=aP λx=>by have:=abo x r.out B;rwa[s]at this
 clear s
 go_loop [5] (λv5=>∃i:Nat,i<=C.n3/\v5=.int .i64 i/\(∀k,k<i->(l.contains (C.x3 k).1||l.contains (C.x3 k).2.1)=true)) (λv5=>C.n3-(intOf v5).toNat)
 case atStart=>exact⟨0,aw _,rfl,λk n=>absurd n (aB _)⟩
 case round=>
  obtain⟨i,hi,rfl,o⟩:=hrel;have g:=aP o;clear o;by_cases a:i<C.n3
  ·have P:(i:Int)<C.n3:=by omega
   have hA:=D.out.below d.out.low;have I:=q.out.trans (hA.s3 (by omega));have k0:=hA.Es i a;have k1:=hA.Et i a;have J:=hA.h3;clear hA;subst I;obtain⟨x1,j⟩:∃t,(C.x3 i).1=t:=⟨_,rfl⟩
   obtain⟨x2,u⟩:∃t,(C.x3 i).2.1=t:=⟨_,rfl⟩
   rw[j]at k0;rw[u]at k1;have y:Hid ((l.contains (C.x3 i).1||l.contains (C.x3 i).2.1)=(f x1||f x2)):=aP (by rw[j,u,m.out,m.out]);clear j u;by_cases q1:f x1=true
   ·go_wp2_with (go_at_call 44;refine(HH.out _).mono ?_;rintro e w'⟨rfl,rfl⟩)
    refine⟨⟨i+1,a,by go_num,λk n=>?_⟩,by simp only[intOf];omega⟩;by_cases e:k=i
    ·rw[e,y.out,q1];rfl
    ·exact g.out k (by omega)
   ·have q1:=aV q1;by_cases q2:f x2=true
    ·go_wp2_with (go_at_call 44;refine(HH.out _).mono ?_;rintro e w'⟨rfl,rfl⟩)
     refine⟨⟨i+1,a,by go_num,λk n=>?_⟩,by simp only[intOf];omega⟩;by_cases e:k=i
     ·rw[e,y.out,q2,Bool.or_true]
     ·exact g.out k (by omega)
    ·have q2:=aV q2
     go_wp2_with (go_at_call 44;refine(HH.out _).mono ?_;rintro e w'⟨rfl,rfl⟩)
     go_ret
     refine⟨?_,d.out.low⟩;have:aaD C l=false:=by
      rw[aaD,List.all_eq_false];exact⟨i,List.mem_range.2 a,by rw[y.out,q1,q2];simp⟩
     rw[this];rfl
  ·obtain rfl:i=C.n3:=by omega
   go_wp2
   go_ret
   refine⟨?_,d.out.low⟩;have:aaD C l=true:=by
    rw[aaD,ab];exact λk n=>g.out k (List.mem_range.1 n)
   rw[this];rfl
def abx{W:World}{g m c:Nat}{ty:TypeId}{ad:Addr}{news:List Value}(hg:W.heap[g]?=some (.cells #[] 3 (0,0)))(hl:news.length=m)(a:∀j u,news[j]?=some u->W.cell? (ad.add j)=some u)(o:∀u∈news,u.oneCell'=true)(w:m<=1000) :
 ∃v d,(Builtin.append_ #[42,42] ty #[.slice (some ⟨g,0,none⟩) 0 0,.slice (some ad) m c]).run PL W=.ok v d/\Below W.heap.size W d/\d.ownsRow g 3 1 v m news:=by
 obtain⟨i,hi,p,q,r⟩:=info_parts RE;have f:g<W.heap.size:=getElem?_lt' hg
 rcases aF m with l|l
 ·subst l;have s:news=[]:=List.eq_nil_of_length_eq_zero hl;subst s;have b:=run_append_room (P:=PL) W 42 ty 3 i Rz hi g 0 0 #[] hg ad 0 c [] (by simp) a o (ar _) (by simp);refine⟨_,_,b,⟨rfl,rfl,rfl,by simp,λk n=>?_⟩,by simp,.inr ⟨g,0,#[],rfl,ar _,?_,ar _,by simp[maxLen],rfl,rfl⟩⟩
  ·by_cases e:k=g
   ·subst e;rw[setRow_heap W k #[] _ 3 _ hg,hg];simp
   ·exact setRow_other W g k _ e
  ·rw[setRow_heap W g #[] _ 3 _ hg];simp
 ·have b:=run_append_grow (P:=PL) W 42 ty 3 i (.int .i64 0) Rz hi p ⟨g,0,none⟩ 0 0 [] (by simp) (by simp) ad m c news (by rw[q];omega) a (by omega) (by omega) (by rw[r];exact growslice_fits (by omega) (by omega));have t:=grownCap_ge W m 0 3;have h:grownCap W m 0 3<=maxLen:=grownCap_le_maxLen W m 0 3 (by simp only[maxLen];omega);simp only[Nat.zero_add,Array.empty_append]at b;refine⟨_,_,b,⟨rfl,rfl,rfl,by simp,λk n=>heap_alloc_old W.drew _ n⟩,by omega,.inr ⟨W.heap.size,_,_,rfl,Nat.le_of_lt f,heap_alloc_new W.drew _,t,h,?_,?_⟩⟩
  ·simp only[Array.size_append,List.size_toArray,size_zeroCells,hl];simp[Value.cells];omega
  ·simp only[Array.toList_append,Nat.mul_one];rw[<-hl];exact List.take_left
def abL{l:List Int}{i:Nat}:∀j u,((l.take i).map λx=>Value.int .i64 x)[j]?=some u->j<i/\j<l.length/\u=.int .i64 (l.getD j 0):=by
 intro j u h;rw[ag,List.getElem?_take]at h
 split at h
 ·rename_i a
  cases hl:l[j]? with
  |none=>rw[hl]at h;cases h
  |some x=>
   rw[hl]at h;have:=(List.getElem?_eq_some_iff.1 hl).1;refine⟨a,this,?_⟩;rw[ac,hl];exact(Option.some.inj h).symm
 ·cases h
def abM{l:List Int}{i:Nat}:∀j u,((l.drop i).map λx=>Value.int .i64 x)[j]?=some u->i+j<l.length/\u=.int .i64 (l.getD (i+j) 0):=by
 intro j u h;rw[ag,List.getElem?_drop]at h
 cases hl:l[i+j]? with
 |none=>rw[hl]at h;cases h
 |some x=>
  rw[hl]at h;have:=(List.getElem?_eq_some_iff.1 hl).1;refine⟨this,?_⟩;rw[ac,hl];exact(Option.some.inj h).symm
def anK(w:World)(l:List Int)(i:Nat)(j:Nat)(vs:Nat->Value)(W:World):Prop:=
 (j=0->∃g,vs 0=.slice (some ⟨g,0,none⟩) 0 0/\w.heap.size<=g/\W.heap[g]?=some (.cells #[] 3 (0,0)))/\
 (j=4->W.ownsRow w.heap.size 3 1 (vs 4) i ((l.take i).map λx=>.int .i64 x))
def abg{W b:World}{base n:Nat}{v:Value}{xs:List Value}(h:W.ownsRow base 3 1 v n xs)(c:Below W.heap.size W b):b.ownsRow base 3 1 v n xs:=by
 obtain⟨d,h⟩:=h;refine⟨d,?_⟩
 rcases h with h|⟨g,cap,a,e,hb,hg,f,i,j,k⟩
 ·exact .inl h
 ·exact .inr ⟨g,cap,a,e,hb,(c.block _ (getElem?_lt' hg)).trans hg,f,i,j,k⟩
def abk(l:List Int)(i:Nat):l.take i++l.drop (i+1)=l.eraseIdx i:=by
 induction l generalizing i with
 |nil=>simp
 |cons x l a=>
  cases i with
  |zero=>simp
  |succ i=>simp[a]
def aby{l:List Int}{v:Value}{i:Nat}{w:World}(h:KD w v l)(hi:i<l.length)(hl:l.length<=20):Calls PL 47 #[v,.int .i64 (i:Int)] w λe w'=>∃u,e=.returned u/\tw w' w.heap.size u (l.eraseIdx i)/\Below w.heap.size w w':=by
 obtain⟨h,n⟩:=h;obtain⟨b,c,rfl,h⟩:=h;obtain⟨k,o,rfl,E,hc⟩:=h (by omega);have F:=aP hc;have K:l.length<=c:=n;clear hc n h;have c1:¬((c:Int)<i):=by omega
 have U:(i:Int)+1<=l.length:=by omega
 go_enter (fx (by decide) Tryz.func47),Tryz.ntmps47
 go_upto_region 1 with fail
 refine wp_region_noPanic ?_;refine cT 9 (λW=>Below w.heap.size w W) (λW s=>Below W.heap.size W s) (λj=>j != 0&&j != 4) (anK w l i) rfl (by kernel_rfl) (by kernel_rfl)
  (λj vs W s d h=>⟨λe=>(h.1 e).imp λg hg=>⟨hg.1,hg.2.1,(d.block _ (getElem?_lt' hg.2.2)).trans hg.2.2⟩,λe=>abg (h.2 e) d⟩)
  (λj o V vs X W H hd h=>⟨λe=>?_,λe=>?_⟩) ?_ ?_
 ·subst e;rw[<-H];exact h.1 rfl
 ·subst e;rw[<-H];exact h.2 rfl
 ·exact(aT _ _).drew
 ·apply eH
  case hE=>rfl
  case hb=>intro vs;simp only[a5,ai,ao,ap];rfl
  case h=>
   intro vs W a hd
   go_simp
   have d:=(aT W.heap.size W).alloc (ar _) (.cells #[] 3);refine⟨Below.on a d,d,⟨λ_=>⟨W.heap.size,by simp[upd],a.size,au W _⟩,λe=>absurd e (by decide)⟩⟩
  iterate 3 (
   apply aY
   case hE=>rfl
   case h=>
    intro vs W a hd;have t:i<=c:=by omega
    go_simp
    try rw[if_pos t]
    first|exact⟨rfl,aT _ _⟩|exact⟨rfl,a⟩|exact⟨rfl,a,aT _ _⟩
   case hb=>intro vs;simp only[a5,ai,ao,ap];rfl)
  apply eH
  case hE=>rfl
  case hb=>intro vs;simp only[a5,ai,ao,ap];rfl
  case h=>
   intro vs W a hd;obtain⟨g,hg,L,y⟩:=(hd ⟨0,.data⟩ (cH.2 ⟨by simp,rfl⟩) rfl).1 rfl
   obtain⟨v,s,M,d,z⟩:=abx (W:=W) (g:=g) (m:=i) (c:=c) (ty:=42) (ad:=⟨k,o,none⟩) (news:=(l.take i).map λx=>.int .i64 x) y (by simp;omega) (λj u f=>by
    obtain⟨q,I,rfl⟩:=abL j u f;show W.cell? ((⟨k,o,none⟩:Addr).add j)=_;rw[show(⟨k,o,none⟩:Addr).add j=⟨k,o+j,none⟩ by simp[Addr.add],a.cell (p:=⟨k,o+j,none⟩) E]
    exact F.out j (by omega)) (λu f=>by
    obtain⟨x,_,rfl⟩:=List.mem_map.1 f
    rfl) (by omega)
   unfold fC;rw[if_pos (by rfl)];unfold execOp;simp only[resolve,invoke,builtin,Sem.run_bind,Sem.run_pure,Result.andThen_ok,List.map_toArray,List.map_cons,List.map_nil];show qf PL _ (((Builtin.append_ #[42,42] 42 #[vs 0,.slice (some ⟨k,o,none⟩) i c]).run PL W).andThen _);rw[hg,M];refine⟨Below.on a d,d,λe=>absurd e (by decide),λ_=>?_⟩;rw[show upd vs (0+1+1+1+1) v 4=v by simp[upd]];obtain⟨a0,a1⟩:=z
   rcases a1 with⟨a2,a3⟩|⟨N,cap,A,a2,a3,a4⟩
   ·exact⟨a0,.inl ⟨a2,a3⟩⟩
   ·exact⟨a0,.inr ⟨N,cap,A,a2,aI L a3,a4⟩⟩
  iterate 3 (
   apply aY
   case hE=>rfl
   case h=>
    intro vs W a hd
    go_simp
    first|exact⟨rfl,aT _ _⟩|exact⟨rfl,a⟩|exact⟨rfl,a,aT _ _⟩
   case hb=>intro vs;simp only[a5,ai,ao,ap];rfl)
  apply aY
  case hE=>rfl
  case h=>
   intro vs W a hd
   go_simp
   have e1:IntKind.i64.wrap ((i:Int)+1)=((i+1:Nat):Int):=IntWalk.i64_in _ (by omega);rw[e1,if_pos ⟨by omega,by omega⟩,Int.toNat_natCast]
   first|exact⟨rfl,aT _ _⟩|exact⟨rfl,a⟩|exact⟨rfl,a,aT _ _⟩
  case hb=>intro vs;simp only[a5,ai,ao,ap];rfl
  refine cP λvs W a hd=>?_;have J:=(hd 4 (by omega) rfl).2 rfl;obtain⟨r,B,C⟩:∃r:Addr,(if c=i+1 then some (⟨k,o,none⟩:Addr) else some ⟨k,o+(i+1),none⟩)=some r/\∀j,i+1+j<l.length->W.cell? (r.add j)=some (.int .i64 (l.getD (i+1+j) 0)):=by
   by_cases e:c=i+1
   ·exact⟨_,if_pos e,λj O=>by omega⟩
   ·refine⟨_,if_neg e,λj O=>?_⟩;rw[show(⟨k,o+(i+1),none⟩:Addr).add j=⟨k,o+(i+1)+j,none⟩ by simp[Addr.add],a.cell (p:=⟨k,o+(i+1)+j,none⟩) E,show o+(i+1)+j=o+(i+1+j) by omega];exact F.out (i+1+j) (by omega)
  rw[B];obtain⟨P,Q,R,S,T⟩:=info_parts RE
  refine wpList_append_own _ rfl (.tmp 9) (.tmp 13) 42 rfl w.heap.size 3 P (.int .i64 0) 1 8 Rz Q R S T rfl (by decide) (vs 4) i _ rfl J r (l.length-(i+1)) (c-(i+1)) ((l.drop (i+1)).map λx=>.int .i64 x) rfl (by simp) (λj u f=>by
   obtain⟨q,rfl⟩:=abM j u f
   exact C j q) (λu f=>by
   obtain⟨x,_,rfl⟩:=List.mem_map.1 f
   rfl) (by simp only[maxLen];omega) (by omega) a.size λv' w' q I _=>?_
  have D:=a.grown I a.size (cZ J);have z:tw w' w.heap.size v' (l.eraseIdx i):=by
   unfold tw;rw[<-abk,List.map_append,List.length_append,List.length_take,List.length_drop,Nat.min_eq_left (by omega)];exact q
  go_wp2
  refine NoPanic.normal ?_
  go_wp2
  refine bodyPost_ret (v:=v') ?_ rfl ⟨_,rfl,z,D⟩;simp[results,Tryz.results47,go_sem]
def Q2(f g:Nat->Int)(n m:Nat):Nat->Nat->Bool
 |0,_=>false
 |k+1,q=>if n<=q\/m<=q then false else if f q≠g q then decide (f q<g q) else Q2 f g n m k (q+1)
def abl(a b:List Int):∀k q,aaY a b k q=Q2 (λj=>a.getD j 0) (λj=>b.getD j 0) a.length b.length k q
 |0,_=>rfl
 |k+1,q=>by rw[aaY,Q2,abl a b k (q+1)]
def acn(a b:Value)(n m:Nat)(f g:Nat->Int)(w:World)(i:Reads w a n 1 λj=>.int .i64 (f j))(hb:Reads w b m 1 λj=>.int .i64 (g j))(D:n<=6)(F:m<=6):Calls PL 48 #[a,b] w (aO (.bool (Q2 f g n m 6 0)) w):=by
 obtain⟨H,I,rfl,i⟩:=i;obtain⟨J,K,rfl,hb⟩:=hb;have A:=aP i;have B:=aP hb;clear i hb
 go_enter (fx (by decide) Tryz.func48),Tryz.ntmps48
 go_wp2
 go_loopw [5] (λv wr=>∃q:Nat,q<=6/\q<=n/\q<=m/\v=.int .i64 q/\Q2 f g n m 6 0=Q2 f g n m (6-q) q/\Below w.heap.size w wr) (λv _=>6-(intOf v).toNat)
 case atStart=>exact⟨0,aw _,aw _,aw _,rfl,rfl,aT _ _⟩
 case round=>
  obtain⟨q,L,s,t,rfl,l,e⟩:=hrel;have E:=aP l;have c:=aP e;clear l e;by_cases u:q<n
  ·have M:(q:Int)<n:=by omega
   by_cases x:q<m
   ·have N:(q:Int)<m:=by omega
    obtain⟨k,o,rfl,y,hc⟩:=A.out (by omega);have a0:w.cell? ⟨k,o+q,none⟩=some (.int .i64 (f q)):=hc q (by omega);obtain⟨k',r,rfl,z,h⟩:=B.out (by omega);have b0:w.cell? ⟨k',r+q,none⟩=some (.int .i64 (g q)):=h q (by omega);have a1:=(c.out.cell (p:=⟨k,o+q,none⟩) y).trans a0;have O:=(c.out.cell (p:=⟨k',r+q,none⟩) z).trans b0;clear hc h a0 b0;have es:6-q=(6-(q+1))+1:=by omega
    by_cases d:f q=g q
    ·have C:(f q != g q)=false:=by simp[d]
     have Z:=aP d;clear d
     go_wp2
     go_quiet (fail)
     go_wp2
     refine⟨⟨q+1,by omega,u,x,by go_num,?_,below_drewN c.out _⟩,by simp only[intOf];omega⟩;rw[E.out,es,Q2,if_neg (by omega),if_neg (by simp[Z.out])]
    ·have C:(f q != g q)=true:=by simp[d]
     have Z:=aP d;clear d;by_cases hy:f q<g q
     all_goals
      have Y:=aP hy
      go_wp2
      go_quiet (fail)
      go_wp2
      go_quiet (fail)
      go_wp2
      go_ret
      refine⟨?_,below_drewN (below_drewN c.out _) _⟩;rw[E.out,es,Q2,if_neg (by omega),if_pos Z.out];simp[Y.out]
   ·obtain rfl:q=m:=by omega
    go_wp2
    go_ret
    refine⟨?_,c.out⟩;have:Q2 f g n q (6-q) q=false:=by
     cases 6-q with
     |zero=>rfl
     |succ k=>rw[Q2,if_pos (by omega)]
    rw[E.out,this];rfl
  ·obtain rfl:q=n:=by omega
   go_wp2
   go_ret
   refine⟨?_,c.out⟩;have:Q2 f g q m (6-q) q=false:=by
    cases 6-q with
    |zero=>rfl
    |succ k=>rw[Q2,if_pos (by omega)]
   rw[E.out,this];rfl
def abN{l m:List Int}{a b:Value}{w:World}(c:bB w a l)(hb:bB w b m)(d:l.length<=6)(e:m.length<=6):Calls PL 48 #[a,b] w (aO (.bool (aaY l m 6 0)) w):=by
 rw[abl];exact acn a b _ _ _ _ w c hb d e
def abO:((aa 256).all λq=>(aa 6).all λj=>bits BinOp.and IntKind.u8 ((q:Int) / 2 ^ j) 1==(if zV q j then 1 else 0))=true:=by decide +kernel
def aco(q:Nat)(a:q<256)(j:Nat)(b:j<6):bits BinOp.and IntKind.u8 ((q:Int) / 2 ^ j) 1=if zV q j then 1 else 0:=by
 have:=abO;simp only[ab,List.mem_range,beq_iff_eq]at this;exact this q a j b
def abh(S:∀w,Calls PL 19 #[] w (aO (.bool true) w))(C:CD)(b:Int)(w:World)(h:C.Mem w)(hb:0<=b/\b<=255) :
 Calls PL 9 #[.agg C.val,.int .u8 b] w (aO (.bool true) w):=by
 have HM:Hid (∀W,Below w.heap.size w W->C.Mem W):=aP λW d=>h.below d;have N:=aP (show KB C w (w.alloc (.cells C.val 27)) from⟨au _ _,(aT _ _).alloc (ar _) _⟩);have HW:=aP S;have HN:=aP hb;clear h S hb;by_cases z:C.LR=true
 case neg=>
  have T:C.LR=false:=by simpa using z
  have HG:Hid (∀W,C.Mem W->Calls PL 33 #[.agg C.val] W (aO (.bool false) W)):=aP λW A=>by have:=aaG C W A;rwa[T]at this
  clear z T
  go_enter (fx (by decide) Tryz.func9),Tryz.ntmps9
  obtain⟨n,k,r,x,f4,y⟩:=bf N.out.box
  go_wp2_with (first
   |(go_at_call 33;refine(HG.out _ (HM.out _ N.out.low)).mono ?_;rintro e w1⟨rfl,U⟩;have V:=aP (N.out.on U);clear U)
   |(go_at_call 19;refine(HW.out _).mono ?_;rintro e w2⟨rfl,X⟩;have K2:=aP (V.out.on X);clear X))
  go_ret
  exact⟨rfl,K2.out.low⟩
 have Y:Hid (C.small=true/\C.cx=0):=aP (by simpa[CD.LR]using z);have O:Hid (∀W,Below w.heap.size w W->C.At W):=aP λW d=>CD.At.Ri (HM.out W d) Y.out.1;have HG:Hid (∀W,C.Mem W->Calls PL 33 #[.agg C.val] W (aO (.bool true) W)):=aP λW A=>by have:=aaG C W A;rwa[z]at this
 obtain⟨p,Z⟩:∃p:Nat,C.p=p:=⟨C.p.toNat,by have:=cK (ck Y.out.2 0 (by omega));omega⟩
 have hp6:p<=6:=by have:=cK (ck Y.out.2 0 (by omega));omega
 obtain⟨s,hs,P,I,Pb,J,K⟩:=ac1 hp6 ⟨λi hi=>aaF Y.out.2 Z hi⟩;obtain⟨l,hl⟩:∃l,l=pJ s 6:=⟨_,rfl⟩
 rw[<-hl]at P I Pb J K;have hl6:l.length<=6:=by rw[hl];exact qj s 6
 have HL:Hid (∀W,C.At W->Calls PL 31 #[.agg C.val] W λe w'=>∃b c,e=.returned (.tuple #[.slice b l.length c,.int .i64 0])/\KD w' (.slice b l.length c) l/\Below W.heap.size W w'):=aP λW A=>by
  refine(aas C W A Y.out.2).mono ?_;rintro e w'⟨v,rfl,Q,h2⟩;rw[show C.p.toNat=p by rw[Z];rfl,P]at Q;have h3:=Q;obtain⟨⟨b,c,rfl,_⟩,_⟩:=h3;exact⟨b,c,rfl,Q,h2⟩
 have HAs:Hid (∀W v,bB W v l->Calls PL 45 #[v,.int .i64 C.p] W (aO (.int .i64 0) W)):=aP λW v hv=>by rw[Z];exact anJ hv (by omega) (by omega) J
 have HCv:Hid (∀W v,C.At W->bB W v l->Calls PL 46 #[.agg C.val,v] W (aO (.bool true) W)):=aP λW v A hv=>by have:=aam C A hv (by omega);rwa[I]at this
 have HLv:Hid (∀q,q<l.length->∀W v,C.At W->bB W v (l.eraseIdx q)->Calls PL 46 #[.agg C.val,v] W (aO (.bool false) W)):=aP λq hq W v A hv=>by
  have:=aam C A hv (by have:=List.length_eraseIdx_le l q;omega);rwa[Pb q hq]at this
 have HLe:=aP K;have HP:=aP Z;clear z hs P I Pb J K hl Z
 go_enter (fx (by decide) Tryz.func9),Tryz.ntmps9
 obtain⟨n,k,r,x,f4,y⟩:=bf N.out.box
 go_upto_region 6 with(first
  |(go_at_call 33;refine(HG.out _ (HM.out _ N.out.low)).mono ?_;rintro e w1⟨rfl,U⟩;have V:=aP (N.out.on U);clear U;clear n k r x f4 y;obtain⟨n,k,r,x,f4,y⟩:=bf V.out.box)
  |(go_at_call 31;refine(HL.out _ (O.out _ V.out.low)).mono ?_;rintro e w2⟨bb,cc,rfl,hR2,X⟩;have K2:=aP (V.out.on X);have R2:=aP hR2;clear X hR2;clear n k r x f4 y;obtain⟨n,k,r,x,f4,y⟩:=bf K2.out.box)
  |(go_at_call 45;refine(HAs.out _ _ R2.out.1).mono ?_;rintro e w3⟨rfl,qi⟩;have K3:=aP (K2.out.on qi);have R3:=aP (R2.out.on qi);clear qi;clear n k r x f4 y;obtain⟨n,k,r,x,f4,y⟩:=bf K3.out.box)
  |(go_at_call 46;refine(HCv.out _ _ (O.out _ K3.out.low) R3.out.1).mono ?_;rintro e w4⟨rfl,L⟩;have K4:=aP (K3.out.on L);have R4:=aP (R3.out.on L);clear L;clear n k r x f4 y))
 go_wp2
 go_loopw [7] (λv7 wr=>∃q:Nat,q<=l.length/\v7=.int .i64 q/\KB C w wr/\KD wr (.slice bb l.length cc) l) (λv7 _=>l.length-(intOf v7).toNat)
 case atStart=>exact⟨0,aw _,rfl,K4.out,R4.out⟩
 case round=>
  obtain⟨q,hq,rfl,hK,hR⟩:=hrel;have KQ:=aP hK;have RQ:=aP hR;clear hK hR;by_cases aH:q<l.length
  ·have i2:(q:Int)<l.length:=by omega
   go_upto_region 9 with fail
   refine wp_region_noPanic ?_;refine ig (λW=>KB C w W/\KD W (.slice bb l.length cc) l) (λW W'=>Below W.heap.size W W') (λj=>j != 3) (λj vs W=>j=3->bB W (vs 3) (l.eraseIdx q)) rfl (by kernel_rfl)
    (λj vs W W' d h e=>(h e).on d) (λj o ho vs eX W he hd h e=>by subst e;rw[<-he];exact h rfl) ?_ ?_
   ·exact⟨KQ.out.on (aT _ _).drew,RQ.out.on (aT _ _).drew⟩
   ·iterate 3 (
     apply aY
     case hE=>rfl
     case h=>
      intro vs W g hd;obtain⟨n,k,r,x,f4,y⟩:=bf g.1.box
      go_simp
      first|exact⟨rfl,aT _ _⟩|exact⟨rfl,g⟩|exact⟨rfl,g,aT _ _⟩
     case hb=>intro vs;simp only[a5,ai,ao,ap];rfl)
    apply eH
    case hE=>rfl
    case hb=>intro vs;simp only[a5,ai,ao,ap];rfl
    case h=>
     intro vs W g hd
     go_simp
     refine(aby g.2 aH (by omega)).mono ?_;rintro e W'⟨u,rfl,E,d⟩;refine⟨u,rfl,⟨g.1.on d,g.2.on d⟩,d,?_⟩;rw[show upd vs 3 u 3=u by simp[upd]];exact E.reads
    apply aY
    case hE=>rfl
    case h=>
     intro vs W g hd;have hv:=(hd ⟨3,.data⟩ (cH.2 ⟨by simp,rfl⟩) rfl) rfl
     go_simp
     refine(HLv.out q aH _ _ (O.out _ g.1.low) hv).mono ?_;rintro e W'⟨rfl,d⟩;exact⟨_,rfl,rfl,⟨g.1.on d,g.2.on d⟩,d⟩
    case hb=>intro vs;simp only[a5,ai,ao,ap];rfl
    refine cP λvs W g hd=>?_;refine NoPanic.normal ?_
    go_wp2
    refine⟨⟨q+1,aH,by go_num,g.1,g.2⟩,by simp only[intOf];omega⟩
  ·obtain rfl:q=l.length:=by omega
   obtain⟨W1,rfl⟩:∃W:World,W=wr:=⟨_,rfl⟩
   obtain⟨t,ht,Q6⟩:∃t:Nat,b=t/\t<256:=⟨b.toNat,by have:=HN.out;omega,by have:=HN.out;omega⟩
   subst ht
   go_wp2
   go_loopw [8,9] (λv8 v9 wr=>∃j:Nat,j<=p/\v9=.int .i64 j/\tw wr W1.heap.size v8 (pJ t j)/\Below W1.heap.size W1 wr) (λ_ v9 _=>p-(intOf v9).toNat)
   case atStart=>exact⟨0,aw _,rfl,⟨rfl,.inl ⟨rfl,rfl⟩⟩,aT _ _⟩
   case round=>
    obtain⟨j,hj,rfl,E,d⟩:=hrel;have HO:=aP E;have wC:=aP d;have KJ:=aP (KQ.out.on d);have RJ:=aP (RQ.out.on d);have YN:=d.size;clear E d;obtain⟨n,k,r,x,f4,y⟩:=bf KJ.out.box;have hz:=KJ.out.lt;rw[HP.out]at k;by_cases hlj:j<p
    ·have i3:(j:Int)<p:=by omega
     have i4:¬((j:Int)<0):=by omega
     have RI:=aco t Q6 j (by omega);by_cases R:zV t j=true
     ·rw[if_pos R]at RI;have M:=aP R;clear R;have Tl:=qj t j;have fW:=wC.out.size
      go_wp2_with (at_builtin;(refine EY rfl _ _ rfl W1.heap.size _ _ j wr.heap.size rfl (HO.out.alloc _) rfl (cell_one_new _ _ _ 0 _ rfl) (by omega) (by simp;omega) ?_;intro v' w2 fO eP))
      refine⟨⟨j+1,hlj,by go_num,?_,(wC.out.alloc fW _).trans eP⟩,by simp only[intOf];omega⟩;rw[pJ,if_pos M.out];exact fO
     ·rw[if_neg R]at RI;have M:=aP (aV R);clear R
      go_wp2
      refine⟨⟨j+1,hlj,by go_num,?_,wC.out⟩,by simp only[intOf];omega⟩;rw[pJ,if_neg (by simp[M.out])];exact HO.out
    ·obtain rfl:j=p:=by omega
     go_upto_region 17 with fail
     clear n k r x f4 y;obtain⟨n,k,r,x,f4,y⟩:=bf KJ.out.box;have Tl:(pJ t j).length<=6:=aI (qj t j) hp6;obtain⟨m,P⟩:∃m,m=pJ t j:=⟨_,rfl⟩
     have F:=HLe.out t Q6;have E:=HO.out;rw[<-P]at Tl F E;have H:=aP E.abz;have h8:=E.reads;obtain⟨b8,c8,e8,_⟩:=h8;subst e8;have RJ6:=aP RJ.out.1;have B:Hid (∀W,C.At W->bB W (.slice b8 m.length c8) m->Calls PL 46 #[.agg C.val,.slice b8 m.length c8] W (aO (.bool (aaD C m)) W)):=aP λW A hv=>aam C A hv (by omega);clear E P HO;by_cases D:aaD C m=true
     ·have hc2:=F D;rw[D]at B;clear F D;by_cases Q:l.length<m.length
      ·have i4:(l.length:Int)<m.length:=by omega
       go_wp2_with (first
        |(go_at_call 46;refine(B.out _ (O.out _ KJ.out.low) H.out.1).mono ?_;rintro e w5⟨rfl,a⟩;have K5:=aP (KJ.out.on a);clear a)
        |(go_at_call 19;refine(HW.out _).mono ?_;rintro e w6⟨rfl,f⟩;have K6:=aP (K5.out.on f);clear f))
       go_ret
       exact⟨rfl,K6.out.low⟩
      ·obtain⟨h2,h3⟩:m.length=l.length/\aaY m l 6 0=false:=by
        rcases hc2 with h|h
        ·exact absurd h Q
        ·exact h
       have HLs:Hid (∀W,bB W (.slice b8 m.length c8) m->bB W (.slice bb l.length cc) l->Calls PL 48 #[.slice b8 m.length c8,.slice bb l.length cc] W (aO (.bool false) W)):=aP λW h h'=>by have:=abN h h' Tl hl6;rwa[h3]at this
       have i4:¬(l.length:Int)<m.length:=by omega
       have i5:((m.length:Int)==l.length)=true:=by simp[h2]
       clear h2 h3 hc2 Q
       go_wp2_with (first
        |(go_at_call 46;refine(B.out _ (O.out _ KJ.out.low) H.out.1).mono ?_;rintro e w5⟨rfl,a⟩;have K5:=aP (KJ.out.on a);have R5:=aP (H.out.1.on a);have R6:=aP (RJ6.out.on a);clear a)
        |(go_at_call 48;refine(HLs.out _ R5.out R6.out).mono ?_;rintro e w7⟨rfl,hB7⟩;have K7:=aP (K5.out.on hB7);clear hB7)
        |(go_at_call 19;refine(HW.out _).mono ?_;rintro e w6⟨rfl,f⟩;have K6:=aP (K7.out.on f);clear f))
       go_ret
       exact⟨rfl,K6.out.low⟩
     ·rw[aV D]at B;clear F D
      go_wp2_with (first
       |(go_at_call 46;refine(B.out _ (O.out _ KJ.out.low) H.out.1).mono ?_;rintro e w5⟨rfl,a⟩;have K5:=aP (KJ.out.on a);clear a)
       |(go_at_call 19;refine(HW.out _).mono ?_;rintro e w6⟨rfl,f⟩;have K6:=aP (K5.out.on f);clear f))
      go_ret
      exact⟨rfl,K6.out.low⟩
end Go.Proofs
