/- Part of the proof of FieldLevels: see X45. -/
import Derived.Test.YtmkjeaacgibnoaaGreatX32
import Derived.LoopIn
import Derived.LoopNIn
import Derived.OwnWalkIn
import Derived.RangeFuncBound
import Derived.RangeFuncCalls
import Derived.RangeFuncLeaves
import Derived.RangeFuncNested
import Derived.Shelf.Abstract
import Derived.Shelf.RegionOpen
import Derived.TacticsInMore
set_option linter.all false
open List renaming range->aa,range_add->ab,countP_congr->ac,countP_cons->ad,length_nil->ae,length_cons->ag,range_succ->ai,length_append->ao,append_assoc->ap
open Nat renaming le_refl->aq,add_assoc->ar,zero_le->aw,succ_mul->aI
open Go.Region renaming ready->aJ,Ih->aL,fZ->aP,Ig->aT,Kk->a6
open Array renaming getElem?_eq_getElem->a7,all_eq_true'->a8,getElem?_setIfInBounds_ne->a9,replicate->ba
open Option renaming map_some->bb,getD_some->bc
open Go.Code renaming region->bd
namespace Go
section
variable {P:Program}{ops:Array Oper}{C:Bool->World->Prop}{Le:World->World->Prop}{Φ:Bool->Nat->(Nat->Value)->World->Prop}{X:Nat->Nat->Value->Value->Prop}{a:Act}{Q:Exit->Act->World->Prop}
def Cj{m:Nat}(J:tf ops){k:Nat}(hL:Late ops k)(By:k<=ops.size)(hX:∀i j u v,X i j u v->X j i v u)(rL:∀(i:Nat)(o:Oper),ops[i]?=some o->∀vs eX W,vs i=eX i->(∀e∈o.dz,vs e.on=eX e.on)->∀b,Φ b i vs W->Φ b i eX W)
 (aB:∀(i:Nat)(o:Oper),ops[i]?=some o->i<k->∀vs W(D:List Nat)(b:Bool),(i=m->b=false)->C b W->(∀e∈o.dz,e.on∈D)->i∉D->(∀j∈D,j<ops.size)->(∀j∈D,∀o,ops[j]?=some o->∀e∈o.dz,e.on∈D)->(∀j∈D,Φ b j vs W)->(∀j∈D,∀k∈D,j≠k->X j k (vs j) (vs k))->fC P ops (λv d=>C (b||decide (i=m)) d/\(∀j∈D,Φ (b||decide (i=m)) j vs d)/\Φ (b||decide (i=m)) i (upd vs i v) d/\∀j∈D,X j i (vs j) v) o (cS ops vs (aa i) a) W)
 (hQ:∀vs W b,(m<k->b=true)->C b W->(∀i,i<k->Φ b i vs W)->(∀i j,i<k->j<k->i≠j->X i j (vs i) (vs j))->wpList P ops Q (ops.toList.drop k) (cS ops vs (aa k) a) W) :
 ∀(fuel:Nat)(listed:Array Bool)(vs:Nat->Value)(W:World),listed.size=ops.size->(aa ops.size).countP (λi=>!listed.getD i true)=fuel->C (listed.getD m false) W->(∀i∈cO ops listed,Φ (listed.getD m false) i vs W)->(∀i∈cO ops listed,∀j∈cO ops listed,i≠j->X i j (vs i) (vs j))->(∀i∈cO ops listed,∀o,ops[i]?=some o->∀e∈o.dz,e.on∈cO ops listed)->(∀i,k<=i->i<ops.size->listed.getD i true=false)->
  wpAny P .any ops Q fuel listed (cS ops vs (cO ops listed) a) W:=by
 have fin:∀(fuel:Nat)(listed:Array Bool)(vs:Nat->Value)(W:World),listed.size=ops.size->(aa ops.size).countP (λi=>!listed.getD i true)=fuel->(∀i,i<k->listed.getD i true=true)->(∀i,k<=i->i<ops.size->listed.getD i true=false)->C (listed.getD m false) W->(∀i∈cO ops listed,Φ (listed.getD m false) i vs W)->(∀i∈cO ops listed,∀j∈cO ops listed,i≠j->X i j (vs i) (vs j))->wpAny P .any ops Q fuel listed (cS ops vs (cO ops listed) a) W:=by
  intro fuel listed vs W hs hc oh K L z t;have A:∀j,j<ops.size->listed.getD j true=decide (j<k):=λj c=>by
   by_cases h:j<k
   ·rw[oh j h];simp[h]
   ·rw[K j (by omega) c];simp[h]
  have e:cO ops listed=aa k:=by
   unfold cO;have:(aa ops.size).filter (λi=>listed.getD i true)=(aa ops.size).filter (λi=>decide (i<k)):=List.filter_congr λi hi=>A i (List.mem_range.1 hi);rw[this];have e2:aa ops.size=aa k++(aa (ops.size-k)).map (k + ·):=by
    rw[<-ab];congr 1;omega
   rw[e2,List.filter_append,List.filter_eq_self.2 λi hi=>by simpa using List.mem_range.1 hi,List.filter_eq_nil_iff.2 λi hi=>?_,List.append_nil];obtain⟨x,_,rfl⟩:=List.mem_map.1 hi;simp
  have afx:k+fuel=ops.size:=by
   rw[<-hc];have:(aa ops.size).countP (λi=>!listed.getD i true)=(aa ops.size).countP (λi=>decide (¬i<k)):=ac λi hi=>by rw[A i (List.mem_range.1 hi)];simp
   rw[this];have e2:aa ops.size=aa k++(aa (ops.size-k)).map (k + ·):=by
    rw[<-ab];congr 1;omega
   rw[e2,List.countP_append,List.countP_eq_zero.2 λi hi=>?_,List.countP_eq_length.2 λi hi=>?_]
   ·simp;omega
   ·obtain⟨x,_,rfl⟩:=List.mem_map.1 hi;simp
   ·simpa using List.mem_range.1 hi
  rw[e]at z t ⊢;exact yB J hL fuel k listed _ W hs (aq _) afx A (hQ vs W _ (λhmk=>by have B:=oh m hmk;have n:m<listed.size:=(by omega);simp[n]at B⊢;exact B) L (λi hi=>z i (List.mem_range.2 hi)) λi j hi c=>t i (List.mem_range.2 hi) j (List.mem_range.2 c))
 have nil:∀(listed:Array Bool),listed.size=ops.size->aJ .any ops listed=[]->∀i,i<ops.size->listed.getD i true=true:=by
  intro listed hs hr i
  induction i using Nat.strongRecOn with
  |_ i O=>
   intro hi;by_cases hu:listed.getD i true=true
   ·exact hu
   ·have w:i∈aJ .any ops listed:=by
     refine List.mem_filter.2 ⟨List.mem_range.2 hi,?_⟩;have p:ops[i]?=some ops[i]:=a7 hi;have hu':listed.getD i true=false:=by simpa using hu
     simp only[hu',Bool.not_false,Bool.true_and,p,bb,bc,a8];intro e g
     cases hb:Region.binds .any e with
     |false=>rfl
     |true=>
      have aH:=(J.edge i _ p e (cH.2 ⟨g,hb⟩)).1;have:=O e.on aH (by omega);have R:e.on<listed.size:=by omega
      simp[R]at this;simp[R,this]
    rw[hr]at w;cases w
 intro fuel
 induction fuel with
 |zero=>
  intro listed vs W hs hc L z t _ K;refine fin 0 listed vs W hs hc (λi hi=>?_) K L z t;have:=List.countP_eq_zero.1 hc i (List.mem_range.2 (by omega));simpa using this
 |succ fuel O=>
  intro listed vs W hs hc L z t s K;by_cases Rq:∀i,i<k->listed.getD i true=true
  ·exact fin (fuel+1) listed vs W hs hc Rq K L z t
  refine⟨λhr=>absurd (λi hi=>nil listed hs hr i (by omega)) Rq,λi hi=>?_⟩;obtain⟨Gu,Xj⟩:=List.mem_filter.1 hi;have F:=List.mem_range.1 Gu;have p:ops[i]?=some ops[i]:=a7 F;rw[p]at Xj;simp only[Bool.and_eq_true,Bool.not_eq_true',bb,bc,a8]at Xj;obtain⟨I,oh⟩:=Xj;have S:∀e∈ops[i].dz,e.on∈cO ops listed:=λe g=>by
   have:=oh e (cH.1 g).1;have hb:=J.edge i _ p e g;rw[hb.2]at this;have R:e.on<listed.size:=by omega
   simp[R]at this;exact List.mem_filter.2 ⟨List.mem_range.2 (by omega),by simp[R,this]⟩
  have hik:i<k:=by
   rcases Nat.lt_or_ge i k with h|h
   ·exact h
   ·refine absurd (λj c=>?_) Rq;have key:=AM (ops:=ops) (λx=>x∈cO ops listed) (λx T y hy=>?_) 4 (aL ops i) (λy hy=>?_) j (hL.all i _ p h j c)
    ·exact(List.mem_filter.1 key).2
    ·have U:ops[x]?=some ops[x]!:=by
      have:=List.mem_range.1 (List.mem_filter.1 T).1;simp[this]
     unfold aL at hy;rw[U]at hy;obtain⟨e,g,rfl⟩:=List.mem_map.1 hy;exact s x T _ U e (Array.mem_toList_iff.1 g)
    ·unfold aL at hy;rw[p]at hy;obtain⟨e,g,rfl⟩:=List.mem_map.1 hy;exact S e (Array.mem_toList_iff.1 g)
  have ald:i∉cO ops listed:=λc=>by
   have:=(List.mem_filter.1 c).2;rw[I]at this;cases this
  have H:=aB i _ p hik vs W (cO ops listed) (listed.getD m false) (λe=>by subst e;have n:i<listed.size:=(by omega);simp[n]at I ⊢;exact I) L S ald (λj c=>List.mem_range.1 (List.mem_filter.1 c).1) s z t;have next:∀v d,(C (listed.getD m false||decide (i=m)) d/\(∀j∈cO ops listed,Φ (listed.getD m false||decide (i=m)) j vs d)/\Φ (listed.getD m false||decide (i=m)) i (upd vs i v) d/\∀j∈cO ops listed,X j i (vs j) v)->wpAny P .any ops Q fuel (listed.setIfInBounds i true) ((cS ops vs (cO ops listed) a).put ops[i].dst v) d:=by
   rintro v d⟨hC0,V,hv,T⟩;have hC':C ((listed.setIfInBounds i true).getD m false) d:=by
    have e:(listed.setIfInBounds i true).getD m false=(listed.getD m false||decide (i=m)):=by
     by_cases e:i=m
     ·subst e;have n:i<listed.size:=(by omega)
      simp[n]
     ·simp[a9 e,e]
    rw[e];exact hC0
   have e0:(listed.getD m false||decide (i=m))=(listed.setIfInBounds i true).getD m false:=by
    by_cases e:i=m
    ·subst e;have n:i<listed.size:=(by omega)
     simp[n]
    ·simp[a9 e,e]
   rw[e0]at V hv;rw[Rp J p hs I vs v];have w:∀j,j∈cO ops (listed.setIfInBounds i true)->j=i\/j∈cO ops listed:=λj c=>by
    obtain⟨B,n⟩:=List.mem_filter.1 c;by_cases e:j=i
    ·exact .inl e
    ·exact .inr (List.mem_filter.2 ⟨B,by simpa[a9 (Ne.symm e)]using n⟩)
   have Xs:∀j,j∈cO ops listed->j∈cO ops (listed.setIfInBounds i true):=λj c=>by
    obtain⟨B,n⟩:=List.mem_filter.1 c;by_cases e:j=i
    ·subst e;rw[I]at n;cases n
    ·exact List.mem_filter.2 ⟨B,by simpa[a9 (Ne.symm e)]using n⟩
   have M:∀j,j∈cO ops listed->j≠i:=λj c e=>by
    subst e;have:=(List.mem_filter.1 c).2;rw[I]at this;cases this
   refine O _ _ d (by simpa using hs) ?_ hC' (λj c=>?_) (λj c k N Wk=>?_) (λj c o' qx e g=>?_) (λj c hjn=>by have Y:i≠j:=(by omega);simpa[a9 Y]using K j c hjn)
   ·have B:(aa ops.size).countP (λj=>!listed.getD j true)=(aa ops.size).countP (λj=>!(listed.setIfInBounds i true).getD j true)+1:=by
     have key:∀l:List Nat,l.Nodup->i∈l->l.countP (λj=>!listed.getD j true)=l.countP (λj=>!(listed.setIfInBounds i true).getD j true)+1:=by
      intro l hn
      induction l with
      |nil=>intro h;cases h
      |cons k l O=>
       intro h;obtain⟨N,TH⟩:=List.nodup_cons.1 hn;by_cases e:k=i
       ·subst e;have same:l.countP (λj=>!listed.getD j true)=l.countP (λj=>!(listed.setIfInBounds k true).getD j true):=by
         refine ac λj c=>?_;have Y:k≠j:=λe=>N (e▸c);simp[a9 Y]
        have hks:k<listed.size:=by omega
        rw[ad,ad,same,I];simp[hks]
       ·have F:i∈l:=by rcases List.mem_cons.1 h with Z|Z;exact absurd Z.symm e;exact Z
        have Y:i≠k:=λZ=>e Z.symm;rw[ad,ad,O TH F];have:(listed.setIfInBounds i true).getD k true=listed.getD k true:=by simp[a9 Y]
        rw[this];omega
     exact key _ List.nodup_range Gu
    omega
   ·rcases w j c with rfl|q
    ·exact hv
    ·have hjo:ops[j]?=some ops[j]!:=by
      have:=List.mem_range.1 (List.mem_filter.1 q).1;simp[this]
     refine rL j _ hjo vs _ d ?_ (λe g=>?_) _ (V j q)
     ·simp only[upd];rw[if_neg (M j q)]
     ·have:=M _ (s j q _ hjo e g);simp only[upd];rw[if_neg this]
   ·rcases w j c with rfl|q
    ·rcases w k N with rfl|rm
     ·exact absurd rfl Wk
     ·simp only[upd,if_pos,if_neg (M k rm)];exact hX _ _ _ _ (T k rm)
    ·rcases w k N with rfl|rm
     ·simp only[upd,if_pos,if_neg (M j q)];exact T j q
     ·simp only[upd,if_neg (M j q),if_neg (M k rm)];exact t j q k rm Wk
   ·rcases w j c with rfl|q
    ·rw[p]at qx;cases qx;exact Xs _ (S e g)
    ·exact Xs _ (s j q o' qx e g)
  unfold wpOp;simp only[p];unfold fC at H;rw[<-EL (a:=a) J p S vs,<-Nj (a:=a) J p S vs]at H
  split
  ·rename_i hw;rw[if_pos hw]at H;left;unfold Oper.wp;generalize(execOp (cS ops vs (cO ops listed) a).eval ops[i]).run P W=r at H ⊢
   match r,H with
   |.ok (.value v) d,H=>exact next v d H
   |.ok .skip d,H=>exact next undef d H
   |.ok (.enter f args) d,H=>exact Calls.mono H λe W''⟨v,g,N⟩=>by subst g;exact next v W'' N
  ·rename_i hw;rw[if_neg hw]at H;exact next undef W H
section
variable (P:Program)(ops:Array Oper)(m:Nat)(C:Bool->World->Prop)(Le:World->World->Prop)(E:Nat->Bool)(Φ:Bool->Nat->(Nat->Value)->World->Prop)(X:Nat->Nat->Value->Value->Prop)(Q:Exit->Act->World->Prop)
def cr:Nat->List Oper->((Nat->Value)->Act)->Prop
 |i,[],b=>∀vs W c,(m<i->c=true)->C c W->(∀j,j<i->E j=false->Φ c j vs W)->(∀j k,j<i->k<i->j≠k->E j=false->E k=false->X j k (vs j) (vs k))->Q .normal (b vs) W
 |i,o::l,b=>@Bool.rec (λ_=>Prop)
  ((∀vs W(D:List Nat)(c:Bool),(i=m->c=false)->C c W->(∀e∈o.dz,e.on∈D)->i∉D->(∀j∈D,∀o,ops[j]?=some o->∀e∈o.dz,e.on∈D)->(∀j∈D,E j=false->Φ c j vs W)->(∀j∈D,∀k∈D,j≠k->E j=false->E k=false->X j k (vs j) (vs k))->fC P ops (λu d=>C (c||decide (i=m)) d/\(∀j∈D,E j=false->Φ (c||decide (i=m)) j vs d)/\Φ (c||decide (i=m)) i (upd vs i u) d/\∀j∈D,E j=false->X j i (vs j) u) o (b vs) W)/\cr (i+1) l λvs=>(b vs).put o.dst (vs i))
  (∃v,(∀vs W c,C c W->(∀e∈o.dz,E e.on=false->Φ c e.on vs W)->fC P ops (λu d=>u=v/\C c d/\Le W d) o (b vs) W)/\cr (i+1) l λvs=>(b vs).put o.dst v) (E i)
end
def nv{E:Nat->Bool}{m:Nat}{i:Nat}{b:(Nat->Value)->Act}(h:∀vs W c,(m<i->c=true)->C c W->(∀j,j<i->E j=false->Φ c j vs W)->(∀j k,j<i->k<i->j≠k->E j=false->E k=false->X j k (vs j) (vs k))->Q .normal (b vs) W):cr P ops m C Le E Φ X Q i [] b:=h
def Ck{E:Nat->Bool}{m:Nat}{i:Nat}{o:Oper}{l:List Oper}{b:(Nat->Value)->Act}(v:Value)(hE:E i=true)
 (h:∀vs W c,C c W->(∀e∈o.dz,E e.on=false->Φ c e.on vs W)->fC P ops (λu d=>u=v/\C c d/\Le W d) o (b vs) W) (f:cr P ops m C Le E Φ X Q (i+1) l λvs=>(b vs).put o.dst v):cr P ops m C Le E Φ X Q i (o::l) b:=by
 rw[cr,hE];exact⟨v,h,f⟩
def Cl{E:Nat->Bool}{m:Nat}{i:Nat}{o:Oper}{l:List Oper}{b:(Nat->Value)->Act}(hE:E i=false)
 (h:∀vs W(D:List Nat)(c:Bool),(i=m->c=false)->C c W->(∀e∈o.dz,e.on∈D)->i∉D->(∀j∈D,∀o,ops[j]?=some o->∀e∈o.dz,e.on∈D)->(∀j∈D,E j=false->Φ c j vs W)->(∀j∈D,∀k∈D,j≠k->E j=false->E k=false->X j k (vs j) (vs k))->fC P ops (λu d=>C (c||decide (i=m)) d/\(∀j∈D,E j=false->Φ (c||decide (i=m)) j vs d)/\Φ (c||decide (i=m)) i (upd vs i u) d/\∀j∈D,E j=false->X j i (vs j) u) o (b vs) W) (f:cr P ops m C Le E Φ X Q (i+1) l λvs=>(b vs).put o.dst (vs i)):cr P ops m C Le E Φ X Q i (o::l) b:=by
 rw[cr,hE];exact⟨h,f⟩
def iK{E:Nat->Bool}{m:Nat}{i:Nat}{o:Oper}{l:List Oper}{b b':(Nat->Value)->Act}(v:Value)(hE:E i=true)
 (h:∀vs W c,C c W->(∀e∈o.dz,E e.on=false->Φ c e.on vs W)->fC P ops (λu d=>u=v/\C c d/\Le W d) o (b vs) W) (hb:∀vs,(b vs).put o.dst v=b' vs) (f:cr P ops m C Le E Φ X Q (i+1) l b'):cr P ops m C Le E Φ X Q i (o::l) b:=
 Ck v hE h ((funext hb:(λvs=>(b vs).put o.dst v)=b')▸f)
def ey{E:Nat->Bool}{m:Nat}{i:Nat}{o:Oper}{l:List Oper}{b b':(Nat->Value)->Act}(hE:E i=false)
 (h:∀vs W(D:List Nat)(c:Bool),(i=m->c=false)->C c W->(∀e∈o.dz,e.on∈D)->i∉D->(∀j∈D,∀o,ops[j]?=some o->∀e∈o.dz,e.on∈D)->(∀j∈D,E j=false->Φ c j vs W)->(∀j∈D,∀k∈D,j≠k->E j=false->E k=false->X j k (vs j) (vs k))->fC P ops (λu d=>C (c||decide (i=m)) d/\(∀j∈D,E j=false->Φ (c||decide (i=m)) j vs d)/\Φ (c||decide (i=m)) i (upd vs i u) d/\∀j∈D,E j=false->X j i (vs j) u) o (b vs) W) (hb:∀vs,(b vs).put o.dst (vs i)=b' vs) (f:cr P ops m C Le E Φ X Q (i+1) l b'):cr P ops m C Le E Φ X Q i (o::l) b:=
 Cl hE h ((funext hb:(λvs=>(b vs).put o.dst (vs i))=b')▸f)
def ny{E:Nat->Bool}{m:Nat}(H:E m=false)(I:∀b i vs W r,Le W r->Φ b i vs W->Φ b i vs r):∀(l:List Oper)(i:Nat)(b:(Nat->Value)->Act),(∀j,j<l.length->l[j]?=ops[i+j]?)->cr P ops m C Le E Φ X Q i l b->
 ∃V:Nat->Value,(∀(j:Nat)(o:Oper),i<=j->j<i+l.length->ops[j]?=some o->∃y:(Nat->Value)->Act,(∀vs(a0:Act),(∀k,i<=k->E k=true->vs k=V k)->b vs=cS ops vs (aa i) a0->y vs=cS ops vs (aa j) a0)/\
  (∀vs W(D:List Nat)(c:Bool),(j=m->c=false)->C c W->(∀e∈o.dz,e.on∈D)->j∉D->(∀j∈D,∀o,ops[j]?=some o->∀e∈o.dz,e.on∈D)->(∀j∈D,E j=false->Φ c j vs W)->(∀j∈D,∀k∈D,j≠k->E j=false->E k=false->X j k (vs j) (vs k))->fC P ops (λu r=>(E j=true->u=V j)/\C (c||decide (j=m)) r/\(∀k∈D,E k=false->Φ (c||decide (j=m)) k vs r)/\(E j=false->Φ (c||decide (j=m)) j (upd vs j u) r)/\∀k∈D,E k=false->E j=false->X k j (vs k) u) o (y vs) W))/\
  (∀vs W(a0:Act),(∀k,i<=k->E k=true->vs k=V k)->b vs=cS ops vs (aa i) a0->∀c,(m<i+l.length->c=true)->C c W->(∀j,j<i+l.length->E j=false->Φ c j vs W)->(∀j k,j<i+l.length->k<i+l.length->j≠k->E j=false->E k=false->X j k (vs j) (vs k))->Q .normal (cS ops vs (aa (i+l.length)) a0) W)
 |[],i,b,hl,h=>by
  refine⟨λ_=>undef,λj o J z Z=>?_,λvs W a0 _ hb c f d A g=>by rw[ae,Nat.add_zero,<-hb];exact h vs W c (by simpa using f) d A g⟩;simp only[ae]at z;omega
 |o::l,i,b,hl,h=>by
  have hlen:i+(o::l).length=i+1+l.length:=by simp only[ag];omega
  rw[hlen];have K:ops[i]?=some o:=by simpa using(hl 0 (by simp)).symm
  have hd:aP ops i=o.dst:=by simp[aP,K]
  have U:∀j,j<l.length->l[j]?=ops[i+1+j]?:=λj J=>by have:=hl (j+1) (by simp only[ag];omega);simpa[ar,Nat.add_comm 1 j]using this
  cases n:E i with
  |true=>
   rw[cr,n]at h;obtain⟨v,L,M⟩:=h;obtain⟨V,k1,k2⟩:=ny H I l (i+1) _ U M;have step:∀vs(a0:Act),(∀k,i<=k->E k=true->vs k=(λj=>if j=i then v else V j) k)->b vs=cS ops vs (aa i) a0->(b vs).put o.dst v=cS ops vs (aa (i+1)) a0:=λvs a0 hv hb=>by
    rw[ai,uG,<-hb,hd,hv i (aq _) n];simp
   refine⟨λj=>if j=i then v else V j,λj N J z s=>?_,λvs W a0 hv hb c f d A g=>k2 vs W a0 (λk t p=>by rw[hv k (by omega) p];simp only;rw[if_neg (by omega)]) (step vs a0 hv hb) c f d A g⟩;by_cases e:j=i
   ·subst e;rw[K]at s;cases s;refine⟨b,λvs a0 _ hb=>hb,λvs W D c f d B q F hd g=>?_⟩;refine nu ?_ (L vs W c d λe p n=>hd _ (B e p) n);rintro u r⟨O,w,x⟩;rw[decide_eq_false (λe=>by rw[e,H]at n;cases n),Bool.or_false];exact⟨λ_=>by simpa using O,w,λk t R=>I _ _ _ _ _ x (hd k t R),λh=>absurd (n.symm.trans h) (by decide),λ_ _ _ h=>absurd (n.symm.trans h) (by decide)⟩
   ·obtain⟨y,S,T⟩:=k1 j N (by omega) z s;refine⟨y,λvs a0 hv hb=>S vs a0 (λk t p=>by rw[hv k (by omega) p];simp only;rw[if_neg (by omega)]) (step vs a0 hv hb),λvs W D c f d B q F hd g=>?_⟩;have:=T vs W D c f d B q F hd g;simpa only[if_neg e]using this
  |false=>
   rw[cr,n]at h;obtain⟨L,M⟩:=h;obtain⟨V,k1,k2⟩:=ny H I l (i+1) _ U M;have step:∀vs(a0:Act),b vs=cS ops vs (aa i) a0->(b vs).put o.dst (vs i)=cS ops vs (aa (i+1)) a0:=λvs a0 hb=>by
    rw[ai,uG,<-hb,hd]
   refine⟨V,λj N J z s=>?_,λvs W a0 hv hb c f d A g=>k2 vs W a0 (λk t p=>hv k (by omega) p) (step vs a0 hb) c f d A g⟩;by_cases e:j=i
   ·subst e;rw[K]at s;cases s;refine⟨b,λvs a0 _ hb=>hb,λvs W D c f d B q F hd g=>?_⟩;refine nu ?_ (L vs W D c f d B q F hd g);rintro u r⟨w,x,O,Y⟩;exact⟨λh=>absurd (n.symm.trans h) (by decide),w,x,λ_=>O,λk t R _=>Y k t R⟩
   ·obtain⟨y,S,T⟩:=k1 j N (by omega) z s;exact⟨y,λvs a0 hv hb=>S vs a0 (λk t p=>hv k (by omega) p) (step vs a0 hb),T⟩
def mA(k:Nat){id:Nat}{w:World}(m:Nat)(C:Bool->World->Prop)(Le:World->World->Prop)(E:Nat->Bool)(Φ:Bool->Nat->(Nat->Value)->World->Prop)(X:Nat->Nat->Value->Value->Prop)(hX:∀i j u v,X i j u v->X j i v u)(hm:P.follows .mixedOrders=true)(hB:aT ops=true)(YZ:k<=ops.size/\Late ops k)
 (Xk:E m=false) (aF:∀b i vs W r,Le W r->Φ b i vs W->Φ b i vs r) (s:∀(i:Nat)(o:Oper),ops[i]?=some o->∀vs t W,vs i=t i->(∀e∈o.dz,vs e.on=t e.on)->∀b,Φ b i vs W->Φ b i t W) (x:C false w.drew)
 (H:cr P ops m C Le E Φ X (λ_ b W=>wpList P ops Q (ops.toList.drop k) b W) 0 (ops.toList.take k) λ_=>a):(bd id ops true).wp P Q a w:=by
 have y:=Ro hB;obtain⟨By,hL⟩:=YZ;obtain⟨V,S,T⟩:=ny Xk aF (ops.toList.take k) 0 _ (λj f=>by simp at f;simp[List.getElem?_take_of_lt (show j<k by omega)]) H;have FH:0+(ops.toList.take k).length=k:=by simp;omega
 rw[FH]at S T;refine wp_region_any hm ?_;have hd:cO ops (ba ops.size false)=[]:=by
  refine List.filter_eq_nil_iff.2 λi hi=>?_;have:=List.mem_range.1 hi;simp[this]
 have start:=Cj (P:=P) (a:=a) (Q:=Q) (m:=m) (C:=C) (X:=λi j u v=>E i=false->E j=false->X i j u v) (Φ:=λb i vs W=>(E i=true->vs i=V i)/\(∀o,ops[i]?=some o->∀e∈o.dz,E e.on=true->vs e.on=V e.on)/\(E i=false->Φ b i vs W)) y hL By (λi j u v h f hi=>hX _ _ _ _ (h hi f))
  (λi o l vs t W e1 U b h=>⟨λe=>e1▸h.1 e,λo' g e d n=>(by rw[l]at g;cases g;rw[<-U e d];exact h.2.1 o l e d n),λe=>s i o l vs t W e1 U b (h.2.2 e)⟩) (λi o l F vs W D I J x K L M N hd O=>?_) (λvs W I J x Y O=>?_) ops.size (ba ops.size false) (λ_=>undef) w.drew (by simp) (by
   rw[List.countP_eq_length.2]
   ·simp
   ·intro i hi;have:=List.mem_range.1 hi
    simp[this]) (by have e:(ba ops.size false).getD m false=false:=(by rw[Array.getD_eq_getD_getElem?,Array.getElem?_replicate];split<;>rfl);rw[e];exact x) (by rw[hd];intro i hi;cases hi) (by rw[hd];intro i hi;cases hi) (by rw[hd];intro i hi;cases hi) (λi _ hi=>by simp[hi])
 ·rw[hd]at start;exact start
 ·obtain⟨bj,g1,g2⟩:=S i o (aw _) F l;have p:∀k∈D,vR E V vs k=vs k:=λk c=>by
   unfold vR
   split
   ·rename_i h;exact((hd k c).1 h).symm
   ·rfl
  have z:∀e∈o.dz,vR E V vs e.on=vs e.on:=λe d=>p _ (K e d);have hb:=g1 (vR E V vs) a (λk _ d=>by simp[vR,d]) rfl;have A:∀k∈D,∀b W,Φ b k (vR E V vs) W↔Φ b k vs W:=λk c b W=>by
   have g:ops[k]?=some ops[k]!:=by simp[M k c]
   exact⟨s k _ g _ _ W (p k c) (λe d=>p _ (N k c _ g e d)) b,s k _ g _ _ W (p k c).symm (λe d=>(p _ (N k c _ g e d)).symm) b⟩
  have:=g2 (vR E V vs) W D I J x K L N (λk c n=>(A k c _ W).2 ((hd k c).2.2 n)) (λj f k c R q B=>by rw[p j f,p k c];exact O j f k c R q B);rw[hb]at this;refine nu ?_ (Nk y l z this);rintro v r⟨a1,a2,a3,a4,a5⟩;refine⟨a2,λk c=>⟨(hd k c).1,(hd k c).2.1,λn=>(A k c _ r).1 (a3 k c n)⟩,⟨λe=>by simp[upd,a1 e],λo' g e d n=>?_,λe=>?_⟩,λk c B hiE=>by rw[<-p k c];exact a5 k c B hiE⟩
  ·rw[l]at g;cases g;have:=(y.edge i o l e d).1;simp only[upd];rw[if_neg (by omega)];exact(hd _ (K e d)).1 n
  refine s i o l _ _ r (by simp[upd]) (λZ Xo=>?_) _ (a4 e);have:=(y.edge i o l Z Xo).1;simp only[upd];rw[if_neg (by omega),if_neg (by omega),z Z Xo]
 ·have hv:∀j,j<k->vR E V vs j=vs j:=λj f=>by
   unfold vR
   split
   ·rename_i h;exact((Y j f).1 h).symm
   ·rfl
  rw[<-yA (vs:=vR E V vs) _ _ λj f=>hv j (List.mem_range.1 f)];refine T (vR E V vs) W a (λk _ d=>by simp[vR,d]) rfl I J x (λj f n=>?_) (λj k f c R q B=>by rw[hv j f,hv k c];exact O j k f c R q B);have g:ops[j]?=some ops[j]!:=by have:j<ops.size:=(by omega);simp[this]
  refine s j _ g vs _ W (hv j f).symm (λe d=>(hv e.on (by have:=(y.edge j _ g e d).1;omega)).symm) _ ((Y j f).2.2 n)
def iL(k:Nat){id:Nat}{w:World}(m:Nat)(C:Bool->World->Prop)(Le:World->World->Prop)(E:Nat->Bool)(Φ:Bool->Nat->(Nat->Value)->World->Prop)(X:Nat->Nat->Value->Value->Prop)(f:∀i j u v,X i j u v->X j i v u)(g:P.follows .mixedOrders=true)(h:aT ops=true)(l:a6 ops k=true)
 (n:E m=false) (p:∀b i vs W d,Le W d->Φ b i vs W->Φ b i vs d) (q:∀(i:Nat)(o:Oper),ops[i]?=some o->∀vs c W,vs i=c i->(∀e∈o.dz,vs e.on=c e.on)->∀b,Φ b i vs W->Φ b i c W) (r:C false w.drew)
 (H:cr P ops m C Le E Φ X (λ_ b W=>wpList P ops Q (ops.toList.drop k) b W) 0 (ops.toList.take k) λ_=>a):(bd id ops true).wp P Q a w:=
 mA k m C Le E Φ X f g h (Kl l) n p q r H
section
variable {C:World->Prop}{Φ:Nat->(Nat->Value)->World->Prop}
def uH{E:Nat->Bool}{n:Nat}(p:∀i vs W f,Le W f->Φ i vs W->Φ i vs f):∀(l:List Oper)(i:Nat)(b:(Nat->Value)->Act),i+l.length<=n->cL P ops C Le E Φ Q i l b->
 cr P ops n (λ_=>C) Le (λj=>E j&&decide (j<n)) (λ_=>Φ) (λ_ _ _ _=>True) Q i l b
 |[],i,b,_,h=>λvs W _ _ c hd _=>h vs W c λj q g=>hd j q (by simp[g])
 |o::l,i,b,hl,h=>by
  have hi:i<n:=by simp at hl;omega
  have s:i+1+l.length<=n:=by simp at hl;omega
  rw[cL]at h;rw[cr]
  cases g:E i with
  |true=>
   simp only[g,decide_eq_true hi,Bool.and_self]at h⊢;obtain⟨v,u,w⟩:=h;exact⟨v,λvs W _ c hd=>u vs W c λe r d=>hd e r (by simp[d]),uH p l _ _ s w⟩
  |false=>
   simp only[g,Bool.false_and]at h⊢;refine⟨λvs W D _ _ c x _ _ t _=>?_,uH p l _ _ s h.2⟩;exact nu (λv f k=>⟨k.1,λj q d=>p j vs W f k.2.1 (t j q d),k.2.2,λ_ _ _=>trivial⟩) (h.1 vs W c λe r d=>t e.on (x e r) (by simp[d]))
def mB(k:Nat){id:Nat}{w:World}(C:World->Prop)(Le:World->World->Prop)(E:Nat->Bool)(Φ:Nat->(Nat->Value)->World->Prop)(g:P.follows .mixedOrders=true)(h:aT ops=true)(l:k<=ops.size/\Late ops k)
 (d:∀i vs W f,Le W f->Φ i vs W->Φ i vs f) (n:∀(i:Nat)(o:Oper),ops[i]?=some o->∀vs c W,vs i=c i->(∀e∈o.dz,vs e.on=c e.on)->Φ i vs W->Φ i c W) (p:C w.drew)
 (H:cL P ops C Le E Φ (λ_ b W=>wpList P ops Q (ops.toList.drop k) b W) 0 (ops.toList.take k) λ_=>a):(bd id ops true).wp P Q a w:=
 mA k ops.size (λ_=>C) Le (λj=>E j&&decide (j<ops.size)) (λ_=>Φ) (λ_ _ _ _=>True) (λ_ _ _ _ _=>trivial) g h l (by simp) (λ_=>d) (λi o q vs c W e1 r _=>n i o q vs c W e1 r) p
  (uH d _ _ _ (by simp;omega) H)
def cT(k:Nat){id:Nat}{w:World}(C:World->Prop)(Le:World->World->Prop)(E:Nat->Bool)(Φ:Nat->(Nat->Value)->World->Prop)(f:P.follows .mixedOrders=true)(g:aT ops=true)(h:a6 ops k=true)
 (j:∀i vs W d,Le W d->Φ i vs W->Φ i vs d) (l:∀(i:Nat)(o:Oper),ops[i]?=some o->∀vs c W,vs i=c i->(∀e∈o.dz,vs e.on=c e.on)->Φ i vs W->Φ i c W) (n:C w.drew)
 (H:cL P ops C Le E Φ (λ_ b W=>wpList P ops Q (ops.toList.drop k) b W) 0 (ops.toList.take k) λ_=>a):(bd id ops true).wp P Q a w:=
 mB k C Le E Φ f g (Kl h) j l n H
def uI{E:Nat->Bool}{c:Exit->Act->World->Prop}(h:∀b W,Q .normal b W->c .normal b W):∀(l:List Oper)(i:Nat)(b:(Nat->Value)->Act),cL P ops C Le E Φ Q i l b->cL P ops C Le E Φ c i l b
 |[],_,_,k=>λvs W e hd=>h _ _ (k vs W e hd)
 |o::l,i,b,k=>by
  rw[cL]at k ⊢
  cases d:E i with
  |true=>simp only[d]at k ⊢;obtain⟨v,f,g⟩:=k;exact⟨v,f,uI h l _ _ g⟩
  |false=>simp only[d]at k ⊢;exact⟨k.1,uI h l _ _ k.2⟩
def ig{id:Nat}{w:World}(C:World->Prop)(Le:World->World->Prop)(E:Nat->Bool)(Φ:Nat->(Nat->Value)->World->Prop)(g:P.follows .mixedOrders=true)(j:aT ops=true)
 (k:∀i vs W f,Le W f->Φ i vs W->Φ i vs f) (l:∀(i:Nat)(o:Oper),ops[i]?=some o->∀vs d W,vs i=d i->(∀e∈o.dz,vs e.on=d e.on)->Φ i vs W->Φ i d W) (n:C w.drew)
 (H:cL P ops C Le E Φ Q 0 ops.toList λ_=>a):(bd id ops true).wp P Q a w:=by
 have no:∀{i:Nat}{o:Oper},ops[i]?=some o->¬ops.size<=i:=λc=>Nat.not_le.2 (Array.getElem?_eq_some_iff.1 c).1;refine mB ops.size C Le E Φ g j ⟨aq _,λi o c hi=>absurd hi (no c),λi o c hi=>absurd (Nat.le_of_lt hi) (no c)⟩ k l n ?_;rw[List.take_of_length_le (by simp)];refine uI (λb W h=>?_) _ _ _ H;rw[List.drop_of_length_le (by simp)];exact h
end
end
end Go
namespace Go.Proofs
open Go.RowKit Go.Shelf
attribute [local go_sem] Oper.semAt_some
set_option maxRecDepth 100000
set_option maxHeartbeats 4000000
def lv(s r:Int):Int:=lvl s r s.toNat
def fD(s a:Int)(b:Nat):List Int:=(aa b).map λj=>lv s (a+(j:Nat))
def cJ(a b:Int)(c d:Nat):List Int:=(aa c).flatMap fun(k:Nat)=>fD (a+k) b d
def AP(s b:Int)(a:Nat):(fD s b a).length=a:=by simp[fD]
def AQ(c d:Int)(b:Nat):∀a:Nat,(cJ c d a b).length=a*b
 |0=>by simp[cJ]
 |a+1=>by
  have:=AQ c d b a;unfold cJ at this⊢;rw[ai,List.flatMap_append,ao,this];simp[AP,aI]
def nA(s a:Int)(j:Nat):fD s a (j+1)=fD s a j++[lv s (a+(j:Nat))]:=by
 simp[fD,ai]
def kE(a b:Int)(c d:Nat):cJ a b (c+1) d=cJ a b c d++fD (a+(c:Nat)) b d:=by
 simp[cJ,ai]
def Nl(s a:Int)(b:Nat):∀j:Nat,j<=b->fD s a j <+: fD s a b:=by
 intro j c;unfold fD;exact(List.map_take ..▸List.take_range ..▸by rw[Nat.min_eq_left c]:(List.take j ((aa b).map λj=>lv s (a+(j:Nat))))=(aa j).map λj=>lv s (a+(j:Nat)))▸List.take_prefix _ _
def AU(a b:Int)(c:Nat)(k:Nat):∀d:Nat,cJ a b k c <+: cJ a b (k+d) c
 |0=>List.prefix_rfl
 |d+1=>by rw[<-ar,kE];exact(AU a b c k d).trans (List.prefix_append _ _)
def Nm(a b:Int)(c d k j:Nat)(g:k<c)(h:j<d):cJ a b k d++fD (a+(k:Nat)) b j++[lv (a+(k:Nat)) (b+(j:Nat))] <+: cJ a b c d:=by
 rw[ap,<-nA];obtain⟨t,f⟩:=Nl (a+(k:Nat)) b d (j+1) (by omega);obtain⟨u,e⟩:=AU a b d (k+1) (c-(k+1));rw[show k+1+(c-(k+1))=c by omega,kE,<-f]at e;exact⟨t++u,by rw[<-e];simp⟩
def Rr(s r:Int)(w:World)(f:1<=s)(g:s<=90)(c : -s<=r)(d:r<=s):Calls PL 79 #[.int .i64 s,.int .i64 r] w λe w'=>e=.returned (.int .i64 (lv s r))/\w=w':=by
 obtain⟨n,rfl⟩:=Int.eq_ofNat_of_zero_le (a:=s) (by omega);exact(AG n r w (by omega) (by omega) c d).mono λ_ _⟨a,b⟩=>⟨a,b.symm⟩
def yC(B:Nat)(W a:World):Prop:=∀o:Nat,a.cell? ⟨B,o,none⟩=W.cell? ⟨B,o,none⟩
def Ii(n:Nat)(C:1<=n)(l g:Nat)(a b:Int)(d c:Nat)(D:1<=a)(E:a+d<=91)(F:1<=d)(H : -a<=b)(I:b+c<=a+1)(K:1<=c)(J r:List Int->World->Prop)
 (s:∀f x W,J f W->f.length<d*c->YieldAt Fence.wide (n-1) PL l #[.int .i64 x] W λe h=>
   (e=.returned (.bool true)/\J (f++[x]) h/\yC g W h)\/(e=.returned (.bool false)/\r (f++[x]) h))
 (W:World) (c1:W.cell? ⟨g,1,none⟩=some (.int .i64 a)) (t:W.cell? ⟨g,2,none⟩=some (.int .i64 (a+d-1))) (c3:W.cell? ⟨g,3,none⟩=some (.int .i64 b)) (u:W.cell? ⟨g,4,none⟩=some (.int .i64 (b+c-1))) (w:J [] W) :
 CallsIn Fence.wide n PL 135 #[.func (.yield l) #[] #[],.pointer (some ⟨g,0,none⟩)] W λe h=>(∃v,e=.returned v)/\
  ((∃ys,ys=cJ a b d c/\J ys h)\/(∃f,f <+: cJ a b d c/\r f h)):=by
 refine callsIn_of_wp (fx (by decide) Tryz.func135) rfl trivial ?_ rfl;simp only[Tryz.ntmps135,List.size_toArray,ag,ae,Nat.reduceAdd,Nat.reduceSub,Array.replicate_succ,Array.replicate_zero,List.push_toArray,List.append_toArray,List.nil_append,List.cons_append]
 gi_wp2
 gi_loopw [3] (λv wr=>∃k:Nat,k<=d/\v=.int .i64 (a+k)/\J (cJ a b k c) wr/\(wr.cell? ⟨g,1,none⟩=some (.int .i64 a)/\wr.cell? ⟨g,2,none⟩=some (.int .i64 (a+d-1))/\wr.cell? ⟨g,3,none⟩=some (.int .i64 b)/\wr.cell? ⟨g,4,none⟩=some (.int .i64 (b+c-1)))) (λv _=>(a+d-intOf v).toNat)
 case atStart=>exact⟨0,aw _,by simp,w,c1,t,c3,u⟩
 case round=>
  obtain⟨k,i,rfl,m,d1,d2,d3,d4⟩:=hrel;by_cases y:k<d
  ·have z:a+(k:Int)<=a+d-1:=by omega
   gi_wp2
   gi_loopw [4] (λv wr=>∃j:Nat,j<=c/\v=.int .i64 (b+j)/\J (cJ a b k c++fD (a+(k:Nat)) b j) wr/\(wr.cell? ⟨g,1,none⟩=some (.int .i64 a)/\wr.cell? ⟨g,2,none⟩=some (.int .i64 (a+d-1))/\wr.cell? ⟨g,3,none⟩=some (.int .i64 b)/\wr.cell? ⟨g,4,none⟩=some (.int .i64 (b+c-1)))) (λv _=>(b+c-intOf v).toNat)
   case atStart=>exact⟨0,aw _,by simp,by simpa[fD]using m,d1,d2,d3,d4⟩
   case round=>
    obtain⟨j,L,rfl,m,d1,d2,d3,d4⟩:=hrel;by_cases o:j<c
    ·have A:b+(j:Int)<=b+c-1:=by omega
     have hlen:(cJ a b k c++fD (a+(k:Nat)) b j).length<d*c:=by
      rw[ao,AQ,AP];have:=Nat.mul_le_mul_right c (show k+1<=d by omega);rw[aI]at this;omega
     obtain⟨fn,tmps,assign,body,hy,B⟩:=s _ (lv (a+(k:Nat)) (b+(j:Nat))) wr m hlen
     gi_wp2_with (refine⟨trivial,?_⟩;refine(callsIn_wide.2 (Rr _ _ _ (by omega) (by omega) (by omega) (by omega))).mono ?_;rintro e w'⟨rfl,rfl⟩)
     refine B.mono ?_;rintro e h(⟨rfl,p,i⟩|⟨rfl,q⟩)
     ·gi_wp2
      refine⟨⟨j+1,by omega,by congr 1;push_cast;omega,by rw[nA,<-ap];exact p,(i 1).trans d1,(i 2).trans d2,(i 3).trans d3,(i 4).trans d4⟩,?_⟩;simp only[intOf];omega
     ·gi_wp2
      refine bodyPost_ret (results_none rfl _ _ _) rfl ⟨⟨_,rfl⟩,.inr ⟨_,Nm a b d c k j y o,q⟩⟩
    ·have A:b+(c:Int)-1<b+j:=by omega
     obtain rfl:j=c:=by omega
     gi_wp2
     refine⟨⟨k+1,by omega,by congr 1;push_cast;omega,by rw[kE];exact m,d1,d2,d3,d4⟩,?_⟩;simp only[intOf];omega
  ·have z:a+(d:Int)-1<a+k:=by omega
   obtain rfl:k=d:=by omega
   gi_wp2
   go_end0
   exact⟨⟨_,rfl⟩,.inl ⟨_,rfl,m⟩⟩
def Km{B:Nat}{X Y Z:World}(h:yC B X Y)(k:yC B Y Z):yC B X Z:=λo=>(k o).trans (h o)
def Ko{B s:Nat}(a:B<s)(W:World)(l:Nat)(o o':Obj)(hl:s<=l)(_:W.heap[l]?=some o)(_:o.isCells=false)(_:o.isWalk=false):yC B W (W.putObj l o'):=λq=>by
 have:(W.putObj l o').heap[B]?=W.heap[B]?:=by
  simp only[World.putObj];rw[a9 (by omega)]
 simp[World.cell?,this]
def tg(n:Nat)(i:1<=n)(a:Nat)(b d:Int)(e f:Nat)(j:1<=b)(k:b+e<=91)(m:1<=e)(o : -b<=d)(q:d+f<=b+1)(r:1<=f)(w:World)(c:a<w.heap.size)
 (c1:w.cell? ⟨a,1,none⟩=some (.int .i64 b)) (s:w.cell? ⟨a,2,none⟩=some (.int .i64 (b+e-1))) (c3:w.cell? ⟨a,3,none⟩=some (.int .i64 d)) (t:w.cell? ⟨a,4,none⟩=some (.int .i64 (d+f-1))) :
 SeqStopsK Fence.wide n PL 135 #[.pointer (some ⟨a,0,none⟩)] (λx:Int=>#[Value.int .i64 x]) (yC a) (λys=>ys=cJ b d e f) (λh=>h <+: cJ b d e f) (e*f) w:=λl J u W g _ _ v y=>
 Ii n i l a b d e f j k m o q r J u v W ((g.cell (p:=⟨a,1,none⟩) c).trans c1) ((g.cell (p:=⟨a,2,none⟩) c).trans s) ((g.cell (p:=⟨a,3,none⟩) c).trans c3) ((g.cell (p:=⟨a,4,none⟩) c).trans t) y
end Go.Proofs
