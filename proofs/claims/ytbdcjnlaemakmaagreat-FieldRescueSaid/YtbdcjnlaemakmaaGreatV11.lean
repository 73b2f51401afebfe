/- Part of the proof of FieldRescue. -/
import Derived.Test.YtbdcjnlaemakmaaGreatV07
import Derived.Test.YtbdcjnlaemakmaaGreatV10
import Derived.Maps.AppendAt
import Derived.WalkMore
set_option linter.all false
open List renaming range->aa,range_add->ab,append_nil->ac,countP_congr->ad,countP_cons->ae,range_succ->ag,mem_append_left->ai,mem_cons->ao,not_mem_nil->ap,getElem?_map->aq,getElem?_eq_getElem->ar,getD_eq_getElem?_getD->aw,getElem?_take_of_lt->aI,length_append->aJ,map_append->aP,all_eq_true->aS,mem_range->aT,getElem?_toArray->ba,append_assoc->bc,getElem?_append_right->bd,getElem?_append_left->bg,getElem?_take->bi,mem_map->bm,length->bo,cons_append->bp,take_succ_cons->bq,take_zero->br,drop_succ_cons->bs,drop_zero->bt,drop_eq_nil_of_le->bv,drop_eq_getElem_cons->bw,append_inj'->bx,getElem_of_mem->bA
open Go renaming wpList->bC,TypeId->bL,bodyPost_ret->bM,results->bR,Operand->bT,info_parts->bX,wpList_append_own->b1,cell_one_new->b7,wp_region_noPanic->b9
open Nat renaming le_refl->cc,lt_or_ge->cd,add_zero->ce,zero_le->cf,lt_of_lt_of_le->cg,eq_zero_or_pos->ch,add_assoc->ci,le_of_ble_eq_true->cl,zero_add->cm,lt_irrefl->co,sub_self->cp,le_trans->cq,not_lt_zero->ct,mul_comm->cv,succ_mul->cB,mul_le_mul_right->cC,mul_one->cQ,mul_add_div->c6,div_eq_of_lt->c7,le_succ->c9
open Go.Region renaming ready->da,Ih->db,fZ->dd,Ig->de,Kk->df
open Array renaming getElem?_eq_getElem->di,all_eq_true'->dj,getElem?_setIfInBounds_ne->dk,replicate->dp,getElem?_modify->dq,length_toList->dt
open Option renaming map_some->du,getD_some->dv
open Bool renaming and_eq_true->dx,or_eq_true->dy
open Go.Code renaming region->dC
open Go.World renaming setCell->dK,cell?->dL,size_setCell->dO,size_alloc->dPq,setRow->dQ,putObj->dS
open Go.Proofs renaming getElem?_lt'->dT
open Go.RowKit.Below renaming refl->dU
open Go.Proofs.Tryz renaming func26->d8,ntmps26->d9,func24->ec,ntmps24->eg,func23->eh,ntmps23->ei,func25->ej,ntmps25->ek,func33->el,ntmps33->em,func104->en,ntmps104->ep,func105->eq,ntmps105->et,func106->eu,ntmps106->ev,func107->eA,ntmps107->eD,func32->eE,ntmps32->eF
open Go.Lib renaming hid->eI
open Go.Obj renaming cells->eM
open Go.Value renaming int->eN,string->eP,slice->eQ,oneCell'->eS,bool->eT,agg->eV,tuple->eW,pointer->e6
open Go.IntKind renaming i64->e7
open Go.Instr renaming field->fb,build->fg
open Or renaming inl->fi,inr->fm
open Go.Result renaming ok->fo
open Go.Departure renaming mixedOrders->fp
open Go.Ending renaming returned->ft
open Go.TypeDesc renaming slice->fA
namespace Go
section
variable {P:Program}{ops:Array Oper}{C:Bool->World->Prop}{Le:World->World->Prop}{Φ:Bool->Nat->(Nat->Value)->World->Prop}{X:Nat->Nat->Value->Value->Prop}{a:Act}{Q:Exit->Act->World->Prop}
set_option maxHeartbeats 4000000 in
def Cj{m:Nat}(hO:tf ops){k:Nat}(hL:Late ops k)(By:k<=ops.size)(hX:∀i j u v,X i j u v->X j i v u)(rL:∀(i:Nat)(o:Oper),ops[i]?=some o->∀vs eX W,vs i=eX i->(∀e∈o.dz,vs e.on=eX e.on)->∀b,Φ b i vs W->Φ b i eX W)
 (aB:∀(i:Nat)(o:Oper),ops[i]?=some o->i<k->∀vs W(D:List Nat)(b:Bool),(i=m->b=false)->C b W->(∀e∈o.dz,e.on∈D)->i∉D->(∀j∈D,j<ops.size)->(∀j∈D,∀o,ops[j]?=some o->∀e∈o.dz,e.on∈D)->(∀j∈D,Φ b j vs W)->(∀j∈D,∀k∈D,j≠k->X j k (vs j) (vs k))->fC P ops (λv W'=>C (b||decide (i=m)) W'/\(∀j∈D,Φ (b||decide (i=m)) j vs W')/\Φ (b||decide (i=m)) i (upd vs i v) W'/\∀j∈D,X j i (vs j) v) o (cS ops vs (aa i) a) W)
 (hQ:∀vs W b,(m<k->b=true)->C b W->(∀i,i<k->Φ b i vs W)->(∀i j,i<k->j<k->i≠j->X i j (vs i) (vs j))->bC P ops Q (ops.toList.drop k) (cS ops vs (aa k) a) W) :
 ∀(fuel:Nat)(listed:Array Bool)(vs:Nat->Value)(W:World),listed.size=ops.size->(aa ops.size).countP (λi=>!listed.getD i true)=fuel->C (listed.getD m false) W->(∀i∈cO ops listed,Φ (listed.getD m false) i vs W)->(∀i∈cO ops listed,∀j∈cO ops listed,i≠j->X i j (vs i) (vs j))->(∀i∈cO ops listed,∀o,ops[i]?=some o->∀e∈o.dz,e.on∈cO ops listed)->(∀i,k<=i->i<ops.size->listed.getD i true=false)->
  wpAny P .any ops Q fuel listed (cS ops vs (cO ops listed) a) W:=by
 have fin:∀(fuel:Nat)(listed:Array Bool)(vs:Nat->Value)(W:World),listed.size=ops.size->(aa ops.size).countP (λi=>!listed.getD i true)=fuel->(∀i,i<k->listed.getD i true=true)->(∀i,k<=i->i<ops.size->listed.getD i true=false)->C (listed.getD m false) W->(∀i∈cO ops listed,Φ (listed.getD m false) i vs W)->(∀i∈cO ops listed,∀j∈cO ops listed,i≠j->X i j (vs i) (vs j))->wpAny P .any ops Q fuel listed (cS ops vs (cO ops listed) a) W:=by
  intro fuel listed vs W hs hc oh AO hC FL hP;have aaw:∀j,j<ops.size->listed.getD j true=decide (j<k):=λj hj=>by
   grind
  have e:cO ops listed=aa k:=by
   unfold cO;have:(aa ops.size).filter (λi=>listed.getD i true)=(aa ops.size).filter (λi=>decide (i<k)):=List.filter_congr λi hi=>aaw i (List.mem_range.1 hi);rw[this];have e2:aa ops.size=aa k++(aa (ops.size-k)).map (k + ·):=by
    rw[<-ab];congr 1;omega
   rw[e2,List.filter_append,List.filter_eq_self.2 λi hi=>by grind,List.filter_eq_nil_iff.2 λi hi=>?_,ac]
   grind
  have afx:k+fuel=ops.size:=by
   rw[<-hc];have:(aa ops.size).countP (λi=>!listed.getD i true)=(aa ops.size).countP (λi=>decide (¬i<k)):=ad λi hi=>by grind
   rw[this];have e2:aa ops.size=aa k++(aa (ops.size-k)).map (k + ·):=by
    rw[<-ab];congr 1;omega
   rw[e2,List.countP_append,List.countP_eq_zero.2 λi hi=>?_,List.countP_eq_length.2 λi hi=>?_]
   ·simp;omega
   ·grind
   grind
  rw[e]at FL hP ⊢;exact yB hO hL fuel k listed _ W hs (cc _) afx aaw (hQ vs W _ (λhmk=>by grind) hC (λi hi=>FL i (List.mem_range.2 hi)) λi j hi hj=>hP i (List.mem_range.2 hi) j (List.mem_range.2 hj))
 have nil:∀(listed:Array Bool),listed.size=ops.size->da .any ops listed=[]->∀i,i<ops.size->listed.getD i true=true:=by
  intro listed hs hr i
  induction i using Nat.strongRecOn with
  |_ i ih=>
   intro hi;by_cases hu:listed.getD i true=true
   ·exact hu
   ·have nt:i∈da .any ops listed:=by
     refine List.mem_filter.2 ⟨List.mem_range.2 hi,?_⟩;have ho:ops[i]?=some ops[i]:=di hi;have hu':listed.getD i true=false:=by simpa using hu
     simp only[hu',Bool.not_false,Bool.true_and,ho,du,dv,dj];intro e he
     cases hb:Region.binds .any e with
     |false=>rfl
     |true=>
      have aH:=(hO.edge i _ ho e (cH.2 ⟨he,hb⟩)).1
      grind
    grind
 intro fuel
 induction fuel with
 |zero=>
  intro listed vs W hs hc hC FL hP _ AO;refine fin 0 listed vs W hs hc (λi hi=>?_) AO hC FL hP;have:=List.countP_eq_zero.1 hc i (List.mem_range.2 (by omega));simpa using this
 |succ fuel ih=>
  intro listed vs W hs hc hC FL hP hdc AO;by_cases Rq:∀i,i<k->listed.getD i true=true
  ·grind
  refine⟨λhr=>absurd (λi hi=>nil listed hs hr i (by omega)) Rq,λi hi=>?_⟩;obtain⟨Gu,Xj⟩:=List.mem_filter.1 hi;have hil:=List.mem_range.1 Gu;have ho:ops[i]?=some ops[i]:=di hil;rw[ho]at Xj;simp only[dx,Bool.not_eq_true',du,dv,dj]at Xj;obtain⟨vG,oh⟩:=Xj;have EP:∀e∈ops[i].dz,e.on∈cO ops listed:=λe he=>by
   have:=oh e (cH.1 he).1;have hb:=hO.edge i _ ho e he;rw[hb.2]at this;have Fz:e.on<listed.size:=by omega
   simp[Fz]at this;exact List.mem_filter.2 ⟨List.mem_range.2 (by omega),by simp[Fz,this]⟩
  have hik:i<k:=by
   rcases cd i k with h|h
   ·exact h
   ·refine absurd (λj hj=>?_) Rq;have key:=AM (ops:=ops) (λx=>x∈cO ops listed) (λx hx y hy=>?_) 4 (db ops i) (λy hy=>?_) j (hL.all i _ ho h j hj)
    ·exact(List.mem_filter.1 key).2
    ·have hxo:ops[x]?=some ops[x]!:=by
      have:=List.mem_range.1 (List.mem_filter.1 hx).1;simp[this]
     unfold db at hy
     grind
    ·unfold db at hy
     grind
  have ald:i∉cO ops listed:=λhj=>by
   have:=(List.mem_filter.1 hj).2;rw[vG]at this;cases this
  have H:=aB i _ ho hik vs W (cO ops listed) (listed.getD m false) (λe=>by grind) hC EP ald (λj hj=>List.mem_range.1 (List.mem_filter.1 hj).1) hdc FL hP;have next:∀v W',(C (listed.getD m false||decide (i=m)) W'/\(∀j∈cO ops listed,Φ (listed.getD m false||decide (i=m)) j vs W')/\Φ (listed.getD m false||decide (i=m)) i (upd vs i v) W'/\∀j∈cO ops listed,X j i (vs j) v)->wpAny P .any ops Q fuel (listed.setIfInBounds i true) ((cS ops vs (cO ops listed) a).put ops[i].dst v) W':=by
   rintro v W'⟨hC0,hle,hv,hx⟩;have hC':C ((listed.setIfInBounds i true).getD m false) W':=by
    have e:(listed.setIfInBounds i true).getD m false=(listed.getD m false||decide (i=m)):=by
     by_cases e:i=m
     ·subst e;have h2:i<listed.size:=(by omega)
      simp[h2]
     ·simp[dk e,e]
    rw[e];exact hC0
   have e0:(listed.getD m false||decide (i=m))=(listed.setIfInBounds i true).getD m false:=by
    by_cases e:i=m
    ·subst e;have h2:i<listed.size:=(by omega)
     simp[h2]
    ·simp[dk e,e]
   rw[e0]at hle hv;rw[Rp hO ho hs vG vs v];have nt:∀j,j∈cO ops (listed.setIfInBounds i true)->j=i\/j∈cO ops listed:=λj hj=>by
    obtain⟨h1,h2⟩:=List.mem_filter.1 hj;by_cases e:j=i
    ·exact fi e
    ·exact fm (List.mem_filter.2 ⟨h1,by simpa[dk (Ne.symm e)]using h2⟩)
   have Xs:∀j,j∈cO ops listed->j∈cO ops (listed.setIfInBounds i true):=λj hj=>by
    obtain⟨h1,h2⟩:=List.mem_filter.1 hj;by_cases e:j=i
    ·grind
    ·exact List.mem_filter.2 ⟨h1,by simpa[dk (Ne.symm e)]using h2⟩
   have Xr:∀j,j∈cO ops listed->j≠i:=λj hj e=>by
    grind
   refine ih _ _ W' (by simpa using hs) ?_ hC' (λj hj=>?_) (λj hj k hk Wk=>?_) (λj hj o' qx e he=>?_) (λj hj hjn=>by have bu:i≠j:=(by omega);simpa[dk bu]using AO j hj hjn)
   ·have h1:(aa ops.size).countP (λj=>!listed.getD j true)=(aa ops.size).countP (λj=>!(listed.setIfInBounds i true).getD j true)+1:=by
     have key:∀l:List Nat,l.Nodup->i∈l->l.countP (λj=>!listed.getD j true)=l.countP (λj=>!(listed.setIfInBounds i true).getD j true)+1:=by
      intro l hn
      induction l with
      |nil=>intro h;cases h
      |cons k l ih=>
       intro h;obtain⟨hk,TH⟩:=List.nodup_cons.1 hn;by_cases e:k=i
       ·subst e;have same:l.countP (λj=>!listed.getD j true)=l.countP (λj=>!(listed.setIfInBounds k true).getD j true):=by
         refine ad λj hj=>?_;have bu:k≠j:=λe=>hk (e▸hj);simp[dk bu]
        have hks:k<listed.size:=by omega
        rw[ae,ae,same,vG];simp[hks]
       ·have hil:i∈l:=by grind
        have bu:i≠k:=λe'=>e e'.symm;rw[ae,ae,ih TH hil];have:(listed.setIfInBounds i true).getD k true=listed.getD k true:=by simp[dk bu]
        grind
     exact key _ List.nodup_range Gu
    omega
   ·rcases nt j hj with rfl|zK
    ·exact hv
    ·have hjo:ops[j]?=some ops[j]!:=by
      have:=List.mem_range.1 (List.mem_filter.1 zK).1;simp[this]
     refine rL j _ hjo vs _ W' ?_ (λe he=>?_) _ (hle j zK)
     ·simp only[upd];rw[if_neg (Xr j zK)]
     ·have:=Xr _ (hdc j zK _ hjo e he);simp only[upd];rw[if_neg this]
   ·rcases nt j hj with rfl|zK
    ·rcases nt k hk with rfl|rm
     ·exact absurd rfl Wk
     ·simp only[upd,if_pos,if_neg (Xr k rm)];exact hX _ _ _ _ (hx k rm)
    ·rcases nt k hk with rfl|rm
     ·simp only[upd,if_pos,if_neg (Xr j zK)];exact hx j zK
     ·simp only[upd,if_neg (Xr j zK),if_neg (Xr k rm)];exact hP j zK k rm Wk
   grind
  unfold wpOp;simp only[ho];unfold fC at H;rw[<-EL (a:=a) hO ho EP vs,<-Nj (a:=a) hO ho EP vs]at H
  split
  ·rename_i hw;rw[if_pos hw]at H;left;unfold Oper.wp;generalize(execOp (cS ops vs (cO ops listed) a).eval ops[i]).run P W=r at H ⊢
   match r,H with
   |fo (.value v) W',H=>exact next v W' H
   |fo .skip W',H=>exact next undef W' H
   |fo (.enter f args) W',H=>exact Calls.mono H λe W''⟨v,he,hk⟩=>by subst he;exact next v W'' hk
  grind
section
variable (P:Program)(ops:Array Oper)(m:Nat)(C:Bool->World->Prop)(Le:World->World->Prop)(E:Nat->Bool)(Φ:Bool->Nat->(Nat->Value)->World->Prop)(X:Nat->Nat->Value->Value->Prop)(Q:Exit->Act->World->Prop)
def cr:Nat->List Oper->((Nat->Value)->Act)->Prop
 |i,[],b=>∀vs W c,(m<i->c=true)->C c W->(∀j,j<i->E j=false->Φ c j vs W)->(∀j k,j<i->k<i->j≠k->E j=false->E k=false->X j k (vs j) (vs k))->Q .normal (b vs) W
 |i,o::l,b=>@Bool.rec (λ_=>Prop)
  ((∀vs W(D:List Nat)(c:Bool),(i=m->c=false)->C c W->(∀e∈o.dz,e.on∈D)->i∉D->(∀j∈D,∀o,ops[j]?=some o->∀e∈o.dz,e.on∈D)->(∀j∈D,E j=false->Φ c j vs W)->(∀j∈D,∀k∈D,j≠k->E j=false->E k=false->X j k (vs j) (vs k))->fC P ops (λu d=>C (c||decide (i=m)) d/\(∀j∈D,E j=false->Φ (c||decide (i=m)) j vs d)/\Φ (c||decide (i=m)) i (upd vs i u) d/\∀j∈D,E j=false->X j i (vs j) u) o (b vs) W)/\cr (i+1) l λvs=>(b vs).put o.dst (vs i))
  (∃v,(∀vs W c,C c W->(∀e∈o.dz,E e.on=false->Φ c e.on vs W)->fC P ops (λu d=>u=v/\C c d/\Le W d) o (b vs) W)/\cr (i+1) l λvs=>(b vs).put o.dst v) (E i)
end
def nv{E:Nat->Bool}{m:Nat}{i:Nat}{b:(Nat->Value)->Act}(h:∀vs W c,(m<i->c=true)->C c W->(∀j,j<i->E j=false->Φ c j vs W)->(∀j k,j<i->k<i->j≠k->E j=false->E k=false->X j k (vs j) (vs k))->Q .normal (b vs) W):cr P ops m C Le E Φ X Q i [] b:=h
def Ck{E:Nat->Bool}{m:Nat}{i:Nat}{o:Oper}{l:List Oper}{b:(Nat->Value)->Act}(v:Value)(hE:E i=true)
 (h:∀vs W c,C c W->(∀e∈o.dz,E e.on=false->Φ c e.on vs W)->fC P ops (λu d=>u=v/\C c d/\Le W d) o (b vs) W) (f:cr P ops m C Le E Φ X Q (i+1) l λvs=>(b vs).put o.dst v):cr P ops m C Le E Φ X Q i (o::l) b:=by
 rw[cr,hE];exact⟨v,h,f⟩
def Cl{E:Nat->Bool}{m:Nat}{i:Nat}{o:Oper}{l:List Oper}{b:(Nat->Value)->Act}(hE:E i=false)
 (h:∀vs W(D:List Nat)(c:Bool),(i=m->c=false)->C c W->(∀e∈o.dz,e.on∈D)->i∉D->(∀j∈D,∀o,ops[j]?=some o->∀e∈o.dz,e.on∈D)->(∀j∈D,E j=false->Φ c j vs W)->(∀j∈D,∀k∈D,j≠k->E j=false->E k=false->X j k (vs j) (vs k))->fC P ops (λu d=>C (c||decide (i=m)) d/\(∀j∈D,E j=false->Φ (c||decide (i=m)) j vs d)/\Φ (c||decide (i=m)) i (upd vs i u) d/\∀j∈D,E j=false->X j i (vs j) u) o (b vs) W) (f:cr P ops m C Le E Φ X Q (i+1) l λvs=>(b vs).put o.dst (vs i)):cr P ops m C Le E Φ X Q i (o::l) b:=by
 rw[cr,hE];exact⟨h,f⟩
def iK{E:Nat->Bool}{m:Nat}{i:Nat}{o:Oper}{l:List Oper}{b b':(Nat->Value)->Act}(v:Value)(hE:E i=true)
 (h:∀vs W c,C c W->(∀e∈o.dz,E e.on=false->Φ c e.on vs W)->fC P ops (λu d=>u=v/\C c d/\Le W d) o (b vs) W) (hb:∀vs,(b vs).put o.dst v=b' vs) (f:cr P ops m C Le E Φ X Q (i+1) l b'):cr P ops m C Le E Φ X Q i (o::l) b:=
 Ck v hE h ((funext hb:(λvs=>(b vs).put o.dst v)=b')▸f)
def ey{E:Nat->Bool}{m:Nat}{i:Nat}{o:Oper}{l:List Oper}{b b':(Nat->Value)->Act}(hE:E i=false)
 (h:∀vs W(D:List Nat)(c:Bool),(i=m->c=false)->C c W->(∀e∈o.dz,e.on∈D)->i∉D->(∀j∈D,∀o,ops[j]?=some o->∀e∈o.dz,e.on∈D)->(∀j∈D,E j=false->Φ c j vs W)->(∀j∈D,∀k∈D,j≠k->E j=false->E k=false->X j k (vs j) (vs k))->fC P ops (λu d=>C (c||decide (i=m)) d/\(∀j∈D,E j=false->Φ (c||decide (i=m)) j vs d)/\Φ (c||decide (i=m)) i (upd vs i u) d/\∀j∈D,E j=false->X j i (vs j) u) o (b vs) W) (hb:∀vs,(b vs).put o.dst (vs i)=b' vs) (f:cr P ops m C Le E Φ X Q (i+1) l b'):cr P ops m C Le E Φ X Q i (o::l) b:=
 Cl hE h ((funext hb:(λvs=>(b vs).put o.dst (vs i))=b')▸f)
def ny{E:Nat->Bool}{m:Nat}(L:E m=false)(M:∀b i vs W r,Le W r->Φ b i vs W->Φ b i vs r):∀(l:List Oper)(i:Nat)(b:(Nat->Value)->Act),(∀j,j<l.length->l[j]?=ops[i+j]?)->cr P ops m C Le E Φ X Q i l b->
 ∃V:Nat->Value,(∀(j:Nat)(o:Oper),i<=j->j<i+l.length->ops[j]?=some o->∃s:(Nat->Value)->Act,(∀vs(a0:Act),(∀k,i<=k->E k=true->vs k=V k)->b vs=cS ops vs (aa i) a0->s vs=cS ops vs (aa j) a0)/\
  (∀vs W(D:List Nat)(c:Bool),(j=m->c=false)->C c W->(∀e∈o.dz,e.on∈D)->j∉D->(∀j∈D,∀o,ops[j]?=some o->∀e∈o.dz,e.on∈D)->(∀j∈D,E j=false->Φ c j vs W)->(∀j∈D,∀k∈D,j≠k->E j=false->E k=false->X j k (vs j) (vs k))->fC P ops (λu r=>(E j=true->u=V j)/\C (c||decide (j=m)) r/\(∀k∈D,E k=false->Φ (c||decide (j=m)) k vs r)/\(E j=false->Φ (c||decide (j=m)) j (upd vs j u) r)/\∀k∈D,E k=false->E j=false->X k j (vs k) u) o (s vs) W))/\
  (∀vs W(a0:Act),(∀k,i<=k->E k=true->vs k=V k)->b vs=cS ops vs (aa i) a0->∀c,(m<i+l.length->c=true)->C c W->(∀j,j<i+l.length->E j=false->Φ c j vs W)->(∀j k,j<i+l.length->k<i+l.length->j≠k->E j=false->E k=false->X j k (vs j) (vs k))->Q .normal (cS ops vs (aa (i+l.length)) a0) W)
 |[],i,b,hl,h=>by
  refine⟨λ_=>undef,λj o z x R=>?_,λvs W a0 _ hb c f d t g=>by rw[List.length_nil,ce,<-hb];exact h vs W c (by simpa using f) d t g⟩
  grind
 |o::l,i,b,hl,h=>by
  have hlen:i+(o::l).length=i+1+l.length:=by grind
  rw[hlen];have A:ops[i]?=some o:=by simpa using(hl 0 (by simp)).symm
  have hd:dd ops i=o.dst:=by simp[dd,A]
  have N:∀j,j<l.length->l[j]?=ops[i+1+j]?:=λj z=>by have:=hl (j+1) (by grind);grind
  cases w:E i with
  |true=>
   rw[cr,w]at h;obtain⟨v,O,B⟩:=h;obtain⟨V,k1,k2⟩:=ny L M l (i+1) _ N B;have step:∀vs(a0:Act),(∀k,i<=k->E k=true->vs k=(λj=>if j=i then v else V j) k)->b vs=cS ops vs (aa i) a0->(b vs).put o.dst v=cS ops vs (aa (i+1)) a0:=λvs a0 hv hb=>by
    rw[ag,uG,<-hb,hd,hv i (cc _) w];simp
   refine⟨λj=>if j=i then v else V j,λj F z x n=>?_,λvs W a0 hv hb c f d t g=>k2 vs W a0 (λk H p=>by grind) (step vs a0 hv hb) c f d t g⟩;by_cases e:j=i
   ·subst e;rw[A]at n;cases n;refine⟨b,λvs a0 _ hb=>hb,λvs W D c f d y q I hd g=>?_⟩;refine nu ?_ (O vs W c d λe p w=>hd _ (y e p) w)
    grind
   ·obtain⟨s,J,K⟩:=k1 j F (by omega) x n;refine⟨s,λvs a0 hv hb=>J vs a0 (λk H p=>by grind) (step vs a0 hv hb),λvs W D c f d y q I hd g=>?_⟩;have:=K vs W D c f d y q I hd g
    grind
  |false=>
   rw[cr,w]at h;obtain⟨O,B⟩:=h;obtain⟨V,k1,k2⟩:=ny L M l (i+1) _ N B;have step:∀vs(a0:Act),b vs=cS ops vs (aa i) a0->(b vs).put o.dst (vs i)=cS ops vs (aa (i+1)) a0:=λvs a0 hb=>by
    rw[ag,uG,<-hb,hd]
   refine⟨V,λj F z x n=>?_,λvs W a0 hv hb c f d t g=>k2 vs W a0 (λk H p=>hv k (by omega) p) (step vs a0 hb) c f d t g⟩;by_cases e:j=i
   ·subst e;rw[A]at n;cases n;refine⟨b,λvs a0 _ hb=>hb,λvs W D c f d y q I hd g=>?_⟩
    grind
   ·obtain⟨s,J,K⟩:=k1 j F (by omega) x n;exact⟨s,λvs a0 hv hb=>J vs a0 (λk H p=>hv k (by omega) p) (step vs a0 hb),K⟩
def mA(k:Nat){id:Nat}{w:World}(m:Nat)(C:Bool->World->Prop)(Le:World->World->Prop)(E:Nat->Bool)(Φ:Bool->Nat->(Nat->Value)->World->Prop)(X:Nat->Nat->Value->Value->Prop)(O:∀i j u v,X i j u v->X j i v u)(R:P.follows fp=true)(S:de ops=true)(T:k<=ops.size/\Late ops k)
 (U:E m=false) (Y:∀b i vs W p,Le W p->Φ b i vs W->Φ b i vs p) (x:∀(i:Nat)(o:Oper),ops[i]?=some o->∀vs q W,vs i=q i->(∀e∈o.dz,vs e.on=q e.on)->∀b,Φ b i vs W->Φ b i q W) (r:C false w.drew)
 (H:cr P ops m C Le E Φ X (λ_ b W=>bC P ops Q (ops.toList.drop k) b W) 0 (ops.toList.take k) λ_=>a):(dC id ops true).wp P Q a w:=by
 have s:=Ro S;obtain⟨Z,hL⟩:=T;obtain⟨V,K,L⟩:=ny U Y (ops.toList.take k) 0 _ (λj d=>by grind) H;have FH:0+(ops.toList.take k).length=k:=by simp;omega
 rw[FH]at K L;refine wp_region_any R ?_;have hd:cO ops (dp ops.size false)=[]:=by
  refine List.filter_eq_nil_iff.2 λi hi=>?_;have:=List.mem_range.1 hi;simp[this]
 have start:=Cj (P:=P) (a:=a) (Q:=Q) (m:=m) (C:=C) (X:=λi j u v=>E i=false->E j=false->X i j u v) (Φ:=λb i vs W=>(E i=true->vs i=V i)/\(∀o,ops[i]?=some o->∀e∈o.dz,E e.on=true->vs e.on=V e.on)/\(E i=false->Φ b i vs W)) s hL Z (λi j u v h d hi=>O _ _ _ _ (h hi d))
  (λi o g vs q W e1 e2 b h=>⟨λe=>e1▸h.1 e,λo' l e f n=>(by grind),λe=>x i o g vs q W e1 e2 b (h.2.2 e)⟩) (λi o g y vs W D z A r M B F sB hd hP=>?_) (λvs W z A r FL hP=>?_) ops.size (dp ops.size false) (λ_=>undef) w.drew (by simp) (by
   rw[List.countP_eq_length.2]
   ·simp
   ·intro i hi;have:=List.mem_range.1 hi
    simp[this]) (by have e:(dp ops.size false).getD m false=false:=(by rw[Array.getD_eq_getD_getElem?,Array.getElem?_replicate];split<;>rfl);rw[e];exact r) (by rw[hd];intro i hi;cases hi) (by rw[hd];intro i hi;cases hi) (by rw[hd];intro i hi;cases hi) (λi _ hi=>by simp[hi])
 ·rw[hd]at start;exact start
 ·obtain⟨bj,g1,g2⟩:=K i o (cf _) y g;have vz:∀k∈D,vR E V vs k=vs k:=λk c=>by
   unfold vR
   grind
  have I:∀e∈o.dz,vR E V vs e.on=vs e.on:=λe f=>vz _ (M e f);have hb:=g1 (vR E V vs) a (λk _ f=>by simp[vR,f]) rfl;have t:∀k∈D,∀b W,Φ b k (vR E V vs) W↔Φ b k vs W:=λk c b W=>by
   have l:ops[k]?=some ops[k]!:=by simp[F k c]
   grind
  have:=g2 (vR E V vs) W D z A r M B sB (λk c n=>(t k c _ W).2 ((hd k c).2.2 n)) (λj d k c Wk J N=>by grind);rw[hb]at this;refine nu ?_ (Nk s g I this);rintro v p⟨a1,a2,a3,a4,a5⟩;refine⟨a2,λk c=>⟨(hd k c).1,(hd k c).2.1,λn=>(t k c _ p).1 (a3 k c n)⟩,⟨λe=>by simp[upd,a1 e],λo' l e f n=>?_,λe=>?_⟩,λk c N hiE=>by grind⟩
  ·rw[g]at l;cases l;have:=(s.edge i o g e f).1;simp only[upd];grind
  refine x i o g _ _ p (by simp[upd]) (λe' Xo=>?_) _ (a4 e);have:=(s.edge i o g e' Xo).1;simp only[upd];grind
 ·have hv:∀j,j<k->vR E V vs j=vs j:=λj d=>by
   unfold vR
   grind
  rw[<-yA (vs:=vR E V vs) _ _ λj d=>hv j (List.mem_range.1 d)];refine L (vR E V vs) W a (λk _ f=>by simp[vR,f]) rfl z A r (λj d n=>?_) (λj k d c Wk J N=>by grind);have l:ops[j]?=some ops[j]!:=by grind
  refine x j _ l vs _ W (hv j d).symm (λe f=>(hv e.on (by have:=(s.edge j _ l e f).1;omega)).symm) _ ((FL j d).2.2 n)
def iL(k:Nat){id:Nat}{w:World}(m:Nat)(C:Bool->World->Prop)(Le:World->World->Prop)(E:Nat->Bool)(Φ:Bool->Nat->(Nat->Value)->World->Prop)(X:Nat->Nat->Value->Value->Prop)(f:∀i j u v,X i j u v->X j i v u)(g:P.follows fp=true)(h:de ops=true)(l:df ops k=true)
 (n:E m=false) (p:∀b i vs W d,Le W d->Φ b i vs W->Φ b i vs d) (q:∀(i:Nat)(o:Oper),ops[i]?=some o->∀vs c W,vs i=c i->(∀e∈o.dz,vs e.on=c e.on)->∀b,Φ b i vs W->Φ b i c W) (r:C false w.drew)
 (H:cr P ops m C Le E Φ X (λ_ b W=>bC P ops Q (ops.toList.drop k) b W) 0 (ops.toList.take k) λ_=>a):(dC id ops true).wp P Q a w:=
 mA k m C Le E Φ X f g h (Kl l) n p q r H
section
variable {C:World->Prop}{Φ:Nat->(Nat->Value)->World->Prop}
def uH{E:Nat->Bool}{n:Nat}(p:∀i vs W f,Le W f->Φ i vs W->Φ i vs f):∀(l:List Oper)(i:Nat)(b:(Nat->Value)->Act),i+l.length<=n->cL P ops C Le E Φ Q i l b->
 cr P ops n (λ_=>C) Le (λj=>E j&&decide (j<n)) (λ_=>Φ) (λ_ _ _ _=>True) Q i l b
 |[],i,b,_,h=>λvs W _ _ c hd _=>h vs W c λj q g=>hd j q (by simp[g])
 |o::l,i,b,hl,h=>by
  have hi:i<n:=by simp at hl;omega
  have s:i+1+l.length<=n:=by simp at hl;omega
  rw[cL]at h;rw[cr]
  cases g:E i with
  |true=>
   simp only[g,decide_eq_true hi,Bool.and_self]at h⊢;obtain⟨v,u,w⟩:=h;exact⟨v,λvs W _ c hd=>u vs W c λe r d=>hd e r (by simp[d]),uH p l _ _ s w⟩
  |false=>
   simp only[g,Bool.false_and]at h⊢;refine⟨λvs W D _ _ c x _ _ t _=>?_,uH p l _ _ s h.2⟩;exact nu (λv f k=>⟨k.1,λj q d=>p j vs W f k.2.1 (t j q d),k.2.2,λ_ _ _=>trivial⟩) (h.1 vs W c λe r d=>t e.on (x e r) (by simp[d]))
def mB(k:Nat){id:Nat}{w:World}(C:World->Prop)(Le:World->World->Prop)(E:Nat->Bool)(Φ:Nat->(Nat->Value)->World->Prop)(g:P.follows fp=true)(h:de ops=true)(l:k<=ops.size/\Late ops k)
 (d:∀i vs W f,Le W f->Φ i vs W->Φ i vs f) (n:∀(i:Nat)(o:Oper),ops[i]?=some o->∀vs c W,vs i=c i->(∀e∈o.dz,vs e.on=c e.on)->Φ i vs W->Φ i c W) (p:C w.drew)
 (H:cL P ops C Le E Φ (λ_ b W=>bC P ops Q (ops.toList.drop k) b W) 0 (ops.toList.take k) λ_=>a):(dC id ops true).wp P Q a w:=
 mA k ops.size (λ_=>C) Le (λj=>E j&&decide (j<ops.size)) (λ_=>Φ) (λ_ _ _ _=>True) (λ_ _ _ _ _=>trivial) g h l (by simp) (λ_=>d) (λi o q vs c W e1 r _=>n i o q vs c W e1 r) p
  (uH d _ _ _ (by simp;omega) H)
def cT(k:Nat){id:Nat}{w:World}(C:World->Prop)(Le:World->World->Prop)(E:Nat->Bool)(Φ:Nat->(Nat->Value)->World->Prop)(f:P.follows fp=true)(g:de ops=true)(h:df ops k=true)
 (j:∀i vs W d,Le W d->Φ i vs W->Φ i vs d) (l:∀(i:Nat)(o:Oper),ops[i]?=some o->∀vs c W,vs i=c i->(∀e∈o.dz,vs e.on=c e.on)->Φ i vs W->Φ i c W) (n:C w.drew)
 (H:cL P ops C Le E Φ (λ_ b W=>bC P ops Q (ops.toList.drop k) b W) 0 (ops.toList.take k) λ_=>a):(dC id ops true).wp P Q a w:=
 mB k C Le E Φ f g (Kl h) j l n H
def uI{E:Nat->Bool}{c:Exit->Act->World->Prop}(h:∀b W,Q .normal b W->c .normal b W):∀(l:List Oper)(i:Nat)(b:(Nat->Value)->Act),cL P ops C Le E Φ Q i l b->cL P ops C Le E Φ c i l b
 |[],_,_,k=>λvs W e hd=>h _ _ (k vs W e hd)
 |o::l,i,b,k=>by
  rw[cL]at k ⊢
  cases d:E i with
  |true=>simp only[d]at k ⊢;obtain⟨v,f,g⟩:=k;exact⟨v,f,uI h l _ _ g⟩
  |false=>simp only[d]at k ⊢;exact⟨k.1,uI h l _ _ k.2⟩
def ig{id:Nat}{w:World}(C:World->Prop)(Le:World->World->Prop)(E:Nat->Bool)(Φ:Nat->(Nat->Value)->World->Prop)(g:P.follows fp=true)(j:de ops=true)
 (k:∀i vs W f,Le W f->Φ i vs W->Φ i vs f) (l:∀(i:Nat)(o:Oper),ops[i]?=some o->∀vs d W,vs i=d i->(∀e∈o.dz,vs e.on=d e.on)->Φ i vs W->Φ i d W) (n:C w.drew)
 (H:cL P ops C Le E Φ Q 0 ops.toList λ_=>a):(dC id ops true).wp P Q a w:=by
 have no:∀{i:Nat}{o:Oper},ops[i]?=some o->¬ops.size<=i:=λc=>Nat.not_le.2 (Array.getElem?_eq_some_iff.1 c).1;refine mB ops.size C Le E Φ g j ⟨cc _,λi o c hi=>absurd hi (no c),λi o c hi=>absurd (Nat.le_of_lt hi) (no c)⟩ k l n ?_;rw[List.take_of_length_le (by simp)];refine uI (λb W h=>?_) _ _ _ H;rw[List.drop_of_length_le (by simp)];exact h
end
end
end Go
namespace Go.Proofs
open Go.RowKit
set_option maxRecDepth 100000
set_option maxHeartbeats 4000000
def yK{C:CD}{w:World}{i:Nat}(h:C.At w)(hi:i<C.n4):C.b4=some ⟨C.k4,C.o4,none⟩/\w.cell? ⟨C.k4,C.o4+i*12,none⟩=some (eP (C.x4 i).name)/\w.cell? ⟨C.k4,C.o4+i*12+1,none⟩=some (eN e7 ((C.x4 i).n 1))/\w.cell? ⟨C.k4,C.o4+i*12+2,none⟩=some (eN e7 ((C.x4 i).n 2))/\w.cell? ⟨C.k4,C.o4+i*12+3,none⟩=some (eN e7 ((C.x4 i).n 3))/\w.cell? ⟨C.k4,C.o4+i*12+4,none⟩=some (eN e7 ((C.x4 i).n 4))/\w.cell? ⟨C.k4,C.o4+i*12+5,none⟩=some (eN e7 ((C.x4 i).n 5))/\w.cell? ⟨C.k4,C.o4+i*12+6,none⟩=some (eN e7 ((C.x4 i).n 6))/\w.cell? ⟨C.k4,C.o4+i*12+7,none⟩=some (eN e7 ((C.x4 i).n 7))/\w.cell? ⟨C.k4,C.o4+i*12+8,none⟩=some (eN e7 ((C.x4 i).n 8))/\w.cell? ⟨C.k4,C.o4+i*12+9,none⟩=some (eN e7 ((C.x4 i).n 9))/\w.cell? ⟨C.k4,C.o4+i*12+10,none⟩=some (eN e7 ((C.x4 i).n 10))/\w.cell? ⟨C.k4,C.o4+i*12+11,none⟩=some (eQ (C.x4 i).lb (C.x4 i).ln (C.x4 i).lc)/\C.k4<w.heap.size:=⟨h.s4 (by omega),h.AD i hi,h.dB i hi 1 (by omega) (by omega),h.dB i hi 2 (by omega) (by omega),h.dB i hi 3 (by omega) (by omega),h.dB i hi 4 (by omega) (by omega),h.dB i hi 5 (by omega) (by omega),h.dB i hi 6 (by omega) (by omega),h.dB i hi 7 (by omega) (by omega),h.dB i hi 8 (by omega) (by omega),h.dB i hi 9 (by omega) (by omega),h.dB i hi 10 (by omega) (by omega),h.nj i hi,h.h4⟩
def yL{W:World}{r:Nat}{x y u v:Value}{t:bL}(h:W.heap[r]?=some (eM #[x,y] t)):((W.setCell ⟨r,0,none⟩ u).setCell ⟨r,1,none⟩ v).heap[r]?=some (eM #[u,v] t):=by
 simp only[dK,dq,if_pos,h,du];rfl
def tv{W:World}{r b:Nat}{u v:Value}(hb:b≠r):((W.setCell ⟨r,0,none⟩ u).setCell ⟨r,1,none⟩ v).heap[b]?=W.heap[b]?:=by
 simp only[dK,dq,if_neg (Ne.symm hb)]
def below_drewN{n:Nat}{w W:World}(h:Below n w W):∀k,Below n w (W.drewN k):=λk=>by
 obtain⟨a,b,c,d,e⟩:=h;exact⟨a,b,c,d,e⟩
def yM:PL.stoodInHeld 40=false:=by kernel_rfl
def Co:PL.eqGuardType PL.depth 40=false:=by kernel_rfl
structure KB(C:CD)(w W:World):Prop where
 box:W.heap[w.heap.size]?=some (eM C.val 27)
 low:Below w.heap.size w W
def KB.on{C:CD}{w W a:World}(h:KB C w W)(b:Below W.heap.size W a):KB C w a:=
 ⟨(b.block _ (dT h.box)).trans h.box,Below.on h.low b⟩
def KB.alloc{C:CD}{w W:World}(h:KB C w W)(o:Obj):KB C w (W.alloc o):=h.on ((dU _ _).alloc (cc _) _)
def KB.lt{C:CD}{w W:World}(h:KB C w W):w.heap.size<W.heap.size:=dT h.box
def CD.Mem.below{C:CD}{w w':World}(h:C.Mem w)(a:Below w.heap.size w w'):C.Mem w':=by
 have s:=a.size;have e:∀o,w'.cell? ⟨C.k2,o,none⟩=w.cell? ⟨C.k2,o,none⟩:=λo=>a.cell (p:=⟨C.k2,o,none⟩) h.h2;have b:∀o,w'.cell? ⟨C.k3,o,none⟩=w.cell? ⟨C.k3,o,none⟩:=λo=>a.cell (p:=⟨C.k3,o,none⟩) h.h3;have c:∀o,w'.cell? ⟨C.k4,o,none⟩=w.cell? ⟨C.k4,o,none⟩:=λo=>a.cell (p:=⟨C.k4,o,none⟩) h.h4;have d:∀o,w'.cell? ⟨C.k5,o,none⟩=w.cell? ⟨C.k5,o,none⟩:=λo=>a.cell (p:=⟨C.k5,o,none⟩) h.h5;obtain⟨h2,h3,h4,h5,s2,s3,s4,s5,Ep,Er,Es,Et,Eu,AD,dB,nj,l4,J5,FI,HU,J6⟩:=h
 exact⟨by omega,by omega,by omega,by omega,s2,s3,s4,s5,λi hi=>(e _).trans (Ep i hi),λi hi=>(e _).trans (Er i hi),λi hi=>(b _).trans (Es i hi),λi hi=>(b _).trans (Et i hi),λi hi=>(b _).trans (Eu i hi),
  λi hi=>(c _).trans (AD i hi),λi hi j f h2=>(c _).trans (dB i hi j f h2),λi hi=>(c _).trans (nj i hi),λi hi hl=>⟨(l4 i hi hl).1,cg (l4 i hi hl).2 s⟩,
  λi hi j g=>(a.cell (p:=⟨(C.x4 i).lk,(C.x4 i).lo+j,none⟩) (l4 i hi (by omega)).2).trans (J5 i hi j g),λi hi=>(d _).trans (FI i hi),λi hi=>(d _).trans (HU i hi),λi hi=>(d _).trans (J6 i hi)⟩
def Reads(W:World)(v:Value)(n m:Nat)(f:Nat->Value):Prop:=∃b c,v=eQ b n c/\(0<n->∃k o,b=some ⟨k,o,none⟩/\k<W.heap.size/\∀j,j<n*m->W.cell? ⟨k,o+j,none⟩=some (f j))
def Reads.on{W a:World}{v:Value}{n m:Nat}{f:Nat->Value}(h:Reads W v n m f)(d:Below W.heap.size W a):Reads a v n m f:=by
 obtain⟨b,c,e,h⟩:=h;refine⟨b,c,e,λi=>?_⟩;obtain⟨k,o,e1,g,hc⟩:=h i;exact⟨k,o,e1,cg g d.size,λj l=>(d.cell (p:=⟨k,o+j,none⟩) g).trans (hc j l)⟩
def aaC:PL.stoodInHeld 71=false:=by kernel_rfl
def Vy:PL.eqGuardType PL.depth 71=false:=by kernel_rfl
def Rw:PL.stoodInHeld 75=false:=by kernel_rfl
def Kv:PL.eqGuardType PL.depth 75=false:=by kernel_rfl
def pI(a b:Value)(n:Nat)(f:Nat->Int)(w:World)(c:Reads w a n 1 λj=>eN e7 (f j))(hb:Reads w b n 1 λj=>eN e7 (f j))(h:n<=20):Calls PL 26 #[a,b] w (aO (eT true) w):=by
 obtain⟨r,s,rfl,c⟩:=c;obtain⟨t,u,rfl,hb⟩:=hb
 rcases ch n with rfl|e
 ·clear c hb h
  go_enter (fx (by decide) d8),d9
  go_wp2
  go_loop [5] (λv=>v=eN e7 0) (λ_=>0)
  case atStart=>rfl
  case round=>
   subst hrel
   go_wp2
   go_ret
   exact⟨rfl,dU _ _⟩
 ·obtain⟨k,o,rfl,i,c⟩:=c e;obtain⟨k',g,rfl,l,hb⟩:=hb e;have A:=eI c;have B:=eI hb;clear c hb
  go_enter (fx (by decide) d8),d9
  go_wp2
  go_loopw [5] (λv wr=>∃q:Nat,q<=n/\v=eN e7 q/\Below w.heap.size w wr) (λv _=>n-(intOf v).toNat)
  case atStart=>exact⟨0,cf _,rfl,dU _ _⟩
  case round=>
   obtain⟨q,x,rfl,d⟩:=hrel;by_cases m:q<n
   ·have y:(q:Int)<n:=by omega
    have a0:wr.cell? ⟨k,o+q,none⟩=some (eN e7 (f q)):=(d.cell (p:=⟨k,o+q,none⟩) i).trans (A.out q (by omega));have b0:wr.cell? ⟨k',g+q,none⟩=some (eN e7 (f q)):=(d.cell (p:=⟨k',g+q,none⟩) l).trans (B.out q (by omega))
    go_wp2
    go_quiet (fail)
    go_wp2
    refine⟨⟨q+1,m,by go_num,below_drewN d _⟩,by simp only[intOf];omega⟩
   ·obtain rfl:q=n:=by omega
    go_wp2
    go_ret
    exact⟨rfl,d⟩
def Cp(a b:Value)(n:Nat)(f:Nat->Int)(w:World)(c:Reads w a n 1 λj=>eN e7 (f j))(hb:Reads w b n 1 λj=>eN e7 (f j))(h:n<=20):Calls PL 24 #[a,b] w (aO (eT true) w):=by
 obtain⟨r,s,rfl,c⟩:=c;obtain⟨t,u,rfl,hb⟩:=hb
 rcases ch n with rfl|e
 ·clear c hb h
  go_enter (fx (by decide) ec),eg
  go_wp2
  go_loop [5] (λv=>v=eN e7 0) (λ_=>0)
  case atStart=>rfl
  case round=>
   subst hrel
   go_wp2
   go_ret
   exact⟨rfl,dU _ _⟩
 ·obtain⟨k,o,rfl,i,c⟩:=c e;obtain⟨k',g,rfl,l,hb⟩:=hb e;have A:=eI c;have B:=eI hb;clear c hb
  go_enter (fx (by decide) ec),eg
  go_wp2
  go_loopw [5] (λv wr=>∃q:Nat,q<=n/\v=eN e7 q/\Below w.heap.size w wr) (λv _=>n-(intOf v).toNat)
  case atStart=>exact⟨0,cf _,rfl,dU _ _⟩
  case round=>
   obtain⟨q,x,rfl,d⟩:=hrel;by_cases m:q<n
   ·have y:(q:Int)<n:=by omega
    have a0:wr.cell? ⟨k,o+q,none⟩=some (eN e7 (f q)):=(d.cell (p:=⟨k,o+q,none⟩) i).trans (A.out q (by omega));have b0:wr.cell? ⟨k',g+q,none⟩=some (eN e7 (f q)):=(d.cell (p:=⟨k',g+q,none⟩) l).trans (B.out q (by omega))
    go_wp2
    go_quiet (fail)
    go_wp2
    refine⟨⟨q+1,m,by go_num,below_drewN d _⟩,by simp only[intOf];omega⟩
   ·obtain rfl:q=n:=by omega
    go_wp2
    go_ret
    exact⟨rfl,d⟩
def zT(a b:Value)(n:Nat)(f:Nat->Int)(w:World)(e:Reads w a n 5 λj=>eN e7 (f j))(hb:Reads w b n 5 λj=>eN e7 (f j))(l:n<=20):Calls PL 23 #[a,b] w (aO (eT true) w):=by
 obtain⟨r,s,rfl,e⟩:=e;obtain⟨t,u,rfl,hb⟩:=hb;have q1:=aaC;have q2:=Vy;have q3:=yM
 rcases ch n with rfl|i
 ·clear e hb l
  go_enter (fx (by decide) eh),ei
  go_wp2
  go_loop [5] (λv=>v=eN e7 0) (λ_=>0)
  case atStart=>rfl
  case round=>
   subst hrel
   go_wp2
   go_ret
   exact⟨rfl,dU _ _⟩
 ·obtain⟨k,o,rfl,g,e⟩:=e i;obtain⟨k',d,rfl,h,hb⟩:=hb i;have A:=eI e;have B:=eI hb;clear e hb
  go_enter (fx (by decide) eh),ei
  go_wp2
  go_loopw [5] (λv wr=>∃q:Nat,q<=n/\v=eN e7 q/\Below w.heap.size w wr) (λv _=>n-(intOf v).toNat)
  case atStart=>exact⟨0,cf _,rfl,dU _ _⟩
  case round=>
   obtain⟨q,x,rfl,c⟩:=hrel;by_cases m:q<n
   ·have y:(q:Int)<n:=by omega
    have a0:wr.cell? ⟨k,o+q*5,none⟩=some (eN e7 (f (q*5))):=(c.cell (p:=⟨k,o+q*5,none⟩) g).trans ((by have:=A.out (q*5) (by omega);simpa using this));have a1:wr.cell? ⟨k,o+q*5+1,none⟩=some (eN e7 (f (q*5+1))):=(c.cell (p:=⟨k,o+q*5+1,none⟩) g).trans ((by have:=A.out (q*5+1) (by omega);rwa[<-ci]at this));have a2:wr.cell? ⟨k,o+q*5+2,none⟩=some (eN e7 (f (q*5+2))):=(c.cell (p:=⟨k,o+q*5+2,none⟩) g).trans ((by have:=A.out (q*5+2) (by omega);rwa[<-ci]at this));have a3:wr.cell? ⟨k,o+q*5+3,none⟩=some (eN e7 (f (q*5+3))):=(c.cell (p:=⟨k,o+q*5+3,none⟩) g).trans ((by have:=A.out (q*5+3) (by omega);rwa[<-ci]at this));have a4:wr.cell? ⟨k,o+q*5+4,none⟩=some (eN e7 (f (q*5+4))):=(c.cell (p:=⟨k,o+q*5+4,none⟩) g).trans ((by have:=A.out (q*5+4) (by omega);rwa[<-ci]at this));have b0:wr.cell? ⟨k',d+q*5,none⟩=some (eN e7 (f (q*5))):=(c.cell (p:=⟨k',d+q*5,none⟩) h).trans ((by have:=B.out (q*5) (by omega);simpa using this));have z:wr.cell? ⟨k',d+q*5+1,none⟩=some (eN e7 (f (q*5+1))):=(c.cell (p:=⟨k',d+q*5+1,none⟩) h).trans ((by have:=B.out (q*5+1) (by omega);rwa[<-ci]at this));have C:wr.cell? ⟨k',d+q*5+2,none⟩=some (eN e7 (f (q*5+2))):=(c.cell (p:=⟨k',d+q*5+2,none⟩) h).trans ((by have:=B.out (q*5+2) (by omega);rwa[<-ci]at this));have D:wr.cell? ⟨k',d+q*5+3,none⟩=some (eN e7 (f (q*5+3))):=(c.cell (p:=⟨k',d+q*5+3,none⟩) h).trans ((by have:=B.out (q*5+3) (by omega);rwa[<-ci]at this))
    have E:wr.cell? ⟨k',d+q*5+4,none⟩=some (eN e7 (f (q*5+4))):=(c.cell (p:=⟨k',d+q*5+4,none⟩) h).trans ((by have:=B.out (q*5+4) (by omega);rwa[<-ci]at this))
    go_wp2
    go_quiet (fail)
    go_wp2
    refine⟨⟨q+1,m,by go_num,below_drewN c _⟩,by simp only[intOf];omega⟩
   ·obtain rfl:q=n:=by omega
    go_wp2
    go_ret
    exact⟨rfl,c⟩
def vS(a b:Value)(n:Nat)(f:Nat->Int)(w:World)(e:Reads w a n 5 λj=>eN e7 (f j))(hb:Reads w b n 5 λj=>eN e7 (f j))(l:n<=20):Calls PL 25 #[a,b] w (aO (eT true) w):=by
 obtain⟨r,s,rfl,e⟩:=e;obtain⟨t,u,rfl,hb⟩:=hb;have q1:=Rw;have q2:=Kv;have q3:=yM
 rcases ch n with rfl|i
 ·clear e hb l
  go_enter (fx (by decide) ej),ek
  go_wp2
  go_loop [5] (λv=>v=eN e7 0) (λ_=>0)
  case atStart=>rfl
  case round=>
   subst hrel
   go_wp2
   go_ret
   exact⟨rfl,dU _ _⟩
 ·obtain⟨k,o,rfl,g,e⟩:=e i;obtain⟨k',d,rfl,h,hb⟩:=hb i;have A:=eI e;have B:=eI hb;clear e hb
  go_enter (fx (by decide) ej),ek
  go_wp2
  go_loopw [5] (λv wr=>∃q:Nat,q<=n/\v=eN e7 q/\Below w.heap.size w wr) (λv _=>n-(intOf v).toNat)
  case atStart=>exact⟨0,cf _,rfl,dU _ _⟩
  case round=>
   obtain⟨q,x,rfl,c⟩:=hrel;by_cases m:q<n
   ·have y:(q:Int)<n:=by omega
    have a0:wr.cell? ⟨k,o+q*5,none⟩=some (eN e7 (f (q*5))):=(c.cell (p:=⟨k,o+q*5,none⟩) g).trans ((by have:=A.out (q*5) (by omega);simpa using this));have a1:wr.cell? ⟨k,o+q*5+1,none⟩=some (eN e7 (f (q*5+1))):=(c.cell (p:=⟨k,o+q*5+1,none⟩) g).trans ((by have:=A.out (q*5+1) (by omega);rwa[<-ci]at this));have a2:wr.cell? ⟨k,o+q*5+2,none⟩=some (eN e7 (f (q*5+2))):=(c.cell (p:=⟨k,o+q*5+2,none⟩) g).trans ((by have:=A.out (q*5+2) (by omega);rwa[<-ci]at this));have a3:wr.cell? ⟨k,o+q*5+3,none⟩=some (eN e7 (f (q*5+3))):=(c.cell (p:=⟨k,o+q*5+3,none⟩) g).trans ((by have:=A.out (q*5+3) (by omega);rwa[<-ci]at this));have a4:wr.cell? ⟨k,o+q*5+4,none⟩=some (eN e7 (f (q*5+4))):=(c.cell (p:=⟨k,o+q*5+4,none⟩) g).trans ((by have:=A.out (q*5+4) (by omega);rwa[<-ci]at this));have b0:wr.cell? ⟨k',d+q*5,none⟩=some (eN e7 (f (q*5))):=(c.cell (p:=⟨k',d+q*5,none⟩) h).trans ((by have:=B.out (q*5) (by omega);simpa using this));have z:wr.cell? ⟨k',d+q*5+1,none⟩=some (eN e7 (f (q*5+1))):=(c.cell (p:=⟨k',d+q*5+1,none⟩) h).trans ((by have:=B.out (q*5+1) (by omega);rwa[<-ci]at this));have C:wr.cell? ⟨k',d+q*5+2,none⟩=some (eN e7 (f (q*5+2))):=(c.cell (p:=⟨k',d+q*5+2,none⟩) h).trans ((by have:=B.out (q*5+2) (by omega);rwa[<-ci]at this));have D:wr.cell? ⟨k',d+q*5+3,none⟩=some (eN e7 (f (q*5+3))):=(c.cell (p:=⟨k',d+q*5+3,none⟩) h).trans ((by have:=B.out (q*5+3) (by omega);rwa[<-ci]at this))
    have E:wr.cell? ⟨k',d+q*5+4,none⟩=some (eN e7 (f (q*5+4))):=(c.cell (p:=⟨k',d+q*5+4,none⟩) h).trans ((by have:=B.out (q*5+4) (by omega);rwa[<-ci]at this))
    go_wp2
    go_quiet (fail)
    go_wp2
    refine⟨⟨q+1,m,by go_num,below_drewN c _⟩,by simp only[intOf];omega⟩
   ·obtain rfl:q=n:=by omega
    go_wp2
    go_ret
    exact⟨rfl,c⟩
def fU(a b:Int)(w:World):Calls PL 22 #[eN e7 a,eN e7 b] w (aO (eV #[eN e7 a,eN e7 b]) w):=by
 go_enter (fx (by decide) Tryz.func22),Tryz.ntmps22
 go_wp2
 refine bM (v:=eV #[eN e7 a,eN e7 b]) ?_ rfl ⟨rfl,(dU _ _).alloc (cc _) _⟩;simp[bR,Tryz.results22,go_sem]
structure Lay(w W:World)(l:List (Nat×Obj)):Prop where
 iM:∀p∈l,W.heap[p.1]?=some p.2
 low:Below w.heap.size w W
def Lay.on{w W a:World}{l:List (Nat×Obj)}(h:Lay w W l)(b:Below W.heap.size W a):Lay w a l:=
 ⟨λp c=>(b.block _ (dT (h.iM p c))).trans (h.iM p c),Below.on h.low b⟩
def Lay.alloc{w W:World}{l:List (Nat×Obj)}(h:Lay w W l)(o:Obj):Lay w (W.alloc o) ((W.heap.size,o)::l):=
 ⟨λp a=>by
   rcases List.mem_cons.1 a with rfl|a
   ·exact au W o
   ·exact(((dU W.heap.size W).alloc (cc _) o).block _ (dT (h.iM p a))).trans (h.iM p a),h.low.alloc h.low.size o⟩
def Lay.nil(w:World):Lay w w []:=⟨λ_ h=>(by cases h),dU _ _⟩
theorem Lay.set{w W:World}{l:List (Nat×Obj)}(h:Lay w W l){R:Nat}(b:w.heap.size<=R)(hl:∀p∈l,R≠p.1)(o:Nat)(v:Value):Lay w (W.setCell ⟨R,o,none⟩ v) l:=
 ⟨λp a=>by
   have:(W.setCell ⟨R,o,none⟩ v).heap[p.1]?=W.heap[p.1]?:=by simp only[dK,dq,if_neg (hl p a)]
   rw[this];exact h.iM p a,h.low.setCell (p:=⟨R,o,none⟩) b v⟩
def Lay.init{w W:World}{l:List (Nat×Obj)}{p:Nat×Obj}(h:Lay w W (l++[p])):Lay w W l:=⟨λq a=>h.iM q (ai _ a),h.low⟩
def tO{W:World}{k:Nat}{c:Array Value}{t:bL}(h:W.heap[k]?=some (eM c t)):∀o,W.frozen? ⟨k,o,none⟩=false:=λo=>by simp[World.frozen?,h]
def exN:Nat->Nat->Int
 |0,1=>20|0,2=>20|0,3=>0|0,4=>12|0,5=>1|0,6=>1|0,7=>4|0,8=>6|0,9=>2|0,10=>3
 |1,1=>13|1,2=>13|1,3=>5|1,4=>5|1,5=>0|1,6=>2|1,7=>4|1,8=>5|1,9=>3|1,10=>3
 |2,1=>25|2,2=>25|2,3=>-7|2,4=>7|2,5=>1|2,6=>3|2,7=>5|2,8=>5|2,9=>2|2,10=>4
 |_,_=>0
def Vz(a ca lb b:Nat):Nat->iJ
 |0=>{ name:=⟨#[97]⟩,n:=exN 0,lb:=some ⟨a,0,none⟩,ln:=1,lc:=ca,lk:=a,lo:=0,lane:=λ_=>1 }
 |1=>{ name:=⟨#[98]⟩,n:=exN 1,lb:=some ⟨lb,0,none⟩,ln:=1,lc:=b,lk:=lb,lo:=0,lane:=λ_=>2 }
 |_=>{ name:=⟨#[99]⟩,n:=exN 2,lb:=none,ln:=0,lc:=0,lk:=0,lo:=0,lane:=λ_=>0 }
def alj:Nat->Int×Int
 |0=>(5,15)|_=>(10,18)
def zU:Nat->Int×Int×Int
 |0=>(0,1,40)|1=>(1,2,30)|2=>(2,3,30)|_=>(0,3,80)
def alk(d:Int):Nat->ByteArray×Int×Int
 |0=>(⟨#[114,101,100]⟩,0,0)|_=>(⟨#[98,108,117,101]⟩,1,d)
def ir(k2 c k3 c3 a e b f g ca lb h:Nat)(d:Int):CD:=
 { l:=60,p:=4,b2:=some ⟨k2,0,none⟩,k2:=k2,o2:=0,n2:=2,c2:=c,x2:=alj,b3:=some ⟨k3,0,none⟩,k3:=k3,o3:=0,n3:=4,c3:=c3,x3:=zU,
   b4:=some ⟨a,0,none⟩,k4:=a,o4:=0,n4:=3,c4:=e,x4:=Vz g ca lb h,b5:=some ⟨b,0,none⟩,k5:=b,o5:=0,n5:=2,c5:=f,x5:=alk d }
def VB(d:Int)(C:CD):Prop:=∃k2 a k3 c3 b c e f g h lb i,C=ir k2 a k3 c3 b c e f g h lb i d
abbrev bh(n:Int):Value:=eN e7 n
def vT:List Value:=[bh 5,bh 15,bh 10,bh 18]
def vU:List Value:=[bh 0,bh 1,bh 40,bh 1,bh 2,bh 30,bh 2,bh 3,bh 30,bh 0,bh 3,bh 80]
def rO(a ca lb b:Nat):List Value:=[eP ⟨#[97]⟩,bh 20,bh 20,bh 0,bh 12,bh 1,bh 1,bh 4,bh 6,bh 2,bh 3,eQ (some ⟨a,0,none⟩) 1 ca,eP ⟨#[98]⟩,bh 13,bh 13,bh 5,bh 5,bh 0,bh 2,bh 4,bh 5,bh 3,bh 3,eQ (some ⟨lb,0,none⟩) 1 b,eP ⟨#[99]⟩,bh 25,bh 25,bh (-7),bh 7,bh 1,bh 3,bh 5,bh 5,bh 2,bh 4,eQ none 0 0]
def qB(d:Int):List Value:=[eP ⟨#[114,101,100]⟩,bh 0,bh 0,eP ⟨#[98,108,117,101]⟩,bh 1,bh d]
def Row(W:World)(k:Nat)(l:List Value):Prop:=k<W.heap.size/\∀(j:Nat)v,l[j]?=some v->W.cell? ⟨k,j,none⟩=some v
def Row.of{W:World}{k:Nat}{l:List Value}{c:Array Value}{t:bL}{a:Nat×Nat}(h:W.heap[k]?=some (eM c t a))(hl:∀(j:Nat)v,l[j]?=some v->c[j]?=some v):Row W k l:=
 ⟨dT h,λj v e=>by simp[dL,h,hl j v e]⟩
def Row.on{W a:World}{k:Nat}{l:List Value}(h:Row W k l)(b:Below W.heap.size W a):Row a k l:=
 ⟨cg h.1 b.size,λj v e=>(b.cell (p:=⟨k,j,none⟩) h.1).trans (h.2 j v e)⟩
def Lay.row{w W:World}{L:List (Nat×Obj)}(h:Lay w W L){k:Nat}{c:Array Value}{t:bL}{l:List Value}(a:(k,eM c t)∈L)(e:c.toList=l):Row W k l:=
 Row.of (h.iM _ a) λj v hv=>by rw[<-e]at hv;simpa using hv
def Rx{W:World}{k2 p k3 c3 k q m r h ca lb l:Nat}{d:Int}(b:Row W k2 vT)(a:Row W k3 vU)(c:Row W k (rO h ca lb l))(f:Row W m (qB d))(s:Row W h [bh 1])(hb:Row W lb [bh 2]) :
 (ir k2 p k3 c3 k q m r h ca lb l d).At W:=by
 refine⟨cl rfl,cl rfl,cl rfl,cl rfl,b.1,a.1,c.1,f.1,λ_=>rfl,λ_=>rfl,λ_=>rfl,λ_=>rfl,λi hi=>?_,λi hi=>?_,λi hi=>?_,λi hi=>?_,λi hi=>?_,λi hi=>?_,λi hi=>?_,λi hi j o b=>?_,λi hi=>?_,λi hi hl=>?_,λi hi j g=>?_,λi hi=>?_,λi hi=>?_,λi hi=>?_,λi hi=>?_⟩
 ·match i,hi with
  |0,_=>exact b.2 0 _ rfl
  |1,_=>exact b.2 2 _ rfl
 ·match i,hi with
  |0,_=>exact b.2 1 _ rfl
  |1,_=>exact b.2 3 _ rfl
 ·match i,hi with
  |0,_=>exact a.2 0 _ rfl
  |1,_=>exact a.2 3 _ rfl
  |2,_=>exact a.2 6 _ rfl
  |3,_=>exact a.2 9 _ rfl
 ·match i,hi with
  |0,_=>exact a.2 1 _ rfl
  |1,_=>exact a.2 4 _ rfl
  |2,_=>exact a.2 7 _ rfl
  |3,_=>exact a.2 10 _ rfl
 ·match i,hi with
  |0,_=>exact a.2 2 _ rfl
  |1,_=>exact a.2 5 _ rfl
  |2,_=>exact a.2 8 _ rfl
  |3,_=>exact a.2 11 _ rfl
 ·match i,hi with
  |0,_=>exact⟨cl rfl,cl rfl⟩
  |1,_=>exact⟨cl rfl,cl rfl⟩
  |2,_=>exact⟨cl rfl,cl rfl⟩
 ·match i,hi with
  |0,_=>exact c.2 0 _ rfl
  |1,_=>exact c.2 12 _ rfl
  |2,_=>exact c.2 24 _ rfl
 ·have key:∀i,i<3->∀j,1<=j->j<=10->(rO h ca lb l)[i*12+j]?=some (bh (exN i j)):=by
   intro i hi j o b
   match i,j,hi,o,b with
   |0,1,_,_,_|0,2,_,_,_|0,3,_,_,_|0,4,_,_,_|0,5,_,_,_|0,6,_,_,_|0,7,_,_,_|0,8,_,_,_|0,9,_,_,_|0,10,_,_,_=>rfl
   |1,1,_,_,_|1,2,_,_,_|1,3,_,_,_|1,4,_,_,_|1,5,_,_,_|1,6,_,_,_|1,7,_,_,_|1,8,_,_,_|1,9,_,_,_|1,10,_,_,_=>rfl
   |2,1,_,_,_|2,2,_,_,_|2,3,_,_,_|2,4,_,_,_|2,5,_,_,_|2,6,_,_,_|2,7,_,_,_|2,8,_,_,_|2,9,_,_,_|2,10,_,_,_=>rfl
  have e:((ir k2 p k3 c3 k q m r h ca lb l d).x4 i).n j=exN i j:=by
   match i,hi with
   |0,_=>rfl
   |1,_=>rfl
   |2,_=>rfl
  rw[e];show W.cell? ⟨k,0+i*12+j,none⟩=_;rw[cm];exact c.2 _ _ (key i hi j o b)
 ·match i,hi with
  |0,_=>exact c.2 11 _ rfl
  |1,_=>exact c.2 23 _ rfl
  |2,_=>exact c.2 35 _ rfl
 ·match i,hi,hl with
  |0,_,_=>exact⟨rfl,s.1⟩
  |1,_,_=>exact⟨rfl,hb.1⟩
  |2,_,hl=>exact absurd hl (co 0)
 ·match i,hi,j,g with
  |0,_,0,_=>exact s.2 0 _ rfl
  |1,_,0,_=>exact hb.2 0 _ rfl
  |0,_,j+1,g=>exact absurd g (by simp[ir,Vz])
  |1,_,j+1,g=>exact absurd g (by simp[ir,Vz])
  |2,_,j,g=>exact absurd g (by simp[ir,Vz])
 ·match i,hi with
  |0,_=>exact cl rfl
  |1,_=>exact cl rfl
 ·match i,hi with
  |0,_=>exact f.2 0 _ rfl
  |1,_=>exact f.2 3 _ rfl
 ·match i,hi with
  |0,_=>exact f.2 1 _ rfl
  |1,_=>exact f.2 4 _ rfl
 ·match i,hi with
  |0,_=>exact f.2 2 _ rfl
  |1,_=>exact f.2 5 _ rfl
def EV(w:World):Calls PL 12 #[] w λe w'=>∃k2 X k3 c3 L Y M j q ca lb N,e=ft (eV (ir k2 X k3 c3 L Y M j q ca lb N 0).val)/\(Row w' k2 vT/\Row w' k3 vU/\Row w' L (rO q ca lb N)/\Row w' M (qB 0)/\Row w' q [bh 1]/\Row w' lb [bh 2])/\Below w.heap.size w w':=by
 go_enter (fx (by decide) Tryz.func12),Tryz.ntmps12
 go_wp2_with (first|(go_at_call 22;have _:=h;refine(fU _ _ _).mono ?_;rintro e b⟨rfl,a⟩;have i:=eI (((h.out).on a));clear a;have r:=dT (i.out.iM (w.heap.size,eM #[eN e7 0,eN e7 0,eQ none 0 0,eQ none 0 0,eQ none 0 0,eQ none 0 0] 27) (by simp));simp only at r;have O:=tO (i.out.iM (w.heap.size,eM #[eN e7 0,eN e7 0,eQ none 0 0,eQ none 0 0,eQ none 0 0,eQ none 0 0] 27) (by simp));simp only at O;obtain⟨s,u,x,y,f4,z⟩:=bf (i.out.iM (w.heap.size,eM #[eN e7 0,eN e7 0,eQ none 0 0,eQ none 0 0,eQ none 0 0,eQ none 0 0] 27) (by simp));skip)|(go_at_call 22;have _:=A;refine(fU _ _ _).mono ?_;rintro e Z⟨rfl,a⟩;have h:=eI (((A.out).on a));clear a;skip)|(go_at_call 22;have _:=B;refine(fU _ _ _).mono ?_;rintro e w12⟨rfl,a⟩;have A:=eI (((B.out).on a));clear a;skip)|(go_at_call 22;have _:=l;refine(fU _ _ _).mono ?_;rintro e w11⟨rfl,a⟩;have B:=eI ((((l.out).alloc _).on a));clear a;skip)|(go_at_call 22;have _:=C;refine(fU _ _ _).mono ?_;rintro e d⟨rfl,a⟩;have l:=eI (((C.out).on a));clear a;skip)|(go_at_call 22;have _:=D;refine(fU _ _ _).mono ?_;rintro e w9⟨rfl,a⟩;have C:=eI (((D.out).on a));clear a;skip)|(go_at_call 22;have _:=E;refine(fU _ _ _).mono ?_;rintro e w8⟨rfl,a⟩;have D:=eI (((E.out).on a));clear a;skip)|(go_at_call 22;have _:=m;refine(fU _ _ _).mono ?_;rintro e w7⟨rfl,a⟩;have E:=eI ((((m.out).alloc _).on a));clear a;skip)|(go_at_call 22;have _:=F;refine(fU _ _ _).mono ?_;rintro e w6⟨rfl,a⟩;have m:=eI (((F.out).on a));clear a;skip)|(go_at_call 22;have _:=H;refine(fU _ _ _).mono ?_;rintro e w5⟨rfl,a⟩;have F:=eI (((H.out).on a));clear a;skip)|(go_at_call 22;have _:=I;refine(fU _ _ _).mono ?_;rintro e w4⟨rfl,a⟩;have H:=eI (((I.out).on a));clear a;skip)|(go_at_call 22;have _:=n;refine(fU _ _ _).mono ?_;rintro e w3⟨rfl,a⟩;have I:=eI (((((n.out).alloc _).alloc _).on a));clear a;skip)|(go_at_call 22;have _:=J;refine(fU _ _ _).mono ?_;rintro e w2⟨rfl,a⟩;have n:=eI (((J.out).on a));clear a;skip)|(go_at_call 22;refine(fU _ _ _).mono ?_;rintro e w1⟨rfl,a⟩;have J:=eI ((((Lay.nil w).alloc _).on a));clear a;skip))
 obtain⟨W,k⟩:∃W:World,W=((((((b.setCell ⟨w.heap.size,0,none⟩ (eN e7 60)).setCell ⟨w.heap.size,1,none⟩ (eN e7 4)).setCell ⟨w.heap.size,2,none⟩ (eQ (some ⟨w2.heap.size,0,none⟩) 2 2)).setCell ⟨w.heap.size,3,none⟩ (eQ (some ⟨w2.heap.size+1,0,none⟩) 4 4)).setCell ⟨w.heap.size,4,none⟩ (eQ (some ⟨b.heap.size,0,none⟩) 3 3)).setCell ⟨w.heap.size,5,none⟩ (eQ (some ⟨b.heap.size+1,0,none⟩) 2 2)):=⟨_,rfl⟩
 have z2:w.heap.size<w2.heap.size:=dT (n.out.iM (w.heap.size,eM #[eN e7 0,eN e7 0,eQ none 0 0,eQ none 0 0,eQ none 0 0,eQ none 0 0] 27) (by simp));have z6:w.heap.size<w6.heap.size:=dT (m.out.iM (w.heap.size,eM #[eN e7 0,eN e7 0,eQ none 0 0,eQ none 0 0,eQ none 0 0,eQ none 0 0] 27) (by simp));have UZ:w.heap.size<d.heap.size:=dT (l.out.iM (w.heap.size,eM #[eN e7 0,eN e7 0,eQ none 0 0,eQ none 0 0,eQ none 0 0,eQ none 0 0] 27) (by simp));have j:W.heap.size=b.heap.size:=by rw[k];simp only[dO]
 have o:W.heap[w.heap.size]?=some (eM #[eN e7 60,eN e7 4,eQ (some ⟨w2.heap.size,0,none⟩) 2 2,eQ (some ⟨w2.heap.size+1,0,none⟩) 4 4,eQ (some ⟨b.heap.size,0,none⟩) 3 3,eQ (some ⟨b.heap.size+1,0,none⟩) 2 2] 27):=by
  have g:=i.out.iM (w.heap.size,eM #[eN e7 0,eN e7 0,eQ none 0 0,eQ none 0 0,eQ none 0 0,eQ none 0 0] 27) (by simp);simp only at g;rw[k];simp[dK,dq,g]
 have LW:Lay w W [(d.heap.size,eM #[eN e7 2] 3),(w6.heap.size,eM #[eN e7 1] 3),(w2.heap.size+1,eM (eN e7 0::eN e7 1::eN e7 40::eN e7 1::eN e7 2::eN e7 30::eN e7 2::eN e7 3::eN e7 30::eN e7 0::eN e7 3::eN e7 80::[]).toArray 45),(w2.heap.size,eM #[eN e7 5,eN e7 15,eN e7 10,eN e7 18] 40)]:=by
  have hl:∀p∈[(d.heap.size,eM #[eN e7 2] 3),(w6.heap.size,eM #[eN e7 1] 3),(w2.heap.size+1,eM (eN e7 0::eN e7 1::eN e7 40::eN e7 1::eN e7 2::eN e7 30::eN e7 2::eN e7 3::eN e7 30::eN e7 0::eN e7 3::eN e7 80::[]).toArray 45),(w2.heap.size,eM #[eN e7 5,eN e7 15,eN e7 10,eN e7 18] 40)],w.heap.size≠p.1:=by
   intro p P;simp only[ao,ap,or_false]at P
   rcases P with rfl|rfl|rfl|rfl<;>simp only<;>omega
  rw[k];have K:=i.out;simp only[dPq]at K;exact((((((Lay.init (p:=(w.heap.size,eM #[eN e7 0,eN e7 0,eQ none 0 0,eQ none 0 0,eQ none 0 0,eQ none 0 0] 27)) K).set (cc _) hl 0 _).set (cc _) hl 1 _).set (cc _) hl 2 _).set (cc _) hl 3 _).set (cc _) hl 4 _).set (cc _) hl 5 _
 rw[<-k];clear k i h A B l C D E m F H I n J s u x y f4 z O;rw[<-j];rw[<-j]at o;have f:Lay w ((W.alloc (eM (eP ⟨#[97]⟩::eN e7 20::eN e7 20::eN e7 0::eN e7 12::eN e7 1::eN e7 1::eN e7 4::eN e7 6::eN e7 2::eN e7 3::eQ (some ⟨w6.heap.size,0,none⟩) 1 1::eP ⟨#[98]⟩::eN e7 13::eN e7 13::eN e7 5::eN e7 5::eN e7 0::eN e7 2::eN e7 4::eN e7 5::eN e7 3::eN e7 3::eQ (some ⟨d.heap.size,0,none⟩) 1 1::eP ⟨#[99]⟩::eN e7 25::eN e7 25::eN e7 (-7)::eN e7 7::eN e7 1::eN e7 3::eN e7 5::eN e7 5::eN e7 2::eN e7 4::eQ none 0 0::[]).toArray 42)).alloc (eM #[eP ⟨#[114,101,100]⟩,eN e7 0,eN e7 0,eP ⟨#[98,108,117,101]⟩,eN e7 1,eN e7 0] 94)) _:=(LW.alloc (eM (eP ⟨#[97]⟩::eN e7 20::eN e7 20::eN e7 0::eN e7 12::eN e7 1::eN e7 1::eN e7 4::eN e7 6::eN e7 2::eN e7 3::eQ (some ⟨w6.heap.size,0,none⟩) 1 1::eP ⟨#[98]⟩::eN e7 13::eN e7 13::eN e7 5::eN e7 5::eN e7 0::eN e7 2::eN e7 4::eN e7 5::eN e7 3::eN e7 3::eQ (some ⟨d.heap.size,0,none⟩) 1 1::eP ⟨#[99]⟩::eN e7 25::eN e7 25::eN e7 (-7)::eN e7 7::eN e7 1::eN e7 3::eN e7 5::eN e7 5::eN e7 2::eN e7 4::eQ none 0 0::[]).toArray 42)).alloc (eM #[eP ⟨#[114,101,100]⟩,eN e7 0,eN e7 0,eP ⟨#[98,108,117,101]⟩,eN e7 1,eN e7 0] 94)
 have Q:Row _ w2.heap.size vT:=f.row (c:=#[eN e7 5,eN e7 15,eN e7 10,eN e7 18]) (t:=40) (by simp) rfl;have R:Row _ (w2.heap.size+1) vU:=f.row (c:=(eN e7 0::eN e7 1::eN e7 40::eN e7 1::eN e7 2::eN e7 30::eN e7 2::eN e7 3::eN e7 30::eN e7 0::eN e7 3::eN e7 80::[]).toArray) (t:=45) (by simp) rfl;have S:Row _ w6.heap.size [bh 1]:=f.row (c:=#[eN e7 1]) (t:=3) (by simp) rfl;have T:Row _ d.heap.size [bh 2]:=f.row (c:=#[eN e7 2]) (t:=3) (by simp) rfl;have U:Row _ W.heap.size (rO w6.heap.size 1 d.heap.size 1):=f.row (c:=(eP ⟨#[97]⟩::eN e7 20::eN e7 20::eN e7 0::eN e7 12::eN e7 1::eN e7 1::eN e7 4::eN e7 6::eN e7 2::eN e7 3::eQ (some ⟨w6.heap.size,0,none⟩) 1 1::eP ⟨#[98]⟩::eN e7 13::eN e7 13::eN e7 5::eN e7 5::eN e7 0::eN e7 2::eN e7 4::eN e7 5::eN e7 3::eN e7 3::eQ (some ⟨d.heap.size,0,none⟩) 1 1::eP ⟨#[99]⟩::eN e7 25::eN e7 25::eN e7 (-7)::eN e7 7::eN e7 1::eN e7 3::eN e7 5::eN e7 5::eN e7 2::eN e7 4::eQ none 0 0::[]).toArray) (t:=42) (by simp) rfl
 have V:Row _ (W.heap.size+1) (qB 0):=f.row (c:=#[eP ⟨#[114,101,100]⟩,eN e7 0,eN e7 0,eP ⟨#[98,108,117,101]⟩,eN e7 1,eN e7 0]) (t:=94) (by simp) rfl;obtain⟨s,u,x,y,f4,z⟩:=bf o;have low:=f.low;have r:w.heap.size<W.heap.size:=dT o;clear LW f o j;refine bM (v:=eV (ir w2.heap.size 2 (w2.heap.size+1) 4 W.heap.size 3 (W.heap.size+1) 2 w6.heap.size 1 d.heap.size 1 0).val) ?_ rfl ⟨_,_,_,_,_,_,_,_,_,_,_,_,rfl,⟨Q,R,U,V,S,T⟩,low⟩;clear Q R U V S T low;simp[bR,Tryz.results12,go_sem,s,u,x,y,f4,z,r,ir]
def Np(a:Int)(w:World):Calls PL 99 #[eN e7 a] w λe w'=>e=ft (eT false)/\w=w':=by
 go_enter (fx (by decide) Tryz.func99),Tryz.ntmps99
 go_wp2
 go_ret
 exact⟨rfl,rfl⟩
def Ip(a b:Int):Int:=if a<b then -1 else if b<a then 1 else 0
def Kw(a b:Int)(w:World):Calls PL 69 #[eN e7 a,eN e7 b] w λe w'=>e=ft (eN e7 (Ip a b))/\w=w':=by
 go_enter (fx (by decide) Tryz.func69),Tryz.ntmps69
 go_wp2_with (go_at_call 99;refine(Np _ _).mono ?_;rintro e w'⟨rfl,rfl⟩)
 all_goals (go_ret;refine⟨aC ?_,rfl⟩;simp only[Ip];split<;>(try split)<;>omega)
def EW(f g:Nat->Int)(n m:Nat):Nat->Nat->Int
 |0,_=>if n<m then -1 else 0
 |k+1,q=>if m<=q then 1 else if Ip (f q) (g q)≠0 then Ip (f q) (g q) else EW f g n m k (q+1)
def aaE(f g:Nat->Int)(n m:Nat):Int:=EW f g n m n 0
def EX(a b:Value)(n m:Nat)(f g:Nat->Int)(w:World)(h:Reads w a n 1 λj=>eN e7 (f j))(hb:Reads w b m 1 λj=>eN e7 (g j))(y:n<=20)(z:m<=20) :
 Calls PL 53 #[a,b] w λe w'=>e=ft (eN e7 (aaE f g n m))/\w=w':=by
 obtain⟨C,D,rfl,h⟩:=h;obtain⟨F,H,rfl,hb⟩:=hb;have A:=eI h;have B:=eI hb;clear h hb
 go_enter (fx (by decide) Tryz.func53),Tryz.ntmps53
 go_wp2
 go_loop [11] (λv=>∃q:Nat,q<=n/\v=eN e7 q/\aaE f g n m=EW f g n m (n-q) q) (λv=>n-(intOf v).toNat)
 case atStart=>exact⟨0,cf _,rfl,rfl⟩
 case round=>
  obtain⟨q,I,rfl,i⟩:=hrel;by_cases r:q<n
  ·have E:=eI i;clear i;obtain⟨k,o,rfl,J,hc⟩:=A.out (by omega);have a0:w.cell? ⟨k,o+q,none⟩=some (eN e7 (f q)):=hc q (by omega);clear hc;have l:(q:Int)<n:=by omega
   have es:n-q=(n-(q+1))+1:=by omega
   by_cases s:q<m
   ·obtain⟨k',t,rfl,K,d⟩:=B.out (by omega);have b0:w.cell? ⟨k',t+q,none⟩=some (eN e7 (g q)):=d q (by omega);clear d;have u:(q:Int)<m:=by omega
    by_cases c:Ip (f q) (g q)=0
    ·have x:(Ip (f q) (g q) != 0)=false:=by simp[c]
     have Z:=eI c;clear c
     go_wp2_with (go_at_call 69;refine(Kw _ _ _).mono ?_;rintro e w'⟨rfl,rfl⟩)
     refine⟨⟨q+1,r,by go_num,?_⟩,by simp only[intOf];omega⟩;rw[E.out,es,EW,if_neg (by omega),if_neg (by simp[Z.out])]
    ·have x:(Ip (f q) (g q) != 0)=true:=by simp[c]
     have Z:=eI c;clear c
     go_wp2_with (go_at_call 69;refine(Kw _ _ _).mono ?_;rintro e w'⟨rfl,rfl⟩)
     go_ret
     refine⟨aC ?_,rfl⟩;rw[E.out,es,EW,if_neg (by omega),if_pos Z.out]
   ·have u:(m:Int)<=q:=by omega
    go_wp2
    go_ret
    refine⟨aC ?_,rfl⟩;rw[E.out,es,EW,if_pos (by omega)]
  ·obtain rfl:q=n:=by omega
   have E:=eI i;clear i;by_cases p:q<m
   ·have l:(q:Int)<m:=by omega
    go_wp2
    go_ret
    refine⟨aC ?_,rfl⟩;rw[E.out,cp,EW,if_pos p]
   ·have l:(m:Int)<=q:=by omega
    go_wp2
    go_ret
    refine⟨aC ?_,rfl⟩;rw[E.out,cp,EW,if_neg p]
def bB(W:World)(v:Value)(l:List Int):Prop:=Reads W v l.length 1 λj=>eN e7 (l.getD j 0)
def tw(W:World)(base:Nat)(v:Value)(l:List Int):Prop:=W.ownsRow base 3 1 v l.length (l.map λx=>eN e7 x)
def tw.reads{W:World}{base:Nat}{v:Value}{l:List Int}(h:tw W base v l):bB W v l:=by
 obtain⟨_,h⟩:=h
 rcases h with⟨rfl,a⟩|⟨g,cap,b,rfl,hb,hg,hc,d,hs,c⟩
 ·exact⟨none,0,by rw[a],λh=>by omega⟩
 ·refine⟨_,_,rfl,λa=>⟨g,0,rfl,dT hg,λj f=>?_⟩⟩;have e:(l.map λx=>eN e7 x)[j]?=some (eN e7 (l.getD j 0)):=by
   rw[aq,ar (by omega)];simp[aw,ar (show j<l.length by omega)]
  rw[<-c,aI (by omega)]at e;simp only[dL,hg,cm];simpa using e
def bB.on{W a:World}{v:Value}{l:List Int}(h:bB W v l)(b:Below W.heap.size W a):bB a v l:=Reads.on h b
def Rz:PL.underlying 31=some (fA 3):=by kernel_rfl
def RE:(PL.info? 3).map (λi=>(i.zero,i.size,i.bytes))=some (some (eN e7 0),1,8):=by kernel_rfl
def afG(l m:List Int):Int:=aaE (λj=>l.getD j 0) (λj=>m.getD j 0) l.length m.length
def RF{l m:List Int}{a b:Value}{w:World}(c:bB w a l)(hb:bB w b m)(d:l.length<=20)(f:m.length<=20):Calls PL 53 #[a,b] w λe w'=>e=ft (eN e7 (afG l m))/\w=w':=
 EX a b _ _ _ _ w c hb d f
def tw.alloc{W:World}{base:Nat}{v:Value}{l:List Int}(h:tw W base v l)(o:Obj):tw (W.alloc o) base v l:=World.ownsRow.alloc h o
def cZ{W:World}{base e size n:Nat}{v:Value}{xs:List Value}(h:W.ownsRow base e size v n xs):∀k,v.ownBlock=some k->base<=k:=by
 intro k a;obtain⟨_,⟨rfl,_⟩|⟨g,cap,b,rfl,hb,_⟩⟩:=h
 ·cases a
 ·cases a;exact hb
def EY{ops:Array Oper}{rest:List Oper}{o:Oper}{a:Act}{Q:Exit->Act->World->Prop}{w:World}(f:o.guard=none)(s x:bT)
 (g:o.op=.call { callee:=.builtin .append,args:=#[s,x],argTypes:=#[31,31] }) (base:Nat) (v:Value) (l:List Int) (j:Int) (b:Nat) (hs:a.eval s=v) (c:tw w base v l)
 (i:a.eval x=eQ (some ⟨b,0,none⟩) 1 1) (hc:w.cell? ⟨b,0,none⟩=some (eN e7 j)) (hl:l.length<=1000) (d:base<=w.heap.size)
 (h:∀v' w',tw w' base v' (l++[j])->Below base w w'->bC PL ops Q rest (a.put o.dst v') w'):bC PL ops Q (o::rest) a w:=by
 obtain⟨m,hi,n,p,q⟩:=bX RE;refine b1 _ f s x 31 g base 3 m (eN e7 0) 1 8 Rz hi n p q rfl (by decide) v l.length _ hs c ⟨b,0,none⟩ 1 1 [eN e7 j] i rfl (λk u e=>?_) (by simp[eS]) (by simp only[maxLen];omega) (by omega) d λv' w' r t _=>?_
 ·match k,e with
  |0,e=>cases e;exact hc
 ·refine h v' w' ?_ ((dU base w).grown t d (cZ c));unfold tw;rw[aJ,aP];exact r
def zV(s j:Nat):Bool:=s / 2 ^ j % 2==1
def pJ(s:Nat):Nat->List Int
 |0=>[]
 |j+1=>if zV s j then pJ s j++[(j:Int)] else pJ s j
def qj(s:Nat):∀j,(pJ s j).length<=j
 |0=>cc _
 |j+1=>by
  have:=qj s j;rw[pJ]
  split
  ·simp;omega
  ·omega
def Iq(C:CD)(s i:Nat):Bool:=zV s (C.x3 i).1.toNat||zV s (C.x3 i).2.1.toNat
def RG(C:CD)(s:Nat):Bool:=(aa C.n3).all (Iq C s)
def AW(l b:List Int):Bool:=decide (b.length<l.length)||(decide (l.length=b.length)&&decide (0<afG l b))
def kT(C:CD)(p:Nat)(a:Option (List Int))(s:Nat):Option (List Int):=
 if a.any (AW (pJ s p)) then a else if RG C s then some (pJ s p) else a
def qC(C:CD)(p:Nat):Nat->Option (List Int)
 |0=>none
 |q+1=>kT C p (qC C p q) q
def E3(C:CD)(p:Nat):∀q,((qC C p q).getD []).length<=p
 |0=>cf _
 |q+1=>by
  have:=E3 C p q;rw[qC,kT]
  split
  ·exact this
  ·split
   ·exact qj q p
   ·exact this
def RH{p:Nat}(h:p<=6):wrap64 ((2:Int) ^ p)=((2 ^ p:Nat):Int):=by
 match p,h with
 |0,_|1,_|2,_|3,_|4,_|5,_|6,_=>decide +kernel
def VE:((aa 64).all λq=>(aa 6).all λj=>bits BinOp.and e7 ((q:Int) / 2 ^ j) 1==(if zV q j then 1 else 0))=true:=by decide +kernel
def Cq(q:Nat)(a:q<64)(j:Nat)(b:j<6):bits BinOp.and e7 ((q:Int) / 2 ^ j) 1=if zV q j then 1 else 0:=by
 have:=VE;simp only[aS,aT,beq_iff_eq]at this;exact this q a j b
def aaF{C:CD}{p:Nat}(hc:C.cx=0)(f:C.p=p){i:Nat}(hi:i<C.n3):∃a b:Nat,(C.x3 i).1=a/\(C.x3 i).2.1=b/\a<p/\b<p:=by
 have c:kz C.p C.n3 C.x3=0:=ck hc 2 (by omega);unfold kz at c
 split at c
 ·cases c
 have d:=ck c i hi;unfold fQ at d
 split at d
 case isFalse=>cases d
 rename_i e;simp only[bO,dx,decide_eq_true_eq]at e;exact⟨(C.x3 i).1.toNat,(C.x3 i).2.1.toNat,by omega,by omega,by omega,by omega⟩
def aoA:Value->Prop
 |eQ _ n c=>n<=c
 |_=>True
def R9(W:World)(v:Value)(l:List Int):Prop:=bB W v l/\aoA v
def R9.on{W a:World}{v:Value}{l:List Int}(h:R9 W v l)(b:Below W.heap.size W a):R9 a v l:=⟨h.1.on b,h.2⟩
def tw.amv{W:World}{base:Nat}{v:Value}{l:List Int}(h:tw W base v l):R9 W v l:=by
 refine⟨h.reads,?_⟩;obtain⟨_,h⟩:=h
 rcases h with⟨rfl,b⟩|⟨g,cap,a,rfl,hb,hg,hc,c,hs,d⟩
 ·exact cc 0
 ·exact hc
def abX(C:CD)(w:World)(h:C.At w)(hc:C.cx=0):Calls PL 21 #[eV C.val] w λe w'=>∃v,e=ft (eW #[v,eN e7 0])/\R9 w' v ((qC C C.p.toNat (2 ^ C.p.toNat)).getD [])/\Below w.heap.size w w':=by
 have HA:=eI h;have K0:Hid (KB C w (w.alloc (eM C.val 27))):=eI ⟨au _ _,(dU _ _).alloc (cc _) _⟩;obtain⟨p,hp⟩:∃p:Nat,C.p=p:=⟨C.p.toNat,by have:=cK (ck hc 0 (by omega));omega⟩
 have m:p<=6:=by have:=cK (ck hc 0 (by omega));omega
 have HC:=eI hc;have Y:=eI hp;clear h hc hp
 go_enter (fx (by decide) Tryz.func21),Tryz.ntmps21
 go_wp2
 go_step3
 go_wp2_with (go_at_call 48;refine(sY HC.out (HA.out.below K0.out.low)).mono ?_;rintro e w1⟨rfl,aL⟩;have K1:=eI (K0.out.on aL);clear aL;have hz:=K1.out.lt;obtain⟨M,t,O,H,f4,P⟩:=bf K1.out.box)
 go_step3
 rw[Y.out]at t;have q0:(0:Int)<=p:=by omega
 have q1:(p:Int)<=6:=by omega
 have hN:=RH m;obtain⟨N,o⟩:∃N:Nat,N=2 ^ p:=⟨_,rfl⟩
 rw[<-o]at hN;have as5:N<=64:=by rw[o];exact Nat.pow_le_pow_right (n:=2) (by omega) m
 have HN:=eI o;clear o
 go_upto_region 7 with fail
 rw[hN];clear hN;clear M t O H f4 P
 go_loopw [5,6,20] (λv5 v6 u wr=>∃q:Nat,q<=N/\u=eN e7 q/\v6=eT (qC C p q).isSome/\R9 wr v5 ((qC C p q).getD [])/\KB C w wr) (λ_ _ u _=>N-(intOf u).toNat)
 case atStart=>exact⟨0,cf _,rfl,rfl,⟨⟨none,0,rfl,λh=>absurd h (by simp[qC])⟩,cc 0⟩,K1.out⟩
 case round=>
  obtain⟨q,hq,rfl,rfl,I,hK⟩:=hrel;obtain⟨Z,Kx⟩:∃b,b=qC C p q:=⟨_,rfl⟩
  have hbl:(Z.getD []).length<=6:=by rw[Kx];exact cq (E3 C p q) m
  rw[<-Kx]at I ⊢;have x:=eI Kx;have HR:=eI I;have HK:=eI hK;clear Kx I hK;by_cases aH:q<N
  ·have i2:(q:Int)<N:=by omega
   have hz:=HK.out.lt;obtain⟨M,t,O,H,f4,P⟩:=bf HK.out.box;rw[Y.out]at t;obtain⟨Wq,rfl⟩:∃W:World,W=wr:=⟨_,rfl⟩
   go_upto_region 11 with fail
   go_loopw [8,25] (λv8 y wr=>∃j:Nat,j<=p/\y=eN e7 j/\tw wr Wq.heap.size v8 (pJ q j)/\Below Wq.heap.size Wq wr) (λ_ y _=>p-(intOf y).toNat)
   case atStart=>exact⟨0,cf _,rfl,⟨rfl,fi ⟨rfl,rfl⟩⟩,dU _ _⟩
   case round=>
    obtain⟨j,hj,rfl,hO,g⟩:=hrel;have HO:=eI hO;have Q:=eI g;clear hO g M t O H f4 P;by_cases R:j<p
    ·have i3:(j:Int)<p:=by omega
     have i4:¬((j:Int)<0):=by omega
     have RI:=Cq q (by omega) j (by omega);by_cases J:zV q j=true
     ·rw[if_pos J]at RI;have z:=eI J;clear J;have Tl:=qj q j;have fW:=Q.out.size
      go_wp2_with (at_builtin;(refine EY rfl _ _ rfl Wq.heap.size _ _ j wr.heap.size rfl (HO.out.alloc _) rfl (b7 _ _ _ 0 _ rfl) (by omega) (by simp;omega) ?_;intro v' w2 fO S))
      refine⟨⟨j+1,R,by go_num,?_,(Q.out.alloc fW _).trans S⟩,by simp only[intOf];omega⟩;rw[pJ,if_pos z.out];exact fO
     ·rw[if_neg J]at RI;have z:=eI (aV J);clear J
      go_wp2
      refine⟨⟨j+1,R,by go_num,?_,Q.out⟩,by simp only[intOf];omega⟩;rw[pJ,if_neg (by simp[z.out])];exact HO.out
    ·obtain rfl:j=p:=by omega
     have T:=HR.out.on (Q.out);have U:=HO.out.amv;have Tl:(pJ q j).length<=6:=cq (qj q j) m;have r:=eI (HK.out.on Q.out);have RB:=eI T;have RL:=eI U;obtain⟨⟨b5,c5,e5,_⟩,_⟩:=T;obtain⟨⟨b8,c8,e8,_⟩,_⟩:=U;subst e5 e8;obtain⟨l,hl⟩:∃l,l=pJ q j:=⟨_,rfl⟩
     rw[<-hl]at Tl RL ⊢;have d:=eI hl;clear hl;clear HO;obtain⟨V,rfl⟩:∃W:World,W=wr:=⟨_,rfl⟩
     go_upto_region 16 with fail
     go_cut [58] from 38 to 57 (fun(v58:Value)(wx:World)=>v58=eT (Z.any (AW l))/\wx=V)
     case first=>
      cases Z with
      |none=>
       go_wp2_with fail
       go_meet
       case rel=>exact⟨rfl,rfl⟩
      |some b=>
       have as7:b.length<=6:=hbl;have RB':Hid (bB V (eQ b5 b.length c5) b):=eI RB.out.1;by_cases h1:b.length<l.length
       ·have i4:(b.length:Int)<l.length:=by omega
        go_wp2_with fail
        go_meet
        case rel=>exact⟨by simp[AW,h1],rfl⟩
       ·have i4:¬(b.length:Int)<l.length:=by omega
        by_cases h2:l.length=b.length
        ·have i5:(l.length:Int)=b.length:=by omega
         have i6:((l.length:Int)==b.length)=true:=by simp[h2]
         have H2:=eI h2;clear i5 h2 h1
         go_wp2_with (go_at_call 53;refine(RF RL.out.1 RB'.out (by omega) (by omega)).mono ?_;rintro e w'⟨rfl,rfl⟩)
         go_meet
         case rel=>exact⟨by simp[AW,H2.out],rfl⟩
        ·have i6:((l.length:Int)==b.length)=false:=by simp;omega
         go_wp2_with fail
         go_meet
         case rel=>exact⟨by simp[AW,h2,h1],rfl⟩
     case rest=>
      obtain⟨rfl,rfl⟩:=hcut;obtain⟨V,rfl⟩:∃W:World,W=wc:=⟨_,rfl⟩
      have hz:=r.out.lt;obtain⟨M,t,O,H,f4,P⟩:=bf r.out.box;by_cases K:Z.any (AW l)=true
      ·rw[K]
       go_wp2
       refine⟨⟨q+1,aH,by go_num,?_,?_,r.out⟩,by simp only[intOf];omega⟩
       ·rw[qC,kT,<-x.out,<-d.out,if_pos K]
       ·rw[qC,kT,<-x.out,<-d.out,if_pos K];exact RB.out
      ·rw[aV K];have s:=eI K;clear K;obtain⟨bb,iC⟩:∃bb,bb=C.b3:=⟨_,rfl⟩
       rw[<-iC]at H;have alo:=eI iC;clear iC
       go_upto_region 18 with fail
       go_loopw [62] (λA wr=>∃i:Nat,i<=C.n3/\A=eN e7 i/\(∀k,k<i->Iq C q k=true)/\Below V.heap.size V wr) (λA _=>C.n3-(intOf A).toNat)
       case atStart=>exact⟨0,cf _,rfl,λk B=>absurd B (ct _),dU _ _⟩
       case round=>
        obtain⟨i,hi,rfl,X,g⟩:=hrel;have D:=eI X;clear X M t O H f4 P;have E:=eI (r.out.on g);have m3:C.n3<=20:=HA.out.m3;by_cases c:i<C.n3
        ·have i7:(i:Int)<C.n3:=by omega
         have hA:=HA.out.below E.out.low;have e3:=alo.out.trans (hA.s3 (by omega));have k0:=hA.Es i c;have k1:=hA.Et i c;have k2:=hA.Eu i c;have hk3:=hA.h3;clear hA;obtain⟨a,b,ea,eb,D8,NU⟩:=aaF HC.out Y.out c;have F:Hid (Iq C q i=(zV q a||zV q b)):=eI (by rw[Iq,ea,eb];rfl);rw[ea]at k0;rw[eb]at k1;subst e3;clear ea eb;have lq:=Cq q (by omega) a (by omega);have S:=Cq q (by omega) b (by omega);by_cases L:zV q a=true
         ·rw[if_pos L]at lq;have hc:=eI (F.out.trans (by rw[L];rfl):Iq C q i=true);clear L S
          go_wp2
          refine⟨⟨i+1,c,by go_num,λk B=>?_,(g.alloc g.size _)⟩,by simp only[intOf];omega⟩
          rcases Nat.lt_succ_iff_lt_or_eq.1 B with h|h
          ·exact D.out k h
          ·rw[h];exact hc.out
         ·rw[if_neg L]at lq;have ha':=aV L;clear L;by_cases hb:zV q b=true
          ·rw[if_pos hb]at S;have hc:=eI (F.out.trans (by rw[ha',hb];rfl):Iq C q i=true);clear ha' hb
           go_wp2
           refine⟨⟨i+1,c,by go_num,λk B=>?_,(g.alloc g.size _)⟩,by simp only[intOf];omega⟩
           rcases Nat.lt_succ_iff_lt_or_eq.1 B with h|h
           ·exact D.out k h
           ·rw[h];exact hc.out
          ·rw[if_neg hb]at S;have hc:=eI (F.out.trans (by rw[ha',aV hb];rfl):Iq C q i=false)
           have f:Hid (RG C q=false):=eI (by
            rw[RG,List.all_eq_false]
            exact⟨i,List.mem_range.2 c,by simp[hc.out]⟩)
           clear ha' hb
           go_wp2
           refine⟨⟨q+1,aH,by go_num,?_,?_,E.out.alloc _⟩,by simp only[intOf];omega⟩
           ·rw[qC,kT,<-x.out,<-d.out,if_neg s.out,if_neg (by simp[f.out])]
           ·rw[qC,kT,<-x.out,<-d.out,if_neg s.out,if_neg (by simp[f.out])];exact(RB.out.on g).on ((dU _ _).alloc (cc _) _)
        ·obtain rfl:i=C.n3:=by omega
         have f:Hid (RG C q=true):=eI (by
          rw[RG,aS]
          exact λk B=>D.out k (List.mem_range.1 B))
         go_wp2
         refine⟨⟨q+1,aH,by go_num,?_,?_,E.out⟩,by simp only[intOf];omega⟩
         ·rw[qC,kT,<-x.out,<-d.out,if_neg s.out,if_pos f.out];rfl
         ·rw[qC,kT,<-x.out,<-d.out,if_neg s.out,if_pos f.out];exact RL.out.on g
  ·obtain rfl:q=N:=by omega
   have I:=HR.out;have fin:R9 wr u5 ((qC C C.p.toNat (2 ^ C.p.toNat)).getD []):=by
    have e:C.p.toNat=p:=by rw[Y.out];rfl
    rw[e,<-HN.out,<-x.out];exact I
   have FIN:=eI fin;clear fin I
   go_wp2
   rw[Exit.noGoto_ret];refine bM (v:=eW #[u5,eN e7 0]) ?_ rfl ⟨_,rfl,FIN.out,HK.out.low⟩;simp[bR,Tryz.results21,go_sem]
def Cr(C:CD)(w:World)(h:C.At w)(hc:C.cx=0):Calls PL 21 #[eV C.val] w λe w'=>∃v,e=ft (eW #[v,eN e7 0])/\bB w' v ((qC C C.p.toNat (2 ^ C.p.toNat)).getD [])/\Below w.heap.size w w':=
 (abX C w h hc).mono λ_ _⟨v,e,a,b⟩=>⟨v,e,a.1,b⟩
def E7(a0 a1 a2 a3 a4 a:Value)(W:World):(fb 78 (eV #[a0,a1,a2,a3,a4,a]) 0).run PL W=fo (eV #[a0,a1,a2,a3,a4,a]) W:=by kernel_rfl
def Ky(a0 a1 a2 a3 a4 a:Value)(W:World):(fb 27 (eV #[a0,a1,a2,a3,a4,a]) 0).run PL W=fo (a0) W:=by kernel_rfl
def Kz(a0 a1 a2 a3 a4 a:Value)(W:World):(fb 27 (eV #[a0,a1,a2,a3,a4,a]) 1).run PL W=fo (a1) W:=by kernel_rfl
def KC(a0 a1 a2 a3 a4 a:Value)(W:World):(fb 27 (eV #[a0,a1,a2,a3,a4,a]) 2).run PL W=fo (a2) W:=by kernel_rfl
def KF(a0 a1 a2 a3 a4 a:Value)(W:World):(fb 27 (eV #[a0,a1,a2,a3,a4,a]) 3).run PL W=fo (a3) W:=by kernel_rfl
def KG(a0 a1 a2 a3 a4 a:Value)(W:World):(fb 27 (eV #[a0,a1,a2,a3,a4,a]) 4).run PL W=fo (a4) W:=by kernel_rfl
def KH(a0 a1 a2 a3 a4 a:Value)(W:World):(fb 27 (eV #[a0,a1,a2,a3,a4,a]) 5).run PL W=fo (a) W:=by kernel_rfl
def KL(a0 a1 a2 a3 a4 a b c d e f g:Value)(W:World):(fb 42 (eV #[a0,a1,a2,a3,a4,a,b,c,d,e,f,g]) 0).run PL W=fo (a0) W:=by kernel_rfl
def KM(a0 a1 a2 a3 a4 a b c d e f g:Value)(W:World):(fb 42 (eV #[a0,a1,a2,a3,a4,a,b,c,d,e,f,g]) 1).run PL W=fo (eV #[a1,a2]) W:=by kernel_rfl
def KN(a0 a1 a2 a3 a4 a b c d e f g:Value)(W:World):(fb 42 (eV #[a0,a1,a2,a3,a4,a,b,c,d,e,f,g]) 2).run PL W=fo (eV #[a3,a4]) W:=by kernel_rfl
def KS(a0 a1 a2 a3 a4 a b c d e f g:Value)(W:World):(fb 42 (eV #[a0,a1,a2,a3,a4,a,b,c,d,e,f,g]) 3).run PL W=fo (a) W:=by kernel_rfl
def KU(a0 a1 a2 a3 a4 b a c d e f g:Value)(W:World):(fb 42 (eV #[a0,a1,a2,a3,a4,b,a,c,d,e,f,g]) 4).run PL W=fo (a) W:=by kernel_rfl
def KV(a0 a1 a2 a3 a4 c d a b e f g:Value)(W:World):(fb 42 (eV #[a0,a1,a2,a3,a4,c,d,a,b,e,f,g]) 5).run PL W=fo (eV #[a,b]) W:=by kernel_rfl
def KW(a0 a1 a2 a3 a4 c d e f a b g:Value)(W:World):(fb 42 (eV #[a0,a1,a2,a3,a4,c,d,e,f,a,b,g]) 6).run PL W=fo (eV #[a,b]) W:=by kernel_rfl
def KX(a0 a1 a2 a3 a4 b c d e f g a:Value)(W:World):(fb 42 (eV #[a0,a1,a2,a3,a4,b,c,d,e,f,g,a]) 7).run PL W=fo (a) W:=by kernel_rfl
def KY(a0 a1 a2:Value)(W:World):(fb 94 (eV #[a0,a1,a2]) 0).run PL W=fo (a0) W:=by kernel_rfl
def KZ(a0 a1 a2:Value)(W:World):(fb 94 (eV #[a0,a1,a2]) 1).run PL W=fo (a1) W:=by kernel_rfl
def La(a0 a1 a2:Value)(W:World):(fb 94 (eV #[a0,a1,a2]) 2).run PL W=fo (a2) W:=by kernel_rfl
def Lb(a0 a1:Value)(W:World):(fb 40 (eV #[a0,a1]) 0).run PL W=fo (a0) W:=by kernel_rfl
def Lc(a0 a1:Value)(W:World):(fb 40 (eV #[a0,a1]) 1).run PL W=fo (a1) W:=by kernel_rfl
def Xw(a:Addr)(n c:Nat)(W:World):(binOp .eql 24 (eQ (some a) n c) (eQ none 0 0)).run PL W=fo (eT false) W:=by kernel_rfl
def Xx(a:Addr)(n c:Nat)(W:World):(binOp .eql 25 (eQ (some a) n c) (eQ none 0 0)).run PL W=fo (eT false) W:=by kernel_rfl
def aoB(a b:Int)(W:World):(fg 40 #[(0,eN e7 a),(1,eN e7 b)]).run PL W=fo (eV #[eN e7 a,eN e7 b]) W:=by kernel_rfl
def aoC(p a b c d:Int)(W:World):(fg 71 #[(0,eN e7 p),(1,eV #[eN e7 a,eN e7 b]),(2,eV #[eN e7 c,eN e7 d])]).run PL W=fo (eV #[eN e7 p,eN e7 a,eN e7 b,eN e7 c,eN e7 d]) W:=by kernel_rfl
def E8:nS.ntmps=98:=rfl
def h_.In.below{T:h_}{w w':World}(h:T.In w)(a:Below w.heap.size w w'):T.In w':=
 ⟨h.lo,cg h.h4 a.size,λc=>⟨(h.h5 c).1,cg (h.h5 c).2 a.size⟩,h.st,λi hi j b=>(a.cell (p:=⟨T.k4,_,none⟩) h.h4).trans (h.c4 i hi j b),λk d j b=>(a.cell (p:=⟨T.k5,_,none⟩) (h.h5 (by omega)).2).trans (h.c5 k d j b)⟩
def h_.In.ahf{T:h_}{w:World}(h:T.In w){i:Nat}(hi:i<T.np):w.cell? ⟨T.k4,T.o4+i*12,none⟩=some (eP (T.nm i))/\w.cell? ⟨T.k4,T.o4+i*12+1,none⟩=some (eN e7 (T.pn i 1))/\w.cell? ⟨T.k4,T.o4+i*12+2,none⟩=some (eN e7 (T.pn i 2))/\w.cell? ⟨T.k4,T.o4+i*12+3,none⟩=some (eN e7 (T.pn i 3))/\w.cell? ⟨T.k4,T.o4+i*12+4,none⟩=some (eN e7 (T.pn i 4))/\w.cell? ⟨T.k4,T.o4+i*12+5,none⟩=some (eN e7 (T.pn i 5))/\w.cell? ⟨T.k4,T.o4+i*12+6,none⟩=some (eN e7 (T.pn i 6))/\
 w.cell? ⟨T.k4,T.o4+i*12+7,none⟩=some (eN e7 (T.pn i 7))/\w.cell? ⟨T.k4,T.o4+i*12+8,none⟩=some (eN e7 (T.pn i 8))/\w.cell? ⟨T.k4,T.o4+i*12+9,none⟩=some (eN e7 (T.pn i 9))/\w.cell? ⟨T.k4,T.o4+i*12+10,none⟩=some (eN e7 (T.pn i 10))/\w.cell? ⟨T.k4,T.o4+i*12+11,none⟩=some (eQ (T.lb i) (T.ll i) (T.lc i)):=
 ⟨h.c4 i hi 0 (by omega),h.c4 i hi 1 (by omega),h.c4 i hi 2 (by omega),h.c4 i hi 3 (by omega),h.c4 i hi 4 (by omega),h.c4 i hi 5 (by omega),h.c4 i hi 6 (by omega),h.c4 i hi 7 (by omega),h.c4 i hi 8 (by omega),h.c4 i hi 9 (by omega),h.c4 i hi 10 (by omega),h.c4 i hi 11 (by omega)⟩
def h_.In.ahg{T:h_}{w:World}(h:T.In w){k:Nat}(a:k<T.n):w.cell? ⟨T.k5,T.o5+k*3,none⟩=some (eP (T.gn k))/\w.cell? ⟨T.k5,T.o5+k*3+1,none⟩=some (eN e7 (T.S k:Int))/\w.cell? ⟨T.k5,T.o5+k*3+2,none⟩=some (eN e7 (T.dl k)):=
 ⟨h.c5 k a 0 (by omega),h.c5 k a 1 (by omega),h.c5 k a 2 (by omega)⟩
def L1(x:Int):wrap64 x=IntKind.i64.wrap x:=(IntWalk.i64_left x).symm
def akj{o:Nat}(h:o<75):(dp 75 (eN e7 0))[o]?=some (eN e7 0):=by
 rw[di (by simpa using h)];simp
def abr{ops:Array Oper}{rest:List Oper}{o:Oper}{a:Act}{Q:Exit->Act->World->Prop}{w:World}(r:o.guard=none)(X Y:bT)(s:o.op=.store 71 X Y)(base b off:Nat)(cur c:Array Value)(m:a.eval X=e6 (some ⟨b,off,none⟩))(hy:a.eval Y=eV c)
 (hb:w.heap[b]?=some (eM cur 111)) (d:c.size=5) (hl:off+5<=cur.size) (t:∀v∈c,v.oneCell'=true) (B:base<=b)
 (h:∀f w',w'.heap[b]?=some (eM f 111)->f.size=cur.size->(∀j,j<5->f[off+j]?=c[j]?)->(∀j,(j<off\/off+5<=j)->f[j]?=cur[j]?)->Below base w w'->w'.heap.size=w.heap.size->bC PL ops Q rest (a.put o.dst undef) w'):bC PL ops Q (o::rest) a w:=by
 refine wpList_plain r λK u=>?_;have e:(Tryz.prog.info? 71).map (·.size)=some 5:=by kernel_rfl
 have hc:(Value.agg c).cells=c:=rfl
 cases n:Tryz.prog.info? 71 with
 |none=>rw[n]at e;cases e
 |some i=>
  have y:i.size=5:=by rw[n]at e;exact Option.some.inj e
  have z:=run_storeCells_at PL b off 111 c.toList 0 cur w hb (by simp[d];omega) (λx m=>t x (by simpa using m));obtain⟨f,l⟩:∃q,q=(cur.toList.take off++c.toList++cur.toList.drop (off+c.size)).toArray:=⟨_,rfl⟩
  have A:(storeVar 71 ⟨b,off,none⟩ (eV c)).run PL w=fo () (w.setRow b f):=by
   rw[l];simp[storeVar,sizeOf,typeInfo,n,y,z,hc,d]
  unfold Oper.wp execOp;simp only[s,m,hy,Instr.storeAt,Instr.sureAddr,Sem.run_bind,Sem.run_pure,Result.andThen_ok,A];refine u _ _ (h f _ (setRow_heap _ _ _ _ _ _ hb) ?_ (λj g=>?_) (λj g=>?_) ⟨rfl,rfl,rfl,by simp[dQ],λk C=>setRow_other _ _ _ _ (by omega)⟩ (by simp[dQ]))
  ·rw[l];simp[d];omega
  ·rw[l];simp only[ba];have p:(cur.toList.take off).length=off:=by simp;omega
   rw[bc,bd (by omega),p,bg (by simp[d];omega)];simp
  ·rw[l];simp only[ba,d];have p:(cur.toList.take off).length=off:=by simp;omega
   rcases g with g|g
   ·rw[bc,bg (by omega),bi,if_pos g];simp
   ·rw[bc,bd (by omega),p,bd (by simp[d];omega)];simp only[List.getElem?_drop,dt,d];have:off+5+(j-off-5)=j:=by omega
    rw[this];simp
def agQ(T:h_)(w:World)(h:T.In w)(uB:∀i,i<T.np->(T.nm i).size<=1000)(B:∀k,k<T.n->(T.gn k).size<=1000):Calls PL 30 #[eV T.arr] w λe w'=>∃k cs,e=ft (e6 (some ⟨k,0,none⟩))/\w'.heap[k]?=some (eM cs 111)/\dc T.pn T.np T.S T.dl T.n 0 cs/\Below w.heap.size w w':=by
 have d:=eI h;have M:=eI uB;have N:=eI B;clear uB B;obtain⟨l2,l5,l3⟩:=h.lo;clear h;have i2:(2:Int)<=T.np:=by omega
 have i5:(T.np:Int)<=5:=by omega
 have i3:(T.n:Int)<=3:=by omega
 obtain⟨J,O⟩:∃J,J=T.b5:=⟨_,rfl⟩
 have wC:=eI O;simp only[h_.arr];rw[<-O];clear O
 go_enter Cc,E8
 simp only[nS,sU,acp,abJ,acn,am3,am4,ahe,aco,aog,am5,opsL,aid,agx,am7,aoh,aD];have q0:=E7;have q1:=Ky;have q2:=Kz;have q3:=KC;have q4:=KF;have q5:=KG;have q6:=KH;have q7:=KL;have q8:=KM;have q9:=KN;have q10:=KS;have q11:=KU;have q12:=KV;have q13:=KW;have q14:=KX;have q15:=KY;have q16:=KZ;have q17:=La;have q18:=Lb;have q19:=Lc;have q25:=Xw;have q26:=Xx;have q27:=aoB;have q28:=aoC
 go_wp2
 go_loopw [20] (λl wr=>∃q:Nat,q<=T.np/\l=eN e7 q/\w=wr) (λl _=>T.np-(intOf l).toNat)
 case atStart=>exact⟨0,cf _,rfl,rfl⟩
 case round=>
  obtain⟨q,hq,rfl,rfl⟩:=hrel;by_cases a:q<T.np
  ·have i4:(q:Int)<T.np:=by omega
   obtain⟨a0,a1,a2,a3,a4,a5,a6,a7,a8,a9,zm,zM⟩:=d.out.ahf a;have hz:=M.out q a
   go_wp2
   refine⟨⟨q+1,a,by go_num,trivial⟩,by simp only[intOf];omega⟩
  ·obtain rfl:q=T.np:=by omega
   go_wp2
   go_loopw [21] (λm wr=>∃q:Nat,q<=T.n/\m=eN e7 q/\w=wr) (λm _=>T.n-(intOf m).toNat)
   case atStart=>exact⟨0,cf _,rfl,rfl⟩
   case round=>
    obtain⟨q,hq,rfl,rfl⟩:=hrel;by_cases a:q<T.n
    ·have i4:(q:Int)<T.n:=by omega
     obtain rfl:J=_:=wC.out.trans (d.out.h5 (by omega)).1;obtain⟨a0,a1,a2⟩:=d.out.ahg a;have hz:=N.out q a;have vL:(T.S q:Int)<T.np:=by have:=d.out.st q a;omega
     have hs0:(0:Int)<=T.S q:=by omega
     go_wp2
     refine⟨⟨q+1,a,by go_num,trivial⟩,by simp only[intOf];omega⟩
    ·obtain rfl:q=T.n:=by omega
     go_wp2
     go_loopw [67] (λs wr=>∃g:Nat,g<=T.n/\s=eN e7 g/\∃cs,wr.heap[w.heap.size]?=some (eM cs 111)/\dc T.pn T.np T.S T.dl g 0 cs/\Below w.heap.size w wr) (λs _=>T.n-(intOf s).toNat)
     case atStart=>exact⟨0,cf _,rfl,_,au _ _,dc.zero rfl (λo K=>akj K),(dU _ _).alloc (cc _) _⟩
     case round=>
      obtain⟨g,hg,rfl,cs,hcs,C,P⟩:=hrel;have D:=eI hcs;have E:=eI C;have Q:=eI P;have hTB:=P.size;have B4:=dT hcs;clear hcs C P;by_cases a:g<T.n
      ·have i6:(g:Int)<T.n:=by omega
       have i7:(g:Int)<3:=by omega
       obtain⟨e5,hk5⟩:=d.out.h5 (by omega);obtain rfl:J=_:=wC.out.trans e5;clear e5;obtain⟨a0,a1,a2⟩:=(d.out.below Q.out).ahg a
       go_wp2
       have aF:=d.out.st g a;obtain⟨Wg,rfl⟩:∃W:World,W=wr:=⟨_,rfl⟩
       go_loopw [71,72,73,74] (λR U V t wr=>∃r:Nat,r<=T.np/\R=eN e7 ((j8 T.np (T.S g) r:Nat):Int)/\U=eN e7 (cmV T.pn T.np (T.S g) (T.dl g) r).1/\V=eN e7 (cmV T.pn T.np (T.S g) (T.dl g) r).2/\t=eN e7 (r:Int)/\
        ∃cs,wr.heap[w.heap.size]?=some (eM cs 111)/\dc T.pn T.np T.S T.dl g r cs/\Below w.heap.size w wr) (λ_ _ _ t _=>T.np-(intOf t).toNat)
       case atStart=>exact⟨0,cf _,by rw[j8,ce,Nat.mod_eq_of_lt aF],rfl,rfl,rfl,cs,D.out,E.out,Q.out⟩
       case round=>
        clear a0 a1 a2;obtain⟨r,hr,rfl,rfl,rfl,rfl,u,x,F,X⟩:=hrel;have H:=eI x;have b:=eI F;have Y:=eI X;have ayr:=X.size;have ajj:=dT x;clear x F X;by_cases I:r<T.np
        ·have i8:(r:Int)<T.np:=by omega
         obtain⟨p,L⟩:∃p,p=j8 T.np (T.S g) r:=⟨_,rfl⟩
         obtain⟨c1,Z⟩:∃c,c=(cmV T.pn T.np (T.S g) (T.dl g) r).1:=⟨_,rfl⟩
         obtain⟨c2,y⟩:∃c,c=(cmV T.pn T.np (T.S g) (T.dl g) r).2:=⟨_,rfl⟩
         have Wf:p<T.np:=by rw[L];exact aas (by omega)
         have j1:(p:Int)<T.np:=by omega
         have j2:(p:Int)<5:=by omega
         rw[<-L,<-Z,<-y];have f:=eI L;have z:=eI Z;have A:=eI y;clear L Z y;obtain⟨a0,a1,a2,a3,a4,a5,a6,a7,a8,a9,zm,zM⟩:=(d.out.below Y.out).ahf Wf;have afC:g*25+p*5+5<=u.size:=by have:=b.out.size;omega
         by_cases hw:p+1=T.np
         all_goals
          go_wp2_with (refine abr rfl (.tmp 90) (.tmp 88) rfl w.heap.size w.heap.size (g*25+p*5) u _ rfl rfl H.out rfl afC (by intro v hv;simp only[List.mem_toArray,ao,ap,or_false]at hv;rcases hv with rfl|rfl|rfl|rfl|rfl<;>rfl) (cc _) ?_;intro cs3 w3 g1 g2 g3 g4 g5 g6)
          refine⟨⟨r+1,I,?_,?_,?_,by go_num,cs3,g1,b.out.next I l5 (g2.trans b.out.size) (λj hj=>?_) (λo K=>?_),Y.out.trans g5⟩,by simp only[intOf];omega⟩
          ·rw[aaG (by omega),<-f.out]
           first|(rw[if_pos hw];rfl)|(rw[if_neg hw];rfl)|(rw[if_neg hw];go_num)
          ·rw[cmV,<-z.out,<-f.out,L1,L1]
          ·rw[cmV,<-A.out,<-f.out,L1,L1]
          ·rw[<-f.out,g3 j hj];obtain rfl|rfl|rfl|rfl|rfl:j=0\/j=1\/j=2\/j=3\/j=4:=by omega
           ·simp only[vsV,<-f.out];rfl
           ·simp only[vsV,<-z.out];rfl
           ·simp only[vsV,<-A.out];rfl
           ·simp only[vsV,<-z.out,<-f.out,<-L1];rfl
           ·simp only[vsV,<-A.out,<-f.out,<-L1];rfl
          ·rw[<-f.out]at K;exact g4 o K
        ·obtain rfl:r=T.np:=by omega
         go_wp2
         exact⟨⟨g+1,a,by go_num,u,H.out,b.out.done,Y.out⟩,by simp only[intOf];omega⟩
      ·obtain rfl:g=T.n:=by omega
       go_wp2
       refine bM (v:=e6 (some ⟨w.heap.size,0,none⟩)) ?_ rfl ⟨w.heap.size,cs,rfl,D.out,E.out,Q.out⟩;simp[bR,Tryz.results30,go_sem]
def abk{n a b:Int}:bO n a b=true↔a<=n/\n<=b:=by simp[bO]
def Lf{C:CD}(hc:C.cx=0):2<=C.n4/\C.n4<=5:=by
 have a:kA C.p C.n2 C.n3 C.n4 C.x4=0:=ck hc 3 (by omega);unfold kA at a
 split at a
 case isFalse=>cases a
 rename_i hb;have:=abk.1 hb;omega
def SH{C:CD}(hc:C.cx=0):C.n5<=3:=by
 have a:pE C.n4 C.n5 C.x5=0:=ck hc 4 (by omega);unfold pE at a
 split at a
 ·cases a
 ·omega
def aht{C:CD}(hc:C.cx=0){k:Nat}(b:k<C.n5):(0<=(C.x5 k).2.1/\(C.x5 k).2.1<C.n4)/\(0<=(C.x5 k).2.2/\(C.x5 k).2.2<=12)/\(∀j,j<k->(C.x5 j).2.1≠(C.x5 k).2.1):=by
 have a:pE C.n4 C.n5 C.x5=0:=ck hc 4 (by omega);unfold pE at a
 split at a
 ·cases a
 have hg:=ck a k b;unfold iI at hg
 split at hg
 case isFalse h=>exact absurd hg h
 split at hg
 case isFalse=>cases hg
 rename_i hb
 split at hg
 ·cases hg
 rename_i c
 split at hg
 case isFalse=>cases hg
 rename_i hd;have g:=abk.1 hb;have d:=abk.1 hd;refine⟨by omega,d,λj f e=>c ?_⟩;simp only[bm,aT];exact⟨j,f,e⟩
abbrev CD.S(C:CD)(k:Nat):Nat:=(C.x5 k).2.1.toNat
abbrev CD.pn(C:CD)(i j:Nat):Int:=(C.x4 i).n j
abbrev CD.dl(C:CD)(k:Nat):Int:=(C.x5 k).2.2
def CD.td(C:CD):h_:=
 { l:=C.l,p:=C.p,b2:=C.b2,n2:=C.n2,c2:=C.c2,b3:=C.b3,n3:=C.n3,c3:=C.c3,k4:=C.k4,o4:=C.o4,np:=C.n4,c4:=C.c4,b5:=C.b5,k5:=C.k5,o5:=C.o5,n:=C.n5,c5:=C.c5,
   pn:=C.pn,S:=C.S,dl:=C.dl,nm:=λi=>(C.x4 i).name,gn:=λk=>(C.x5 k).1,lb:=λi=>(C.x4 i).lb,ll:=λi=>(C.x4 i).ln,lc:=λi=>(C.x4 i).lc }
def CD.amy{C:CD}{w:World}(h:C.At w)(a:0<C.n4):C.td.arr=C.val:=by
 simp only[h_.arr,CD.td,CD.val,h.s4 a]
def CD.aoF{C:CD}{w:World}(h:C.At w)(c:2<=C.n4/\C.n4<=5)(d:C.n5<=3)(hs:∀k,k<C.n5->0<=(C.x5 k).2.1/\(C.x5 k).2.1<C.n4):C.td.In w:=by
 refine⟨⟨c.1,c.2,d⟩,h.h4,λe=>⟨h.s5 e,h.h5⟩,λk a=>?_,λi hi j b=>?_,λk a j b=>?_⟩
 ·have:=hs k a;show(C.x5 k).2.1.toNat<C.n4;omega
 ·match j,b with
  |0,_=>exact h.AD i hi
  |11,_=>exact h.nj i hi
  |1,_=>exact h.dB i hi 1 (by omega) (by omega)
  |2,_=>exact h.dB i hi 2 (by omega) (by omega)
  |3,_=>exact h.dB i hi 3 (by omega) (by omega)
  |4,_=>exact h.dB i hi 4 (by omega) (by omega)
  |5,_=>exact h.dB i hi 5 (by omega) (by omega)
  |6,_=>exact h.dB i hi 6 (by omega) (by omega)
  |7,_=>exact h.dB i hi 7 (by omega) (by omega)
  |8,_=>exact h.dB i hi 8 (by omega) (by omega)
  |9,_=>exact h.dB i hi 9 (by omega) (by omega)
  |10,_=>exact h.dB i hi 10 (by omega) (by omega)
 ·have f:=hs k a
  match j,b with
  |0,_=>exact h.FI k a
  |1,_=>
   refine(h.HU k a).trans ?_;show some (eN e7 (C.x5 k).2.1)=some (eN e7 ((C.x5 k).2.1.toNat:Int));rw[Int.toNat_of_nonneg f.1]
  |2,_=>exact h.J6 k a
def ahu(a:Nat->Nat->Int)(np:Nat)(S:Nat->Nat)(dl:Nat->Int)(n o:Nat):Int:=
 if o / 25<n/\o % 25 / 5<np then vsV a np (S (o / 25)) (dl (o / 25)) (afy np (S (o / 25)) (o % 25 / 5)) (o % 5) else 0
def acv(a:Nat->Nat->Int)(np:Nat)(S:Nat->Nat)(dl:Nat->Int)(n:Nat):List Int:=(aa 75).map (ahu a np S dl n)
def dc.lit{b:Nat->Nat->Int}{np n:Nat}{S:Nat->Nat}{dl:Nat->Int}{cs:Array Value}(h:dc b np S dl n 0 cs)(i:np<=5)(d:∀k,k<n->S k<np):cs.toList=(acv b np S dl n).map bh:=by
 apply List.ext_getElem?;intro o;rw[Array.getElem?_toList]
 rcases cd o 75 with a|a
 ·have e:((acv b np S dl n).map bh)[o]?=some (bh (ahu b np S dl n o)):=by
   simp only[acv,aq,List.getElem?_range a,du]
  rw[e];by_cases hc:o / 25<n/\o % 25 / 5<np
  ·rw[ahu,if_pos hc,<-h.at (k:=o / 25) (p:=o % 25 / 5) (j:=o % 5) hc.1 hc.2 (d _ hc.1) (by omega),show o / 25*25+o % 25 / 5*5+o % 5=o by omega]
  ·rw[ahu,if_neg hc];refine h.rest o a λk r c hv=>hc ?_
   have f:k<n/\r<np:=by rcases c with c|c<;>omega
   have:=aas (np:=np) (s:=S k) (r:=r) (by omega);obtain⟨l,m⟩:=hv;have e1:o / 25=k:=by omega
   have g:o % 25 / 5=j8 np (S k) r:=by omega
   rw[e1,g];exact⟨f.1,this⟩
 ·rw[Array.getElem?_eq_none (by rw[h.size];exact a),List.getElem?_eq_none (by simp[acv];exact a)]
abbrev CD.tab(C:CD):List Int:=acv C.pn C.n4 C.S C.dl C.n5
def Row.ofl{W:World}{k:Nat}{c:Array Value}{t:bL}{l:List Value}(h:W.heap[k]?=some (eM c t))(e:c.toList=l):Row W k l:=Row.of h λj v hv=>by rw[<-e]at hv;simpa using hv
def acw{C:CD}{w:World}(h:C.At w)(b:2<=C.n4/\C.n4<=5)(c:C.n5<=3)(hs:∀k,k<C.n5->0<=(C.x5 k).2.1/\(C.x5 k).2.1<C.n4):Calls PL 30 #[eV C.val] w λe w'=>∃k,e=ft (e6 (some ⟨k,0,none⟩))/\Row w' k (C.tab.map bh)/\Below w.heap.size w w':=by
 rw[<-C.amy h (by omega)];refine(agQ C.td w (CD.aoF h b c hs) (λi hi=>?_) λk a=>?_).mono ?_
 ·have:=(h.cu i hi).1;show(C.x4 i).name.size<=1000;omega
 ·have:=h.nm5 k a;show(C.x5 k).1.size<=1000;omega
 ·rintro e w'⟨k,cs,rfl,d,f,g⟩;refine⟨k,rfl,Row.ofl d ?_,g⟩;refine f.lit b.2 λk a=>?_;have:=hs k a;show(C.x5 k).2.1.toNat<C.n4;omega
def ag9{C:CD}{w:World}(h:C.At w)(hc:C.cx=0):Calls PL 30 #[eV C.val] w λe w'=>∃k,e=ft (e6 (some ⟨k,0,none⟩))/\Row w' k (C.tab.map bh)/\Below w.heap.size w w':=
 acw h (Lf hc) (SH hc) λk a=>(aht hc a).1
def je:List Int:=[0,0,0,4,6,1,6,9,10,14,2,13,17,18,22,0,0,0,0,0,0,0,0,0,0,0,14,17,18,23,1,0,0,4,5,2,7,8,12,13,0,0,0,0,0,0,0,0,0,0,0,0,0,0,0,0,0,0,0,0,0,0,0,0,0,0,0,0,0,0,0,0,0,0,0]
def RJ:List Int:=[0,0,0,4,6,1,6,9,10,14,2,13,17,18,22,0,0,0,0,0,0,0,0,0,0,0,15,18,19,24,1,1,1,5,6,2,8,9,13,14,0,0,0,0,0,0,0,0,0,0,0,0,0,0,0,0,0,0,0,0,0,0,0,0,0,0,0,0,0,0,0,0,0,0,0]
def mC(d:Int):List Int:=if d=0 then je else RJ
def abY{k2 a k3 c3 b c d e f ca lb g:Nat}:(ir k2 a k3 c3 b c d e f ca lb g 0).tab=je:=by kernel_rfl
def amz{k2 a k3 c3 b c d e f ca lb g:Nat}:(ir k2 a k3 c3 b c d e f ca lb g 1).tab=RJ:=by kernel_rfl
def arM{k2 a k3 c3 b c e f g ca lb h:Nat}{d:Int}:∀k,k<2->0<=((ir k2 a k3 c3 b c e f g ca lb h d).x5 k).2.1/\((ir k2 a k3 c3 b c e f g ca lb h d).x5 k).2.1<(3:Nat):=by
 intro k i;obtain rfl|rfl:k=0\/k=1:=by omega
 ·exact⟨by show(0:Int)<=0;omega,by show(0:Int)<3;omega⟩
 ·exact⟨by show(0:Int)<=1;omega,by show(1:Int)<3;omega⟩
def tA{d:Int}{C:CD}{w:World}(hd:d=0\/d=1)(a:VB d C)(h:C.At w):Calls PL 30 #[eV C.val] w λe w'=>∃k,e=ft (e6 (some ⟨k,0,none⟩))/\Row w' k ((mC d).map bh)/\Below w.heap.size w w':=by
 obtain⟨k2,b,k3,c3,c,f,g,i,j,l,lb,m,rfl⟩:=a;have:=acw h ⟨by show 2<=3;omega,by show 3<=5;omega⟩ (by show 2<=3;omega) arM
 rcases hd with rfl|rfl
 ·rwa[abY]at this
 ·rwa[amz]at this
def kU(L:List Int)(p:Nat)(m:Int):Nat->Nat->Bool->Int
 |0,_,can=>Ej can true
 |k+1,g,can=>if bO m (L.getD (g*25+p*5+2) 0) (L.getD (g*25+p*5+3) 0-1) then 1 else kU L p m k (g+1) (can||bO m (L.getD (g*25+p*5+1) 0) (L.getD (g*25+p*5+4) 0-1))
structure Ir(L:List Int):Prop where
 len:L.length=75
 lo:∀j,-10000<=L.getD j 0
 hi:∀j,L.getD j 0<=10000
def Row.getD{W:World}{k:Nat}{L:List Int}(h:Row W k (L.map bh)){j:Nat}(a:j<L.length):W.cell? ⟨k,j,none⟩=some (eN e7 (L.getD j 0)):=
 h.2 j _ (by rw[aq,ar a,aw,ar a];rfl)
def Fa(C:CD)(k p:Nat)(m:Int)(L:List Int)(t:Ir L)(w:World)(u:Row w k (L.map bh))(U:C.n5<=3)(V:p<5) :
 Calls PL 31 #[eV C.val,e6 (some ⟨k,0,none⟩),eN e7 p,eN e7 m] w (aO (eN e7 (kU L p m C.n5 0 false)) w):=by
 have H:=eI u;have a:=eI t;clear u t;have I:(p:Int)<5:=by omega
 go_enter (fx (by decide) Tryz.func31),Tryz.ntmps31
 go_wp2
 obtain⟨l,n⟩:∃l:World,l=w.alloc (eM C.val 78):=⟨_,rfl⟩
 have v:l.heap[w.heap.size]?=some (eM C.val 78):=by rw[n];exact au _ _
 have y:Below w.heap.size w l:=by rw[n];exact(dU _ _).alloc (cc _) _
 rw[<-n];clear n;have J:=eI v;have o:=eI y;clear v y
 go_loopw [9,16] (λK b wr=>∃(g:Nat)(can:Bool),g<=C.n5/\b=eN e7 g/\K=eT can/\kU L p m C.n5 0 false=kU L p m (C.n5-g) g can/\wr.heap[w.heap.size]?=some (eM C.val 78)/\Below w.heap.size w wr) (λ_ b _=>C.n5-(intOf b).toNat)
 case atStart=>exact⟨0,false,cf _,rfl,rfl,rfl,J.out,o.out⟩
 case round=>
  obtain⟨g,can,hg,rfl,rfl,z,A,i⟩:=hrel;have E:=eI z;have B:=eI A;clear z A;by_cases M:g<C.n5
  ·have W:(g:Int)<C.n5:=by omega
   have X:(g:Int)<3:=by omega
   have c:=H.out.on i;have N:wr.cell? ⟨k,g*25+p*5,none⟩=some (eN e7 (L.getD (g*25+p*5) 0)):=c.getD (by rw[a.out.len];omega);have t1:wr.cell? ⟨k,g*25+p*5+1,none⟩=some (eN e7 (L.getD (g*25+p*5+1) 0)):=c.getD (by rw[a.out.len];omega);have t2:wr.cell? ⟨k,g*25+p*5+2,none⟩=some (eN e7 (L.getD (g*25+p*5+2) 0)):=c.getD (by rw[a.out.len];omega);have O:wr.cell? ⟨k,g*25+p*5+3,none⟩=some (eN e7 (L.getD (g*25+p*5+3) 0)):=c.getD (by rw[a.out.len];omega);have P:wr.cell? ⟨k,g*25+p*5+4,none⟩=some (eN e7 (L.getD (g*25+p*5+4) 0)):=c.getD (by rw[a.out.len];omega);have Q:=a.out.lo (g*25+p*5+3);have q:=a.out.hi (g*25+p*5+3);have R:=a.out.lo (g*25+p*5+4);have r:=a.out.hi (g*25+p*5+4);have S:=c.1;have es:C.n5-g=(C.n5-(g+1))+1:=by omega
   have T:=eI es;clear c es;obtain⟨x1,d⟩:∃x,x=L.getD (g*25+p*5+1) 0:=⟨_,rfl⟩
   obtain⟨x2,s⟩:∃x,x=L.getD (g*25+p*5+2) 0:=⟨_,rfl⟩
   obtain⟨x3,f⟩:∃x,x=L.getD (g*25+p*5+3) 0:=⟨_,rfl⟩
   obtain⟨x4,h⟩:∃x,x=L.getD (g*25+p*5+4) 0:=⟨_,rfl⟩
   obtain⟨x0,D⟩:∃x,x=L.getD (g*25+p*5) 0:=⟨_,rfl⟩
   rw[<-D]at N;rw[<-d]at t1;rw[<-s]at t2;rw[<-f]at O Q q;rw[<-h]at P R r;have F:Hid (kU L p m C.n5 0 false=if bO m x2 (x3-1) then 1 else kU L p m (C.n5-(g+1)) (g+1) (can||bO m x1 (x4-1))):=eI (by rw[E.out,T.out,kU,<-d,<-s,<-f,<-h]);clear D d s f h;by_cases hy:bO m x2 (x3-1)=true
   ·have j:=eI hy;clear hy
    go_wp2_with (go_at_call 28;refine(rM j.out _).mono ?_;rintro e w'⟨rfl,rfl⟩)
    go_ret
    exact⟨aC (by rw[F.out,if_pos j.out]),i.alloc i.size _⟩
   ·have j:=eI (aV hy);clear hy E;cases can
    all_goals (
     go_wp2_with (first|(go_at_call 28;(with_reducible refine(yG j.out _).mono ?_);rintro e w'⟨rfl,rfl⟩)|(go_at_call 28;refine(ij _ _ _ _).mono ?_;rintro e w'⟨rfl,rfl⟩))
     refine⟨⟨g+1,_,M,by go_num,rfl,?_,(((dU wr.heap.size wr).alloc (cc _) _).block _ (dT B.out)).trans B.out,i.alloc i.size _⟩,by simp only[intOf];omega⟩;rw[F.out,if_neg (by simp[j.out])]
     rfl)
  ·obtain rfl:g=C.n5:=by omega
   have fin:Hid (kU L p m C.n5 0 false=Ej can true):=eI (by rw[E.out,cp,kU]);clear E
   go_wp2_with (go_at_call 42;refine(yH _ _ _).mono ?_;rintro e w'⟨rfl,rfl⟩)
   go_ret
   exact⟨aC fin.out,i⟩
def Cs(m:Int)(w:World):Calls PL 29 #[eN e7 m] w λe w'=>e=ft (eT (bO m 0 999))/\w=w':=by
 go_enter (fx (by decide) Tryz.func29),Tryz.ntmps29
 go_wp2_with (go_at_call 28;refine(ij _ _ _ _).mono ?_;rintro e w'⟨rfl,rfl⟩)
 go_ret
 exact⟨rfl,rfl⟩
def yO{m:Int}(h:bO m 0 999=true)(w:World):Calls PL 29 #[eN e7 m] w λe w'=>e=ft (eT true)/\w=w':=by
 have:=Cs m w;rwa[h]at this
def afJ:PL.underlying 35=some (fA 38):=by kernel_rfl
def aaI:(PL.info? 38).map (λi=>(i.zero,i.size,i.bytes))=some (some (eN e7 0),1,8):=by kernel_rfl
def eO(e:bL)(W:World)(base:Nat)(v:Value)(l:List Int):Prop:=W.ownsRow base e 1 v l.length (l.map λx=>eN e7 x)
def eO.reads{e:bL}{W:World}{base:Nat}{v:Value}{l:List Int}(h:eO e W base v l):bB W v l:=by
 obtain⟨_,h⟩:=h
 rcases h with⟨rfl,a⟩|⟨g,cap,b,rfl,hb,hg,hc,d,hs,c⟩
 ·exact⟨none,0,by rw[a],λh=>by omega⟩
 ·refine⟨_,_,rfl,λa=>⟨g,0,rfl,dT hg,λj f=>?_⟩⟩;have e:(l.map λx=>eN e7 x)[j]?=some (eN e7 (l.getD j 0)):=by
   rw[aq,ar (by omega)];simp[aw,ar (show j<l.length by omega)]
  rw[<-c,aI (by omega)]at e;simp only[dL,hg,cm];simpa using e
def eO.alloc{e:bL}{W:World}{base:Nat}{v:Value}{l:List Int}(h:eO e W base v l)(o:Obj):eO e (W.alloc o) base v l:=World.ownsRow.alloc h o
def eO.on{e:bL}{W b:World}{base:Nat}{v:Value}{l:List Int}(h:eO e W base v l)(d:Below W.heap.size W b):eO e b base v l:=by
 obtain⟨c,h⟩:=h
 rcases h with h|⟨g,cap,a,e1,hb,hg,f⟩
 ·exact⟨c,fi h⟩
 ·exact⟨c,fm ⟨g,cap,a,e1,hb,(d.block _ (dT hg)).trans hg,f⟩⟩
def Fb{T e:bL}(f:PL.underlying T=some (fA e))(g:(PL.info? e).map (λi=>(i.zero,i.size,i.bytes))=some (some (eN e7 0),1,8)){ops:Array Oper}{rest:List Oper}{o:Oper}{a:Act}{Q:Exit->Act->World->Prop}{w:World}(m:o.guard=none)(s x:bT)
 (n:o.op=.call { callee:=.builtin .append,args:=#[s,x],argTypes:=#[T,T] }) (base:Nat) (v:Value) (l:List Int) (j:Int) (b:Nat) (hs:a.eval s=v) (c:eO e w base v l)
 (p:a.eval x=eQ (some ⟨b,0,none⟩) 1 1) (hc:w.cell? ⟨b,0,none⟩=some (eN e7 j)) (hl:l.length<=1000) (d:base<=w.heap.size)
 (h:∀v' w',eO e w' base v' (l++[j])->Below base w w'->bC PL ops Q rest (a.put o.dst v') w'):bC PL ops Q (o::rest) a w:=by
 obtain⟨q,hi,r,t,y⟩:=bX g;refine b1 _ m s x T n base e q (eN e7 0) 1 8 f hi r t y rfl (by decide) v l.length _ hs c ⟨b,0,none⟩ 1 1 [eN e7 j] p rfl (λk u e=>?_) (by simp[eS]) (by simp only[maxLen];omega) (by omega) d λv' w' z A _=>?_
 ·match k,e with
  |0,e=>cases e;exact hc
 ·refine h v' w' ?_ ((dU base w).grown A d (cZ c));unfold eO;rw[aJ,aP];exact z
def tB(L:List Int)(m:Int)(a p:Nat):List Int:=(aa p).map λj=>kU L j m a 0 false
def Iu(L:List Int)(m:Int)(a p:Nat):tB L m a (p+1)=tB L m a p++[kU L p m a 0 false]:=by simp[tB,ag]
def Nt(L:List Int)(m:Int)(a p:Nat):(tB L m a p).length=p:=by simp[tB]
def RO(C:CD)(m:Int)(L:List Int)(n:Ir L)(w:World)(h:C.At w)(hf:C.b6 true=0)(h4:C.n4<=5)(D:C.n5<=3)(o:bO m 0 999=true)
 (q:∀W,C.At W->Calls PL 30 #[eV C.val] W λe w'=>∃k,e=ft (e6 (some ⟨k,0,none⟩))/\Row w' k (L.map bh)/\Below W.heap.size W w') :
 Calls PL 7 #[eV C.val,eN e7 m] w λe w'=>∃v,e=ft (eW #[v,eN e7 0])/\bB w' v (tB L m C.n5 C.n4)/\Below w.heap.size w w':=by
 have r:=eI h;have s:Hid (KB C w (w.alloc (eM C.val 27))):=eI ⟨au _ _,(dU _ _).alloc (cc _) _⟩;have E:=eI hf;have F:=eI o;have d:=eI q;have H:=eI n;clear h hf o q n
 go_enter (fx (by decide) Tryz.func7),Tryz.ntmps7
 go_wp2_with (first
  |(go_at_call 27;refine(kF E.out (r.out.below s.out.low)).mono ?_;rintro e w1⟨rfl,t⟩;have u:=eI (s.out.on t);clear t)
  |(go_at_call 29;refine(yO F.out _).mono ?_;rintro e w'⟨rfl,rfl⟩)
  |(go_at_call 30;refine(d.out _ (r.out.below (u.out.alloc (eM C.val 78)).low)).mono ?_;rintro e w2⟨k,rfl,x,f⟩;have g:=eI ((u.out.alloc (eM C.val 78)).on f);have i:=eI ((f.block w1.heap.size (by simp)).trans (au w1 (eM C.val 78)));have I:=eI x;clear f x;have J:=g.out.lt;have K:=dT i.out;obtain⟨M,N,O,P,f4,Q⟩:=bf g.out.box;obtain⟨d0,d1,d2,d3,d4,d5⟩:=bf i.out))
 go_loopw [9,27] (λR a wr=>∃p:Nat,p<=C.n4/\a=eN e7 p/\eO 38 wr w2.heap.size R (tB L m C.n5 p)/\Below w2.heap.size w2 wr) (λ_ a _=>C.n4-(intOf a).toNat)
 case atStart=>exact⟨0,cf _,rfl,⟨rfl,fi ⟨rfl,rfl⟩⟩,dU _ _⟩
 case round=>
  obtain⟨p,hp,rfl,y,b⟩:=hrel;clear M N O P f4 Q d0 d1 d2 d3 d4 d5 J;have z:=eI y;have S:=eI (g.out.on b);have A:=eI ((b.block _ K).trans i.out);have T:=eI (I.out.on b);have U:=eI b;have wD:=dT A.out;have V:=b.size;clear y b;by_cases X:p<C.n4
  ·have i2:(p:Int)<C.n4:=by omega
   obtain⟨d0,d1,d2,d3,d4,d5⟩:=bf A.out;have B:(tB L m C.n5 p).length=p:=Nt _ _ _ _;have j:=eI B;clear B
   go_wp2_with (first
    |(go_at_call 31;refine(Fa C k p m L H.out _ T.out D (by omega)).mono ?_;rintro e w3⟨rfl,c⟩;have Y:=c.size;have Z:=eI (z.out.on c);have H3:=eI (U.out.trans (c.mono V));clear c)
    |(at_builtin;refine Fb afJ aaI rfl _ _ rfl w2.heap.size _ _ (kU L p m C.n5 0 false) w3.heap.size rfl (Z.out.alloc _) rfl (b7 _ _ _ 0 _ rfl) (by rw[j.out];omega) (by simp;omega) ?_;intro v' w4 fO l))
   refine⟨⟨p+1,X,by go_num,by rw[Iu];exact fO,(H3.out.alloc (by omega) _).trans l⟩,by simp only[intOf];omega⟩
  ·obtain rfl:p=C.n4:=by omega
   go_wp2
   refine bM (v:=eW #[u9,eN e7 0]) ?_ rfl ⟨_,rfl,z.out.reads,S.out.low⟩;simp[bR,Tryz.results7,go_sem]
def j7{T e:bL}{z:Value}{m bytes:Nat}(k:PL.underlying T=some (fA e))(l:(PL.info? e).map (λi=>(i.zero,i.size,i.bytes))=some (some z,m,bytes))(p:z.cells.size=m)(q:0<m)(d:bytes<=1000){ops:Array Oper}{rest:List Oper}{o:Oper}{a:Act}{Q:Exit->Act->World->Prop}{w:World}(r:o.guard=none)(s x:bT)
 (t:o.op=.call { callee:=.builtin .append,args:=#[s,x],argTypes:=#[T,T] }) (base g:Nat) (hs:a.eval s=eQ (some ⟨g,0,none⟩) 0 0) (hg:w.heap[g]?=some (eM #[] e)) (hb:base<=g)
 (A:Addr) (n c:Nat) (b:List Value) (v:a.eval x=eQ (some A) n c) (hl:b.length=n*m) (hc:∀j u,b[j]?=some u->w.cell? (A.add j)=some u) (y:∀u∈b,u.oneCell'=true) (B:n<=1000)
 (h:∀v' w',w'.ownsRow base e m v' n b->v'≠eQ none 0 0->Below base w w'->bC PL ops Q rest (a.put o.dst v') w'):bC PL ops Q (o::rest) a w:=by
 obtain⟨C,hi,D,E,F⟩:=bX l;have f:w.ownsRow base e m (eQ (some ⟨g,0,none⟩) 0 0) 0 []:=⟨by simp,fm ⟨g,0,#[],rfl,hb,hg,cc _,cf _,by simp,by simp⟩⟩
 have H:=dT hg;refine b1 _ r s x T t base e C z m bytes k hi D E F p q (eQ (some ⟨g,0,none⟩) 0 0) 0 [] hs f A n c b v hl hc y (by simp only[maxLen];omega) (by have:=Nat.mul_le_mul B d;rw[cm];omega) (by omega) λv' w' I J K=>?_;refine h v' w' (by simpa using I) (λe=>?_) ((dU base w).grown J (by omega) (cZ f));have:=K.1 e;simp at this
def abK{w:World}{k off:Nat}{a:List Value}(hc:∀j u,a[j]?=some u->w.cell? ⟨k,off+j,none⟩=some u):∀j u,a[j]?=some u->w.cell? ((⟨k,off,none⟩:Addr).add j)=some u:=λj u e=>by
 have:=hc j u e;by_cases b:j=0
 ·subst b;simpa[Addr.add]using this
 ·simpa[Addr.add,b]using this
def ga{T e:bL}{z:Value}{m bytes:Nat}(f:PL.underlying T=some (fA e))(l:(PL.info? e).map (λi=>(i.zero,i.size,i.bytes))=some (some z,m,bytes))(p:z.cells.size=m)(q:0<m)(d:bytes<=1000){ops:Array Oper}{rest:List Oper}{o:Oper}{a:Act}{Q:Exit->Act->World->Prop}{w:World}(r:o.guard=none)(s x:bT)
 (t:o.op=.call { callee:=.builtin .append,args:=#[s,x],argTypes:=#[T,T] }) (base g:Nat) (hs:a.eval s=eQ (some ⟨g,0,none⟩) 0 0) (hg:w.heap[g]?=some (eM #[] e)) (hb:base<=g)
 (k off n c:Nat) (b:List Value) (v:a.eval x=eQ (some ⟨k,off,none⟩) n c) (hl:b.length=n*m) (hc:∀j u,b[j]?=some u->w.cell? ⟨k,off+j,none⟩=some u) (y:∀u∈b,u.oneCell'=true) (A:n<=1000)
 (h:∀v' w',w'.ownsRow base e m v' n b->v'≠eQ none 0 0->Below base w w'->bC PL ops Q rest (a.put o.dst v') w'):bC PL ops Q (o::rest) a w:=
 j7 f l p q d r s x t base g hs hg hb _ n c b v hl (abK hc) y A h
def Fc(w W:World)(e m:Nat)(v:Value)(n:Nat)(l:List Value):Prop:=W.ownsRow w.heap.size e m v n l/\v≠eQ none 0 0
def Fc.form{w W:World}{e m n:Nat}{v:Value}{l:List Value}(h:Fc w W e m v n l):∃g cap cur,v=eQ (some ⟨g,0,none⟩) n cap/\w.heap.size<=g/\W.heap[g]?=some (eM cur e)/\cur.toList.take (n*m)=l:=by
 obtain⟨⟨_,h⟩,hv⟩:=h
 rcases h with⟨rfl,_⟩|⟨g,cap,cur,e1,hb,hg,_,_,_,a⟩
 ·exact absurd rfl hv
 ·exact⟨g,cap,cur,e1,hb,hg,a⟩
structure yd(w:World)(b:Option Addr)(n m:Nat)(row:List Value):Prop where
 len:row.length=n*m
 le:n<=1000
 one:∀u∈row,u.oneCell'=true
 cells:0<n->∃k o,b=some ⟨k,o,none⟩/\k<w.heap.size/\∀j u,row[j]?=some u->w.cell? ⟨k,o+j,none⟩=some u
def yd.on{w W:World}{b:Option Addr}{n m:Nat}{row:List Value}(h:yd w b n m row)(a:Below w.heap.size w W):yd W b n m row:=
 ⟨h.len,h.le,h.one,λd=>by
   obtain⟨k,o,f,c,g⟩:=h.cells d
   exact⟨k,o,f,cg c a.size,λj u e=>(a.cell (p:=⟨k,o+j,none⟩) c).trans (g j u e)⟩⟩
def yd.nil{w:World}{n m:Nat}{row:List Value}(h:yd w none n m row):n=0:=by
 by_cases a:0<n
 ·obtain⟨k,o,b,_⟩:=h.cells a;cases b
 ·omega
def yd.add{w:World}{A:Addr}{n m:Nat}{row:List Value}(h:yd w (some A) n m row):∀j u,row[j]?=some u->w.cell? (A.add j)=some u:=λj u e=>by
 by_cases a:0<n
 ·obtain⟨k,o,b,_,c⟩:=h.cells a;cases b;exact abK c j u e
 ·have:=h.len;obtain rfl:n=0:=by omega
  rw[Nat.zero_mul]at this;rw[List.length_eq_zero_iff.1 this]at e;cases e
def P2(w W:World)(e m n:Nat)(row:List Value)(b:Option Addr)(v:Value):Prop:=∃b' c,v=eQ b' n c/\(b=none->b'=none/\c=0)/\(0<n->∃g a,b'=some ⟨g,0,none⟩/\w.heap.size<=g/\W.heap[g]?=some (eM a e)/\a.toList.take (n*m)=row)
def P2.on{w W d:World}{e m n:Nat}{row:List Value}{b:Option Addr}{v:Value}(h:P2 w W e m n row b v)(i:Below W.heap.size W d):P2 w d e m n row b v:=by
 obtain⟨b',c,hv,j,h⟩:=h;exact⟨b',c,hv,j,λk=>by obtain⟨g,a,l,o,f,p⟩:=h k;exact⟨g,a,l,o,(i.block _ (dT f)).trans f,p⟩⟩
def P2.low{w0 w W:World}{e m n:Nat}{row:List Value}{b:Option Addr}{v:Value}(h:P2 w W e m n row b v)(hs:w0.heap.size<=w.heap.size):P2 w0 W e m n row b v:=by
 obtain⟨b',c,hv,d,h⟩:=h;exact⟨b',c,hv,d,λf=>by obtain⟨g,a,i,j,k,l⟩:=h f;exact⟨g,a,i,cq hs j,k,l⟩⟩
def P2.of{w W:World}{e m n:Nat}{row:List Value}{A:Addr}{v:Value}(h:W.ownsRow w.heap.size e m v n row)(hv:v≠eQ none 0 0):P2 w W e m n row (some A) v:=by
 obtain⟨g,c,a,rfl,b,d,f⟩:=Fc.form (w:=w) ⟨h,hv⟩;exact⟨_,c,rfl,λe=>(by cases e),λ_=>⟨g,a,rfl,b,d,f⟩⟩
def P2.nil{w W:World}{e m n:Nat}{row:List Value}{b:Option Addr}(a:n=0):P2 w W e m n row b (eQ none 0 0):=by
 subst a;exact⟨none,0,rfl,λ_=>⟨rfl,rfl⟩,λh=>absurd h (co _)⟩
def VF:PL.underlying 31=some (fA 3):=by kernel_rfl
def VG:(PL.info? 3).map (λi=>(i.zero,i.size,i.bytes))=some (some (eN e7 0),1,8):=by kernel_rfl
def aaK(a:Addr)(n c:Nat)(W:World):(binOp .eql 31 (eQ (some a) n c) (eQ none 0 0)).run PL W=fo (eT false) W:=by kernel_rfl
def aaP(c:Nat)(W:World):(binOp .eql 31 (eQ none 0 c) (eQ none 0 0)).run PL W=fo (eT true) W:=by kernel_rfl
def agR(b:Option Addr)(n c:Nat)(row:List Value)(w:World)(h:yd w b n 1 row):Calls PL 33 #[eQ b n c] w λe w'=>∃v,e=ft v/\P2 w w' 3 1 n row b v/\Below w.heap.size w w':=by
 have H:=eI h;clear h
 cases b with
 |none=>
  obtain rfl:n=0:=H.out.nil;have q1:=aaP
  go_enter (fx (by decide) el),em
  go_wp2
  go_ret
  exact⟨_,rfl,P2.nil rfl,dU _ _⟩
 |some A=>
  have q1:=aaK;have a:=eI ((dU w.heap.size w).alloc (cc _) (eM #[] 3))
  go_enter (fx (by decide) el),em
  go_wp2_with (at_builtin;refine j7 VF VG rfl (by decide) (by decide) rfl _ _ rfl w.heap.size w.heap.size rfl (au w (eM #[] 3)) (cc _) A n c row rfl H.out.len (H.out.on a.out).add H.out.one H.out.le ?_;intro v' w2 d hv f)
  go_ret
  exact⟨_,rfl,P2.of d hv,a.out.trans f⟩
def VH:PL.underlying 22=some (fA 40):=by kernel_rfl
def VI:(PL.info? 40).map (λi=>(i.zero,i.size,i.bytes))=some (some (eV #[eN e7 0,eN e7 0]),2,16):=by kernel_rfl
def aaL(a:Addr)(n c:Nat)(W:World):(binOp .eql 22 (eQ (some a) n c) (eQ none 0 0)).run PL W=fo (eT false) W:=by kernel_rfl
def amB(c:Nat)(W:World):(binOp .eql 22 (eQ none 0 c) (eQ none 0 0)).run PL W=fo (eT true) W:=by kernel_rfl
def agS(b:Option Addr)(n c:Nat)(row:List Value)(w:World)(h:yd w b n 2 row):Calls PL 104 #[eQ b n c] w λe w'=>∃v,e=ft v/\P2 w w' 40 2 n row b v/\Below w.heap.size w w':=by
 have H:=eI h;clear h
 cases b with
 |none=>
  obtain rfl:n=0:=H.out.nil;have q1:=amB
  go_enter (fx (by decide) en),ep
  go_wp2
  go_ret
  exact⟨_,rfl,P2.nil rfl,dU _ _⟩
 |some A=>
  have q1:=aaL;have a:=eI ((dU w.heap.size w).alloc (cc _) (eM #[] 40))
  go_enter (fx (by decide) en),ep
  go_wp2_with (at_builtin;refine j7 VH VI rfl (by decide) (by decide) rfl _ _ rfl w.heap.size w.heap.size rfl (au w (eM #[] 40)) (cc _) A n c row rfl H.out.len (H.out.on a.out).add H.out.one H.out.le ?_;intro v' w2 d hv f)
  go_ret
  exact⟨_,rfl,P2.of d hv,a.out.trans f⟩
def VJ:PL.underlying 23=some (fA 45):=by kernel_rfl
def VK:(PL.info? 45).map (λi=>(i.zero,i.size,i.bytes))=some (some (eV #[eN e7 0,eN e7 0,eN e7 0]),3,24):=by kernel_rfl
def aaM(a:Addr)(n c:Nat)(W:World):(binOp .eql 23 (eQ (some a) n c) (eQ none 0 0)).run PL W=fo (eT false) W:=by kernel_rfl
def amC(c:Nat)(W:World):(binOp .eql 23 (eQ none 0 c) (eQ none 0 0)).run PL W=fo (eT true) W:=by kernel_rfl
def agT(b:Option Addr)(n c:Nat)(row:List Value)(w:World)(h:yd w b n 3 row):Calls PL 105 #[eQ b n c] w λe w'=>∃v,e=ft v/\P2 w w' 45 3 n row b v/\Below w.heap.size w w':=by
 have H:=eI h;clear h
 cases b with
 |none=>
  obtain rfl:n=0:=H.out.nil;have q1:=amC
  go_enter (fx (by decide) eq),et
  go_wp2
  go_ret
  exact⟨_,rfl,P2.nil rfl,dU _ _⟩
 |some A=>
  have q1:=aaM;have a:=eI ((dU w.heap.size w).alloc (cc _) (eM #[] 45))
  go_enter (fx (by decide) eq),et
  go_wp2_with (at_builtin;refine j7 VJ VK rfl (by decide) (by decide) rfl _ _ rfl w.heap.size w.heap.size rfl (au w (eM #[] 45)) (cc _) A n c row rfl H.out.len (H.out.on a.out).add H.out.one H.out.le ?_;intro v' w2 d hv f)
  go_ret
  exact⟨_,rfl,P2.of d hv,a.out.trans f⟩
def VL:PL.underlying 24=some (fA 42):=by kernel_rfl
def VM:(PL.info? 42).map (λi=>(i.zero,i.size,i.bytes))=some (some (eV #[eP ByteArray.empty,eN e7 0,eN e7 0,eN e7 0,eN e7 0,eN e7 0,eN e7 0,eN e7 0,eN e7 0,eN e7 0,eN e7 0,eQ none 0 0]),12,120):=by kernel_rfl
def aaN(a:Addr)(n c:Nat)(W:World):(binOp .eql 24 (eQ (some a) n c) (eQ none 0 0)).run PL W=fo (eT false) W:=by kernel_rfl
def amD(c:Nat)(W:World):(binOp .eql 24 (eQ none 0 c) (eQ none 0 0)).run PL W=fo (eT true) W:=by kernel_rfl
def agU(b:Option Addr)(n c:Nat)(row:List Value)(w:World)(h:yd w b n 12 row):Calls PL 106 #[eQ b n c] w λe w'=>∃v,e=ft v/\P2 w w' 42 12 n row b v/\Below w.heap.size w w':=by
 have H:=eI h;clear h
 cases b with
 |none=>
  obtain rfl:n=0:=H.out.nil;have q1:=amD
  go_enter (fx (by decide) eu),ev
  go_wp2
  go_ret
  exact⟨_,rfl,P2.nil rfl,dU _ _⟩
 |some A=>
  have q1:=aaN;have a:=eI ((dU w.heap.size w).alloc (cc _) (eM #[] 42))
  go_enter (fx (by decide) eu),ev
  go_wp2_with (at_builtin;refine j7 VL VM rfl (by decide) (by decide) rfl _ _ rfl w.heap.size w.heap.size rfl (au w (eM #[] 42)) (cc _) A n c row rfl H.out.len (H.out.on a.out).add H.out.one H.out.le ?_;intro v' w2 d hv f)
  go_ret
  exact⟨_,rfl,P2.of d hv,a.out.trans f⟩
def VN:PL.underlying 25=some (fA 94):=by kernel_rfl
def VO:(PL.info? 94).map (λi=>(i.zero,i.size,i.bytes))=some (some (eV #[eP ByteArray.empty,eN e7 0,eN e7 0]),3,32):=by kernel_rfl
def aaO(a:Addr)(n c:Nat)(W:World):(binOp .eql 25 (eQ (some a) n c) (eQ none 0 0)).run PL W=fo (eT false) W:=by kernel_rfl
def amE(c:Nat)(W:World):(binOp .eql 25 (eQ none 0 c) (eQ none 0 0)).run PL W=fo (eT true) W:=by kernel_rfl
def agV(b:Option Addr)(n c:Nat)(row:List Value)(w:World)(h:yd w b n 3 row):Calls PL 107 #[eQ b n c] w λe w'=>∃v,e=ft v/\P2 w w' 94 3 n row b v/\Below w.heap.size w w':=by
 have H:=eI h;clear h
 cases b with
 |none=>
  obtain rfl:n=0:=H.out.nil;have q1:=amE
  go_enter (fx (by decide) eA),eD
  go_wp2
  go_ret
  exact⟨_,rfl,P2.nil rfl,dU _ _⟩
 |some A=>
  have q1:=aaO;have a:=eI ((dU w.heap.size w).alloc (cc _) (eM #[] 94))
  go_enter (fx (by decide) eA),eD
  go_wp2_with (at_builtin;refine j7 VN VO rfl (by decide) (by decide) rfl _ _ rfl w.heap.size w.heap.size rfl (au w (eM #[] 94)) (cc _) A n c row rfl H.out.len (H.out.on a.out).add H.out.one H.out.le ?_;intro v' w2 d hv f)
  go_ret
  exact⟨_,rfl,P2.of d hv,a.out.trans f⟩
def tC(k off n c:Nat)(a:List Value)(w:World)(hl:a.length=n*1)(hc:∀j u,a[j]?=some u->w.cell? ⟨k,off+j,none⟩=some u)(d:∀u∈a,u.oneCell'=true)(f:n<=1000)(g:k<w.heap.size) :
 Calls PL 33 #[eQ (some ⟨k,off,none⟩) n c] w λe w'=>∃v,e=ft v/\v≠eQ none 0 0/\w'.ownsRow w.heap.size 3 1 v n a/\Below w.heap.size w w':=by
 have h:=eI hc;have q1:=aaK;clear hc;have b:=eI ((dU w.heap.size w).alloc (cc _) (eM #[] 3))
 go_enter (fx (by decide) el),em
 go_wp2_with (at_builtin;refine ga VF VG rfl (by decide) (by decide) rfl _ _ rfl w.heap.size w.heap.size rfl (au w (eM #[] 3)) (cc _) k off n c a rfl hl (λj u e=>(b.out.cell (p:=⟨k,off+j,none⟩) g).trans (h.out j u e)) d f ?_;intro v' w2 i hv l)
 go_ret
 exact⟨_,rfl,hv,i,b.out.trans l⟩
def dJ{W:World}{b b' e m n:Nat}{v:Value}{l:List Value}(h:W.ownsRow b e m v n l)(hb:b'<=b):W.ownsRow b' e m v n l:=by
 obtain⟨c,h⟩:=h
 rcases h with h|⟨g,cap,a,e1,d,hg,f⟩
 ·exact⟨c,fi h⟩
 ·exact⟨c,fm ⟨g,cap,a,e1,cq hb d,hg,f⟩⟩
def iu{W:World}{a b:Nat}{x y:Array Value}{t u:bL}(h:W.heap[a]?=some (eM x t))(k:W.heap[b]?=some (eM y u))(c:t≠u):a≠b:=λe=>by
 grind
def Fe{W:World}{b o:Nat}{v:Value}{c:Array Value}{t:bL}(h:W.heap[b]?=some (eM c t)):(W.setCell ⟨b,o,none⟩ v).heap[b]?=some (eM (c.setIfInBounds o v) t):=by
 simp only[dK,dq,if_pos,h,du];rfl
def aZ{W:World}{b o k:Nat}{v:Value}(h:b≠k):(W.setCell ⟨b,o,none⟩ v).heap[k]?=W.heap[k]?:=by
 simp only[dK,dq,if_neg h]
def nC{W:World}{r:Nat}{x0 x1 x2 x3 x4 a u0 u1 u2 u3 u4 u5:Value}{t:bL}(h:W.heap[r]?=some (eM #[x0,x1,x2,x3,x4,a] t)):((((((W.setCell ⟨r,0,none⟩ u0).setCell ⟨r,1,none⟩ u1).setCell ⟨r,2,none⟩ u2).setCell ⟨r,3,none⟩ u3).setCell ⟨r,4,none⟩ u4).setCell ⟨r,5,none⟩ u5).heap[r]?=some (eM #[u0,u1,u2,u3,u4,u5] t):=by
 simp only[dK,dq,if_pos,h,du];rfl
def cM{W:World}{r b:Nat}{u0 u1 u2 u3 u4 u5:Value}(hb:b≠r):((((((W.setCell ⟨r,0,none⟩ u0).setCell ⟨r,1,none⟩ u1).setCell ⟨r,2,none⟩ u2).setCell ⟨r,3,none⟩ u3).setCell ⟨r,4,none⟩ u4).setCell ⟨r,5,none⟩ u5).heap[b]?=W.heap[b]?:=by
 simp only[dK,dq,if_neg (Ne.symm hb)]
def wJ{W:World}{K o x:Nat}{v:Value}{cur:Array Value}{t:bL}(h:W.heap[K]?=some (eM cur t))(a:o<cur.size):(W.setCell ⟨K,o,none⟩ v).cell? ⟨K,x,none⟩=if x=o then some v else W.cell? ⟨K,x,none⟩:=by
 simp only[dL,Fe h,h,Array.getElem?_setIfInBounds]
 grind
def akn{W:World}{K o b x:Nat}{v:Value}(hb:K≠b):(W.setCell ⟨K,o,none⟩ v).cell? ⟨b,x,none⟩=W.cell? ⟨b,x,none⟩:=by
 simp only[dL,aZ hb]
def amF{a b:Type}(f:a->List b)(m:Nat)(c:∀x,(f x).length=m)(l:List a)(i j:Nat)(hi:i<l.length)(d:j<m):(l.flatMap f)[i*m+j]?=(f l[i])[j]?:=by
 induction l generalizing i with
 |nil=>cases hi
 |cons x l e=>
  rw[List.flatMap_cons]
  match i with
  |0=>grind
  |i+1=>
   grind
def rowOf(f:Nat->List Value)(n:Nat):List Value:=(aa n).flatMap f
def abt{f:Nat->List Value}{n m i j:Nat}(a:∀i,(f i).length=m)(hi:i<n)(b:j<m):(rowOf f n)[i*m+j]?=(f i)[j]?:=by
 have:=amF f m a (aa n) i j (by simpa using hi) b;unfold rowOf;simpa using this
def L2{f:Nat->List Value}{m:Nat}(a:∀i,(f i).length=m)(n:Nat):(rowOf f n).length=n*m:=by
 have:∀l:List Nat,(l.flatMap f).length=l.length*m:=λl=>by
  induction l with
  |nil=>simp
  |cons x l b=>grind
 unfold rowOf;rw[this,List.length_range]
def fc(w:World)(k o n m:Nat)(f:Nat->List Value):Prop:=∀i,i<n->∀q,q<m->w.cell? ⟨k,o+i*m+q,none⟩=(f i)[q]?
def fc.get{w:World}{k o n m:Nat}{f:Nat->List Value}(c:∀i,(f i).length=m)(hc:fc w k o n m f):∀j u,(rowOf f n)[j]?=some u->w.cell? ⟨k,o+j,none⟩=some u:=λj u e=>by
 have a:=(List.getElem?_eq_some_iff.1 e).1;rw[L2 c]at a;have b:0<m:=Nat.pos_of_ne_zero λh=>by subst h;simp at a
 obtain⟨i,q,hi,d,rfl⟩:∃i q,i<n/\q<m/\j=i*m+q:=⟨j / m,j % m,Nat.div_lt_of_lt_mul (by rw[cv];exact a),Nat.mod_lt j b,by rw[cv];exact(Nat.div_add_mod j m).symm⟩
 rw[abt c hi d]at e;rw[<-ci];exact(hc i hi q d).trans e
def yd.mk'{w:World}{b:Option Addr}{k o n m:Nat}{f:Nat->List Value}(a:∀i,(f i).length=m)(c:n<=1000)(d:∀i,∀u∈f i,u.oneCell'=true)(hs:0<n->b=some ⟨k,o,none⟩)(e:0<n->k<w.heap.size)(hc:fc w k o n m f):yd w b n m (rowOf f n):=by
 refine⟨L2 a n,c,λu g=>?_,λh=>⟨k,o,hs h,e h,hc.get a⟩⟩;obtain⟨i,_,h⟩:=List.mem_flatMap.1 g;exact d i u h
def fc.of{W:World}{g n m e:Nat}{f:Nat->List Value}{cur:Array Value}(a:∀i,(f i).length=m)(h:W.heap[g]?=some (eM cur e))(b:cur.toList.take (n*m)=rowOf f n):fc W g 0 n m f/\n*m<=cur.size:=by
 have hl:=congrArg bo b;rw[L2 a,List.length_take,dt]at hl;refine⟨λi hi q c=>?_,by omega⟩;have d:i*m+q<n*m:=by
  have:i*m+m<=n*m:=by rw[<-cB];exact cC m hi
  omega
 rw[<-abt a hi c,<-b,aI d,cm];simp[dL,h]
def amG(x:Int×Int):List Value:=[eN e7 x.1,eN e7 x.2]
def amH(x:Int×Int×Int):List Value:=[eN e7 x.1,eN e7 x.2.1,eN e7 x.2.2]
def ahv(x:ByteArray×Int×Int):List Value:=[eP x.1,eN e7 x.2.1,eN e7 x.2.2]
def CO(x:iJ):List Value:=eP x.name::((aa 10).map λj=>eN e7 (x.n (j+1)))++[eQ x.lb x.ln x.lc]
def abu(x:iJ)(j:Nat):List Value:=[eN e7 (x.lane j)]
def EC(x:iJ):(CO x).length=12:=by simp[CO]
def H8(x:iJ){q:Nat}(a:1<=q)(b:q<=10):(CO x)[q]?=some (eN e7 (x.n q)):=by
 obtain⟨q,rfl⟩:∃k,q=k+1:=⟨q-1,by omega⟩
 have hl:q<10:=by omega
 simp[CO,bg,hl]
def acy(x:iJ):∀u∈CO x,u.oneCell'=true:=by
 intro u h;simp only[CO,bp,ao,List.mem_append,bm,ap,or_false]at h
 rcases h with rfl|⟨j,_,rfl⟩|rfl<;>rfl
structure ni(C:CD)(w:World):Prop where
 m2:C.n2<=20
 m3:C.n3<=20
 m4:C.n4<=20
 m5:C.n5<=20
 h2:C.k2<w.heap.size
 h3:C.k3<w.heap.size
 h4:C.k4<w.heap.size
 h5:C.k5<w.heap.size
 s2:0<C.n2->C.b2=some ⟨C.k2,C.o2,none⟩
 s3:0<C.n3->C.b3=some ⟨C.k3,C.o3,none⟩
 s4:0<C.n4->C.b4=some ⟨C.k4,C.o4,none⟩
 s5:0<C.n5->C.b5=some ⟨C.k5,C.o5,none⟩
 r2:fc w C.k2 C.o2 C.n2 2 λi=>amG (C.x2 i)
 r3:fc w C.k3 C.o3 C.n3 3 λi=>amH (C.x3 i)
 r4:fc w C.k4 C.o4 C.n4 12 λi=>CO (C.x4 i)
 r5:fc w C.k5 C.o5 C.n5 3 λi=>ahv (C.x5 i)
 cu:∀i,i<C.n4->(C.x4 i).name.size<=100/\(C.x4 i).ln<=20
 nm5:∀i,i<C.n5->(C.x5 i).1.size<=100
 l4:∀i,i<C.n4->0<(C.x4 i).ln->(C.x4 i).lb=some ⟨(C.x4 i).lk,(C.x4 i).lo,none⟩/\(C.x4 i).lk<w.heap.size
 rl:∀i,i<C.n4->fc w (C.x4 i).lk (C.x4 i).lo (C.x4 i).ln 1 (abu (C.x4 i))
def CD.At.rows{C:CD}{w:World}(h:C.At w):ni C w:=by
 obtain⟨m2,m3,m4,m5,h2,h3,h4,h5,s2,s3,s4,s5,Ep,Er,Es,Et,Eu,cu,AD,dB,nj,l4,J5,nm5,FI,HU,J6⟩:=h;refine⟨m2,m3,m4,m5,h2,h3,h4,h5,s2,s3,s4,s5,λi hi q a=>?_,λi hi q a=>?_,λi hi q a=>?_,λi hi q a=>?_,cu,nm5,l4,λi hi j b q a=>?_⟩
 ·match q,a with
  |0,_=>exact Ep i hi
  |1,_=>exact Er i hi
 ·match q,a with
  |0,_=>exact Es i hi
  |1,_=>exact Et i hi
  |2,_=>exact Eu i hi
 ·by_cases c:q=0
  ·subst c;exact AD i hi
  ·by_cases d:q=11
   ·subst d;exact nj i hi
   ·rw[H8 _ (by omega) (by omega)]
    grind
 ·match q,a with
  |0,_=>exact FI i hi
  |1,_=>exact HU i hi
  |2,_=>exact J6 i hi
 ·obtain rfl:q=0:=by omega
  have:=J5 i hi j b;rw[cQ];exact this
def ni.at_{C:CD}{w:World}(h:ni C w):C.At w:=by
 obtain⟨m2,m3,m4,m5,h2,h3,h4,h5,s2,s3,s4,s5,r2,r3,r4,r5,cu,nm5,l4,rl⟩:=h
 exact⟨m2,m3,m4,m5,h2,h3,h4,h5,s2,s3,s4,s5,λi hi=>r2 i hi 0 (by omega),λi hi=>r2 i hi 1 (by omega),λi hi=>r3 i hi 0 (by omega),λi hi=>r3 i hi 1 (by omega),λi hi=>r3 i hi 2 (by omega),cu,λi hi=>r4 i hi 0 (by omega),
  λi hi j a h2=>(r4 i hi j (by omega)).trans (H8 _ a h2),λi hi=>r4 i hi 11 (by omega),l4,λi hi j b=>by have:=rl i hi j b 0 (by omega);rw[cQ]at this;exact this,nm5,λi hi=>r5 i hi 0 (by omega),λi hi=>r5 i hi 1 (by omega),λi hi=>r5 i hi 2 (by omega)⟩
abbrev CD.aoH(C:CD):List Value:=rowOf (λi=>amG (C.x2 i)) C.n2
abbrev CD.aoI(C:CD):List Value:=rowOf (λi=>amH (C.x3 i)) C.n3
abbrev CD.abZ(C:CD):List Value:=rowOf (λi=>CO (C.x4 i)) C.n4
abbrev CD.adP(C:CD):List Value:=rowOf (λi=>ahv (C.x5 i)) C.n5
def CD.ako(C:CD){i j:Nat}(hi:i<C.n4)(a:j<12):C.abZ[i*12+j]?=(CO (C.x4 i))[j]?:=abt (λ_=>EC _) hi a
def CD.abv(C:CD):C.abZ.length=C.n4*12:=L2 (λ_=>EC _) _
def ni.arS{C:CD}{w:World}(h:ni C w):yd w C.b2 C.n2 2 C.aoH:=.mk' (λ_=>rfl) (cq h.m2 (by decide)) (λi u a=>by simp only[amG,ao,ap,or_false]at a;rcases a with rfl|rfl<;>rfl) h.s2 (λ_=>h.h2) h.r2
def ni.arT{C:CD}{w:World}(h:ni C w):yd w C.b3 C.n3 3 C.aoI:=.mk' (λ_=>rfl) (cq h.m3 (by decide)) (λi u a=>by simp only[amH,ao,ap,or_false]at a;rcases a with rfl|rfl|rfl<;>rfl) h.s3 (λ_=>h.h3) h.r3
def ni.aoJ{C:CD}{w:World}(h:ni C w):yd w C.b4 C.n4 12 C.abZ:=.mk' (λ_=>EC _) (cq h.m4 (by decide)) (λi=>acy _) h.s4 (λ_=>h.h4) h.r4
def ni.arU{C:CD}{w:World}(h:ni C w):yd w C.b5 C.n5 3 C.adP:=.mk' (λ_=>rfl) (cq h.m5 (by decide)) (λi u a=>by simp only[ahv,ao,ap,or_false]at a;rcases a with rfl|rfl|rfl<;>rfl) h.s5 (λ_=>h.h5) h.r5
def ni.arV{C:CD}{w:World}(h:ni C w){i:Nat}(hi:i<C.n4):yd w (C.x4 i).lb (C.x4 i).ln 1 (rowOf (abu (C.x4 i)) (C.x4 i).ln):=.mk' (λ_=>rfl) (cq (h.cu i hi).2 (by decide)) (λj u a=>by simp only[abu,List.mem_singleton]at a;subst a;rfl) (λhl=>(h.l4 i hi hl).1) (λhl=>(h.l4 i hi hl).2) (h.rl i hi)
def CD.At.abZ{C:CD}{w:World}(h:C.At w):∀j u,C.abZ[j]?=some u->w.cell? ⟨C.k4,C.o4+j,none⟩=some u:=by
 intro j u e;by_cases h4:0<C.n4
 ·obtain⟨k,o,hb,_,hc⟩:=h.rows.aoJ.cells h4;rw[h.s4 h4]at hb;cases hb;exact hc j u e
 ·have:=(List.getElem?_eq_some_iff.1 e).1;rw[C.abv]at this;omega
structure abw(x y:iJ):Prop where
 name:y.name=x.name
 n:y.n=x.n
 ln:y.ln=x.ln
 lane:y.lane=x.lane
 nil:x.lb=none->x.lc=0->y.lb=none/\y.lc=0
def Typ(W:World)(k e:Nat):Prop:=∃a,W.heap[k]?=some (eM a e)
def Typ.on{W a:World}{k e:Nat}(h:Typ W k e)(b:Below W.heap.size W a):Typ a k e:=h.imp λ_ h=>(b.block _ (dT h)).trans h
def Typ.ne{W:World}{k k' e e':Nat}(h:Typ W k e)(a:Typ W k' e')(b:e≠e'):k≠k':=by
 obtain⟨_,h⟩:=h;obtain⟨_,a⟩:=a;exact iu h a b
theorem Typ.set{W:World}{k e K o:Nat}{v:Value}(h:Typ W k e):Typ (W.setCell ⟨K,o,none⟩ v) k e:=by
 obtain⟨c,h⟩:=h;by_cases a:K=k
 ·subst a;exact⟨_,Fe h⟩
 ·exact⟨c,(aZ a).trans h⟩
structure j9(n0 i:Nat)(D:CD)(W:World):Prop where
 mem:ni D W
 t2:0<D.n2->Typ W D.k2 40
 t3:0<D.n3->Typ W D.k3 45
 t4:n0<=D.k4/\D.o4=0/\∃cur,W.heap[D.k4]?=some (eM cur 42)/\D.n4*12<=cur.size
 t5:0<D.n5->n0<=D.k5/\D.o5=0/\∃cur,W.heap[D.k5]?=some (eM cur 94)/\D.n5*3<=cur.size
 tl:∀j,j<D.n4->0<(D.x4 j).ln->(j<i->Typ W (D.x4 j).lk 3)/\(i<=j->(D.x4 j).lk<n0)
def ni.on{C:CD}{w W:World}(h:ni C w)(a:Below w.heap.size w W):ni C W:=(h.at_.below a).rows
def j9.on{n0 i:Nat}{D:CD}{W c:World}(h:j9 n0 i D W)(b:Below W.heap.size W c):j9 n0 i D c:=
 ⟨h.mem.on b,λa=>(h.t2 a).on b,λa=>(h.t3 a).on b,⟨h.t4.1,h.t4.2.1,h.t4.2.2.imp λ_ k=>⟨(b.block _ (dT k.1)).trans k.1,k.2⟩⟩,
   λa=>⟨(h.t5 a).1,(h.t5 a).2.1,(h.t5 a).2.2.imp λ_ k=>⟨(b.block _ (dT k.1)).trans k.1,k.2⟩⟩,λj d hl=>⟨λhi=>((h.tl j d hl).1 hi).on b,(h.tl j d hl).2⟩⟩
def fc.other{W:World}{K O k o n m:Nat}{v:Value}{f:Nat->List Value}(h:fc W k o n m f)(a:0<n->K≠k):fc (W.setCell ⟨K,O,none⟩ v) k o n m f:=λi hi q b=>(akn (a (by omega))).trans (h i hi q b)
def fc.put{W:World}{K n m p r:Nat}{v:Value}{f g:Nat->List Value}{cur:Array Value}{t:bL}(h:fc W K 0 n m f)(d:W.heap[K]?=some (eM cur t))(hs:n*m<=cur.size)(j:p<n)(b:r<m)(k:∀i,i≠p->g i=f i)(s:∀q,q<m->(g p)[q]?=if q=r then some v else(f p)[q]?):fc (W.setCell ⟨K,p*m+r,none⟩ v) K 0 n m g:=λi hi q a=>by
 have key:∀i,i<n->∀q,q<m->i*m+q<n*m:=λi hi q a=>by
  have:i*m+m<=n*m:=by rw[<-cB];exact cC m hi
  omega
 have c:=h i hi q a;rw[cm]at c⊢;rw[wJ d (by have:=key p j r b;omega)];by_cases e:i=p
 ·grind
 ·rw[k i e,if_neg ?_,c];intro l;have o:(i*m+q) / m=(p*m+r) / m:=by rw[l]
  rw[cv i,cv p,c6 (by omega),c6 (by omega),c7 a,c7 b]at o;exact e (by omega)
def j9.arW{n0 i:Nat}{D:CD}{W:World}(h:j9 n0 i D W){p:Nat}(s:p<D.n5)(d:Int):j9 n0 i { D with x5:=λj=>if j=p then((D.x5 j).1,(D.x5 j).2.1,d) else D.x5 j } (W.setCell ⟨D.k5,p*3+2,none⟩ (eN e7 d)):=by
 have l:0<D.n5:=by omega
 obtain⟨t,n,u,hc,hs⟩:=h.t5 l;have T5:Typ W D.k5 94:=⟨_,hc⟩
 have r:Typ W D.k4 42:=h.t4.2.2.imp λ_ k=>k.1;have m:=h.mem;have o:fc W D.k5 0 D.n5 3 λi=>ahv (D.x5 i):=n▸m.r5;have v:∀j,j<D.n4->0<(D.x4 j).ln->D.k5≠(D.x4 j).lk:=λj g hl=>by
  by_cases w:j<i
  ·exact T5.ne ((h.tl j g hl).1 w) (by decide)
  ·have:=(h.tl j g hl).2 (by omega);omega
 refine⟨⟨m.m2,m.m3,m.m4,m.m5,by rw[dO];exact m.h2,by rw[dO];exact m.h3,by rw[dO];exact m.h4,by rw[dO];exact m.h5,m.s2,m.s3,m.s4,m.s5,m.r2.other λl=>T5.ne (h.t2 l) (by decide),m.r3.other λl=>T5.ne (h.t3 l) (by decide),m.r4.other λ_=>T5.ne r (by decide),?_,m.cu,λj g=>?_,λj g hl=>⟨(m.l4 j g hl).1,by rw[dO];exact(m.l4 j g hl).2⟩,λj g=>(m.rl j g).other λhl=>v j g hl⟩,λl=>(h.t2 l).set,λl=>(h.t3 l).set,?_,λ_=>⟨t,n,_,Fe hc,by grind⟩,λj g hl=>⟨λhi=>((h.tl j g hl).1 hi).set,(h.tl j g hl).2⟩⟩
 ·show fc _ D.k5 D.o5 D.n5 3 _;rw[n];refine o.put hc hs s (by decide) (λj g=>?_) (λq x=>?_)
  ·grind
  ·show(ahv (if p=p then _ else _))[q]?=_;rw[if_pos rfl]
   match q,x with
   |0,_=>rfl
   |1,_=>rfl
   |2,_=>rfl
 ·show(if j=p then((D.x5 j).1,(D.x5 j).2.1,d) else D.x5 j).1.size<=100
  split
  ·exact m.nm5 j g
  ·exact m.nm5 j g
 ·obtain⟨a,b,c,e,f⟩:=h.t4;exact⟨a,b,c,(aZ (T5.ne r (by decide))).trans e,f⟩
def j9.arZ{n0 i l:Nat}{D:CD}{W:World}(h:j9 n0 i D W){f:Nat->iJ}{p r:Nat}{v:Value}(y:p<D.n4)(z:r<12)(o:∀j,j≠p->f j=D.x4 j)(A:∀q,q<12->(CO (f p))[q]?=if q=r then some v else(CO (D.x4 p))[q]?)
 (d:(f p).name=(D.x4 p).name/\(f p).ln=(D.x4 p).ln) (hl:0<(f p).ln->(f p).lb=some ⟨(f p).lk,(f p).lo,none⟩/\(f p).lk<W.heap.size) (s:fc W (f p).lk (f p).lo (f p).ln 1 (abu (f p))) (t:∀j,j<D.n4->0<(f j).ln->(j<l->Typ W (f j).lk 3)/\(l<=j->(f j).lk<n0)) :
 j9 n0 l { D with x4:=f } (W.setCell ⟨D.k4,p*12+r,none⟩ v):=by
 obtain⟨B,u,C,hc,hs⟩:=h.t4;have n:Typ W D.k4 42:=⟨_,hc⟩
 have m:=h.mem;have w:fc W D.k4 0 D.n4 12 λi=>CO (D.x4 i):=u▸m.r4;have E:∀j,j<D.n4->0<(f j).ln->D.k4≠(f j).lk:=λj g hl=>by
  by_cases F:j<l
  ·exact n.ne ((t j g hl).1 F) (by decide)
  grind
 have T5:0<D.n5->D.k4≠D.k5:=λd=>n.ne ((h.t5 d).2.2.imp λ_ k=>k.1) (by decide);refine⟨⟨m.m2,m.m3,m.m4,m.m5,by rw[dO];exact m.h2,by rw[dO];exact m.h3,by rw[dO];exact m.h4,by rw[dO];exact m.h5,m.s2,m.s3,m.s4,m.s5,m.r2.other λd=>n.ne (h.t2 d) (by decide),m.r3.other λd=>n.ne (h.t3 d) (by decide),?_,m.r5.other T5,λj g=>?_,m.nm5,λj g hl=>?_,λj g=>?_⟩,λd=>(h.t2 d).set,λd=>(h.t3 d).set,⟨B,u,_,Fe hc,by grind⟩,λd=>?_,λj g hl=>⟨λhi=>((t j g hl).1 hi).set,(t j g hl).2⟩⟩
 ·show fc _ D.k4 D.o4 D.n4 12 _;rw[u];exact w.put hc hs y z (λj g=>by grind) A
 ·show(f j).name.size<=100/\(f j).ln<=20;by_cases e:j=p
  ·subst e;rw[d.1,d.2];exact m.cu j g
  ·rw[o j e];exact m.cu j g
 ·rw[dO];have x:0<(f j).ln:=hl;show(f j).lb=some ⟨(f j).lk,(f j).lo,none⟩/\(f j).lk<W.heap.size;by_cases e:j=p
  ·subst e;exact hl x
  ·rw[o j e]at x ⊢;exact m.l4 j g x
 ·have:=λhl=>E j g hl;show fc _ (f j).lk (f j).lo (f j).ln 1 (abu (f j));refine fc.other ?_ this;by_cases e:j=p
  ·subst e;exact s
  ·rw[o j e];exact m.rl j g
 ·obtain⟨a,b,c,e,f⟩:=h.t5 d;exact⟨a,b,c,(aZ (T5 d)).trans e,f⟩
def j9.other{n0 i:Nat}{D:CD}{W:World}(h:j9 n0 i D W){K:Nat}(c:Typ W K 27)(o:Nat)(v:Value)(hl:n0<=K):j9 n0 i D (W.setCell ⟨K,o,none⟩ v):=by
 have m:=h.mem;have d:K≠D.k4:=c.ne (h.t4.2.2.imp λ_ k=>k.1) (by decide);have T5:0<D.n5->K≠D.k5:=λa=>c.ne ((h.t5 a).2.2.imp λ_ k=>k.1) (by decide);have e:∀j,j<D.n4->0<(D.x4 j).ln->K≠(D.x4 j).lk:=λj b hl=>by
  by_cases f:j<i
  ·exact c.ne ((h.tl j b hl).1 f) (by decide)
  ·have:=(h.tl j b hl).2 (by omega);omega
 exact⟨⟨m.m2,m.m3,m.m4,m.m5,by rw[dO];exact m.h2,by rw[dO];exact m.h3,by rw[dO];exact m.h4,by rw[dO];exact m.h5,m.s2,m.s3,m.s4,m.s5,m.r2.other λa=>c.ne (h.t2 a) (by decide),m.r3.other λa=>c.ne (h.t3 a) (by decide),m.r4.other λ_=>d,m.r5.other T5,m.cu,m.nm5,λj b hl=>⟨(m.l4 j b hl).1,by rw[dO];exact(m.l4 j b hl).2⟩,λj b=>(m.rl j b).other λhl=>e j b hl⟩,λa=>(h.t2 a).set,λa=>(h.t3 a).set,⟨h.t4.1,h.t4.2.1,h.t4.2.2.imp λ_ k=>⟨(aZ d).trans k.1,k.2⟩⟩,λa=>⟨(h.t5 a).1,(h.t5 a).2.1,(h.t5 a).2.2.imp λ_ k=>⟨(aZ (T5 a)).trans k.1,k.2⟩⟩,λj b hl=>⟨λhi=>((h.tl j b hl).1 hi).set,(h.tl j b hl).2⟩⟩
structure acz where
 B2:Option Addr
 K2:Nat
 p2:Nat
 B3:Option Addr
 K3:Nat
 p3:Nat
 K4:Nat
 p4:Nat
 B5:Option Addr
 K5:Nat
 p5:Nat
abbrev CD.KD(C:CD)(Y:acz)(f:Nat->iJ):CD:=
 { C with b2:=Y.B2,k2:=Y.K2,o2:=0,c2:=Y.p2,b3:=Y.B3,k3:=Y.K3,o3:=0,c3:=Y.p3,b4:=some ⟨Y.K4,0,none⟩,k4:=Y.K4,o4:=0,c4:=Y.p4,x4:=f,b5:=Y.B5,k5:=Y.K5,o5:=0,c5:=Y.p5 }
def abw.refl(x:iJ):abw x x:=⟨rfl,rfl,rfl,rfl,λh k=>⟨h,k⟩⟩
def j9.as1{n0 i g c:Nat}{D:CD}{W:World}{b':Option Addr}(h:j9 n0 i D W)(hi:i<D.n4)(hv:(0<(D.x4 i).ln->b'=some ⟨g,0,none⟩/\∃cur,W.heap[g]?=some (eM cur 3)/\cur.toList.take ((D.x4 i).ln*1)=rowOf (abu (D.x4 i)) (D.x4 i).ln)) :
 j9 n0 (i+1) { D with x4:=λj=>if j=i then { D.x4 j with lb:=b',lk:=g,lo:=0,lc:=c } else D.x4 j } (W.setCell ⟨D.k4,i*12+11,none⟩ (eQ b' (D.x4 i).ln c)):=by
 refine h.arZ hi (by decide) (λj a=>if_neg a) (λq l=>?_) (by grind) (λhl=>?_) ?_ (λj a hl=>?_)
 ·rw[if_pos rfl];by_cases e:q=11
  ·subst e;rfl
  ·rw[if_neg e];by_cases d:q=0
   ·subst d;rfl
   ·rw[H8 _ (by omega) (by omega),H8 _ (by omega) (by omega)]
 ·grind
 ·rw[if_pos rfl];by_cases hl:0<(D.x4 i).ln
  ·obtain⟨_,cur,b,f⟩:=hv hl;exact(fc.of (m:=1) (λ_=>rfl) b f).1
  ·intro j a;grind
 ·by_cases e:j=i
  ·subst e;rw[if_pos rfl]at hl ⊢;obtain⟨_,cur,b,_⟩:=hv hl;exact⟨λ_=>⟨cur,b⟩,λh=>by omega⟩
  ·rw[if_neg e]at hl ⊢;exact⟨λk=>(h.tl j a hl).1 (by omega),λk=>(h.tl j a hl).2 (by omega)⟩
abbrev RX:Array Value:=#[eN e7 0,eN e7 0,eQ none 0 0,eQ none 0 0,eQ none 0 0,eQ none 0 0]
structure KO(V:Array Value)(w W:World):Prop where
 box:W.heap[w.heap.size]?=some (eM V 27)
 res:W.heap[w.heap.size+1]?=some (eM RX 27)
 low:Below w.heap.size w W
def KO.on{V:Array Value}{w W b:World}(h:KO V w W)(a:Below W.heap.size W b):KO V w b:=
 ⟨(a.block _ (dT h.box)).trans h.box,(a.block _ (dT h.res)).trans h.res,Below.on h.low a⟩
def KO.start(V:Array Value)(w:World):KO V w ((w.alloc (eM V 27)).alloc (eM RX 27)):=by
 refine⟨?_,?_,((dU _ _).alloc (cc _) _).alloc (by simp) _⟩
 ·exact(((dU (w.alloc (eM V 27)).heap.size _).alloc (cc _) _).block _ (by simp)).trans (au w _)
 ·have a:=au (w.alloc (eM V 27)) (eM RX 27);rw[dPq]at a;exact a
def RY(C:CD)(w:World)(i:Nat)(vs:Nat->Value)(W:World):Prop:=
 (i=2->P2 w W 40 2 C.n2 C.aoH C.b2 (vs 2))/\(i=5->P2 w W 45 3 C.n3 C.aoI C.b3 (vs 5))/\(i=8->P2 w W 42 12 C.n4 C.abZ C.b4 (vs 8))/\(i=11->P2 w W 94 3 C.n5 C.adP C.b5 (vs 11))
def VP{C:CD}{w W b:World}{i:Nat}{vs:Nat->Value}(a:Below W.heap.size W b)(h:RY C w i vs W):RY C w i vs b:=
 ⟨λe=>(h.1 e).on a,λe=>(h.2.1 e).on a,λe=>(h.2.2.1 e).on a,λe=>(h.2.2.2 e).on a⟩
def RZ{C:CD}{w W:World}{i:Nat}{vs b:Nat->Value}(a:vs i=b i)(h:RY C w i vs W):RY C w i b W:=
 ⟨λe=>by subst e;rw[<-a];exact h.1 rfl,λe=>by subst e;rw[<-a];exact h.2.1 rfl,λe=>by subst e;rw[<-a];exact h.2.2.1 rfl,λe=>by subst e;rw[<-a];exact h.2.2.2 rfl⟩
def P2.pick{w W:World}{e m n d:Nat}{row:List Value}{b:Option Addr}{v:Value}(h:P2 w W e m n row b v)(hd:d<W.heap.size):∃B c K,v=eQ B n c/\(b=none->B=none/\c=0)/\K<W.heap.size/\(0<n->B=some ⟨K,0,none⟩/\w.heap.size<=K/\∃cur,W.heap[K]?=some (eM cur e)/\cur.toList.take (n*m)=row):=by
 obtain⟨B,c,hv,a,i⟩:=h;by_cases f:0<n
 ·obtain⟨g,cur,a1,a2,a3,a4⟩:=i f;exact⟨B,c,g,hv,a,dT a3,λ_=>⟨a1,a2,cur,a3,a4⟩⟩
 ·exact⟨B,c,d,hv,a,hd,λh=>absurd h f⟩
def V5{W:World}{n m e K:Nat}{B:Option Addr}{f:Nat->List Value}{n0:Nat}(a:∀i,(f i).length=m)(h:0<n->B=some ⟨K,0,none⟩/\n0<=K/\∃cur,W.heap[K]?=some (eM cur e)/\cur.toList.take (n*m)=rowOf f n):fc W K 0 n m f:=by
 by_cases b:0<n
 ·obtain⟨_,_,cur,c,d⟩:=h b;exact(fc.of a c d).1
 ·intro i hi;omega
def agW(C:CD)(f:Nat->iJ):Prop:=(∀j,abw (C.x4 j) (f j))/\∀j,j<C.n4->(f j).lo=0
structure KI(C:CD)(Y:acz)(w:World)(i:Nat)(f:Nat->iJ)(W:World):Prop where
 box:W.heap[w.heap.size]?=some (eM (C.KD Y f).val 27)
 res:W.heap[w.heap.size+1]?=some (eM RX 27)
 low:Below w.heap.size w W
 own:j9 w.heap.size i (C.KD Y f) W
 KD:∀j,abw (C.x4 j) (f j)
 old:∀j,i<=j->f j=C.x4 j
 zero:∀j,j<i->(f j).lo=0
def KI.on{C:CD}{Y:acz}{w:World}{i:Nat}{f:Nat->iJ}{W b:World}(h:KI C Y w i f W)(a:Below W.heap.size W b):KI C Y w i f b:=
 ⟨(a.block _ (dT h.box)).trans h.box,(a.block _ (dT h.res)).trans h.res,Below.on h.low a,h.own.on a,h.KD,h.old,h.zero⟩
def KI.lane{C:CD}{Y:acz}{w wr:World}{i:Nat}{f:Nat->iJ}{W:World}(h:KI C Y w i f W)(hi:i<C.n4){B:Option Addr}{c K:Nat}(l:(f i).lb=none->B=none/\c=0)(d:0<(f i).ln->B=some ⟨K,0,none⟩/\wr.heap.size<=K/\∃cur,W.heap[K]?=some (eM cur 3)/\cur.toList.take ((f i).ln*1)=rowOf (abu (f i)) (f i).ln) :
 KI C Y w (i+1) (λj=>if j=i then { f j with lb:=B,lk:=K,lo:=0,lc:=c } else f j) (W.setCell ⟨Y.K4,i*12+11,none⟩ (eQ B (f i).ln c)):=by
 have g:Typ W Y.K4 42:=h.own.t4.2.2.imp λ_ k=>k.1;have m:w.heap.size<=Y.K4:=h.own.t4.1;refine⟨(aZ (g.ne ⟨_,h.box⟩ (by decide))).trans h.box,(aZ (g.ne ⟨_,h.res⟩ (by decide))).trans h.res,h.low.setCell (p:=⟨Y.K4,_,none⟩) m _,h.own.as1 hi λhl=>⟨(d hl).1,(d hl).2.2⟩,λj=>?_,λj o=>?_,λj o=>?_⟩
 ·by_cases e:j=i
  ·subst e;rw[if_pos rfl];have k:=h.KD j;have q:=h.old j (cc _);exact⟨k.name,k.n,k.ln,k.lane,λa b=>l (by rw[q];exact a)⟩
  ·rw[if_neg e];exact h.KD j
 ·rw[if_neg (by omega)];exact h.old j (by omega)
 ·by_cases e:j=i
  ·rw[if_pos e]
  ·rw[if_neg e];exact h.zero j (by omega)
def j9.afD{n0 i:Nat}{D:CD}{W:World}(h:j9 n0 i D W){K:Nat}(a:Typ W K 27)(hl:n0<=K)(u0 u1 u2 u3 u4 u5:Value):j9 n0 i D ((((((W.setCell ⟨K,0,none⟩ u0).setCell ⟨K,1,none⟩ u1).setCell ⟨K,2,none⟩ u2).setCell ⟨K,3,none⟩ u3).setCell ⟨K,4,none⟩ u4).setCell ⟨K,5,none⟩ u5):=
 (((((h.other a 0 u0 hl).other a.set 1 u1 hl).other a.set.set 2 u2 hl).other a.set.set.set 3 u3 hl).other a.set.set.set.set 4 u4 hl).other a.set.set.set.set.set 5 u5 hl
def akq(C:CD)(w:World)(h:C.At w)(h4:0<C.n4):Calls PL 75 #[eV C.val] w λe w'=>∃Y f,e=ft (eV (C.KD Y f).val)/\agW C f/\j9 w.heap.size C.n4 (C.KD Y f) w'/\Below w.heap.size w w':=by
 have HX:Hid (∀W,Below w.heap.size w W->ni C W):=eI λW d=>(h.below d).rows;have HL:Hid (∀j,j<C.n4->0<(C.x4 j).ln->(C.x4 j).lk<w.heap.size):=eI λj L hl=>(h.l4 j L hl).2;have K0:=eI (KO.start C.val w);have m4:=h.m4;clear h
 go_enter (fx (by decide) Tryz.func75),Tryz.ntmps75
 go_wp2
 refine b9 ?_;refine cT 13 (KO C.val w) (λW r=>Below W.heap.size W r) (λj=>j % 3 != 2||j==12) (RY C w) rfl (by kernel_rfl) (by kernel_rfl) (λ_ _ _ _ D h=>VP D h) (λ_ _ _ _ _ _ he _ h=>RZ he h) ?_ ?_
 ·exact K0.out.on (dU _ _).drew
 ·simp only[bq,br]
  iterate 13 (
   first
   |(apply aY
     case hE=>rfl
     case h=>
      intro vs W b hd;obtain⟨s,t,u,y,f4,z⟩:=bf b.box
      go_simp
      exact⟨rfl,dU _ _⟩
     case hb=>exact P0)
   |(apply eH
     case hE=>rfl
     case h=>
      intro vs W b hd;have Q:=HX.out W b.low;have hs:=b.low.size
      go_simp
      first
      |(go_at_call 104;refine(agS _ _ _ _ _ Q.arS).mono ?_;rintro e r⟨v,rfl,q,d⟩;exact⟨_,rfl,b.on d,d,⟨(λ_=>q.low hs),(λe=>absurd e (by decide)),(λe=>absurd e (by decide)),(λe=>absurd e (by decide))⟩⟩)
      |(go_at_call 105;refine(agT _ _ _ _ _ Q.arT).mono ?_;rintro e r⟨v,rfl,q,d⟩;exact⟨_,rfl,b.on d,d,⟨(λe=>absurd e (by decide)),(λ_=>q.low hs),(λe=>absurd e (by decide)),(λe=>absurd e (by decide))⟩⟩)
      |(go_at_call 106;refine(agU _ _ _ _ _ Q.aoJ).mono ?_;rintro e r⟨v,rfl,q,d⟩;exact⟨_,rfl,b.on d,d,⟨(λe=>absurd e (by decide)),(λe=>absurd e (by decide)),(λ_=>q.low hs),(λe=>absurd e (by decide))⟩⟩)
      |(go_at_call 107;refine(agV _ _ _ _ _ Q.arU).mono ?_;rintro e r⟨v,rfl,q,d⟩;exact⟨_,rfl,b.on d,d,⟨(λe=>absurd e (by decide)),(λe=>absurd e (by decide)),(λe=>absurd e (by decide)),(λ_=>q.low hs)⟩⟩)
     case hb=>exact P0))
  refine cP λvs W b hd=>?_;have h2:=((hd 2 (by omega) rfl).1 rfl)
  have h3:=((hd 5 (by omega) rfl).2.1 rfl)
  have M:=((hd 8 (by omega) rfl).2.2.1 rfl)
  have h5:=((hd 11 (by omega) rfl).2.2.2 rfl)
  have A:=eI b;have N:=dT b.box;clear hd b;obtain⟨R,S,K2,e2,_,l2,q2⟩:=h2.pick N;obtain⟨T,U,g,e3,_,l3,q3⟩:=h3.pick N;obtain⟨B4,V,X,e4,_,l4,q4⟩:=M.pick N;obtain⟨B5,Z,K5,e5,_,l5,q5⟩:=h5.pick N;obtain⟨rfl,g4,q4⟩:=q4 h4;rw[e2,e3,e4,e5];obtain⟨Y,hY⟩:∃Y:acz,Y=⟨R,K2,S,T,g,U,X,V,B5,K5,Z⟩:=⟨_,rfl⟩
  have KK:Hid (KI C Y w 0 C.x4 ((((W.setCell ⟨w.heap.size,2,none⟩ (eQ R C.n2 S)).setCell ⟨w.heap.size,3,none⟩ (eQ T C.n3 U)).setCell ⟨w.heap.size,4,none⟩ (eQ (some ⟨X,0,none⟩) C.n4 V)).setCell ⟨w.heap.size,5,none⟩ (eQ B5 C.n5 Z))):=eI (by
   subst hY;have m:=HX.out W A.out.low;have T0:Typ W w.heap.size 27:=⟨_,A.out.box⟩
   have O0:j9 w.heap.size 0 (C.KD ⟨R,K2,S,T,g,U,X,V,B5,K5,Z⟩ C.x4) W:=by
    obtain⟨c4,E,O⟩:=q4;refine⟨⟨m.m2,m.m3,m.m4,m.m5,l2,l3,l4,l5,λn=>(q2 n).1,λn=>(q3 n).1,λ_=>rfl,λn=>(q5 n).1,V5 (λ_=>rfl) q2,V5 (λ_=>rfl) q3,(fc.of (λ_=>EC _) E O).1,V5 (λ_=>rfl) q5,m.cu,m.nm5,m.l4,m.rl⟩,λn=>(q2 n).2.2.imp λ_ k=>k.1,λn=>(q3 n).2.2.imp λ_ k=>k.1,⟨g4,rfl,c4,E,(fc.of (λ_=>EC _) E O).2⟩,λn=>?_,λj L hl=>⟨λh=>absurd h (ct _),λ_=>HL.out j L hl⟩⟩;obtain⟨_,a,c,e,k⟩:=q5 n;exact⟨a,rfl,c,e,(fc.of (m:=3) (λ_=>rfl) e k).2⟩
   have ne:w.heap.size≠w.heap.size+1:=by omega
   refine⟨Fe (Fe (Fe (Fe A.out.box))),?_,(((A.out.low.setCell (p:=⟨w.heap.size,2,none⟩) (cc _) _).setCell (p:=⟨w.heap.size,3,none⟩) (cc _) _).setCell (p:=⟨w.heap.size,4,none⟩) (cc _) _).setCell (p:=⟨w.heap.size,5,none⟩) (cc _) _,(((O0.other T0 2 _ (cc _)).other T0.set 3 _ (cc _)).other T0.set.set 4 _ (cc _)).other T0.set.set.set 5 _ (cc _),λj=>abw.refl _,λ_ _=>rfl,λj L=>absurd L (ct _)⟩
   rw[aZ ne,aZ ne,aZ ne,aZ ne];exact A.out.res)
  obtain⟨s,t,u,y,f4,z⟩:=bf A.out.box;have fz:=tO A.out.box;clear h2 h3 M h5 q2 q3 q4 q5 e2 e3 e4 e5 l2 l3 l4 l5 g4;simp only[bs,bt]
  go_upto_region 2 with fail
  refine NoPanic.normal ?_;obtain⟨W1,mG⟩:∃W1:World,W1=((((W.setCell ⟨w.heap.size,2,none⟩ (eQ R C.n2 S)).setCell ⟨w.heap.size,3,none⟩ (eQ T C.n3 U)).setCell ⟨w.heap.size,4,none⟩ (eQ (some ⟨X,0,none⟩) C.n4 V)).setCell ⟨w.heap.size,5,none⟩ (eQ B5 C.n5 Z)):=⟨_,rfl⟩
  rw[<-mG]at KK ⊢;have P:Hid (W1.heap[w.heap.size]?=some (eM #[eN e7 C.l,eN e7 C.p,eQ Y.B2 C.n2 Y.p2,eQ Y.B3 C.n3 Y.p3,eQ (some ⟨Y.K4,0,none⟩) C.n4 Y.p4,eQ Y.B5 C.n5 Y.p5] 27)):=eI KK.out.box;clear mG s t u y f4 z fz N A hY;obtain⟨s,t,u,y,f4,z⟩:=bf P.out
  go_upto_region 3 with fail
  go_loopw [23] (λF wr=>∃(i:Nat)(f:Nat->iJ),i<=C.n4/\F=eN e7 i/\KI C Y w i f wr) (λF _=>C.n4-(intOf F).toNat)
  case atStart=>exact⟨0,C.x4,cf _,rfl,KK.out⟩
  case round=>
   obtain⟨i,f,hi,rfl,hK⟩:=hrel;have g:=eI hK;clear hK s t u y f4 z P KK;have H:Hid (∀W,KI C Y w i f W->W.heap[w.heap.size]?=some (eM #[eN e7 C.l,eN e7 C.p,eQ Y.B2 C.n2 Y.p2,eQ Y.B3 C.n3 Y.p3,eQ (some ⟨Y.K4,0,none⟩) C.n4 Y.p4,eQ Y.B5 C.n5 Y.p5] 27)):=eI λW h=>h.box;by_cases aH:i<C.n4
   ·have i1:(i:Int)<C.n4:=by omega
    obtain⟨x,hx⟩:∃x,x=f i:=⟨_,rfl⟩
    have FL:Hid (∀W,KI C Y w i f W->W.cell? ⟨Y.K4,i*12+11,none⟩=some (eQ x.lb x.ln x.lc)):=eI λW h=>by
     have:=h.own.mem.r4 i aH 11 (by decide);have e:(⟨(C.KD Y f).k4,(C.KD Y f).o4+i*12+11,none⟩:Addr)=⟨Y.K4,i*12+11,none⟩:=by show(⟨Y.K4,0+i*12+11,none⟩:Addr)=_;rw[cm]
     rw[e]at this;rw[this,hx];rfl
    have SL:Hid (∀W,KI C Y w i f W->yd W x.lb x.ln 1 (rowOf (abu x) x.ln)):=eI λW h=>by rw[hx];exact h.own.mem.arV aH
    have I:=eI hx;clear hx
    go_upto_region 5 with fail
    refine b9 ?_;refine cT 10 (λW=>KI C Y w i f W/\wr.heap.size<=W.heap.size) (λW r=>Below W.heap.size W r) (λj=>j != 9) (λj vs W=>j=9->P2 wr W 3 1 x.ln (rowOf (abu x) x.ln) x.lb (vs 9)) rfl (by kernel_rfl) (by kernel_rfl) (λ_ _ _ _ D h e=>(h e).on D) (λj _ _ vs eX W he _ h e=>by subst e;rw[<-he];exact h rfl) ?_ ?_
    ·exact⟨g.out.on (dU _ _).drew,cc _⟩
    simp only[bq,br]
    iterate 10 (
     first
     |(apply aY
       case hE=>rfl
       case h=>
        rintro vs W⟨b,Cu⟩hd;obtain⟨s,t,u,y,f4,z⟩:=bf (H.out W b);have fl:=FL.out W b
        go_simp
        first
        |exact⟨rfl,b,dU _ _⟩
        |exact⟨rfl,dU _ _⟩
        |exact rfl
       case hb=>exact P0)
     |(apply eH
       case hE=>rfl
       case h=>
        rintro vs W⟨b,Cu⟩hd;have hS:=SL.out W b
        go_simp
        (go_at_call 33;refine(agR _ _ _ _ _ hS).mono ?_;rintro e r⟨v,rfl,q,d⟩;exact⟨_,rfl,⟨b.on d,cq Cu d.size⟩,d,q.low Cu⟩)
       case hb=>exact P0))
    refine cP λvs W b hd=>?_;obtain⟨b,Cu⟩:=b;have h9:=hd 9 (by omega) rfl rfl;have K4':=eI b;obtain⟨s,t,u,y,f4,z⟩:=bf (H.out W b);have fl:=FL.out W b;have fz:∀o,W.frozen? ⟨Y.K4,o,none⟩=false:=b.own.t4.2.2.elim λ_ k=>tO k.1;obtain⟨B,c,K,e9,h0,_,hq⟩:=h9.pick (dT b.box);rw[e9];have HQ:=eI (And.intro h0 hq);clear h9 hd b e9 h0 hq;simp only[bs,bt]
    go_upto_region 6 with fail
    refine NoPanic.normal ?_;have KN:=eI (K4'.out.lane (B:=B) (c:=c) (K:=K) aH (by rw[<-I.out];exact HQ.out.1) (by rw[<-I.out];exact HQ.out.2));rw[<-I.out]at KN;clear s t u y f4 z fl fz
    go_wp2
    exact⟨⟨i+1,_,aH,by go_num,KN.out⟩,by simp only[intOf];omega⟩
   ·obtain rfl:i=C.n4:=by omega
    obtain⟨s,t,u,y,f4,z⟩:=bf (H.out _ g.out);have J:=g.out.res;obtain⟨y0,y1,y2,y3,y4,y5⟩:=bf J;have fz:=tO J;have hzr:=dT J;clear J
    go_wp2
    have J:=g.out.res;have hWF:=nC (u0:=eN e7 C.l) (u1:=eN e7 C.p) (u2:=eQ Y.B2 C.n2 Y.p2) (u3:=eQ Y.B3 C.n3 Y.p3) (u4:=eQ (some ⟨Y.K4,0,none⟩) C.n4 Y.p4) (u5:=eQ Y.B5 C.n5 Y.p5) J;refine bM (v:=eV (C.KD Y f).val) ?_ rfl ⟨Y,f,rfl,⟨g.out.KD,g.out.zero⟩,g.out.own.afD ⟨_,J⟩ (c9 _) _ _ _ _ _ _,Below.zQ g.out.low (by omega) _ _ _ _ _ _⟩;obtain⟨a0,a1,a2,a3,a4,a5⟩:=bf hWF;simp[bR,Tryz.results75,go_sem,a0,a1,a2,a3,a4,a5]
abbrev CD.X0(C:CD)(ds:List Int):CD:={ C with x5:=λi=>((C.x5 i).1,(C.x5 i).2.1,ds.getD i (C.x5 i).2.2) }
def j9.zu{n0 a:Nat}{D:CD}{W:World}(h:j9 n0 D.n4 D W)(b:a<=n0):j9 a D.n4 D W:=
 ⟨h.mem,h.t2,h.t3,⟨cq b h.t4.1,h.t4.2⟩,λk=>⟨cq b (h.t5 k).1,(h.t5 k).2⟩,λj c hl=>⟨(h.tl j c hl).1,λhi=>by omega⟩⟩
structure KJ(C:CD)(Y:acz)(f:Nat->iJ)(w:World)(B:Nat)(ds:List Int)(i:Nat)(W:World):Prop where
 own:j9 w.heap.size C.n4 ((C.X0 (ds.take i)).KD Y f) W
 box:W.heap[B]?=some (eM (C.KD Y f).val 27)
 res:W.heap[w.heap.size+1]?=some (eM RX 27)
 low:Below w.heap.size w W
def akv(C:CD)(ds:List Int){i:Nat}(hi:i<ds.length):(λj=>if j=i then(((C.X0 (ds.take i)).x5 j).1,((C.X0 (ds.take i)).x5 j).2.1,ds.getD i 0) else(C.X0 (ds.take i)).x5 j)=(C.X0 (ds.take (i+1))).x5:=by
 funext j;by_cases e:j=i
 ·subst e;rw[if_pos rfl];simp[aw,bi,hi]
 ·rw[if_neg e];simp only[aw,bi];by_cases h:j<i
  ·rw[if_pos h,if_pos (by omega)]
  ·rw[if_neg h,if_neg (by omega)]
def KJ.next{C:CD}{Y:acz}{f:Nat->iJ}{w:World}{B:Nat}{ds:List Int}{i:Nat}{W:World}(h:KJ C Y f w B ds i W)(hi:i<ds.length)(a:i<C.n5):KJ C Y f w B ds (i+1) (W.setCell ⟨Y.K5,i*3+2,none⟩ (eN e7 (ds.getD i 0))):=by
 have b:0<C.n5:=by omega
 obtain⟨c,_,d,hc,_⟩:=h.own.t5 b;have o:=h.own.arW a (ds.getD i 0);have e:=akv C ds hi;refine⟨?_,(aZ (iu hc h.box (by decide))).trans h.box,(aZ (iu hc h.res (by decide))).trans h.res,h.low.setCell (p:=⟨Y.K5,_,none⟩) c _⟩;rw[show((C.X0 (ds.take (i+1))).KD Y f)={ (C.X0 (ds.take i)).KD Y f with x5:=(C.X0 (ds.take (i+1))).x5 } from rfl,<-e];exact o
def abg(C:CD)(ds:List Int)(v:Value)(w:World)(h:C.At w)(X:0<C.n4)(hv:bB w v ds)(hd:ds.length<=C.n5):Calls PL 50 #[eV C.val,v] w λe w'=>∃Y f,e=ft (eV (C.KD Y f).val)/\agW C f/\j9 w.heap.size C.n4 ((C.X0 ds).KD Y f) w'/\Below w.heap.size w w':=by
 obtain⟨b,c,rfl,N⟩:=hv;obtain⟨q,s,t⟩:∃q s,0<ds.length->b=some ⟨q,s,none⟩/\q<w.heap.size/\∀j,j<ds.length->w.cell? ⟨q,s+j,none⟩=some (eN e7 (ds.getD j 0)):=by
  by_cases r:0<ds.length
  ·obtain⟨k,o,e,Z,hc⟩:=N r;exact⟨k,o,λ_=>⟨e,Z,λj hj=>hc j (by omega)⟩⟩
  ·exact⟨0,0,λh=>absurd h r⟩
 have O:=eI t;have m5:=h.m5;have OW:Hid (∀W,Below w.heap.size w W->Calls PL 75 #[eV C.val] W λe w'=>∃Y f,e=ft (eV (C.KD Y f).val)/\agW C f/\j9 W.heap.size C.n4 (C.KD Y f) w'/\Below W.heap.size W w'):=eI λW hB=>akq C W (h.below hB) X;have d:=eI (KO.start C.val w);obtain⟨n,r⟩:∃n,n=ds.length:=⟨_,rfl⟩
 rw[<-r]at O ⊢;have hd':n<=C.n5:=by omega
 have P:=eI r;clear h N t r hd
 go_enter (fx (by decide) Tryz.func50),Tryz.ntmps50
 go_upto_region 1 with fail
 obtain⟨f0,f1,f2,f3,f4,f5⟩:=bf d.out.box;have Q:=dT d.out.res
 go_upto_region 2 with(go_at_call 75;refine(OW.out _ d.out.low).mono ?_;rintro e w1⟨Y,f,rfl,u,R,A⟩;have HP:=eI u;have HO:=eI R;have z:=eI A;clear u R)
 have B:Hid (KJ C Y f w w1.heap.size ds 0 (w1.alloc (eM (C.KD Y f).val 27))):=eI (by
  have E:Below w1.heap.size w1 (w1.alloc (eM (C.KD Y f).val 27)):=(dU _ _).alloc (cc _) _;refine⟨?_,au _ _,((z.out.trans (E.mono z.out.size)).block _ Q).trans d.out.res,d.out.low.trans ((z.out.trans (E.mono z.out.size)).mono d.out.low.size)⟩;rw[br]
  exact j9.zu (D:=C.KD Y f) (HO.out.on E) d.out.low.size)
 obtain⟨F,H⟩:∃F:World,F=w1.alloc (eM (C.KD Y f).val 27):=⟨_,rfl⟩
 have Z1:w.heap.size+1<w1.heap.size:=cg Q A.size;rw[<-H]at B;rw[show w1.alloc (eM #[eN e7 C.l,eN e7 C.p,eQ Y.B2 C.n2 Y.p2,eQ Y.B3 C.n3 Y.p3,eQ (some ⟨Y.K4,0,none⟩) C.n4 Y.p4,eQ Y.B5 C.n5 Y.p5] 27)=F from H.symm];clear H f0 f1 f2 f3 f4 f5 A;have BX:Hid (∀i W,KJ C Y f w w1.heap.size ds i W->W.heap[w1.heap.size]?=some (eM #[eN e7 C.l,eN e7 C.p,eQ Y.B2 C.n2 Y.p2,eQ Y.B3 C.n3 Y.p3,eQ (some ⟨Y.K4,0,none⟩) C.n4 Y.p4,eQ Y.B5 C.n5 Y.p5] 27)):=eI λi W h=>h.box
 go_upto_region 3 with fail
 go_loopw [12] (λg wr=>∃i:Nat,i<=n/\g=eN e7 i/\KJ C Y f w w1.heap.size ds i wr) (λg _=>n-(intOf g).toNat)
 case atStart=>exact⟨0,cf _,rfl,B.out⟩
 case round=>
  obtain⟨i,hi,rfl,S⟩:=hrel;have a:=eI S;clear S B;obtain⟨g0,g1,g2,g3,g4,g5⟩:=bf (BX.out _ _ a.out);by_cases I:i<n
  ·have i1:(i:Int)<n:=by omega
   have i5:(i:Int)<C.n5:=by omega
   obtain⟨rfl,VQ,T⟩:=O.out (by omega);obtain⟨x,J⟩:∃x,x=ds.getD i 0:=⟨_,rfl⟩
   have ed:wr.cell? ⟨q,s+i,none⟩=some (eN e7 x):=by rw[J];exact(a.out.low.cell (p:=⟨q,s+i,none⟩) VQ).trans (T i I)
   have y:=eI J;have U:Y.B5=some ⟨Y.K5,0,none⟩:=a.out.own.mem.s5 (by show 0<C.n5;omega);rw[U]at g5;obtain⟨_,_,K,hc,_⟩:=a.out.own.t5 (by show 0<C.n5;omega);have hc:wr.heap[Y.K5]?=some (eM K 94):=hc;have fz:=tO hc;obtain⟨V,hdd⟩:∃V,wr.cell? ⟨Y.K5,i*3+2,none⟩=some (eN e7 V):=by
    have:=a.out.own.mem.r5 i (by show i<C.n5;omega) 2 (by decide);have e:(⟨((C.X0 (ds.take i)).KD Y f).k5,((C.X0 (ds.take i)).KD Y f).o5+i*3+2,none⟩:Addr)=⟨Y.K5,i*3+2,none⟩:=by show(⟨Y.K5,0+i*3+2,none⟩:Addr)=_;rw[cm]
    rw[e]at this;exact⟨_,this⟩
   have KN:=eI (a.out.next (by rw[<-P.out];exact I) (by omega));rw[<-y.out]at KN;clear J T hc U y
   go_wp2
   exact⟨⟨i+1,I,by go_num,KN.out⟩,by simp only[intOf];omega⟩
  ·obtain rfl:i=n:=by omega
   have m:=a.out.res;obtain⟨y0,y1,y2,y3,y4,y5⟩:=bf m;have fz:=tO m;have hzr:=dT m;clear m
   go_wp2
   have m:=a.out.res;have L:=nC (u0:=eN e7 C.l) (u1:=eN e7 C.p) (u2:=eQ Y.B2 C.n2 Y.p2) (u3:=eQ Y.B3 C.n3 Y.p3) (u4:=eQ (some ⟨Y.K4,0,none⟩) C.n4 Y.p4) (u5:=eQ Y.B5 C.n5 Y.p5) m;have M:=a.out.own;rw[P.out,List.take_length]at M;refine bM (v:=eV (C.KD Y f).val) ?_ rfl ⟨Y,f,rfl,HP.out,M.afD ⟨_,m⟩ (c9 _) _ _ _ _ _ _,Below.zQ a.out.low (by omega) _ _ _ _ _ _⟩;clear M;obtain⟨a0,a1,a2,a3,a4,a5⟩:=bf L;simp[bR,Tryz.results50,go_sem,a0,a1,a2,a3,a4,a5]
def uK{n:Int}(h:bO n 0 12=true)(w:World):Calls PL 49 #[eN e7 n] w λe w'=>e=ft (eT true)/\w=w':=by
 have:=o8 n w;rw[h]at this;exact this.mono λ_ _ k=>⟨k.1,k.2.symm⟩
def acB(C:CD)(ds:List Int)(v:Value)(w:World)(h:C.At w)(R:0<C.n4)(hc:C.cx=0)(hv:bB w v ds)(hd:ds.length=C.n5)(hb:∀i,i<ds.length->bO (ds.getD i 0) 0 12=true):Calls PL 19 #[eV C.val,v] w λe w'=>∃Y f,e=ft (eW #[eV (C.KD Y f).val,eN e7 0])/\agW C f/\j9 w.heap.size C.n4 ((C.X0 ds).KD Y f) w'/\Below w.heap.size w w':=by
 have t:Hid (∀W,Below w.heap.size w W->bB W v ds):=eI λW g=>hv.on g;obtain⟨b,c,rfl,B⟩:=hv;obtain⟨m,n,a⟩:∃m n,0<ds.length->b=some ⟨m,n,none⟩/\m<w.heap.size/\∀j,j<ds.length->w.cell? ⟨m,n+j,none⟩=some (eN e7 (ds.getD j 0)):=by
  by_cases E:0<ds.length
  ·obtain⟨k,o,e,S,hc⟩:=B E;exact⟨k,o,λ_=>⟨e,S,λj hj=>hc j (by omega)⟩⟩
  ·exact⟨0,0,λh=>absurd h E⟩
 rw[hd]at hb a t ⊢;have T:=eI a;have U:=eI hb;have m5:=h.m5;have V:Hid (∀W,Below w.heap.size w W->Calls PL 48 #[eV C.val] W (aO (eN e7 0) W)):=eI λW g=>sY hc (h.below g);have X:Hid (∀W,Below w.heap.size w W->Calls PL 50 #[eV C.val,eQ b C.n5 c] W λe w'=>∃Y f,e=ft (eV (C.KD Y f).val)/\agW C f/\j9 W.heap.size C.n4 ((C.X0 ds).KD Y f) w'/\Below W.heap.size W w'):=eI λW g=>abg C ds _ W (h.below g) R (t.out W g) (Nat.le_of_eq hd);have u:=eI (KO.start C.val w);clear h hc B a hb hd t
 go_enter (fx (by decide) Tryz.func19),Tryz.ntmps19
 go_upto_region 1 with fail
 obtain⟨F,H,I,J,f4,K⟩:=bf u.out.box
 go_upto_region 7 with(go_at_call 48;refine(V.out _ u.out.low).mono ?_;rintro e w1⟨rfl,L⟩;have q:=eI (u.out.on L);clear L F H I J f4 K;obtain⟨F,H,I,J,f4,K⟩:=bf q.out.box)
 go_loop [24] (λd=>∃i:Nat,i<=C.n5/\d=eN e7 i) (λd=>C.n5-(intOf d).toNat)
 case atStart=>exact⟨0,cf _,rfl⟩
 case round=>
  obtain⟨i,hi,rfl⟩:=hrel;by_cases y:i<C.n5
  ·have Z:(i:Int)<C.n5:=by omega
   obtain⟨rfl,VQ,M⟩:=T.out (by omega);obtain⟨x,z⟩:∃x,x=ds.getD i 0:=⟨_,rfl⟩
   have ed:w1.cell? ⟨m,n+i,none⟩=some (eN e7 x):=by rw[z];exact(q.out.low.cell (p:=⟨m,n+i,none⟩) VQ).trans (M i y)
   have jM:Hid (bO x 0 12=true):=eI (by rw[z];exact U.out i y);clear z M
   go_wp2_with (go_at_call 49;refine(uK jM.out _).mono ?_;rintro e w'⟨rfl,rfl⟩)
   exact⟨⟨i+1,y,by go_num⟩,by simp only[intOf];omega⟩
  ·have Z:¬((i:Int)<C.n5):=by omega
   go_wp2_with (go_at_call 50;refine(X.out _ q.out.low).mono ?_;rintro e w2⟨Y,f,rfl,r,N,O⟩;have HP:=eI r;have HO:=eI N;have s:=eI (q.out.on O);clear r N O;obtain⟨y0,y1,y2,y3,y4,y5⟩:=bf s.out.res;have fz:=tO s.out.res)
   have P:=s.out.res;have A:=nC (u0:=eN e7 C.l) (u1:=eN e7 C.p) (u2:=eQ Y.B2 C.n2 Y.p2) (u3:=eQ Y.B3 C.n3 Y.p3) (u4:=eQ (some ⟨Y.K4,0,none⟩) C.n4 Y.p4) (u5:=eQ Y.B5 C.n5 Y.p5) P;have Q:=j9.zu (D:=(C.X0 ds).KD Y f) HO.out q.out.low.size;refine bM (v:=eW #[eV (C.KD Y f).val,eN e7 0]) ?_ rfl ⟨Y,f,rfl,HP.out,Q.afD ⟨_,P⟩ (c9 _) _ _ _ _ _ _,Below.zQ s.out.low (by omega) _ _ _ _ _ _⟩;clear Q;obtain⟨a0,a1,a2,a3,a4,a5⟩:=bf A;simp[bR,Tryz.results19,go_sem,a0,a1,a2,a3,a4,a5]
structure CJ(W:World)(k2 k3 k4 k5 la ca lb cb:Nat)(d:Int):Prop where
 r2:Row W k2 vT
 r3:Row W k3 vU
 r4:Row W k4 (rO la ca lb cb)
 r5:Row W k5 (qB d)
 ra:Row W la [bh 1]
 rb:Row W lb [bh 2]
def CJ.on{W b:World}{k2 k3 c e f ca lb g:Nat}{d:Int}(h:CJ W k2 k3 c e f ca lb g d)(a:Below W.heap.size W b):CJ b k2 k3 c e f ca lb g d:=
 ⟨h.r2.on a,h.r3.on a,h.r4.on a,h.r5.on a,h.ra.on a,h.rb.on a⟩
def CJ.at{W:World}{k2 f k3 c3 a g b i c ca lb e:Nat}{d:Int}(h:CJ W k2 k3 a b c ca lb e d):(ir k2 f k3 c3 a g b i c ca lb e d).At W:=Rx h.r2 h.r3 h.r4 h.r5 h.ra h.rb
def yQ{k2 a k3 c3 b c e f g ca lb h:Nat}{d:Int}(hd:d=0\/d=1):(ir k2 a k3 c3 b c e f g ca lb h d).cx=0:=by
 rcases hd with rfl|rfl<;>kernel_rfl
def fc.row{W:World}{k n m:Nat}{f:Nat->List Value}{l:List Value}(h:fc W k 0 n m f)(a:∀i,(f i).length=m)(b:k<W.heap.size)(e:rowOf f n=l):Row W k l:=
 ⟨b,λj v hv=>by have:=h.get a j v (by rw[e];exact hv);rwa[cm]at this⟩
structure Made(w W:World)(k2 k3 k4 k5 la ca lb cb:Nat)(d:Int):Prop where
 rows:CJ W k2 k3 k4 k5 la ca lb cb d
 low:Below w.heap.size w W
def aga{k2 e k3 c3 g i j k l ca lb o:Nat}{d y:Int}{Y:acz}{f:Nat->iJ}{w W:World}{n0:Nat}(hf:agW (ir k2 e k3 c3 g i j k l ca lb o d) f)(h:j9 n0 3 (((ir k2 e k3 c3 g i j k l ca lb o d).X0 [0,y]).KD Y f) W)(B:Below w.heap.size w W) :
 ∃p C q D r E s F t u v x,((ir k2 e k3 c3 g i j k l ca lb o d).KD Y f).val=(ir p C q D r E s F t u v x y).val/\Made w W p q r s t u v x y:=by
 have m:=h.mem;have H:Y.B2=some ⟨Y.K2,0,none⟩:=m.s2 (cl rfl);have I:Y.B3=some ⟨Y.K3,0,none⟩:=m.s3 (cl rfl);have J:Y.B5=some ⟨Y.K5,0,none⟩:=m.s5 (cl rfl);have a:=hf.1 0;have b:=hf.1 1;have c:=hf.1 2;have z:=m.l4 0 (cl rfl) (by show 0<(f 0).ln;rw[a.ln];exact cl rfl);have A:=m.l4 1 (cl rfl) (by show 0<(f 1).ln;rw[b.ln];exact cl rfl);have a0:(f 0).lb=some ⟨(f 0).lk,(f 0).lo,none⟩:=z.1;have a1:(f 1).lb=some ⟨(f 1).lk,(f 1).lo,none⟩:=A.1;have z0:=hf.2 0 (cl rfl);have z1:=hf.2 1 (cl rfl);obtain⟨K,d2⟩:=c.nil rfl rfl;have q0:fc W (f 0).lk (f 0).lo (f 0).ln 1 (abu (f 0)):=m.rl 0 (cl rfl);have q1:fc W (f 1).lk (f 1).lo (f 1).ln 1 (abu (f 1)):=m.rl 1 (cl rfl);rw[z0]at a0 q0;rw[z1]at a1 q1;refine⟨Y.K2,Y.p2,Y.K3,Y.p3,Y.K4,Y.p4,Y.K5,Y.p5,(f 0).lk,(f 0).lc,(f 1).lk,(f 1).lc,?_,⟨m.r2.row (λ_=>rfl) m.h2 rfl,m.r3.row (λ_=>rfl) m.h3 rfl,m.r4.row (λ_=>EC _) m.h4 ?_,m.r5.row (λ_=>rfl) m.h5 rfl,q0.row (λ_=>rfl) z.2 ?_,q1.row (λ_=>rfl) A.2 ?_⟩,B⟩
 ·show #[(_:Value),_,eQ Y.B2 _ _,eQ Y.B3 _ _,_,eQ Y.B5 _ _]=_;rw[H,I,J];rfl
 ·show CO (f 0)++(CO (f 1)++(CO (f 2)++[]))=_;unfold CO;rw[a.name,a.n,a.ln,a0,b.name,b.n,b.ln,a1,c.name,c.n,c.ln,K,d2];rfl
 ·rw[a.ln];show[eN e7 ((f 0).lane 0)]=_;rw[a.lane];rfl
 ·rw[b.ln];show[eN e7 ((f 1).lane 0)]=_;rw[b.lane];rfl
def yP{k2 i k3 c3 a j b k c ca lb g:Nat}{d y:Int}{v:Value}(w:World)(h:CJ w k2 k3 a b c ca lb g d)(hv:bB w v [0,y]):Calls PL 50 #[eV (ir k2 i k3 c3 a j b k c ca lb g d).val,v] w λe w'=>∃l t m u n x o z p q r s,e=ft (eV (ir l t m u n x o z p q r s y).val)/\Made w w' l m n o p q r s y:=
 (abg (ir k2 i k3 c3 a j b k c ca lb g d) [0,y] v w h.at (cl rfl) hv (cl rfl)).mono λe w'⟨Y,f,C,hf,A,B⟩=>by
  obtain⟨q2,D,q3,E,q4,F,q5,H,I,J,K,L,hval,M⟩:=aga hf A B
  grind
def Iw{k2 g k3 c3 a j b k c ca lb d:Nat}{v:Value}(w:World)(h:CJ w k2 k3 a b c ca lb d 0)(hv:bB w v [0,1]):Calls PL 19 #[eV (ir k2 g k3 c3 a j b k c ca lb d 0).val,v] w λe w'=>∃l u m x n y o z p q r s,e=ft (eW #[eV (ir l u m x n y o z p q r s 1).val,eN e7 0])/\CJ w' l m n o p q r s 1/\Below w.heap.size w w':=
 (acB (ir k2 g k3 c3 a j b k c ca lb d 0) [0,1] v w h.at (cl rfl) (yQ (fi rfl)) hv rfl λi hi=>by
   match i,hi with
   |0,_=>rfl
   |1,_=>rfl).mono λe w'⟨Y,f,A,hf,B,C⟩=>by
   obtain⟨q2,D,q3,E,q4,F,q5,H,I,J,K,L,hval,t⟩:=aga hf B C;exact⟨q2,D,q3,E,q4,F,q5,H,I,J,K,L,by rw[A,hval],t.rows,t.low⟩
open Go.Shelf
attribute [local go_sem] Oper.semAt_some
structure aaR(B:Nat)(w w':World):Prop where
 os:w'.os=w.os
 tape:w'.tape=w.tape
 output:w'.output=w.output
 size:w.heap.size<=w'.heap.size
 block:∀k,k<w.heap.size->k≠B->w'.heap[k]?=w.heap[k]?
def uL(B:Nat)(a hi x y:Int)(w:World)(h:w.heap[B]?=some (eM #[eN e7 a,eN e7 hi] 40))(b : -10000<=a/\a<=10000)(c : -10000<=hi/\hi<=10000)(d:0<=x/\x<=100)(f:0<=y/\y<=100) :
 Calls PL 66 #[eV #[eN e7 x,eN e7 y],e6 (some ⟨B,0,none⟩)] w λe w'=>e=ft (eV #[eN e7 (a+x),eN e7 (hi+y)])/\w'.heap[B]?=some (eM #[eN e7 (a+x),eN e7 (hi+y)] 40)/\aaR B w w':=by
 obtain⟨n,t1,u0,u1⟩:=uJ h;have o:=dT h;have H:=eI h;clear h;obtain⟨b,p⟩:=b;obtain⟨c,q⟩:=c;obtain⟨d,i⟩:=d;obtain⟨f,j⟩:=f
 go_enter (fx (by decide) Tryz.func66),Tryz.ntmps66
 go_wp2
 have g:=yL (u:=eN e7 (a+x)) (v:=eN e7 (hi+y)) H.out;refine bM (v:=eV #[eN e7 (a+x),eN e7 (hi+y)]) ?_ rfl ⟨rfl,?_,rfl,rfl,rfl,by simp;omega,λk l m=>?_⟩
 ·simp[bR,Tryz.results66,go_sem]
 ·have hl:=dT g;exact(((dU _ _).alloc (cc _) _).alloc (by simp) _ |>.block B hl).trans g
 ·have hl:k<((w.setCell ⟨B,0,none⟩ (eN e7 (a+x))).setCell ⟨B,1,none⟩ (eN e7 (hi+y))).heap.size:=by simpa using l
  exact(((dU _ _).alloc (cc _) _).alloc (by simp) _ |>.block k hl).trans (tv m)
def Ff(C:CD)(p:Nat):Nat:=if p+1=C.n4 then 0 else p+1
def nT(C:CD)(g:Nat):Nat->Nat×Int×Int
 |0=>((C.x5 g).2.1.toNat,(C.x5 g).2.2,(C.x5 g).2.2)
 |k+1=>(Ff C (nT C g k).1,(nT C g k).2.1+(C.x4 (nT C g k).1).n 7+(C.x4 (nT C g k).1).n 9,(nT C g k).2.2+(C.x4 (nT C g k).1).n 8+(C.x4 (nT C g k).1).n 10)
abbrev nR:=Nat×Int×Int×Int×Int
def Nu(C:CD)(g k:Nat):nR:=((nT C g k).1,(nT C g k).2.1,(nT C g k).2.2,(nT C g k).2.1+(C.x4 (nT C g k).1).n 7,(nT C g k).2.2+(C.x4 (nT C g k).1).n 8)
def mD(C:CD)(g n:Nat):List nR:=(aa n).map (Nu C g)
def uM(C:CD)(g n:Nat):mD C g (n+1)=mD C g n++[Nu C g n]:=by simp[mD,ag]
def R7(C:CD)(g n:Nat):(mD C g n).length=n:=by simp[mD]
def R8(C:CD)(g:Nat){k n:Nat}(h:k<n):mD C g k++[Nu C g k] <+: mD C g n:=by
 rw[<-uM];have e:aa n=aa (k+1)++(aa (n-(k+1))).map (k+1 + ·):=by
  rw[<-ab];congr 1;omega
 unfold mD;rw[e,aP];exact List.prefix_append _ _
structure yR(C:CD)(g:Nat):Prop where
 g5:g<C.n5
 p4:∀k,(nT C g k).1<C.n4
 m4:C.n4<=5
 lo:∀k,k<=C.n4->0<=(nT C g k).2.1/\(nT C g k).2.1<=12+120*k
 hi:∀k,k<=C.n4->0<=(nT C g k).2.2/\(nT C g k).2.2<=12+120*k
 nn:∀i,i<C.n4->(0<=(C.x4 i).n 7/\(C.x4 i).n 7<=60)/\(0<=(C.x4 i).n 8/\(C.x4 i).n 8<=60)/\(0<=(C.x4 i).n 9/\(C.x4 i).n 9<=60)/\(0<=(C.x4 i).n 10/\(C.x4 i).n 10<=60)
 start:(C.x5 g).2.1=((C.x5 g).2.1.toNat:Int)
def Sa(C:CD)(hc:C.cx=0){g:Nat}(hg:g<C.n5):yR C g:=by
 have d:kA C.p C.n2 C.n3 C.n4 C.x4=0:=ck hc 3 (by omega);have e:pE C.n4 C.n5 C.x5=0:=ck hc 4 (by omega);unfold kA at d
 split at d
 case isFalse=>cases d
 rename_i hb;simp only[bO,dx,decide_eq_true_eq]at hb;have j:∀i,i<C.n4->(0<=(C.x4 i).n 7/\(C.x4 i).n 7<=60)/\(0<=(C.x4 i).n 8/\(C.x4 i).n 8<=60)/\(0<=(C.x4 i).n 9/\(C.x4 i).n 9<=60)/\(0<=(C.x4 i).n 10/\(C.x4 i).n 10<=60):=by
  intro i hi;have a:=ck d i hi;unfold gM at a
  split at a
  case isFalse h=>exact absurd a h
  split at a
  case isFalse=>cases a
  split at a
  ·cases a
  split at a
  case isFalse=>cases a
  split at a
  case isFalse=>cases a
  rename_i m;simp only[eK,dx,decide_eq_true_eq]at m;omega
 obtain⟨hs,s,o⟩:(0<=(C.x5 g).2.1/\(C.x5 g).2.1<C.n4)/\0<=(C.x5 g).2.2/\(C.x5 g).2.2<=12:=by
  unfold pE at e
  split at e
  ·cases e
  have a:=ck e g hg;unfold iI at a
  split at a
  case isFalse h=>exact absurd a h
  split at a
  case isFalse=>cases a
  rename_i q
  split at a
  ·cases a
  split at a
  case isFalse=>cases a
  rename_i r;simp only[bO,dx,decide_eq_true_eq]at q r;omega
 have c:∀k,(nT C g k).1<C.n4:=by
  intro k
  induction k with
  |zero=>simp only[nT];omega
  |succ k l=>
   simp only[nT,Ff]
   split<;>omega
 have b:∀k,k<=C.n4->(0<=(nT C g k).2.1/\(nT C g k).2.1<=12+120*k)/\(0<=(nT C g k).2.2/\(nT C g k).2.2<=12+120*k):=by
  intro k
  induction k with
  |zero=>intro _;simp only[nT];omega
  |succ k l=>
   intro f;have:=l (by omega);have:=j _ (c k);simp only[nT]
   push_cast
   omega
 exact⟨hg,c,by omega,λk f=>(b k f).1,λk f=>(b k f).2,j,by omega⟩
def Fg(n0:Nat)(W a:World):Prop:=(∀k:Nat,k<n0->a.heap[k]?=W.heap[k]?)/\(∀(k:Nat)(c:Array Value)(t:bL),W.heap[k]?=some (eM c t)->t≠71->t≠56->a.heap[k]?=some (eM c t))/\W.heap.size<=a.heap.size
def Li{n:Nat}{X Y Z:World}(h:Fg n X Y)(k:Fg n Y Z):Fg n X Z:=
 ⟨λb hb=>(k.1 b hb).trans (h.1 b hb),λb c t e a d=>k.2.1 b c t (h.2.1 b c t e a d) a d,cq h.2.2 k.2.2⟩
def Lj{n s:Nat}(d:n<=s)(W:World)(l:Nat)(o o':Obj)(hl:s<=l)(b:W.heap[l]?=some o)(hc:o.isCells=false)(_:o.isWalk=false):Fg n W (W.putObj l o'):=by
 have a:∀k,l≠k->(W.putObj l o').heap[k]?=W.heap[k]?:=λk h=>by
  simp only[dS];exact dk h
 refine⟨λk f=>a k (by omega),λk c t e _ _=>(a k λh=>?_).trans e,by simp[dS]⟩;rw[<-h,b]at e;cases e;cases hc
def CD.At.keep{C:CD}{w w':World}(h:C.At w)(f:∀k,k<w.heap.size->w'.heap[k]?=w.heap[k]?)(s:w.heap.size<=w'.heap.size):C.At w':=by
 have cell:∀b o,b<w.heap.size->w'.cell? ⟨b,o,none⟩=w.cell? ⟨b,o,none⟩:=λb o hb=>by simp[dL,f b hb]
 have e:∀o,w'.cell? ⟨C.k2,o,none⟩=w.cell? ⟨C.k2,o,none⟩:=λo=>cell _ _ h.h2;have a:∀o,w'.cell? ⟨C.k3,o,none⟩=w.cell? ⟨C.k3,o,none⟩:=λo=>cell _ _ h.h3;have c:∀o,w'.cell? ⟨C.k4,o,none⟩=w.cell? ⟨C.k4,o,none⟩:=λo=>cell _ _ h.h4;have d:∀o,w'.cell? ⟨C.k5,o,none⟩=w.cell? ⟨C.k5,o,none⟩:=λo=>cell _ _ h.h5;obtain⟨m2,m3,m4,m5,h2,h3,h4,h5,s2,s3,s4,s5,Ep,Er,Es,Et,Eu,cu,AD,dB,nj,l4,J5,nm5,FI,HU,J6⟩:=h
 exact⟨m2,m3,m4,m5,by omega,by omega,by omega,by omega,s2,s3,s4,s5,λi hi=>(e _).trans (Ep i hi),λi hi=>(e _).trans (Er i hi),λi hi=>(a _).trans (Es i hi),λi hi=>(a _).trans (Et i hi),λi hi=>(a _).trans (Eu i hi),cu,
  λi hi=>(c _).trans (AD i hi),λi hi j g h2=>(c _).trans (dB i hi j g h2),λi hi=>(c _).trans (nj i hi),λi hi hl=>⟨(l4 i hi hl).1,cg (l4 i hi hl).2 s⟩,
  λi hi j l=>(cell _ _ (l4 i hi (by omega)).2).trans (J5 i hi j l),nm5,λi hi=>(d _).trans (FI i hi),λi hi=>(d _).trans (HU i hi),λi hi=>(d _).trans (J6 i hi)⟩
def VS(x:nR):Array Value:=#[eV #[eN e7 x.1,eN e7 x.2.1,eN e7 x.2.2.1,eN e7 x.2.2.2.1,eN e7 x.2.2.2.2]]
end Go.Proofs
namespace Go.Proofs
open Go.RowKit
set_option maxRecDepth 100000
set_option maxHeartbeats 4000000
def zW(b:Option Addr)(m c n:Nat)(f:Value)(w:World)(a:n<=1):Calls PL 126 #[eQ b m c,eN e7 0,eN e7 n,f] w λe w'=>(∃v,e=ft v)/\w=w':=by
 have d:(n:Int)<=1:=by omega
 go_enter (fx (by decide) Tryz.func126),Tryz.ntmps126
 go_wp2
 go_loop [8] (λv=>v=eN e7 1) (λ_=>0)
 case atStart=>rfl
 case round=>
  subst hrel
  go_wp2
  go_end0
  exact⟨⟨_,rfl⟩,rfl⟩
def agX(l:List Int)(n:Int)(l':List Int)(n':Int):Bool:=decide (n<n')||(decide (n=n')&&decide (afG l l'<0))
def abx(b b':Option Addr)(c c':Nat)(l l':List Int)(n n':Int)(w:World)(h:bB w (eQ b l.length c) l)(r:bB w (eQ b' l'.length c') l')(hl:l.length<=20)(s:l'.length<=20) :
 Calls PL 32 #[eV #[eQ b l.length c,eN e7 n],eV #[eQ b' l'.length c',eN e7 n']] w (aO (eT (agX l n l' n')) w):=by
 have g:Below w.heap.size w ((w.alloc (eM #[eQ b l.length c,eN e7 n] 88)).alloc (eM #[eQ b' l'.length c',eN e7 n'] 88)):=((dU _ _).alloc (cc _) _).alloc (by simp) _;have d:=eI g;have H:=eI (h.on g);have o:=eI (r.on g);clear g h r;obtain⟨k,i⟩:∃k,k=l.length:=⟨_,rfl⟩
 obtain⟨k',m⟩:∃k,k=l'.length:=⟨_,rfl⟩
 rw[<-i]at hl H d ⊢;rw[<-m]at s o d ⊢;rw[<-i]at o;rw[<-m]at H;have t:=eI i;have f:=eI m;clear i m;by_cases p:n<n'
 ·go_enter (fx (by decide) eE),eF
  go_wp2
  go_ret
  exact⟨by simp[agX,p],d.out⟩
 ·by_cases a:n=n'
  ·have u:(n==n')=true:=by simp[a]
   have q:=eI a;clear a
   go_enter (fx (by decide) eE),eF
   go_wp2_with (go_at_call 53;refine(EX _ _ k k' (λj=>l.getD j 0) (λj=>l'.getD j 0) _ (t.out▸H.out) (f.out▸o.out) hl s).mono ?_;rintro e w'⟨rfl,rfl⟩)
   go_ret
   exact⟨by simp[agX,p,q.out,afG,t.out,f.out],d.out⟩
  ·have u:(n==n')=false:=by simp[a]
   have q:=eI a;clear a
   go_enter (fx (by decide) eE),eF
   go_wp2
   go_ret
   exact⟨by simp[agX,p,q.out],d.out⟩
def llt:List Int->List Int->Bool
 |[],[]=>false
 |[],_::_=>true
 |_::_,[]=>false
 |x::xs,y::ys=>decide (x<y)||(decide (x=y)&&llt xs ys)
def ahw:List Int->List Int->Int
 |[],[]=>0
 |[],_::_=>-1
 |_::_,[]=>1
 |x::xs,y::ys=>if Ip x y≠0 then Ip x y else ahw xs ys
def agb(a b:List Int):∀k q,a.length=q+k->EW (λj=>a.getD j 0) (λj=>b.getD j 0) a.length b.length k q=ahw (a.drop q) (b.drop q)
 |0,q,h=>by
  rw[bv (show a.length<=q by omega),EW];by_cases e:a.length<b.length
  ·rw[if_pos e,bw (l:=b) (by omega)];rfl
  ·rw[if_neg e,bv (show b.length<=q by omega)];rfl
 |k+1,q,h=>by
  have c:q<a.length:=by omega
  rw[bw c,EW];by_cases e:b.length<=q
  ·rw[if_pos e,bv (show b.length<=q from e)];rfl
  ·have f:q<b.length:=by omega
   rw[if_neg e,bw f,ahw,agb a b k (q+1) (by omega)]
   grind
def acE:∀a b,decide (ahw a b<0)=llt a b
 |[],[]=>rfl
 |[],_::_=>rfl
 |_::_,[]=>rfl
 |x::xs,y::ys=>by
  rw[ahw,llt,<-acE xs ys];unfold Ip
  grind
def ahx(a b:List Int):decide (afG a b<0)=llt a b:=by
 have h:=agb a b a.length 0 (by omega);rw[bt,bt]at h;rw[<-acE,<-h];rfl
def ac0:∀a,llt a a=false
 |[]=>rfl
 |x::xs=>by simp[llt,ac0 xs]
def abM:∀{a b c},llt a b=true->llt b c=true->llt a c=true
 |[],[],_,h,_=>by cases h
 |[],_::_,[],_,h=>by cases h
 |[],_::_,_::_,_,_=>rfl
 |_::_,[],_,h,_=>by cases h
 |_::_,_::_,[],_,h=>by cases h
 |x::xs,y::ys,z::zs,e,f=>by
  simp only[llt,dy,dx,decide_eq_true_eq]at *
  rcases e with e|⟨rfl,e⟩<;>rcases f with f|⟨rfl,f⟩
  ·exact fi (by omega)
  ·exact fi e
  ·exact fi f
  ·exact fm ⟨rfl,abM e f⟩
def agc:∀a b,llt a b=true\/a=b\/llt b a=true
 |[],[]=>fm (fi rfl)
 |[],_::_=>fi rfl
 |_::_,[]=>fm (fm rfl)
 |x::xs,y::ys=>by
  simp only[llt,dy,dx,decide_eq_true_eq]
  rcases Int.lt_trichotomy x y with h|rfl|h
  ·exact fi (fi h)
  ·rcases agc xs ys with h|rfl|h
   ·grind
   ·exact fm (fi rfl)
   grind
  ·exact fm (fm (fi h))
def agr(u:List Int):∀{a b},llt a b=true->(∀x,b≠a++x)->llt (a++u) (b++u)=true
 |[],b,_,h=>absurd rfl (h b)
 |x::xs,[],h,_=>by cases h
 |x::xs,y::ys,h,c=>by
  simp only[llt,bp,dy,dx,decide_eq_true_eq]at *
  rcases h with h|⟨rfl,h⟩
  ·exact fi h
  ·exact fm ⟨rfl,agr u h λz e=>c z (by rw[e])⟩
abbrev F5:=List Int×Int
def wlt(x y:F5):Bool:=decide (x.2<y.2)||(decide (x.2=y.2)&&llt x.1 y.1)
def acH(l:List Int)(n:Int)(l':List Int)(n':Int):agX l n l' n'=wlt (l,n) (l',n'):=by
 unfold agX wlt;rw[ahx]
def N5(x y:F5):Prop:=wlt y x=false
def abN{x y z:F5}(c:wlt x y=true)(e:wlt y z=true):wlt x z=true:=by
 simp only[wlt,dy,dx,decide_eq_true_eq]at *
 rcases c with c|⟨e1,c⟩<;>rcases e with e|⟨f,e⟩
 ·exact fi (by omega)
 ·exact fi (by omega)
 ·exact fi (by omega)
 ·exact fm ⟨by omega,abM c e⟩
def ags(x:F5):wlt x x=false:=by simp[wlt,ac0]
def ac1(x y:F5):wlt x y=true\/x=y\/wlt y x=true:=by
 simp only[wlt,dy,dx,decide_eq_true_eq]
 rcases Int.lt_trichotomy x.2 y.2 with h|h|h
 ·exact fi (fi h)
 ·rcases agc x.1 y.1 with k|k|k
  ·exact fi (fm ⟨h,k⟩)
  ·grind
  grind
 ·exact fm (fm (fi h))
theorem nq(x:F5):N5 x x:=ags x
def NI{x y:F5}(h:wlt x y=true):N5 x y:=by
 unfold N5
 cases e:wlt y x with
 |false=>rfl
 |true=>have:=abN h e;rw[ags]at this;cases this
def nk{x y z:F5}(f:N5 x y)(c:N5 y z):N5 x z:=by
 unfold N5 at *
 cases e:wlt z x with
 |false=>rfl
 |true=>
  rcases ac1 x y with h|rfl|h
  ·rw[abN e h]at c;cases c
  ·rw[e]at c;cases c
  ·rw[h]at f;cases f
def ahy{x y:F5}(c:N5 x y)(e:N5 y x):x=y:=by
 unfold N5 at *
 rcases ac1 x y with h|h|h
 ·rw[h]at e;cases e
 ·exact h
 ·rw[h]at c;cases c
def aav{x y:F5}(h:N5 x y):x.2<=y.2:=by
 unfold N5 wlt at h;simp at h;exact h.1
theorem LN{x y:F5}(h:x.2<y.2):N5 x y:=NI (by simp[wlt,h])
inductive xu(E:Int->Int->Int->Prop)(s:Int):List Int->Int->Int->Prop
 |start:xu E s [s] s 0
 |step {l a n b d}:xu E s l a n->E a b d->xu E s (l++[b]) b (n+d)
def xu.last{E:Int->Int->Int->Prop}{s:Int}{l:List Int}{a n:Int}(h:xu E s l a n):∃c,l=c++[a]:=by
 cases h with
 |start=>exact⟨[],rfl⟩
 |step _ _=>exact⟨_,rfl⟩
def xu.amI{E:Int->Int->Int->Prop}(hE:∀a b d,E a b d->0<d){s:Int}{l:List Int}{a n:Int}(h:xu E s l a n):0<=n:=by
 induction h with
 |start=>exact Int.le_refl _
 |step _ e c=>have:=hE _ _ _ e;omega
def xu.fn{E:Int->Int->Int->Prop}(hF:∀a b d d',E a b d->E a b d'->d=d'){s:Int}{l:List Int}{a n:Int}(h:xu E s l a n):∀{a' n'},xu E s l a' n'->a=a'/\n=n':=by
 induction h with
 |start=>
  intro a' n' h;generalize e:[s]=k at h
  cases h with
  |start=>exact⟨rfl,rfl⟩
  |@step f a0 i b d c j=>
   obtain⟨g,rfl⟩:=c.last;have:=congrArg bo e;simp at this
 |@step f a0 i b d c j o=>
  intro a' n' h;generalize e:f++[b]=k at h
  cases h with
  |start=>
   obtain⟨g,rfl⟩:=c.last;have:=congrArg bo e;simp at this
  |@step g a1 p q d1 r m=>
   obtain⟨rfl,t⟩:=bx e rfl
   grind
def xu.pre{E:Int->Int->Int->Prop}(hE:∀a b d,E a b d->0<d){s:Int}{k:List Int}{a n:Int}(h:xu E s k a n):∀{l x},k=l++x->l≠[]->x≠[]->∃a' n',xu E s l a' n'/\n'<n:=by
 induction h with
 |start=>
  intro l x e hl c;have:=congrArg bo e;rw[aJ]at this;have g:=List.length_pos_iff.2 hl;have i:=List.length_pos_iff.2 c;simp at this;omega
 |@step j a0 m b d o f p=>
  intro l x e hl c;obtain⟨x0,y,rfl⟩:∃x0 y,x=x0++[y]:=⟨x.dropLast,x.getLast c,(List.dropLast_concat_getLast c).symm⟩
  rw[<-bc]at e;obtain⟨e1,_⟩:=bx e rfl;have hd:=hE _ _ _ f;by_cases q:x0=[]
  ·grind
  grind
def xu.mono{E:Int->Int->Int->Prop}(hE:∀a b d,E a b d->0<d)(hF:∀a b d d',E a b d->E a b d'->d=d'){s:Int}{l l':List Int}{a n n':Int}(h:xu E s l a n)(j:xu E s l' a n')(f:N5 (l,n) (l',n'))(b d:Int):N5 (l++[b],n+d) (l'++[b],n'+d):=by
 have g:=aav f;simp only at g
 rcases ac1 (l,n) (l',n') with c|c|c
 ·simp only[wlt,dy,dx,decide_eq_true_eq]at c
  rcases c with c|⟨rfl,c⟩
  ·exact LN (by simp only;omega)
  ·refine NI ?_;simp only[wlt,dy,dx,decide_eq_true_eq];refine fm ⟨trivial,agr _ c λx e=>?_⟩;have k:l≠[]:=by obtain⟨o,rfl⟩:=h.last;simp
   by_cases i:x=[]
   ·subst i;rw[ac]at e;rw[e,ac0]at c;cases c
   ·obtain⟨p,m,k1,k2⟩:=j.pre hE e k i;have:=(h.fn hF k1).2;omega
 ·cases c;exact nq _
 ·unfold N5 at f;rw[c]at f;cases f
abbrev SW:=List (Int×List Int×Int)
structure Dij(E:Int->Int->Int->Prop)(s:Int)(S:SW)(L:List Int):Prop where
 key:(S.map λx=>x.1).Nodup
 walk:∀x∈S,xu E s x.2.1 x.1 x.2.2
 start:s∈L\/S=[(s,[s],0)]
 EZ:∀x∈S,x.1∈L->∀l n,xu E s l x.1 n->N5 x.2 (l,n)
 sub:∀a∈L,∃x∈S,x.1=a
 Y1:∀x∈S,x.1∈L->∀b d,E x.1 b d->∃y∈S,y.1=b/\N5 y.2 (x.2.1++[b],x.2.2+d)
def Dij.first(E:Int->Int->Int->Prop)(s:Int):Dij E s [(s,[s],0)] []:=
 ⟨by simp,λx c=>by rw[List.mem_singleton.1 c];exact .start,fm rfl,λ_ _ h=>(by cases h),λ_ h=>(by cases h),λ_ _ h=>(by cases h)⟩
section
variable {E:Int->Int->Int->Prop}(hE:∀a b d,E a b d->0<d)(hF:∀a b d d',E a b d->E a b d'->d=d'){s:Int}{S:SW}{L:List Int}
include hE hF
def Dij.front(h:Dij E s S L){l:List Int}{a n:Int}(f:xu E s l a n)(g:a∉L):∃y∈S,y.1∉L/\N5 y.2 (l,n):=by
 induction f with
 |start=>
  rcases h.start with c|c
  ·exact absurd c g
  ·exact⟨_,by rw[c];exact List.mem_singleton.2 rfl,g,nq _⟩
 |@step l a n b d f k m=>
  by_cases e:a∈L
  ·obtain⟨x,i,rfl⟩:=h.sub a e;obtain⟨y,hy,rfl,j⟩:=h.Y1 x i e b d k;exact⟨y,hy,g,nk j ((h.walk x i).mono hE hF f (h.EZ x i e _ _ f) _ _)⟩
  ·obtain⟨y,c,o,p⟩:=m e;exact⟨y,c,o,nk p (LN (by grind))⟩
def Dij.top(h:Dij E s S L){x:Int×List Int×Int}(c:x.1∉L)(e:∀y∈S,y.1∉L->N5 x.2 y.2){l:List Int}{n:Int}(f:xu E s l x.1 n):N5 x.2 (l,n):=by
 obtain⟨y,g,i,j⟩:=h.front hE hF f c;exact nk (e y g i) j
def Dij.none(h:Dij E s S L)(c:∀y∈S,y.1∈L){a:Int}(f:∀y∈S,y.1≠a){l:List Int}{n:Int}:¬xu E s l a n:=λg=>by
 obtain⟨y,i,j,_⟩:=h.front hE hF g λe=>by
  obtain⟨x,k,rfl⟩:=h.sub a e;exact f x k rfl
 exact j (c y i)
end
def G0(S:SW)(x:Int×List Int×Int):SW:=if(S.find? λy=>y.1==x.1).isSome then S.map λy=>if y.1=x.1 then x else y else S++[x]
def acO{S:SW}{x y:Int×List Int×Int}(h:y∈G0 S x):y=x\/y∈S/\y.1≠x.1:=by
 unfold G0 at h
 grind
def acV{S:SW}{x y:Int×List Int×Int}(h:y∈S)(c:y.1≠x.1):y∈G0 S x:=by
 unfold G0
 grind
def ad1(S:SW)(x:Int×List Int×Int):x∈G0 S x:=by
 unfold G0
 grind
def ahz{S:SW}{x:Int×List Int×Int}(h:(S.map λy=>y.1).Nodup):((G0 S x).map λy=>y.1).Nodup:=by
 unfold G0
 grind
def aaJ{c:Type}{l:List c}(h:l.Nodup){i j:Nat}(hi:i<l.length)(f:j<l.length)(e:l[i]=l[j]):i=j:=by
 have g:=List.pairwise_iff_getElem.1 h
 grind
def afE{S:SW}(h:(S.map λy=>y.1).Nodup){x y:Int×List Int×Int}(c:x∈S)(hy:y∈S)(e:x.1=y.1):x=y:=by
 obtain⟨i,hi,rfl⟩:=bA c;obtain⟨j,f,rfl⟩:=bA hy;have:i=j:=aaJ h (i:=i) (j:=j) (by simpa using hi) (by simpa using f) (by simpa using e);subst this;rfl
structure Scan(E:Int->Int->Int->Prop)(s:Int)(S0:SW)(L:List Int)(xa:Int×List Int×Int)(D:Int->Int->Prop)(S:SW):Prop where
 key:(S.map λx=>x.1).Nodup
 walk:∀x∈S,xu E s x.2.1 x.1 x.2.2
 kept:∀x∈S0,x.1∈L->x∈S
 less:∀x∈S0,∃y∈S,y.1=x.1/\N5 y.2 x.2
 done:∀b d,D b d->∃y∈S,y.1=b/\N5 y.2 (xa.2.1++[b],xa.2.2+d)
def Scan.more{E:Int->Int->Int->Prop}{s:Int}{e:SW}{L:List Int}{c:Int×List Int×Int}{D:Int->Int->Prop}{S:SW}(h:Scan E s e L c D S){f:Int->Int->Prop}(g:∀b d,f b d->D b d\/∃y∈S,y.1=b/\N5 y.2 (c.2.1++[b],c.2.2+d)):Scan E s e L c f S:=
 ⟨h.key,h.walk,h.kept,h.less,λb d hd=>(g b d hd).elim (h.done b d) id⟩
def Scan.put{E:Int->Int->Int->Prop}{s:Int}{m:SW}{L:List Int}{c:Int×List Int×Int}{D:Int->Int->Prop}{S:SW}(h:Scan E s m L c D S){n:Int->Int->Prop}{b d:Int}(hE:E c.1 b d)(i:c∈S)(hb:b∉L)(j:∀y∈S,y.1=b->N5 (c.2.1++[b],c.2.2+d) y.2)
 (o:∀b' d',n b' d'->D b' d'\/b'=b/\d'=d):Scan E s m L c n (G0 S (b,c.2.1++[b],c.2.2+d)):=by
 have step:∀y∈S,∃z∈G0 S (b,c.2.1++[b],c.2.2+d),z.1=y.1/\N5 z.2 y.2:=λy hy=>by
  by_cases e:y.1=b
  ·exact⟨_,ad1 _ _,e.symm,j y hy e⟩
  ·exact⟨y,acV hy e,rfl,nq _⟩
 refine⟨ahz h.key,λx f=>?_,λx f hl=>acV (h.kept x f hl) λe=>hb (by grind),λx f=>?_,λb' d' hd=>?_⟩
 ·rcases acO f with rfl|⟨f,_⟩
  ·exact(h.walk c i).step hE
  ·exact h.walk x f
 ·obtain⟨y,g,k,l⟩:=h.less x f;obtain⟨z,k1,k2,k3⟩:=step y g;exact⟨z,k1,k2.trans k,nk k3 l⟩
 ·rcases o b' d' hd with g|⟨rfl,rfl⟩
  ·obtain⟨y,g,k,l⟩:=h.done b' d' g;obtain⟨z,k1,k2,k3⟩:=step y g;exact⟨z,k1,k2.trans k,nk k3 l⟩
  ·exact⟨_,ad1 _ _,rfl,nq _⟩
def Scan.start{E:Int->Int->Int->Prop}{s:Int}{S:SW}{L:List Int}(h:Dij E s S L)(e:List Int)(f:Int×List Int×Int):Scan E s S e f (λ_ _=>False) S:=
 ⟨h.key,h.walk,λx c _=>c,λx c=>⟨x,c,rfl,nq _⟩,λ_ _ h=>h.elim⟩
def Scan.stop{E:Int->Int->Int->Prop}(hE:∀a b d,E a b d->0<d)(hF:∀a b d d',E a b d->E a b d'->d=d'){s:Int}{j:SW}{L:List Int}{c:Int×List Int×Int}{D:Int->Int->Prop}{S:SW}(f:Dij E s j L)(g:c∈j)(t:c.1∉L)(u:∀y∈j,y.1∉L->N5 c.2 y.2)
 (h:Scan E s j (L++[c.1]) c D S) (v:∀b d,E c.1 b d->D b d):Dij E s S (L++[c.1]):=by
 have m:∀x∈S,x.1∈L++[c.1]->x∈j:=λx i hl=>by
  obtain⟨y,hy,e⟩:∃y∈j,y.1=x.1:=by
   rcases List.mem_append.1 hl with hl|hl
   ·exact f.sub _ hl
   grind
  have:=h.kept y hy (by rw[e];exact hl);rw[afE h.key i this e.symm];exact hy
 refine⟨h.key,h.walk,fi ?_,λx i hl l n p=>?_,λa k=>?_,λx i hl b d q=>?_⟩
 ·rcases f.start with r|r
  ·grind
  grind
 ·have o:=m x i hl;by_cases e:x.1∈L
  ·exact f.EZ x o e l n p
  ·rcases List.mem_append.1 hl with hl|hl
   ·exact absurd hl e
   ·have e1:=List.mem_singleton.1 hl;rw[afE f.key o g e1]at p ⊢;exact f.top hE hF t u p
 ·rcases List.mem_append.1 k with k|k
  ·obtain⟨x,i,rfl⟩:=f.sub a k;exact⟨x,h.kept x i (ai _ k),rfl⟩
  ·rw[List.mem_singleton.1 k];exact⟨c,h.kept c g (List.mem_append_right _ (List.mem_singleton.2 rfl)),rfl⟩
 ·have o:=m x i hl;by_cases e:x.1∈L
  ·obtain⟨y,r,w,A⟩:=f.Y1 x o e b d q;obtain⟨z,k1,k2,k3⟩:=h.less y r;exact⟨z,k1,k2.trans w,nk k3 A⟩
  ·rcases List.mem_append.1 hl with hl|hl
   ·exact absurd hl e
   ·have e1:=List.mem_singleton.1 hl;rw[afE f.key o g e1]at q ⊢;exact h.done b d (v b d q)
def s9(E:Int->Int->Int->Prop)(s a:Int)(r:Option F5):Prop:=match r with
 |none=>∀l n,¬xu E s l a n
 |some x=>xu E s x.1 a x.2/\∀l n,xu E s l a n->N5 x (l,n)
end Go.Proofs
