/- Part of the proof of FieldFlat and FieldMarshals. -/
import Derived.Orders
import Derived.Tactics
import Derived.Tactics2
import Derived.WalkKit
set_option linter.all false
open Go renaming Program->aa,yielded->ab,execOp->ac,execOp_congr->ad,wpList->ae
open List renaming mem_cons_of_mem->ag,mem_cons_self->ai,range->ao,all_eq_true->ap,mem_range->aq,any_eq_true->ar,mem_append_left->aw,range_add->aI,countP_congr->aJ,countP_cons->aL,length_nil->aP,length_cons->aT,range_succ->a6
open Array renaming getElem?_eq_none->a7,getElem?_eq_getElem->a8,getD_eq_getD_getElem?->a9,getElem?_setIfInBounds_ne->ba,all_eq_true'->bb,replicate->bc
open Go.Region renaming binds->bd,wanted->bg,ready->bi
open Nat renaming lt_or_ge->bl,le_refl->bm
open Bool renaming and_eq_true->bo,or_eq_true->bp,not_eq_true'->bq,rec->br,not_false->bs,true_and->bt
open Option renaming bind_some->bu,map_some->bv,getD_some->bw
open Go.Code renaming region->bx
namespace Go
section
variable {P:aa}{ops:Array Oper}
def Region.fZ(ops:Array Oper)(i:Nat):Option Tmp:=(ops[i]?).bind (·.dst)
def cS(ops:Array Oper)(vs:Nat->Value):List Nat->Act->Act
 |[],a=>a
 |i::l,a=>cS ops vs l (a.put (Region.fZ ops i) (vs i))
def EK(a:Act)(d:Option Tmp)(v:Value):(a.put d v).tmps.size=a.tmps.size:=by
 cases d<;>simp[Act.put]
def put_defers(a:Act)(d:Option Tmp)(v:Value):(a.put d v).defers=a.defers:=by
 cases d<;>rfl
def Cg(a:Act)(d:Option Tmp)(v:Value)(t:Nat):(a.put d v).tmps[t]?=if d=some t/\t<a.tmps.size then some v else a.tmps[t]?:=by
 cases d with
 |none=>simp[Act.put]
 |some d=>
  simp only[Act.put,Array.getElem?_setIfInBounds,Option.some.injEq];by_cases h:d=t
  ·subst h;by_cases hl:d<a.tmps.size<;>simp[hl]
  ·simp[h]
def uF(vs:Nat->Value):∀(l:List Nat)(a:Act),(cS ops vs l a).tmps.size=a.tmps.size
 |[],_=>rfl
 |i::l,a=>by rw[cS,uF vs l,EK]
def pG(vs:Nat->Value):∀(l:List Nat)(a:Act),(cS ops vs l a).defers=a.defers
 |[],_=>rfl
 |i::l,a=>by rw[cS,pG vs l,put_defers]
def gI(vs:Nat->Value)(t:Nat):∀(l:List Nat)(a:Act),(∀j∈l,Region.fZ ops j≠some t)->(cS ops vs l a).tmps[t]?=a.tmps[t]?
 |[],_,_=>rfl
 |i::l,a,h=>by rw[cS,gI vs t l _ λj b=>h j (ag _ b),Cg,if_neg λe=>h i (ai ..) e.1]
def gJ(vs:Nat->Value)(t j:Nat)(hd:∀k,Region.fZ ops k=some t->k=j)(c:Region.fZ ops j=some t):∀(l:List Nat)(a:Act),j∈l->(cS ops vs l a).tmps[t]?=if t<a.tmps.size then some (vs j) else none
 |i::l,a,h=>by
  rw[cS];by_cases hl:j∈l
  ·rw[gJ vs t j hd c l _ hl,EK]
  ·obtain rfl:i=j:=by rcases List.mem_cons.1 h with e|e;exact e.symm;exact absurd e hl
   rw[gI vs t l _ λk d e=>hl (hd k e▸d),Cg,c];by_cases b:t<a.tmps.size
   ·simp[b]
   ·simp[b,a7 (Nat.le_of_not_lt b)]
def Oper.dz(o:Oper):Array Edge:=o.after.filter (bd .any)
def cH{o:Oper}{e:Edge}:e∈o.dz↔e∈o.after/\bd .any e=true:=by simp[Oper.dz]
def qf(P:aa)(K:Value->World->Prop):Result Next->Prop
 |.ok (.value v) w=>K v w
 |.ok .skip w=>K undef w
 |.ok (.enter f args) w=>Calls P f args w λe w'=>∃v,e=.returned v/\K v w'
 |_=>False
@[go_sem] def Tm(K:Value->World->Prop)(v:Value)(w:World):qf P K (.ok (.value v) w)=K v w:=rfl
@[go_sem] def Vt(K:Value->World->Prop)(w:World):qf P K (.ok .skip w)=K undef w:=rfl
@[go_sem] def Tn(K:Value->World->Prop)(f:FuncId)(args:Array Value)(w:World):qf P K (.ok (.enter f args) w)=Calls P f args w λe w'=>∃v,e=.returned v/\K v w':=rfl
@[go_sem] def fC(P:aa)(ops:Array Oper)(K:Value->World->Prop)(o:Oper)(b:Act)(w:World):Prop:=
 if bg o (ab ops b.tmps) then qf P K ((ac b.eval o).run P w) else K undef w
def Region.Ig(ops:Array Oper):Bool:=
 (ao ops.size).all λi=>match ops[i]? with
  |none=>true
  |some o=>(match o.op with | .select ..=>false|_=>true)&&(o.dz.toList.all λe=>decide (e.on<i)&&bd .any e) &&
   (ao ops.size).all λj=>match Region.fZ ops j with
    |none=>true
    |some d=>(j==i||o.dst != some d)&&(!(o.looksAt ops).contains d||o.dz.toList.any λe=>e.on==j)
structure tf(ops:Array Oper):Prop where
 sel:∀(i:Nat)(o:Oper),ops[i]?=some o->∀cs b,o.op≠Op.select cs b
 edge:∀(i:Nat)(o:Oper),ops[i]?=some o->∀e∈o.dz,e.on<i/\bd .any e=true
 one:∀i j t,Region.fZ ops i=some t->Region.fZ ops j=some t->i=j
 look:∀(i:Nat)(o:Oper),ops[i]?=some o->∀j t,Region.fZ ops j=some t->t∈o.looksAt ops->∃e∈o.dz,e.on=j
def yz{i t:Nat}(h:Region.fZ ops i=some t):i<ops.size:=by
 rcases bl i ops.size with b|b
 ·exact b
 ·simp[Region.fZ,a7 b]at h
def Ro(h:Region.Ig ops=true):tf ops:=by
 have key:∀(i:Nat)(o:Oper),ops[i]?=some o->(match o.op with | .select ..=>false|_=>true)=true/\(∀e∈o.dz,e.on<i/\bd .any e=true)/\∀j,j<ops.size->∀d,Region.fZ ops j=some d->(j=i\/o.dst≠some d)/\(d∈o.looksAt ops->∃e∈o.dz,e.on=j):=by
  intro i o c;have hi:i<ops.size:=(Array.getElem?_eq_some_iff.1 c).1;simp only[Region.Ig,ap,aq]at h;have:=h i hi;rw[c]at this;simp only[bo,ap,aq,decide_eq_true_eq]at this;obtain⟨⟨k,l⟩,m⟩:=this;refine⟨k,λe g=>l e (Array.mem_toList_iff.2 g),λj f d hd=>?_⟩;have:=m j f;rw[hd]at this;simp only[bo,bp,beq_iff_eq,bne_iff_ne,bq,ar]at this;refine⟨this.1,λhc=>?_⟩
  rcases this.2 with h|⟨e,g,h⟩
  ·rw[List.contains_iff_mem.2 hc]at h;cases h
  ·exact⟨e,Array.mem_toList_iff.1 g,h⟩
 refine⟨λi o c cs b e=>?_,λi o c=>(key i o c).2.1,λi j t hi f=>?_,λi o c j t f hl=>((key i o c).2.2 j (yz f) t f).2 hl⟩
 ·have:=(key i o c).1;rw[e]at this;cases this
 ·have n:=yz hi;have c:ops[i]?=some ops[i]:=a8 n;have hd:ops[i].dst=some t:=by simpa[Region.fZ,c]using hi
  rcases((key i _ c).2.2 j (yz f) t f).1 with e|e
  ·exact e.symm
  ·exact absurd hd e
section
variable {C:World->Prop}{Le:World->World->Prop}{Φ:Nat->(Nat->Value)->World->Prop}{a:Act}{Q:Exit->Act->World->Prop}
def upd(vs:Nat->Value)(i:Nat)(v:Value):Nat->Value:=λj=>if j=i then v else vs j
def cO(ops:Array Oper)(listed:Array Bool):List Nat:=(ao ops.size).filter λi=>listed.getD i true
def AL{o:Oper}{i:Nat}(c:tf ops)(f:ops[i]?=some o){l:List Nat}(hl:∀e∈o.dz,e.on∈l)(vs:Nat->Value)(t:Nat)(m:t∈o.looksAt ops) :
 (cS ops vs l a).tmps[t]?=(cS ops vs (ao i) a).tmps[t]?:=by
 by_cases h:∃j,Region.fZ ops j=some t
 ·obtain⟨j,b⟩:=h;obtain⟨e,g,rfl⟩:=c.look i o f j t b m;rw[gJ vs t e.on (λk d=>c.one _ _ _ d b) b l a (hl e g),gJ vs t e.on (λk d=>c.one _ _ _ d b) b _ a (List.mem_range.2 (c.edge i o f e g).1)]
 ·rw[gI vs t l a λj _ e=>h ⟨j,e⟩,gI vs t _ a λj _ e=>h ⟨j,e⟩]
def Nj{o:Oper}{i:Nat}(b:tf ops)(c:ops[i]?=some o){l:List Nat}(hl:∀e∈o.dz,e.on∈l)(vs:Nat->Value) :
 ac (cS ops vs l a).eval o=ac (cS ops vs (ao i) a).eval o:=by
 refine ad o (b.sel i o c) λx d=>?_
 cases x with
 |tmp t=>
  have f:t∈o.looksAt ops:=aw _ (List.mem_filterMap.2 ⟨.tmp t,by simpa using d,rfl⟩);simp only[Act.eval,a9,AL b c hl vs t f]
 |_=>rfl
def EL{o:Oper}{i:Nat}(b:tf ops)(c:ops[i]?=some o){l:List Nat}(hl:∀e∈o.dz,e.on∈l)(vs:Nat->Value) :
 bg o (ab ops (cS ops vs l a).tmps)=bg o (ab ops (cS ops vs (ao i) a).tmps):=by
 unfold bg
 cases hg:o.guard with
 |none=>rfl
 |some d=>
  obtain⟨g,want⟩:=d;have hy:ab ops (cS ops vs l a).tmps g=ab ops (cS ops vs (ao i) a).tmps g:=by
   unfold ab
   cases f:(ops[g]?).bind (·.dst) with
   |none=>rfl
   |some t=>
    have:=AL (a:=a) b c hl vs t (by simp[Oper.looksAt,hg,f]);simp only[bu,this]
  simp only[hy]
def Rp(m:tf ops){i:Nat}{o:Oper}(r:ops[i]?=some o){listed:Array Bool}(hs:listed.size=ops.size)(w:listed.getD i true=false)(vs:Nat->Value)(v:Value) :
 (cS ops vs (cO ops listed) a).put o.dst v=cS ops (upd vs i v) (cO ops (listed.setIfInBounds i true)) a:=by
 have hi:i<ops.size:=(Array.getElem?_eq_some_iff.1 r).1;have d:Region.fZ ops i=o.dst:=by simp[Region.fZ,r]
 have n:∀j,j∈cO ops (listed.setIfInBounds i true)↔j=i\/j∈cO ops listed:=by
  intro j;simp only[cO,List.mem_filter,aq];by_cases e:i=j
  ·subst e;simp[hi,hs]
  ·have:(listed.setIfInBounds i true).getD j true=listed.getD j true:=by simp[ba e]
   rw[this];constructor
   ·exact .inr
   ·rintro(h|h)
    ·exact absurd h.symm e
    ·exact h
 have z:i∉cO ops listed:=λh=>by
  have:=(List.mem_filter.1 h).2;rw[w]at this;cases this
 obtain⟨x,p⟩:∃x,x=(cS ops vs (cO ops listed) a).put o.dst v:=⟨_,rfl⟩
 obtain⟨y,hy⟩:∃y,y=cS ops (upd vs i v) (cO ops (listed.setIfInBounds i true)) a:=⟨_,rfl⟩
 have s:x.defers=y.defers:=by rw[p,hy,put_defers,pG,pG]
 have u:x.tmps=y.tmps:=by
  apply Array.ext_getElem?;intro t;rw[p,hy,Cg,uF];by_cases l:o.dst=some t
  ·have f:Region.fZ ops i=some t:=d.trans l;rw[gJ _ t i (λk g=>m.one _ _ _ g f) f _ a ((n i).2 (.inl rfl)),upd,if_pos rfl];by_cases q:t<a.tmps.size
   ·simp[l,q]
   ·rw[if_neg λe=>q e.2,if_neg q,a7 (by rw[uF];omega)]
  ·rw[if_neg λe=>l e.1];by_cases h:∃j,Region.fZ ops j=some t/\j∈cO ops listed
   ·obtain⟨j,b,c⟩:=h;have A:j≠i:=λe=>z (e▸c);rw[gJ _ t j (λk g=>m.one _ _ _ g b) b _ a c,gJ _ t j (λk g=>m.one _ _ _ g b) b _ a ((n j).2 (.inr c)),upd,if_neg A]
   ·rw[gI _ t _ a λj b e=>h ⟨j,e,b⟩,gI _ t _ a λj b e=>?_]
    rcases(n j).1 b with rfl|b
    ·exact l (d.symm.trans e)
    ·exact h ⟨j,e,b⟩
 rw[<-p,<-hy];obtain⟨B,D⟩:=x;obtain⟨F,H⟩:=y;simp only at s u;rw[s,u]
section
variable (P:aa)(ops:Array Oper)(C:World->Prop)(Le:World->World->Prop)(E:Nat->Bool)(Φ:Nat->(Nat->Value)->World->Prop)(Q:Exit->Act->World->Prop)
def cL:Nat->List Oper->((Nat->Value)->Act)->Prop
 |i,[],b=>∀vs W,C W->(∀j,j<i->E j=false->Φ j vs W)->Q .normal (b vs) W
 |i,o::l,b=>@br (λ_=>Prop)
  ((∀vs W,C W->(∀e∈o.dz,E e.on=false->Φ e.on vs W)->fC P ops (λu c=>C c/\Le W c/\Φ i (upd vs i u) c) o (b vs) W)/\cL (i+1) l λvs=>(b vs).put o.dst (vs i))
  (∃v,(∀vs W,C W->(∀e∈o.dz,E e.on=false->Φ e.on vs W)->fC P ops (λu c=>u=v/\C c/\Le W c) o (b vs) W)/\cL (i+1) l λvs=>(b vs).put o.dst v) (E i)
end
def cP{E:Nat->Bool}{i:Nat}{b:(Nat->Value)->Act}(h:∀vs W,C W->(∀j,j<i->E j=false->Φ j vs W)->Q .normal (b vs) W):cL P ops C Le E Φ Q i [] b:=h
def EM{E:Nat->Bool}{i:Nat}{o:Oper}{l:List Oper}{b:(Nat->Value)->Act}(v:Value)(hE:E i=true)
 (h:∀vs W,C W->(∀e∈o.dz,E e.on=false->Φ e.on vs W)->fC P ops (λu c=>u=v/\C c/\Le W c) o (b vs) W) (d:cL P ops C Le E Φ Q (i+1) l λvs=>(b vs).put o.dst v):cL P ops C Le E Φ Q i (o::l) b:=by
 rw[cL,hE];exact⟨v,h,d⟩
def EN{E:Nat->Bool}{i:Nat}{o:Oper}{l:List Oper}{b:(Nat->Value)->Act}(hE:E i=false)
 (h:∀vs W,C W->(∀e∈o.dz,E e.on=false->Φ e.on vs W)->fC P ops (λu c=>C c/\Le W c/\Φ i (upd vs i u) c) o (b vs) W) (d:cL P ops C Le E Φ Q (i+1) l λvs=>(b vs).put o.dst (vs i)):cL P ops C Le E Φ Q i (o::l) b:=by
 rw[cL,hE];exact⟨h,d⟩
def aY{E:Nat->Bool}{i:Nat}{o:Oper}{l:List Oper}{b b':(Nat->Value)->Act}(v:Value)(hE:E i=true)
 (h:∀vs W,C W->(∀e∈o.dz,E e.on=false->Φ e.on vs W)->fC P ops (λu c=>u=v/\C c/\Le W c) o (b vs) W) (hb:∀vs,(b vs).put o.dst v=b' vs) (d:cL P ops C Le E Φ Q (i+1) l b'):cL P ops C Le E Φ Q i (o::l) b:=
 EM v hE h ((funext hb:(λvs=>(b vs).put o.dst v)=b')▸d)
def eH{E:Nat->Bool}{i:Nat}{o:Oper}{l:List Oper}{b b':(Nat->Value)->Act}(hE:E i=false)
 (h:∀vs W,C W->(∀e∈o.dz,E e.on=false->Φ e.on vs W)->fC P ops (λu c=>C c/\Le W c/\Φ i (upd vs i u) c) o (b vs) W) (hb:∀vs,(b vs).put o.dst (vs i)=b' vs) (d:cL P ops C Le E Φ Q (i+1) l b'):cL P ops C Le E Φ Q i (o::l) b:=
 EN hE h ((funext hb:(λvs=>(b vs).put o.dst (vs i))=b')▸d)
def uG(vs:Nat->Value)(i:Nat):∀(l:List Nat)(a:Act),cS ops vs (l++[i]) a=(cS ops vs l a).put (Region.fZ ops i) (vs i)
 |[],_=>rfl
 |j::l,a=>by simp only[List.cons_append,cS];exact uG vs i l _
def yA{vs b:Nat->Value}:∀(l:List Nat)(a:Act),(∀j∈l,vs j=b j)->cS ops vs l a=cS ops b l a
 |[],_,_=>rfl
 |j::l,a,h=>by simp only[cS];rw[h j (ai ..)];exact yA l _ λk c=>h k (ag _ c)
def vR(E:Nat->Bool)(V vs:Nat->Value):Nat->Value:=λj=>if E j then V j else vs j
def Ch{K d:Value->World->Prop}(h:∀v W,K v W->d v W):∀{r:Result Next},qf P K r->qf P d r:=by
 intro r H
 match r,H with
 |.ok (.value v) b,H=>exact h v b H
 |.ok .skip b,H=>exact h undef b H
 |.ok (.enter f args) b,H=>exact Calls.mono H λe c⟨v,g,i⟩=>⟨v,g,h v c i⟩
def nu{K d:Value->World->Prop}(h:∀v W,K v W->d v W){o:Oper}{b:Act}{W:World}(H:fC P ops K o b W):fC P ops d o b W:=by
 unfold fC at *
 split
 ·rename_i c;rw[if_pos c]at H;exact Ch h H
 ·rename_i c;rw[if_neg c]at H;exact h _ _ H
def EO{o:Oper}{i:Nat}(c:tf ops)(g:ops[i]?=some o){vs d:Nat->Value}(hv:∀e∈o.dz,vs e.on=d e.on)(t:Nat)(n:t∈o.looksAt ops) :
 (cS ops vs (ao i) a).tmps[t]?=(cS ops d (ao i) a).tmps[t]?:=by
 by_cases h:∃j,Region.fZ ops j=some t
 ·obtain⟨j,b⟩:=h;obtain⟨e,l,rfl⟩:=c.look i o g j t b n;have m:=List.mem_range.2 (c.edge i o g e l).1;rw[gJ vs t e.on (λk f=>c.one _ _ _ f b) b _ a m,gJ d t e.on (λk f=>c.one _ _ _ f b) b _ a m,hv e l]
 ·rw[gI vs t _ a λj _ e=>h ⟨j,e⟩,gI d t _ a λj _ e=>h ⟨j,e⟩]
def Nk{o:Oper}{i:Nat}(c:tf ops)(d:ops[i]?=some o){vs b:Nat->Value}(hv:∀e∈o.dz,vs e.on=b e.on){K:Value->World->Prop}{W:World}
 (H:fC P ops K o (cS ops vs (ao i) a) W):fC P ops K o (cS ops b (ao i) a) W:=by
 have e1:ac (cS ops b (ao i) a).eval o=ac (cS ops vs (ao i) a).eval o:=by
  refine ad o (c.sel i o d) λx h=>?_
  cases x with
  |tmp t=>
   have f:t∈o.looksAt ops:=aw _ (List.mem_filterMap.2 ⟨.tmp t,by simpa using h,rfl⟩);simp only[Act.eval,a9,EO (a:=a) c d hv t f]
  |_=>rfl
 have j:bg o (ab ops (cS ops b (ao i) a).tmps)=bg o (ab ops (cS ops vs (ao i) a).tmps):=by
  unfold bg
  cases hg:o.guard with
  |none=>rfl
  |some k=>
   obtain⟨g,want⟩:=k;have hy:ab ops (cS ops b (ao i) a).tmps g=ab ops (cS ops vs (ao i) a).tmps g:=by
    unfold ab
    cases f:(ops[g]?).bind (·.dst) with
    |none=>rfl
    |some t=>
     have:=EO (a:=a) c d hv t (by simp[Oper.looksAt,hg,f]);simp only[bu,this]
   simp only[hy]
 unfold fC at H ⊢;rw[e1,j];exact H
end
end
section
variable {P:aa}{ops:Array Oper}{C:World->Prop}{Le:World->World->Prop}{Φ:Nat->(Nat->Value)->World->Prop}{a:Act}{Q:Exit->Act->World->Prop}
def Region.Ih(ops:Array Oper)(i:Nat):List Nat:=match ops[i]? with
 |none=>[]
 |some o=>o.dz.toList.map Edge.on
def Region.Ci(ops:Array Oper):Nat->List Nat->List Nat
 |0,s=>s
 |f+1,s=>Region.Ci ops f (s++s.flatMap (Region.Ih ops)).eraseDups
def AM(p:Nat->Prop)(d:∀i,p i->∀j∈Region.Ih ops i,p j):∀(f:Nat)(s:List Nat),(∀i∈s,p i)->∀i∈Region.Ci ops f s,p i
 |0,_,h=>h
 |f+1,s,h=>AM p d f _ λi hi=>by
  rcases List.mem_append.1 (List.mem_eraseDups.1 hi) with b|b
  ·exact h i b
  ·obtain⟨x,e,c⟩:=List.mem_flatMap.1 b;exact d x (h x e) i c
structure Late(ops:Array Oper)(k:Nat):Prop where
 all:∀(i:Nat)(o:Oper),ops[i]?=some o->k<=i->∀j,j<k->j∈Region.Ci ops 4 (Region.Ih ops i)
 one:∀(i:Nat)(o:Oper),ops[i]?=some o->k<i->∃e∈o.dz,e.on+1=i
def Region.Kk(ops:Array Oper)(k:Nat):Bool:=decide (k<=ops.size)&&(ao ops.size).all λi=>match ops[i]? with
 |none=>true
 |some o=>decide (i<k)||(((ao k).all λj=>(Region.Ci ops 4 (Region.Ih ops i)).contains j)&&(i==k||o.dz.toList.any λe=>e.on+1==i))
def Kl{k:Nat}(h:Region.Kk ops k=true):k<=ops.size/\Late ops k:=by
 simp only[Region.Kk,bo,decide_eq_true_eq,ap,aq]at h;obtain⟨f,h⟩:=h;refine⟨f,λi o b hi j c=>?_,λi o b hi=>?_⟩
 ·have:=h i (Array.getElem?_eq_some_iff.1 b).1;rw[b]at this;simp only[bp,decide_eq_true_eq,bo,ap,aq,ar,beq_iff_eq]at this
  rcases this with this|⟨g,_⟩
  ·omega
  ·exact List.contains_iff_mem.1 (g j c)
 ·have:=h i (Array.getElem?_eq_some_iff.1 b).1;rw[b]at this;simp only[bp,decide_eq_true_eq,bo,ap,aq,ar,beq_iff_eq]at this
  rcases this with this|⟨_,d⟩
  ·omega
  ·rcases d with d|⟨e,l,c⟩
   ·omega
   ·exact⟨e,Array.mem_toList_iff.1 l,c⟩
def yB(p:tf ops){k:Nat}(v:Late ops k):∀(fuel m:Nat)(listed:Array Bool)(b:Act)(W:World),listed.size=ops.size->k<=m->m+fuel=ops.size->(∀j,j<ops.size->listed.getD j true=decide (j<m))->
 ae P ops Q (ops.toList.drop m) b W->wpAny P .any ops Q fuel listed b W
 |0,m,listed,b,W,hs,A,B,hl,h=>by
  have e:ops.toList.drop m=[]:=List.drop_eq_nil_of_le (by simp;omega);rw[e]at h;refine⟨List.filter_eq_nil_iff.2 λi hi=>?_,h⟩;have hi:=List.mem_range.1 hi;rw[hl i hi];simp;omega
 |fuel+1,m,listed,b,W,hs,A,B,hl,h=>by
  have f:m<ops.size:=by omega
  have q:ops[m]?=some ops[m]:=a8 f;have hd:ops.toList.drop m=ops[m]::ops.toList.drop (m+1):=by
   rw[List.drop_eq_getElem_cons (by simpa using f)];simp
  have w:m∈bi .any ops listed:=by
   refine List.mem_filter.2 ⟨List.mem_range.2 f,?_⟩;rw[hl m f];simp only[Nat.lt_irrefl,decide_false,bs,bt,q,bv,bw,bb];intro e g
   cases hb:bd .any e with
   |false=>rfl
   |true=>
    have x:=(p.edge m _ q e (cH.2 ⟨g,hb⟩)).1;have r:=hl e.on (by omega);have l:e.on<listed.size:=by omega
    simp[l]at r;simp[l,r,x]
  refine⟨λD=>(by rw[D]at w;cases w),λi hi=>?_⟩;have s:i=m:=by
   obtain⟨E,t⟩:=List.mem_filter.1 hi;have d:=List.mem_range.1 E;have c:ops[i]?=some ops[i]:=a8 d;rw[c,hl i d]at t;simp only[bo,bq,decide_eq_false_iff_not,bv,bw,bb]at t;obtain⟨r,l⟩:=t
   rcases bl m i with x|J
   ·obtain⟨e,g,F⟩:=v.one i _ c (by omega);have n:=l e (cH.1 g).1;rw[(p.edge i _ c e g).2]at n;have y:=hl e.on (by omega);have H:e.on<listed.size:=by omega
    simp[H]at n y;rw[y]at n;simp at n;omega
   ·omega
  subst s;rw[hd]at h;unfold wpOp;simp only[q];have next:∀b' o,ae P ops Q (ops.toList.drop (i+1)) b' o->wpAny P .any ops Q fuel (listed.setIfInBounds i true) b' o:=λb' o I=>by
   refine yB p v fuel (i+1) _ b' o (by simpa using hs) (by omega) (by omega) (λj z=>?_) I;by_cases e:i=j
   ·subst e;simp[hs,z]
   ·have:(listed.setIfInBounds i true).getD j true=listed.getD j true:=by simp[ba e]
    rw[this,hl j z];congr 1;simp only[eq_iff_iff];omega
  rw[ae]at h
  split
  ·rename_i u;rw[if_pos u]at h;exact h.imp (Oper.wp_mono next) id
  ·rename_i u;rw[if_neg u]at h;exact next _ _ h
end
section
variable {P:aa}{ops:Array Oper}{C:Bool->World->Prop}{Le:World->World->Prop}{Φ:Bool->Nat->(Nat->Value)->World->Prop}{X:Nat->Nat->Value->Value->Prop}{a:Act}{Q:Exit->Act->World->Prop}
def Cj{m:Nat}(J:tf ops){k:Nat}(hL:Late ops k)(By:k<=ops.size)(hX:∀i j u v,X i j u v->X j i v u)(rL:∀(i:Nat)(o:Oper),ops[i]?=some o->∀vs eX W,vs i=eX i->(∀e∈o.dz,vs e.on=eX e.on)->∀b,Φ b i vs W->Φ b i eX W)
 (aB:∀(i:Nat)(o:Oper),ops[i]?=some o->i<k->∀vs W(D:List Nat)(b:Bool),(i=m->b=false)->C b W->(∀e∈o.dz,e.on∈D)->i∉D->(∀j∈D,j<ops.size)->(∀j∈D,∀o,ops[j]?=some o->∀e∈o.dz,e.on∈D)->(∀j∈D,Φ b j vs W)->(∀j∈D,∀k∈D,j≠k->X j k (vs j) (vs k))->fC P ops (λv d=>C (b||decide (i=m)) d/\(∀j∈D,Φ (b||decide (i=m)) j vs d)/\Φ (b||decide (i=m)) i (upd vs i v) d/\∀j∈D,X j i (vs j) v) o (cS ops vs (ao i) a) W)
 (hQ:∀vs W b,(m<k->b=true)->C b W->(∀i,i<k->Φ b i vs W)->(∀i j,i<k->j<k->i≠j->X i j (vs i) (vs j))->ae P ops Q (ops.toList.drop k) (cS ops vs (ao k) a) W) :
 ∀(fuel:Nat)(listed:Array Bool)(vs:Nat->Value)(W:World),listed.size=ops.size->(ao ops.size).countP (λi=>!listed.getD i true)=fuel->C (listed.getD m false) W->(∀i∈cO ops listed,Φ (listed.getD m false) i vs W)->(∀i∈cO ops listed,∀j∈cO ops listed,i≠j->X i j (vs i) (vs j))->(∀i∈cO ops listed,∀o,ops[i]?=some o->∀e∈o.dz,e.on∈cO ops listed)->(∀i,k<=i->i<ops.size->listed.getD i true=false)->
  wpAny P .any ops Q fuel listed (cS ops vs (cO ops listed) a) W:=by
 have fin:∀(fuel:Nat)(listed:Array Bool)(vs:Nat->Value)(W:World),listed.size=ops.size->(ao ops.size).countP (λi=>!listed.getD i true)=fuel->(∀i,i<k->listed.getD i true=true)->(∀i,k<=i->i<ops.size->listed.getD i true=false)->C (listed.getD m false) W->(∀i∈cO ops listed,Φ (listed.getD m false) i vs W)->(∀i∈cO ops listed,∀j∈cO ops listed,i≠j->X i j (vs i) (vs j))->wpAny P .any ops Q fuel listed (cS ops vs (cO ops listed) a) W:=by
  intro fuel listed vs W hs hc oh K L z t;have A:∀j,j<ops.size->listed.getD j true=decide (j<k):=λj c=>by
   by_cases h:j<k
   ·rw[oh j h];simp[h]
   ·rw[K j (by omega) c];simp[h]
  have e:cO ops listed=ao k:=by
   unfold cO;have:(ao ops.size).filter (λi=>listed.getD i true)=(ao ops.size).filter (λi=>decide (i<k)):=List.filter_congr λi hi=>A i (List.mem_range.1 hi);rw[this];have e2:ao ops.size=ao k++(ao (ops.size-k)).map (k + ·):=by
    rw[<-aI];congr 1;omega
   rw[e2,List.filter_append,List.filter_eq_self.2 λi hi=>by simpa using List.mem_range.1 hi,List.filter_eq_nil_iff.2 λi hi=>?_,List.append_nil];obtain⟨x,_,rfl⟩:=List.mem_map.1 hi;simp
  have afx:k+fuel=ops.size:=by
   rw[<-hc];have:(ao ops.size).countP (λi=>!listed.getD i true)=(ao ops.size).countP (λi=>decide (¬i<k)):=aJ λi hi=>by rw[A i (List.mem_range.1 hi)];simp
   rw[this];have e2:ao ops.size=ao k++(ao (ops.size-k)).map (k + ·):=by
    rw[<-aI];congr 1;omega
   rw[e2,List.countP_append,List.countP_eq_zero.2 λi hi=>?_,List.countP_eq_length.2 λi hi=>?_]
   ·simp;omega
   ·obtain⟨x,_,rfl⟩:=List.mem_map.1 hi;simp
   ·simpa using List.mem_range.1 hi
  rw[e]at z t ⊢;exact yB J hL fuel k listed _ W hs (bm _) afx A (hQ vs W _ (λhmk=>by have B:=oh m hmk;have n:m<listed.size:=(by omega);simp[n]at B⊢;exact B) L (λi hi=>z i (List.mem_range.2 hi)) λi j hi c=>t i (List.mem_range.2 hi) j (List.mem_range.2 c))
 have nil:∀(listed:Array Bool),listed.size=ops.size->bi .any ops listed=[]->∀i,i<ops.size->listed.getD i true=true:=by
  intro listed hs hr i
  induction i using Nat.strongRecOn with
  |_ i O=>
   intro hi;by_cases hu:listed.getD i true=true
   ·exact hu
   ·have w:i∈bi .any ops listed:=by
     refine List.mem_filter.2 ⟨List.mem_range.2 hi,?_⟩;have p:ops[i]?=some ops[i]:=a8 hi;have hu':listed.getD i true=false:=by simpa using hu
     simp only[hu',bs,bt,p,bv,bw,bb];intro e g
     cases hb:bd .any e with
     |false=>rfl
     |true=>
      have aH:=(J.edge i _ p e (cH.2 ⟨g,hb⟩)).1;have:=O e.on aH (by omega);have R:e.on<listed.size:=by omega
      simp[R]at this;simp[R,this]
    rw[hr]at w;cases w
 intro fuel
 induction fuel with
 |zero=>
  intro listed vs W hs hc L z t _ K;refine fin 0 listed vs W hs hc (λi hi=>?_) K L z t;have:=List.countP_eq_zero.1 hc i (List.mem_range.2 (by omega));simpa using this
 |succ fuel O=>
  intro listed vs W hs hc L z t s K;by_cases Rq:∀i,i<k->listed.getD i true=true
  ·exact fin (fuel+1) listed vs W hs hc Rq K L z t
  refine⟨λhr=>absurd (λi hi=>nil listed hs hr i (by omega)) Rq,λi hi=>?_⟩;obtain⟨Gu,Xj⟩:=List.mem_filter.1 hi;have F:=List.mem_range.1 Gu;have p:ops[i]?=some ops[i]:=a8 F;rw[p]at Xj;simp only[bo,bq,bv,bw,bb]at Xj;obtain⟨I,oh⟩:=Xj;have S:∀e∈ops[i].dz,e.on∈cO ops listed:=λe g=>by
   have:=oh e (cH.1 g).1;have hb:=J.edge i _ p e g;rw[hb.2]at this;have R:e.on<listed.size:=by omega
   simp[R]at this;exact List.mem_filter.2 ⟨List.mem_range.2 (by omega),by simp[R,this]⟩
  have hik:i<k:=by
   rcases bl i k with h|h
   ·exact h
   ·refine absurd (λj c=>?_) Rq;have key:=AM (ops:=ops) (λx=>x∈cO ops listed) (λx T y hy=>?_) 4 (Region.Ih ops i) (λy hy=>?_) j (hL.all i _ p h j c)
    ·exact(List.mem_filter.1 key).2
    ·have U:ops[x]?=some ops[x]!:=by
      have:=List.mem_range.1 (List.mem_filter.1 T).1;simp[this]
     unfold Region.Ih at hy;rw[U]at hy;obtain⟨e,g,rfl⟩:=List.mem_map.1 hy;exact s x T _ U e (Array.mem_toList_iff.1 g)
    ·unfold Region.Ih at hy;rw[p]at hy;obtain⟨e,g,rfl⟩:=List.mem_map.1 hy;exact S e (Array.mem_toList_iff.1 g)
  have ald:i∉cO ops listed:=λc=>by
   have:=(List.mem_filter.1 c).2;rw[I]at this;cases this
  have H:=aB i _ p hik vs W (cO ops listed) (listed.getD m false) (λe=>by subst e;have n:i<listed.size:=(by omega);simp[n]at I ⊢;exact I) L S ald (λj c=>List.mem_range.1 (List.mem_filter.1 c).1) s z t;have next:∀v d,(C (listed.getD m false||decide (i=m)) d/\(∀j∈cO ops listed,Φ (listed.getD m false||decide (i=m)) j vs d)/\Φ (listed.getD m false||decide (i=m)) i (upd vs i v) d/\∀j∈cO ops listed,X j i (vs j) v)->wpAny P .any ops Q fuel (listed.setIfInBounds i true) ((cS ops vs (cO ops listed) a).put ops[i].dst v) d:=by
   rintro v d⟨hC0,V,hv,T⟩;have hC':C ((listed.setIfInBounds i true).getD m false) d:=by
    have e:(listed.setIfInBounds i true).getD m false=(listed.getD m false||decide (i=m)):=by
     by_cases e:i=m
     ·subst e;have n:i<listed.size:=(by omega)
      simp[n]
     ·simp[ba e,e]
    rw[e];exact hC0
   have e0:(listed.getD m false||decide (i=m))=(listed.setIfInBounds i true).getD m false:=by
    by_cases e:i=m
    ·subst e;have n:i<listed.size:=(by omega)
     simp[n]
    ·simp[ba e,e]
   rw[e0]at V hv;rw[Rp J p hs I vs v];have w:∀j,j∈cO ops (listed.setIfInBounds i true)->j=i\/j∈cO ops listed:=λj c=>by
    obtain⟨B,n⟩:=List.mem_filter.1 c;by_cases e:j=i
    ·exact .inl e
    ·exact .inr (List.mem_filter.2 ⟨B,by simpa[ba (Ne.symm e)]using n⟩)
   have Xs:∀j,j∈cO ops listed->j∈cO ops (listed.setIfInBounds i true):=λj c=>by
    obtain⟨B,n⟩:=List.mem_filter.1 c;by_cases e:j=i
    ·subst e;rw[I]at n;cases n
    ·exact List.mem_filter.2 ⟨B,by simpa[ba (Ne.symm e)]using n⟩
   have M:∀j,j∈cO ops listed->j≠i:=λj c e=>by
    subst e;have:=(List.mem_filter.1 c).2;rw[I]at this;cases this
   refine O _ _ d (by simpa using hs) ?_ hC' (λj c=>?_) (λj c k N Wk=>?_) (λj c o' qx e g=>?_) (λj c hjn=>by have Y:i≠j:=(by omega);simpa[ba Y]using K j c hjn)
   ·have B:(ao ops.size).countP (λj=>!listed.getD j true)=(ao ops.size).countP (λj=>!(listed.setIfInBounds i true).getD j true)+1:=by
     have key:∀l:List Nat,l.Nodup->i∈l->l.countP (λj=>!listed.getD j true)=l.countP (λj=>!(listed.setIfInBounds i true).getD j true)+1:=by
      intro l hn
      induction l with
      |nil=>intro h;cases h
      |cons k l O=>
       intro h;obtain⟨N,TH⟩:=List.nodup_cons.1 hn;by_cases e:k=i
       ·subst e;have same:l.countP (λj=>!listed.getD j true)=l.countP (λj=>!(listed.setIfInBounds k true).getD j true):=by
         refine aJ λj c=>?_;have Y:k≠j:=λe=>N (e▸c);simp[ba Y]
        have hks:k<listed.size:=by omega
        rw[aL,aL,same,I];simp[hks]
       ·have F:i∈l:=by rcases List.mem_cons.1 h with Z|Z;exact absurd Z.symm e;exact Z
        have Y:i≠k:=λZ=>e Z.symm;rw[aL,aL,O TH F];have:(listed.setIfInBounds i true).getD k true=listed.getD k true:=by simp[ba Y]
        rw[this];omega
     exact key _ List.nodup_range Gu
    omega
   ·rcases w j c with rfl|q
    ·exact hv
    ·have hjo:ops[j]?=some ops[j]!:=by
      have:=List.mem_range.1 (List.mem_filter.1 q).1;simp[this]
     refine rL j _ hjo vs _ d ?_ (λe g=>?_) _ (V j q)
     ·simp only[upd];rw[if_neg (M j q)]
     ·have:=M _ (s j q _ hjo e g);simp only[upd];rw[if_neg this]
   ·rcases w j c with rfl|q
    ·rcases w k N with rfl|rm
     ·exact absurd rfl Wk
     ·simp only[upd,if_pos,if_neg (M k rm)];exact hX _ _ _ _ (T k rm)
    ·rcases w k N with rfl|rm
     ·simp only[upd,if_pos,if_neg (M j q)];exact T j q
     ·simp only[upd,if_neg (M j q),if_neg (M k rm)];exact t j q k rm Wk
   ·rcases w j c with rfl|q
    ·rw[p]at qx;cases qx;exact Xs _ (S e g)
    ·exact Xs _ (s j q o' qx e g)
  unfold wpOp;simp only[p];unfold fC at H;rw[<-EL (a:=a) J p S vs,<-Nj (a:=a) J p S vs]at H
  split
  ·rename_i hw;rw[if_pos hw]at H;left;unfold Oper.wp;generalize(ac (cS ops vs (cO ops listed) a).eval ops[i]).run P W=r at H ⊢
   match r,H with
   |.ok (.value v) d,H=>exact next v d H
   |.ok .skip d,H=>exact next undef d H
   |.ok (.enter f args) d,H=>exact Calls.mono H λe W''⟨v,g,N⟩=>by subst g;exact next v W'' N
  ·rename_i hw;rw[if_neg hw]at H;exact next undef W H
section
variable (P:aa)(ops:Array Oper)(m:Nat)(C:Bool->World->Prop)(Le:World->World->Prop)(E:Nat->Bool)(Φ:Bool->Nat->(Nat->Value)->World->Prop)(X:Nat->Nat->Value->Value->Prop)(Q:Exit->Act->World->Prop)
def cr:Nat->List Oper->((Nat->Value)->Act)->Prop
 |i,[],b=>∀vs W c,(m<i->c=true)->C c W->(∀j,j<i->E j=false->Φ c j vs W)->(∀j k,j<i->k<i->j≠k->E j=false->E k=false->X j k (vs j) (vs k))->Q .normal (b vs) W
 |i,o::l,b=>@br (λ_=>Prop)
  ((∀vs W(D:List Nat)(c:Bool),(i=m->c=false)->C c W->(∀e∈o.dz,e.on∈D)->i∉D->(∀j∈D,∀o,ops[j]?=some o->∀e∈o.dz,e.on∈D)->(∀j∈D,E j=false->Φ c j vs W)->(∀j∈D,∀k∈D,j≠k->E j=false->E k=false->X j k (vs j) (vs k))->fC P ops (λu d=>C (c||decide (i=m)) d/\(∀j∈D,E j=false->Φ (c||decide (i=m)) j vs d)/\Φ (c||decide (i=m)) i (upd vs i u) d/\∀j∈D,E j=false->X j i (vs j) u) o (b vs) W)/\cr (i+1) l λvs=>(b vs).put o.dst (vs i))
  (∃v,(∀vs W c,C c W->(∀e∈o.dz,E e.on=false->Φ c e.on vs W)->fC P ops (λu d=>u=v/\C c d/\Le W d) o (b vs) W)/\cr (i+1) l λvs=>(b vs).put o.dst v) (E i)
end
def nv{E:Nat->Bool}{m:Nat}{i:Nat}{b:(Nat->Value)->Act}(h:∀vs W c,(m<i->c=true)->C c W->(∀j,j<i->E j=false->Φ c j vs W)->(∀j k,j<i->k<i->j≠k->E j=false->E k=false->X j k (vs j) (vs k))->Q .normal (b vs) W):cr P ops m C Le E Φ X Q i [] b:=h
def Ck{E:Nat->Bool}{m:Nat}{i:Nat}{o:Oper}{l:List Oper}{b:(Nat->Value)->Act}(v:Value)(hE:E i=true)
 (h:∀vs W c,C c W->(∀e∈o.dz,E e.on=false->Φ c e.on vs W)->fC P ops (λu d=>u=v/\C c d/\Le W d) o (b vs) W) (f:cr P ops m C Le E Φ X Q (i+1) l λvs=>(b vs).put o.dst v):cr P ops m C Le E Φ X Q i (o::l) b:=by
 rw[cr,hE];exact⟨v,h,f⟩
def Cl{E:Nat->Bool}{m:Nat}{i:Nat}{o:Oper}{l:List Oper}{b:(Nat->Value)->Act}(hE:E i=false)
 (h:∀vs W(D:List Nat)(c:Bool),(i=m->c=false)->C c W->(∀e∈o.dz,e.on∈D)->i∉D->(∀j∈D,∀o,ops[j]?=some o->∀e∈o.dz,e.on∈D)->(∀j∈D,E j=false->Φ c j vs W)->(∀j∈D,∀k∈D,j≠k->E j=false->E k=false->X j k (vs j) (vs k))->fC P ops (λu d=>C (c||decide (i=m)) d/\(∀j∈D,E j=false->Φ (c||decide (i=m)) j vs d)/\Φ (c||decide (i=m)) i (upd vs i u) d/\∀j∈D,E j=false->X j i (vs j) u) o (b vs) W) (f:cr P ops m C Le E Φ X Q (i+1) l λvs=>(b vs).put o.dst (vs i)):cr P ops m C Le E Φ X Q i (o::l) b:=by
 rw[cr,hE];exact⟨h,f⟩
def iK{E:Nat->Bool}{m:Nat}{i:Nat}{o:Oper}{l:List Oper}{b b':(Nat->Value)->Act}(v:Value)(hE:E i=true)
 (h:∀vs W c,C c W->(∀e∈o.dz,E e.on=false->Φ c e.on vs W)->fC P ops (λu d=>u=v/\C c d/\Le W d) o (b vs) W) (hb:∀vs,(b vs).put o.dst v=b' vs) (f:cr P ops m C Le E Φ X Q (i+1) l b'):cr P ops m C Le E Φ X Q i (o::l) b:=
 Ck v hE h ((funext hb:(λvs=>(b vs).put o.dst v)=b')▸f)
def ey{E:Nat->Bool}{m:Nat}{i:Nat}{o:Oper}{l:List Oper}{b b':(Nat->Value)->Act}(hE:E i=false)
 (h:∀vs W(D:List Nat)(c:Bool),(i=m->c=false)->C c W->(∀e∈o.dz,e.on∈D)->i∉D->(∀j∈D,∀o,ops[j]?=some o->∀e∈o.dz,e.on∈D)->(∀j∈D,E j=false->Φ c j vs W)->(∀j∈D,∀k∈D,j≠k->E j=false->E k=false->X j k (vs j) (vs k))->fC P ops (λu d=>C (c||decide (i=m)) d/\(∀j∈D,E j=false->Φ (c||decide (i=m)) j vs d)/\Φ (c||decide (i=m)) i (upd vs i u) d/\∀j∈D,E j=false->X j i (vs j) u) o (b vs) W) (hb:∀vs,(b vs).put o.dst (vs i)=b' vs) (f:cr P ops m C Le E Φ X Q (i+1) l b'):cr P ops m C Le E Φ X Q i (o::l) b:=
 Cl hE h ((funext hb:(λvs=>(b vs).put o.dst (vs i))=b')▸f)
def ny{E:Nat->Bool}{m:Nat}(H:E m=false)(I:∀b i vs W r,Le W r->Φ b i vs W->Φ b i vs r):∀(l:List Oper)(i:Nat)(b:(Nat->Value)->Act),(∀j,j<l.length->l[j]?=ops[i+j]?)->cr P ops m C Le E Φ X Q i l b->
 ∃V:Nat->Value,(∀(j:Nat)(o:Oper),i<=j->j<i+l.length->ops[j]?=some o->∃y:(Nat->Value)->Act,(∀vs(a0:Act),(∀k,i<=k->E k=true->vs k=V k)->b vs=cS ops vs (ao i) a0->y vs=cS ops vs (ao j) a0)/\
  (∀vs W(D:List Nat)(c:Bool),(j=m->c=false)->C c W->(∀e∈o.dz,e.on∈D)->j∉D->(∀j∈D,∀o,ops[j]?=some o->∀e∈o.dz,e.on∈D)->(∀j∈D,E j=false->Φ c j vs W)->(∀j∈D,∀k∈D,j≠k->E j=false->E k=false->X j k (vs j) (vs k))->fC P ops (λu r=>(E j=true->u=V j)/\C (c||decide (j=m)) r/\(∀k∈D,E k=false->Φ (c||decide (j=m)) k vs r)/\(E j=false->Φ (c||decide (j=m)) j (upd vs j u) r)/\∀k∈D,E k=false->E j=false->X k j (vs k) u) o (y vs) W))/\
  (∀vs W(a0:Act),(∀k,i<=k->E k=true->vs k=V k)->b vs=cS ops vs (ao i) a0->∀c,(m<i+l.length->c=true)->C c W->(∀j,j<i+l.length->E j=false->Φ c j vs W)->(∀j k,j<i+l.length->k<i+l.length->j≠k->E j=false->E k=false->X j k (vs j) (vs k))->Q .normal (cS ops vs (ao (i+l.length)) a0) W)
 |[],i,b,hl,h=>by
  refine⟨λ_=>undef,λj o J z Z=>?_,λvs W a0 _ hb c f d A g=>by rw[aP,Nat.add_zero,<-hb];exact h vs W c (by simpa using f) d A g⟩;simp only[aP]at z;omega
 |o::l,i,b,hl,h=>by
  have hlen:i+(o::l).length=i+1+l.length:=by simp only[aT];omega
  rw[hlen];have K:ops[i]?=some o:=by simpa using(hl 0 (by simp)).symm
  have hd:Region.fZ ops i=o.dst:=by simp[Region.fZ,K]
  have U:∀j,j<l.length->l[j]?=ops[i+1+j]?:=λj J=>by have:=hl (j+1) (by simp only[aT];omega);simpa[Nat.add_assoc,Nat.add_comm 1 j]using this
  cases n:E i with
  |true=>
   rw[cr,n]at h;obtain⟨v,L,M⟩:=h;obtain⟨V,k1,k2⟩:=ny H I l (i+1) _ U M;have step:∀vs(a0:Act),(∀k,i<=k->E k=true->vs k=(λj=>if j=i then v else V j) k)->b vs=cS ops vs (ao i) a0->(b vs).put o.dst v=cS ops vs (ao (i+1)) a0:=λvs a0 hv hb=>by
    rw[a6,uG,<-hb,hd,hv i (bm _) n];simp
   refine⟨λj=>if j=i then v else V j,λj N J z s=>?_,λvs W a0 hv hb c f d A g=>k2 vs W a0 (λk t p=>by rw[hv k (by omega) p];simp only;rw[if_neg (by omega)]) (step vs a0 hv hb) c f d A g⟩;by_cases e:j=i
   ·subst e;rw[K]at s;cases s;refine⟨b,λvs a0 _ hb=>hb,λvs W D c f d B q F hd g=>?_⟩;refine nu ?_ (L vs W c d λe p n=>hd _ (B e p) n);rintro u r⟨O,w,x⟩;rw[decide_eq_false (λe=>by rw[e,H]at n;cases n),Bool.or_false];exact⟨λ_=>by simpa using O,w,λk t R=>I _ _ _ _ _ x (hd k t R),λh=>absurd (n.symm.trans h) (by decide),λ_ _ _ h=>absurd (n.symm.trans h) (by decide)⟩
   ·obtain⟨y,S,T⟩:=k1 j N (by omega) z s;refine⟨y,λvs a0 hv hb=>S vs a0 (λk t p=>by rw[hv k (by omega) p];simp only;rw[if_neg (by omega)]) (step vs a0 hv hb),λvs W D c f d B q F hd g=>?_⟩;have:=T vs W D c f d B q F hd g;simpa only[if_neg e]using this
  |false=>
   rw[cr,n]at h;obtain⟨L,M⟩:=h;obtain⟨V,k1,k2⟩:=ny H I l (i+1) _ U M;have step:∀vs(a0:Act),b vs=cS ops vs (ao i) a0->(b vs).put o.dst (vs i)=cS ops vs (ao (i+1)) a0:=λvs a0 hb=>by
    rw[a6,uG,<-hb,hd]
   refine⟨V,λj N J z s=>?_,λvs W a0 hv hb c f d A g=>k2 vs W a0 (λk t p=>hv k (by omega) p) (step vs a0 hb) c f d A g⟩;by_cases e:j=i
   ·subst e;rw[K]at s;cases s;refine⟨b,λvs a0 _ hb=>hb,λvs W D c f d B q F hd g=>?_⟩;refine nu ?_ (L vs W D c f d B q F hd g);rintro u r⟨w,x,O,Y⟩;exact⟨λh=>absurd (n.symm.trans h) (by decide),w,x,λ_=>O,λk t R _=>Y k t R⟩
   ·obtain⟨y,S,T⟩:=k1 j N (by omega) z s;exact⟨y,λvs a0 hv hb=>S vs a0 (λk t p=>hv k (by omega) p) (step vs a0 hb),T⟩
def mA(k:Nat){id:Nat}{w:World}(m:Nat)(C:Bool->World->Prop)(Le:World->World->Prop)(E:Nat->Bool)(Φ:Bool->Nat->(Nat->Value)->World->Prop)(X:Nat->Nat->Value->Value->Prop)(hX:∀i j u v,X i j u v->X j i v u)(hm:P.follows .mixedOrders=true)(hB:Region.Ig ops=true)(YZ:k<=ops.size/\Late ops k)
 (Xk:E m=false) (aF:∀b i vs W r,Le W r->Φ b i vs W->Φ b i vs r) (s:∀(i:Nat)(o:Oper),ops[i]?=some o->∀vs t W,vs i=t i->(∀e∈o.dz,vs e.on=t e.on)->∀b,Φ b i vs W->Φ b i t W) (x:C false w.drew)
 (H:cr P ops m C Le E Φ X (λ_ b W=>ae P ops Q (ops.toList.drop k) b W) 0 (ops.toList.take k) λ_=>a):(bx id ops true).wp P Q a w:=by
 have y:=Ro hB;obtain⟨By,hL⟩:=YZ;obtain⟨V,S,T⟩:=ny Xk aF (ops.toList.take k) 0 _ (λj f=>by simp at f;simp[List.getElem?_take_of_lt (show j<k by omega)]) H;have FH:0+(ops.toList.take k).length=k:=by simp;omega
 rw[FH]at S T;refine wp_region_any hm ?_;have hd:cO ops (bc ops.size false)=[]:=by
  refine List.filter_eq_nil_iff.2 λi hi=>?_;have:=List.mem_range.1 hi;simp[this]
 have start:=Cj (P:=P) (a:=a) (Q:=Q) (m:=m) (C:=C) (X:=λi j u v=>E i=false->E j=false->X i j u v) (Φ:=λb i vs W=>(E i=true->vs i=V i)/\(∀o,ops[i]?=some o->∀e∈o.dz,E e.on=true->vs e.on=V e.on)/\(E i=false->Φ b i vs W)) y hL By (λi j u v h f hi=>hX _ _ _ _ (h hi f))
  (λi o l vs t W e1 U b h=>⟨λe=>e1▸h.1 e,λo' g e d n=>(by rw[l]at g;cases g;rw[<-U e d];exact h.2.1 o l e d n),λe=>s i o l vs t W e1 U b (h.2.2 e)⟩) (λi o l F vs W D I J x K L M N hd O=>?_) (λvs W I J x Y O=>?_) ops.size (bc ops.size false) (λ_=>undef) w.drew (by simp) (by
   rw[List.countP_eq_length.2]
   ·simp
   ·intro i hi;have:=List.mem_range.1 hi
    simp[this]) (by have e:(bc ops.size false).getD m false=false:=(by rw[a9,Array.getElem?_replicate];split<;>rfl);rw[e];exact x) (by rw[hd];intro i hi;cases hi) (by rw[hd];intro i hi;cases hi) (by rw[hd];intro i hi;cases hi) (λi _ hi=>by simp[hi])
 ·rw[hd]at start;exact start
 ·obtain⟨bj,g1,g2⟩:=S i o (Nat.zero_le _) F l;have p:∀k∈D,vR E V vs k=vs k:=λk c=>by
   unfold vR
   split
   ·rename_i h;exact((hd k c).1 h).symm
   ·rfl
  have z:∀e∈o.dz,vR E V vs e.on=vs e.on:=λe d=>p _ (K e d);have hb:=g1 (vR E V vs) a (λk _ d=>by simp[vR,d]) rfl;have A:∀k∈D,∀b W,Φ b k (vR E V vs) W↔Φ b k vs W:=λk c b W=>by
   have g:ops[k]?=some ops[k]!:=by simp[M k c]
   exact⟨s k _ g _ _ W (p k c) (λe d=>p _ (N k c _ g e d)) b,s k _ g _ _ W (p k c).symm (λe d=>(p _ (N k c _ g e d)).symm) b⟩
  have:=g2 (vR E V vs) W D I J x K L N (λk c n=>(A k c _ W).2 ((hd k c).2.2 n)) (λj f k c R q B=>by rw[p j f,p k c];exact O j f k c R q B);rw[hb]at this;refine nu ?_ (Nk y l z this);rintro v r⟨a1,a2,a3,a4,a5⟩;refine⟨a2,λk c=>⟨(hd k c).1,(hd k c).2.1,λn=>(A k c _ r).1 (a3 k c n)⟩,⟨λe=>by simp[upd,a1 e],λo' g e d n=>?_,λe=>?_⟩,λk c B hiE=>by rw[<-p k c];exact a5 k c B hiE⟩
  ·rw[l]at g;cases g;have:=(y.edge i o l e d).1;simp only[upd];rw[if_neg (by omega)];exact(hd _ (K e d)).1 n
  refine s i o l _ _ r (by simp[upd]) (λZ Xo=>?_) _ (a4 e);have:=(y.edge i o l Z Xo).1;simp only[upd];rw[if_neg (by omega),if_neg (by omega),z Z Xo]
 ·have hv:∀j,j<k->vR E V vs j=vs j:=λj f=>by
   unfold vR
   split
   ·rename_i h;exact((Y j f).1 h).symm
   ·rfl
  rw[<-yA (vs:=vR E V vs) _ _ λj f=>hv j (List.mem_range.1 f)];refine T (vR E V vs) W a (λk _ d=>by simp[vR,d]) rfl I J x (λj f n=>?_) (λj k f c R q B=>by rw[hv j f,hv k c];exact O j k f c R q B);have g:ops[j]?=some ops[j]!:=by have:j<ops.size:=(by omega);simp[this]
  refine s j _ g vs _ W (hv j f).symm (λe d=>(hv e.on (by have:=(y.edge j _ g e d).1;omega)).symm) _ ((Y j f).2.2 n)
def iL(k:Nat){id:Nat}{w:World}(m:Nat)(C:Bool->World->Prop)(Le:World->World->Prop)(E:Nat->Bool)(Φ:Bool->Nat->(Nat->Value)->World->Prop)(X:Nat->Nat->Value->Value->Prop)(f:∀i j u v,X i j u v->X j i v u)(g:P.follows .mixedOrders=true)(h:Region.Ig ops=true)(l:Region.Kk ops k=true)
 (n:E m=false) (p:∀b i vs W d,Le W d->Φ b i vs W->Φ b i vs d) (q:∀(i:Nat)(o:Oper),ops[i]?=some o->∀vs c W,vs i=c i->(∀e∈o.dz,vs e.on=c e.on)->∀b,Φ b i vs W->Φ b i c W) (r:C false w.drew)
 (H:cr P ops m C Le E Φ X (λ_ b W=>ae P ops Q (ops.toList.drop k) b W) 0 (ops.toList.take k) λ_=>a):(bx id ops true).wp P Q a w:=
 mA k m C Le E Φ X f g h (Kl l) n p q r H
section
variable {C:World->Prop}{Φ:Nat->(Nat->Value)->World->Prop}
def uH{E:Nat->Bool}{n:Nat}(p:∀i vs W f,Le W f->Φ i vs W->Φ i vs f):∀(l:List Oper)(i:Nat)(b:(Nat->Value)->Act),i+l.length<=n->cL P ops C Le E Φ Q i l b->
 cr P ops n (λ_=>C) Le (λj=>E j&&decide (j<n)) (λ_=>Φ) (λ_ _ _ _=>True) Q i l b
 |[],i,b,_,h=>λvs W _ _ c hd _=>h vs W c λj q g=>hd j q (by simp[g])
 |o::l,i,b,hl,h=>by
  have hi:i<n:=by simp at hl;omega
  have s:i+1+l.length<=n:=by simp at hl;omega
  rw[cL]at h;rw[cr]
  cases g:E i with
  |true=>
   simp only[g,decide_eq_true hi,Bool.and_self]at h⊢;obtain⟨v,u,w⟩:=h;exact⟨v,λvs W _ c hd=>u vs W c λe r d=>hd e r (by simp[d]),uH p l _ _ s w⟩
  |false=>
   simp only[g,Bool.false_and]at h⊢;refine⟨λvs W D _ _ c x _ _ t _=>?_,uH p l _ _ s h.2⟩;exact nu (λv f k=>⟨k.1,λj q d=>p j vs W f k.2.1 (t j q d),k.2.2,λ_ _ _=>trivial⟩) (h.1 vs W c λe r d=>t e.on (x e r) (by simp[d]))
def mB(k:Nat){id:Nat}{w:World}(C:World->Prop)(Le:World->World->Prop)(E:Nat->Bool)(Φ:Nat->(Nat->Value)->World->Prop)(g:P.follows .mixedOrders=true)(h:Region.Ig ops=true)(l:k<=ops.size/\Late ops k)
 (d:∀i vs W f,Le W f->Φ i vs W->Φ i vs f) (n:∀(i:Nat)(o:Oper),ops[i]?=some o->∀vs c W,vs i=c i->(∀e∈o.dz,vs e.on=c e.on)->Φ i vs W->Φ i c W) (p:C w.drew)
 (H:cL P ops C Le E Φ (λ_ b W=>ae P ops Q (ops.toList.drop k) b W) 0 (ops.toList.take k) λ_=>a):(bx id ops true).wp P Q a w:=
 mA k ops.size (λ_=>C) Le (λj=>E j&&decide (j<ops.size)) (λ_=>Φ) (λ_ _ _ _=>True) (λ_ _ _ _ _=>trivial) g h l (by simp) (λ_=>d) (λi o q vs c W e1 r _=>n i o q vs c W e1 r) p
  (uH d _ _ _ (by simp;omega) H)
def cT(k:Nat){id:Nat}{w:World}(C:World->Prop)(Le:World->World->Prop)(E:Nat->Bool)(Φ:Nat->(Nat->Value)->World->Prop)(f:P.follows .mixedOrders=true)(g:Region.Ig ops=true)(h:Region.Kk ops k=true)
 (j:∀i vs W d,Le W d->Φ i vs W->Φ i vs d) (l:∀(i:Nat)(o:Oper),ops[i]?=some o->∀vs c W,vs i=c i->(∀e∈o.dz,vs e.on=c e.on)->Φ i vs W->Φ i c W) (n:C w.drew)
 (H:cL P ops C Le E Φ (λ_ b W=>ae P ops Q (ops.toList.drop k) b W) 0 (ops.toList.take k) λ_=>a):(bx id ops true).wp P Q a w:=
 mB k C Le E Φ f g (Kl h) j l n H
def uI{E:Nat->Bool}{c:Exit->Act->World->Prop}(h:∀b W,Q .normal b W->c .normal b W):∀(l:List Oper)(i:Nat)(b:(Nat->Value)->Act),cL P ops C Le E Φ Q i l b->cL P ops C Le E Φ c i l b
 |[],_,_,k=>λvs W e hd=>h _ _ (k vs W e hd)
 |o::l,i,b,k=>by
  rw[cL]at k ⊢
  cases d:E i with
  |true=>simp only[d]at k ⊢;obtain⟨v,f,g⟩:=k;exact⟨v,f,uI h l _ _ g⟩
  |false=>simp only[d]at k ⊢;exact⟨k.1,uI h l _ _ k.2⟩
def ig{id:Nat}{w:World}(C:World->Prop)(Le:World->World->Prop)(E:Nat->Bool)(Φ:Nat->(Nat->Value)->World->Prop)(g:P.follows .mixedOrders=true)(j:Region.Ig ops=true)
 (k:∀i vs W f,Le W f->Φ i vs W->Φ i vs f) (l:∀(i:Nat)(o:Oper),ops[i]?=some o->∀vs d W,vs i=d i->(∀e∈o.dz,vs e.on=d e.on)->Φ i vs W->Φ i d W) (n:C w.drew)
 (H:cL P ops C Le E Φ Q 0 ops.toList λ_=>a):(bx id ops true).wp P Q a w:=by
 have no:∀{i:Nat}{o:Oper},ops[i]?=some o->¬ops.size<=i:=λc=>Nat.not_le.2 (Array.getElem?_eq_some_iff.1 c).1;refine mB ops.size C Le E Φ g j ⟨bm _,λi o c hi=>absurd hi (no c),λi o c hi=>absurd (Nat.le_of_lt hi) (no c)⟩ k l n ?_;rw[List.take_of_length_le (by simp)];refine uI (λb W h=>?_) _ _ _ H;rw[List.drop_of_length_le (by simp)];exact h
end
end
end Go
