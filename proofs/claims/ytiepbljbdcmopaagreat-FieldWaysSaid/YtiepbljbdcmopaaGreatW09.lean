/- Part of the proof of FieldWays. -/
import Derived.Test.YtiepbljbdcmopaaGreatW08
set_option linter.all false
open Bool renaming and_eq_true->aa
open Go renaming Value->ac,World->ag,Calls->ai,Addr->aF,bodyPost_ret->aI,results->aJ,cell_one_new->aL,Program->aP,Oper->aT,wpList->a7,execOp->a8,yielded->a9
open Go.Lib renaming hid->bb
open Go.RowKit.Below renaming refl->bi,trans->bm
open Nat renaming le_refl->bq,two_pow_pos->bu,le_of_lt->bv,zero_le->bC,lt_of_lt_of_le->bL,zero_add->bM,lt_irrefl->bR,le_trans->bT
open Go.Proofs.Tryz renaming results6->b1,func7->b8,ntmps7->b9,results7->ca,func10->cb,ntmps10->cc,results10->cd,func3->ce,ntmps3->cf
open List renaming getElem?_toArray->ch,getElem?_cons_succ->ci,getElem?_cons_zero->cl,range->co,mem_append->cq,mem_cons->ct,mem_append_left->cB,length_append->cC,getD_eq_getElem?_getD->cQ,getElem?_append_left->c8,append_assoc->c9,length_cons->da,length_map->db,mem_cons_of_mem->dc,length_drop->dd,getElem?_eq_getElem->df,getElem_mem->dk
open Option.some renaming injEq->dp
open Go.Region renaming Ig->dq,ready->dt,binds->du,wanted->dv
open Array renaming replicate->dx,getD_eq_getD_getElem?->dC,getElem?_setIfInBounds->dL,getElem?_append->dO
open Go.Oper renaming wp->dQ,upon->dT,wp_mono->dU
open Go.Proofs renaming getElem?_lt'->d8
open Go.World renaming cell?->d9
open Go.Value renaming int->ea,agg->eb,tuple->ec,slice->ed,bool->eg
open Go.IntKind renaming i64->eh
open Go.Obj renaming cells->ei
open Or renaming inr->ej,inl->ek
open Go.Ending renaming returned->el
set_option maxHeartbeats 4000000
set_option maxRecDepth 100000
namespace Go.Proofs
open Go.RowKit Go.Shelf
attribute [local go_sem] Oper.semAt_some
def j8(C:CD)(s m:Int):Int:=if C.b6 (bO s 0 (C.p-1))=0 then(if bO m 0 999 then 0 else 1) else C.b6 (bO s 0 (C.p-1))
def NI(C:CD)(s m:Int)(l:List Int)(L:Int)(f:Bool):Prop:=
 (j8 C s m≠0/\l=[]/\L=0/\f=false)\/(j8 C s m=0/\((f=true/\abf (C.edge (C.Cl m)) s 0 (some (l,L)))\/(f=false/\abf (C.edge (C.Cl m)) s 0 none/\l=[]/\L=0)))
def NI.unique{C:CD}{s m:Int}{l l':List Int}{L d:Int}{f f':Bool}(h:NI C s m l L f)(a:NI C s m l' d f'):l=l'/\L=d/\f=f':=by
 rcases h with⟨b,rfl,rfl,rfl⟩|⟨b,h⟩
 .rcases a with⟨_,rfl,rfl,rfl⟩|⟨c,_⟩
  .exact⟨rfl,rfl,rfl⟩
  .exact absurd c b
 .rcases a with⟨c,_⟩|⟨_,a⟩
  .exact absurd b c
  .rcases h with⟨rfl,h⟩|⟨rfl,h,rfl,rfl⟩<;>rcases a with⟨rfl,a⟩|⟨rfl,a,rfl,rfl⟩
   .cases h.unique a;exact⟨rfl,rfl,rfl⟩
   .cases h.unique a
   .cases h.unique a
   .exact⟨rfl,rfl,rfl⟩
def ahw{C:CD}{s m:Int}(h:j8 C s m=0):C.cx=0/\(0<=s/\s<C.p)/\bO m 0 999=true:=by
 unfold j8 at h;split at h
 .rename_i a;split at h
  .rename_i b;unfold CD.b6 at a;split at a
   .rename_i hc;split at a
    .rename_i hb;simp only[bO,aa,decide_eq_true_eq]at hb;exact⟨hc,ab,b⟩
    .cases a
   .rename_i hc;exact absurd a hc
  .cases h
 .rename_i a;exact absurd h a
def aru(n0:Nat)(j:Nat)(vs:Nat->ac)(W:ag):Prop:=j=10->∃k,vs 10=.pointer (some ⟨k,0,none⟩)/\n0<k/\Six W k
def agz(C:CD)(s m:Int)(w:ag)(h:C.At w)(hf:j8 C s m≠0):ai PL 6 #[eb C.val,ea eh s,ea eh m] w (aO (ec #[ed none 0 0,ea eh 0,eg false,ea eh (j8 C s m)]) w):=by
 have S:=bb h;have T:Hid (KB C w (w.alloc (ei C.val 27))):=bb ⟨au _ _,(bi _ _).alloc (bq _) _⟩;obtain⟨F,c⟩:=br (IntKind.i64.wrap (C.p-1));obtain⟨z,u⟩:=br (bO s 0 F);have y:C.b6 z=C.b6 (bO s 0 (C.p-1)):=by
  by_cases hc:C.cx=0
  .have:=nq hc;rw[u,c,IntWalk.i64_in _ ab]
  .simp[CD.b6,hc]
 obtain⟨x0,x1,y2,H,I,y3,J,c3,y4,K,L,M,N,O,f,U,g⟩:∃(x0 x1:Int)(y2:Option aF)(H I:Nat)(y3:Option aF)(J c3:Nat)(y4:Option aF)(K L:Nat)(M:Option aF)(N O:Nat)(f:Int),(Hid (∀W,C.At W->ai PL 25 #[eb C.val,eg z] W (aO (ec #[eb #[ea eh x0,ea eh x1,ed y2 H I,ed y3 J c3,ed y4 K L,ed M N O],ea eh f]) W)))/\((f≠0/\j8 C s m=f)\/(f=0/\bO m 0 999=false/\j8 C s m=1)):=by
  by_cases b:C.b6 z=0
  .refine⟨C.l,C.p,C.b2,C.n2,C.c2,C.b3,C.n3,C.c3,C.b4,C.n4,C.c4,C.b5,C.n5,C.c5,0,bb λW A=>kF b A,ej ⟨rfl,?_⟩⟩;have d:=b;rw[y]at d;unfold j8 at hf ⊢;rw[if_pos d]at hf ⊢
   cases V:bO m 0 999 with
   |true=>rw[V]at hf;exact absurd rfl hf
   |false=>exact⟨rfl,rfl⟩
  .refine⟨0,0,none,0,0,none,0,0,none,0,0,none,0,0,C.b6 z,bb λW A=>?_,ek ⟨b,?_⟩⟩
   .have:=Ev C z W A;rw[anq b]at this;exact this
   .rw[y]at b⊢;rw[j8,if_neg b]
 have BT:Hid (∀W,ai PL 26 #[ea eh s,ea eh 0,ea eh F] W λe w'=>e=el (eg z)/\W=w'):=bb λW=>by rw[u];exact ij _ _ _ _
 have X:=bb c.symm;obtain⟨r,P⟩:=br (j8 C s m);rw[<-P]at g ⊢;clear h hf u y c P;go_enter (fx ao Tryz.func6),Tryz.ntmps6
 go_upto_region 1 with fail
 apply wp_scope_straight;apply wp_seq_k;intro _ _;refine cT 12 (KB C w) LeZ (λj=>j != 10&&j != 11) (aru (w.heap.size)) rfl ae ae
  (λi vs W Q B h e=>(h e).imp λk n=>⟨n.1,n.2.1,B k n.2.2⟩) (λi o ho vs eX W Y hd h e=>by subst e;rw[<-Y];exact h rfl) ?_ ?_
 .exact T.out.on (bi _ _).drew
 .iterate 10 (
   apply aY
   case hE=>rfl
   case h=>
    intro vs W a hd;obtain⟨Z,f1,f2,f3,f4,f5⟩:=bf a.box;have hwr:=X.out;go_simp
    first
    |(go_at_call 26;refine(BT.out _).mono ?_;rintro e Q⟨rfl,rfl⟩;exact⟨_,rfl,rfl,a,LeZ.on (bi _ _)⟩)
    |(go_at_call 25;(with_reducible refine(U.out _ (S.out.below a.low)).mono ?_);rintro e Q⟨rfl,t⟩;exact⟨_,rfl,rfl,a.on t,LeZ.on t⟩)
    |exact⟨rfl,LeZ.on (bi _ _)⟩
   case hb=>exact sx)
  apply eH
  case hE=>rfl
  case hb=>exact sx
  case h=>
   intro vs W a hd;go_simp;have t:=(bi W.heap.size W).alloc (bq _) (ei #[ea eh 0,ea eh 0,ed none 0 0,ed none 0 0,ed none 0 0,ed none 0 0] 74);exact⟨a.on t,LeZ.on t,λ_=>⟨W.heap.size,by simp[upd],a.lt,_,_,_,_,_,_,au W _⟩⟩
  apply eH
  case hE=>rfl
  case hb=>exact sx
  case h=>
   intro vs W a hd;obtain⟨k,n,Ll,x0,x1,x2,x3,x4,x5,D⟩:=hd ⟨10,.data⟩ (cH.2 ⟨ar,rfl⟩) rfl rfl;obtain⟨Z,f1,f2,f3,f4,f5⟩:=bf D;have fz:=tO D;rw[n];go_simp;refine⟨⟨(cM ab).trans a.box,Below.zQ a.low ab _ _ _ _ _ _⟩,λq E=>?_,bp⟩;by_cases e:q=k
   .subst e;exact⟨_,_,_,_,_,_,nC D⟩
   .obtain⟨_,_,_,_,_,_,E⟩:=E;exact⟨_,_,_,_,_,_,(cM e).trans E⟩
  refine cP λvs W a hd=>?_;have R:=bb a;clear a hd
  rcases g with⟨b,d⟩|⟨rfl,d,h2⟩
  .subst d;have hfb:(r != 0)=true:=by simpa using b
   clear b;go_wp2;refine aI (v:=ec #[ed none 0 0,ea eh 0,eg false,ea eh r]) ?_ rfl ⟨rfl,R.out.low⟩;simp[aJ,b1,go_sem]
  .have IM:Hid (∀W,ai PL 27 #[ea eh m] W λe w'=>e=el (eg false)/\W=w'):=bb λW=>by rw[<-d];exact Cs m W
   subst h2;clear d
   go_wp2_with (go_at_call 27;refine(IM.out _).mono ?_;rintro e w'⟨rfl,rfl⟩)
   refine aI (v:=ec #[ed none 0 0,ea eh 0,eg false,ea eh 1]) ?_ rfl ⟨rfl,R.out.low⟩;simp[aJ,b1,go_sem]
def amv(C:CD)(s m:Int)(w:ag)(h:C.At w):ai PL 6 #[eb C.val,ea eh s,ea eh m] w λe w'=>∃v l L f,e=el (ec #[v,ea eh L,eg f,ea eh (j8 C s m)])/\bB w' v l/\bA w w'/\NI C s m l L f:=by
 by_cases hf:j8 C s m=0
 .obtain⟨hc,hs,a⟩:=ahw hf;refine(amo C s m w h hc hs a).mono ?_;rintro e w'⟨b,c,l,L,f,rfl,d,g,i⟩;exact⟨_,l,L,f,by rw[hf],d,g,ej ⟨hf,i⟩⟩
 .exact(agz C s m w h hf).mono λe w'⟨j,k⟩=>⟨_,[],0,false,j,⟨none,0,rfl,bp⟩,k,ek ⟨hf,rfl,rfl,rfl⟩⟩
def eRR(j:Nat):Bool:=j != 3&&j != 5&&j != 6&&j != 7&&j != 8&&j != 9&&j != 10
def ahx(K:List Int)(s:Int)(Q:ag->ac->Int->Prop)(j:Nat)(vs:Nat->ac)(W:ag):Prop:=
 (j=3->bB W (vs 3) K)/\(j=5->bB W (vs 5) [s])/\(j=6->∃v m,vs 6=ec #[v,ea eh m]/\Q W v m)/\(j=7->vs 7=vs 6/\∃v m,vs 7=ec #[v,ea eh m])/\(j=8->∀v m,vs 7=ec #[v,ea eh m]->vs 8=v)/\(j=9->∀v m,vs 7=ec #[v,ea eh m]->vs 9=ea eh m)/\(j=10->vs 10=vs 8)
def ahx.le{K:List Int}{s:Int}{Q:ag->ac->Int->Prop}{j:Nat}{vs:Nat->ac}{W a:ag}(c:∀W a v m,bA W a->Q W v m->Q a v m)(h:ahx K s Q j vs W)(b:bA W a):ahx K s Q j vs a:=
 ⟨λe=>(h.1 e).on b,λe=>(h.2.1 e).on b,λe=>by obtain⟨v,m,d,f⟩:=h.2.2.1 e;exact⟨v,m,d,c _ _ _ _ b f⟩,h.2.2.2⟩
def al8(C:CD)(s m:Int)(w:ag)(h:C.At w):ai PL 7 #[eb C.val,ea eh s,ea eh m] w λe w'=>∃v l L f,e=el (ec #[v,ea eh L,eg f,ea eh (j8 C s m)])/\bB w' v l/\bA w w'/\NI C s m l L f:=by
 have J:=bb h;have d:Hid (KB C w (w.alloc (ei C.val 27))):=bb ⟨au _ _,(bi _ _).alloc (bq _) _⟩;have RC:Hid (∀W,C.At W->ai PL 32 #[eb C.val] W (aO (ea eh C.cx) W)):=bb λW O=>rK C W O;have AM:Hid (∀W,ai PL 34 #[ea eh m] W λe w'=>e=el (ea eh (if bO m 0 999 then 0 else 1))/\W=w'):=bb λW=>agZ m W;by_cases hc:C.cx=0
 case neg=>
  have c:j8 C s m=C.cx:=by simp[j8,CD.b6,hc]
  have u:Hid (NI C s m [] 0 false):=bb (ek ⟨by rw[c];exact hc,rfl,rfl,rfl⟩);rw[c];obtain⟨fo,P⟩:=br C.cx;rw[<-P]at RC hc ⊢;have hfb:(fo != 0)=true:=by simpa using hc
  clear h c P hc AM;go_enter (fx ao b8),b9;obtain⟨g,i,k,q,f4,r⟩:=bf d.out.box
  go_wp2_with (go_at_call 32;(with_reducible refine(RC.out _ (J.out.below d.out.low)).mono ?_);rintro e w1⟨rfl,a⟩;have t:=bb (d.out.on a);clear a g i k q f4 r)
  refine aI (v:=ec #[ed none 0 0,ea eh 0,eg false,ea eh fo]) ?_ rfl ⟨_,[],0,false,rfl,⟨none,0,rfl,bp⟩,t.out.low,u.out⟩;simp[aJ,ca,go_sem]
 have Q:=bb hc;have hp6:=nq hc;rw[hc]at RC
 cases y:bO s 0 (C.p-1) with
 |false=>
  have c:j8 C s m=6:=by simp[j8,CD.b6,hc,y]
  have u:Hid (NI C s m [] 0 false):=bb (ek ⟨by rw[c];decide,rfl,rfl,rfl⟩);have IN:Hid (∀W,ai PL 33 #[ea eh s,ea eh 0,ea eh (C.p-1)] W λe w'=>e=el (eg false)/\W=w'):=bb λW=>vQ y W;rw[c];clear h c hc AM y;go_enter (fx ao b8),b9;obtain⟨g,i,k,q,f4,r⟩:=bf d.out.box
  go_wp2_with (first
   |(go_at_call 32;(with_reducible refine(RC.out _ (J.out.below d.out.low)).mono ?_);rintro e w1⟨rfl,a⟩;have t:=bb (d.out.on a);clear a g i k q f4 r;obtain⟨g,i,k,q,f4,r⟩:=bf t.out.box)
   |(go_at_call 33;refine(IN.out _).mono ?_;rintro e w'⟨rfl,rfl⟩))
  refine aI (v:=ec #[ed none 0 0,ea eh 0,eg false,ea eh 6]) ?_ rfl ⟨_,[],0,false,rfl,⟨none,0,rfl,bp⟩,t.out.low,u.out⟩;simp[aJ,ca,go_sem]
 |true=>
  have IN:Hid (∀W,ai PL 33 #[ea eh s,ea eh 0,ea eh (C.p-1)] W λe w'=>e=el (eg true)/\W=w'):=bb λW=>kH y W
  cases M:bO m 0 999 with
  |false=>
   have c:j8 C s m=1:=by simp[j8,CD.b6,hc,y,M]
   have u:Hid (NI C s m [] 0 false):=bb (ek ⟨by rw[c];decide,rfl,rfl,rfl⟩);rw[M]at AM;simp only[Bool.false_eq_true,if_false]at AM;rw[c];clear h c hc y M;go_enter (fx ao b8),b9;obtain⟨g,i,k,q,f4,r⟩:=bf d.out.box
   go_wp2_with (first
    |(go_at_call 32;(with_reducible refine(RC.out _ (J.out.below d.out.low)).mono ?_);rintro e w1⟨rfl,a⟩;have t:=bb (d.out.on a);clear a g i k q f4 r;obtain⟨g,i,k,q,f4,r⟩:=bf t.out.box)
    |(go_at_call 33;refine(IN.out _).mono ?_;rintro e w'⟨rfl,rfl⟩)
    |(go_at_call 34;refine(AM.out _).mono ?_;rintro e w'⟨rfl,rfl⟩))
   refine aI (v:=ec #[ed none 0 0,ea eh 0,eg false,ea eh 1]) ?_ rfl ⟨_,[],0,false,rfl,⟨none,0,rfl,bp⟩,t.out.low,u.out⟩;simp[aJ,ca,go_sem]
  |true=>
   have c:j8 C s m=0:=by simp[j8,CD.b6,hc,y,M]
   have hs:0<=s/\s<C.p:=by
    simp only[bO,aa,decide_eq_true_eq]at y;omega
   rw[M]at AM;simp only[if_true]at AM;rw[c];have HR:=bb c;have Z:=bb hs;obtain⟨KL,z⟩:=br (C.clL m C.n4);have HKM:Hid (∀x,x∈KL↔C.Cl m x):=bb λx=>by rw[z];exact aht C m x C.n4
   have HKN:Hid (KL.length<=1000):=bb (by rw[z];have:=adS h m C.n4 (bq _);have:=h.m4;omega);have CL:Hid (∀W,C.At W->ai PL 36 #[eb C.val,ea eh m] W λe w'=>∃v,e=el v/\bB w' v KL/\bA W w'):=bb λW O=>by rw[z];exact ah1 C m W O Q.out
   have WY:Hid (∀W vk U,C.At W->bB W vk KL->bB W U [s]->ai PL 35 #[eb C.val,vk,U] W λe w'=>∃v n,e=el (ec #[v,ea eh n])/\bA W w'/\ace (C.edge (C.Cl m)) 6 [s] s w' v n):=bb λW vk U O V E=>
    ano Q.out HKM.out HKN.out 6 [s] s [] W vk U rfl (by have:=KD (L:=[]) Z.out.1 (by have:=nq Q.out;have:=Z.out;omega) ar;have e:abM []=6:=ao;rw[List.nil_append]at this;omega) ar Z.out O V E
   clear h c hc y M hs z;go_enter (fx ao b8),b9;obtain⟨g,i,k,q,f4,r⟩:=bf d.out.box
   go_upto_region 9 with(first
    |(go_at_call 32;(with_reducible refine(RC.out _ (J.out.below d.out.low)).mono ?_);rintro e w1⟨rfl,a⟩;have t:=bb (d.out.on a);clear a g i k q f4 r;obtain⟨g,i,k,q,f4,r⟩:=bf t.out.box)
    |(go_at_call 33;refine(IN.out _).mono ?_;rintro e w'⟨rfl,rfl⟩)
    |(go_at_call 34;refine(AM.out _).mono ?_;rintro e w'⟨rfl,rfl⟩))
   clear g i k q f4 r;have R:∀W A v m',bA W A->ace (C.edge (C.Cl m)) 6 [s] s W v m'->ace (C.edge (C.Cl m)) 6 [s] s A v m':=λW A v m' a h=>h.imp id fun⟨V,E,l,N,X⟩=>⟨V,E,l,N,X.on a⟩
   refine cT 11 (KB C w) (λW A=>bA W A) eRR (ahx KL s (ace (C.edge (C.Cl m)) 6 [s] s)) rfl ae ae
    (λj vs W A hle h=>h.le R hle) (λj o B vs Y W F hd h=>⟨λe=>?_,λe=>?_,λe=>?_,λe=>?_,λe=>?_,λe=>?_,λe=>?_⟩) ?_ ?_
   .subst e;rw[<-F];exact h.1 rfl
   .subst e;rw[<-F];exact h.2.1 rfl
   .subst e;rw[<-F];exact h.2.2.1 rfl
   .subst e;have H:vs 6=Y 6:=by
     simp only[ch,ci,cl,dp]at B;subst B;exact hd ⟨6,.data⟩ (cH.2 ⟨ar,rfl⟩)
    rw[<-F,<-H];exact h.2.2.2.1 rfl
   .subst e;have H:vs 7=Y 7:=by
     simp only[ch,ci,cl,dp]at B;subst B;exact hd ⟨7,.data⟩ (cH.2 ⟨ar,rfl⟩)
    rw[<-F,<-H];exact h.2.2.2.2.1 rfl
   .subst e;have H:vs 7=Y 7:=by
     simp only[ch,ci,cl,dp]at B;subst B;exact hd ⟨7,.data⟩ (cH.2 ⟨ar,rfl⟩)
    rw[<-F,<-H];exact h.2.2.2.2.2.1 rfl
   .subst e;have H:vs 8=Y 8:=by
     simp only[ch,ci,cl,dp]at B;subst B;exact hd ⟨8,.data⟩ (cH.2 ⟨ar,rfl⟩)
    rw[<-F,<-H];exact h.2.2.2.2.2.2 rfl
   .exact t.out.on (bi _ _).drew
   .iterate 3 (
     apply aY
     case hE=>rfl
     case h=>
      intro vs W b hd;obtain⟨g,i,k,q,f4,r⟩:=bf b.box;go_simp
      first|exact⟨rfl,b,bi _ _⟩|exact⟨rfl,bi _ _⟩
     case hb=>exact sx)
    apply eH
    case hE=>rfl
    case hb=>exact sx
    case h=>
     intro vs W b hd;go_simp
     go_at_call 36
     (with_reducible refine(CL.out _ (J.out.below b.low)).mono ?_)
     rintro e A⟨v,rfl,hR,a⟩;exact⟨_,rfl,b.on a,a,⟨λ_=>by simpa[upd]using hR,bp,bp,bp,bp,bp,bp⟩⟩
    apply aY
    case hE=>rfl
    case h=>
     intro vs W b hd;go_simp
     first|exact⟨rfl,b,bi _ _⟩|exact⟨rfl,bi _ _⟩
    case hb=>exact sx
    apply eH
    case hE=>rfl
    case hb=>exact sx
    case h=>
     intro vs W b hd;go_simp;have a:=(bi W.heap.size W).alloc (bq _) (ei #[ea eh s] 3);refine⟨b.on a,a,⟨bp,λ_=>?_,bp,bp,bp,bp,bp⟩⟩;simp only[upd,if_pos]
     exact⟨_,_,rfl,λ_=>⟨W.heap.size,0,rfl,ar,λj hj=>by
      obtain rfl:j=0:=by simpa using hj
      exact aL _ _ _ 0 _ rfl⟩⟩
    apply eH
    case hE=>rfl
    case hb=>exact sx
    case h=>
     intro vs W b hd;have N:=(hd ⟨3,.data⟩ (cH.2 ⟨ar,rfl⟩) rfl).1 rfl;have h5:=(hd ⟨5,.data⟩ (cH.2 ⟨ar,rfl⟩) rfl).2.1 rfl;go_simp
     go_at_call 35
     (with_reducible refine(WY.out W _ _ (J.out.below b.low) N h5).mono ?_)
     rintro e A⟨v,n,rfl,a,hR⟩;exact⟨_,rfl,b.on a,a,⟨bp,bp,λ_=>⟨v,n,by simp[upd],hR⟩,bp,bp,bp,bp⟩⟩
    apply eH
    case hE=>rfl
    case hb=>exact sx
    case h=>
     intro vs W b hd;obtain⟨v,n,S,_⟩:=(hd ⟨6,.data⟩ (cH.2 ⟨ar,rfl⟩) rfl).2.2.1 rfl;go_simp;exact⟨bi _ _,⟨bp,bp,bp,λ_=>⟨by simp[upd,S],v,n,by simp[upd,S]⟩,bp,bp,bp⟩⟩
    iterate 2 (
     apply eH
     case hE=>rfl
     case hb=>exact sx
     case h=>
      intro vs W b hd;obtain⟨_,v,n,D⟩:=(hd ⟨7,.data⟩ (cH.2 ⟨ar,rfl⟩) rfl).2.2.2.1 rfl;rw[D];go_simp
      exact⟨bi _ _,⟨bp,bp,bp,bp,λe=>by first|exact absurd e ao|(intro v2 m2 I;simp[upd]at I ⊢;rw[D]at I;cases I;rfl),λe=>by first|exact absurd e ao|(intro v2 m2 I;simp[upd]at I ⊢;rw[D]at I;cases I;rfl),bp⟩⟩)
    apply eH
    case hE=>rfl
    case hb=>exact sx
    case h=>
     intro vs W b hd;go_simp;exact⟨bi _ _,⟨bp,bp,bp,bp,bp,bp,λ_=>by simp[upd]⟩⟩
    refine cP λvs W b hd=>?_;obtain⟨v,n,S,T⟩:=(hd 6 ab rfl).2.2.1 rfl;have D:=((hd 7 ab rfl).2.2.2.1 rfl).1;rw[S]at D;have h8:=(hd 8 ab rfl).2.2.2.2.1 rfl _ _ D;have h9:=(hd 9 ab rfl).2.2.2.2.2.1 rfl _ _ D;have tI:=(hd 10 ab rfl).2.2.2.2.2.2 rfl;rw[tI,h8,h9];have K5:=bb b;have R5:=bb T;clear S D h8 h9 tI T hd b R
    go_upto_region 10 with fail
    rcases R5.out with⟨rfl,E⟩|⟨V,E,l,N,X⟩
    .have u:Hid (NI C s m [] 0 false):=bb (ej ⟨HR.out,ej ⟨rfl,E.EZ (yd Q.out),rfl,rfl⟩⟩);clear E
     go_wp2_with fail
     refine aI (v:=ec #[ed none 0 0,ea eh 0,eg false,ea eh 0]) ?_ rfl ⟨_,[],0,false,rfl,⟨none,0,rfl,bp⟩,K5.out.low,u.out⟩;simp[aJ,ca,go_sem]
    .have u:Hid (NI C s m l n true):=bb (ej ⟨HR.out,ek ⟨rfl,N.EZ (yd Q.out)⟩⟩);have H4:=bb X;clear N X
     go_wp2_with fail
     refine aI (v:=ec #[v,ea eh n,eg true,ea eh 0]) ?_ rfl ⟨_,l,n,true,rfl,H4.out,K5.out.low,u.out⟩;simp[aJ,ca,go_sem]
end Go.Proofs
namespace Go.Proofs
open Go.RowKit
def chT:List Int->List (List Int)
 |[]=>[]
 |x::xs=>([]::chT xs).map (λy=>x::y)++chT xs
def chs(l:List Int):List (List Int):=[]::chT l
def Z0(p:Nat):List Int:=(co p).map fun(i:Nat)=>(i:Int)
def j9(l:List Int):Nat:=(l.map λx=>2 ^ x.toNat).sum
def aav(C:CD):List (List Int)->List Int->List Int
 |[],b=>b
 |x::xs,b=>aav C xs (if x.length<b.length/\aaD C x=true then x else b)
def amw:((co 7).all λp=>(chs (Z0 p)).all λl=>pJ (j9 l) 6==l&&decide (j9 l<2 ^ p)&&(l.length != p||j9 l==2 ^ p-1))=true:=by decide +kernel
def anr:((co 7).all λp=>(co (2 ^ p)).all λt=>(chs (Z0 p)).contains (pJ t 6))=true:=by decide +kernel
def ans:((co 7).all λp=>decide ((chs (Z0 p)).Pairwise λa b=>a.length=b.length->P0 (j9 a)<P0 (j9 b)))=true:=by decide +kernel
def amx:((co 7).all λp=>Z0 p==pJ (2 ^ p-1) 6&&j9 (Z0 p)==2 ^ p-1&&(Z0 p).length==p)=true:=by decide +kernel
def al9:((co 64).all λs=>j9 (pJ s 6)==s)=true:=by decide +kernel
def key_inj:((co 64).all λs=>(co 64).all λt=>decide (P0 s=P0 t->s=t))=true:=by decide +kernel
section
variable {C:CD}{p:Nat}(hp:p<=6)
include hp
def aez{l:List Int}(h:l∈chs (Z0 p)):pJ (j9 l) 6=l/\j9 l<2 ^ p/\(l.length=p->j9 l=2 ^ p-1):=by
 have:=List.all_eq_true.1 (List.all_eq_true.1 amw p (List.mem_range.2 ab)) l h;simp only[aa,beq_iff_eq,decide_eq_true_eq,Bool.or_eq_true,bne_iff_ne,ne_eq]at this;exact⟨this.1.1,this.1.2,λe=>this.2.resolve_left λq=>q e⟩
def amy:Z0 p=pJ (2 ^ p-1) 6/\j9 (Z0 p)=2 ^ p-1/\(Z0 p).length=p:=by
 have:=List.all_eq_true.1 amx p (List.mem_range.2 ab);simp only[aa,beq_iff_eq]at this;exact⟨this.1.1,this.1.2,this.2⟩
def ahy{a b:List Int}(c:pJ (j9 a) 6=a)(hb:pJ (j9 b) 6=b)(ha':j9 a<2 ^ p)(d:j9 b<2 ^ p)(h:a.length<b.length):P0 (j9 a)<P0 (j9 b):=by
 have e:=aho hp;have:=akv anb (j9 a) (j9 b) ab ab;simp only[aa,decide_eq_true_eq,c,hb]at this;exact this.1 h
def anT(C:CD)(p:Nat)(a:List (List Int))(b:List Int):Prop:=aaD C b=true/\(b=Z0 p\/b∈a)/\∀x∈a,aaD C x=true->P0 (j9 b)<=P0 (j9 x)
def ac0:∀(rest a:List (List Int))(b:List Int),a++rest=chs (Z0 p)->anT C p a b->anT C p (chs (Z0 p)) (aav C rest b)
 |[],a,b,e,h=>by rw[List.append_nil]at e;rw[<-e];exact h
 |x::rest,a,b,e,⟨l,c,g⟩=>by
  have i:∀y,y∈a++[x]->y∈chs (Z0 p):=λy hy=>by rw[<-e];simp only[cq,ct,List.not_mem_nil,or_false]at hy ⊢;rcases hy with hy|hy;exact ek hy;exact ej (ek hy)
  obtain⟨x1,x2,x3⟩:=aez hp (i x ar);have o:=bu p;obtain⟨j,k⟩:pJ (j9 b) 6=b/\j9 b<2 ^ p:=by
   rcases c with rfl|c
   .obtain⟨u1,u2,_⟩:=amy hp;exact⟨by rw[u2];exact u1.symm,ab⟩
   .have:=aez hp (i b (cB _ c));exact⟨this.1,this.2.1⟩
  rw[aav];refine ac0 rest (a++[x]) _ (by rw[<-e];simp) ?_;by_cases d:x.length<b.length/\aaD C x=true
  .rw[if_pos d];have q:=ahy hp x1 j x2 k d.1;refine⟨d.2,ej ar,λy hy hc=>?_⟩
   rcases List.mem_append.1 hy with hy|hy
   .have:=g y hy hc;omega
   .rw[List.mem_singleton.1 hy];exact bq _
  .rw[if_neg d];refine⟨l,c.imp id λh=>cB _ h,λy hy hc=>?_⟩
   rcases List.mem_append.1 hy with hy|hy
   .exact g y hy hc
   .rw[List.mem_singleton.1 hy]at hc ⊢;have m:b.length<=x.length:=by
     apply Classical.byContradiction;intro h;exact d ⟨ab,hc⟩
    by_cases n:b.length<x.length
    .exact bv (ahy hp j x1 k x2 n)
    .have heq:b.length=x.length:=ab
     rcases c with rfl|c
     .obtain⟨_,u2,u3⟩:=amy hp;rw[u2,x3 ab];exact bq _
     .have f:=List.all_eq_true.1 ans p (List.mem_range.2 ab);simp only[decide_eq_true_eq]at f;rw[<-e]at f;exact bv ((List.pairwise_append.1 f).2.2 b c x ar heq)
def amz(h:agW C p):aav C (chs (Z0 p)) (Z0 p)=(qC C p (2 ^ p)).getD []:=by
 have m:=aho hp;have n:=bu p;obtain⟨u1,u2,u3⟩:=amy hp;have a:aaD C (Z0 p)=true:=by rw[u1,abC hp h ab];exact agb hp h
 obtain⟨f,c,g⟩:=ac0 (C:=C) hp (chs (Z0 p)) [] (Z0 p) rfl ⟨a,ek rfl,λx i=>by cases i⟩;generalize aav C (chs (Z0 p)) (Z0 p)=b at *;have hb:pJ (j9 b) 6=b/\j9 b<2 ^ p:=by
  rcases c with rfl|c
  .exact⟨by rw[u2];exact u1.symm,ab⟩
  .have:=aez hp c;exact⟨this.1,this.2.1⟩
 rcases acu C hp (2 ^ p) (bq _) with⟨_,d⟩|⟨s,j,d,k,l⟩
 .have:=d (2 ^ p-1) ab;rw[agb hp h]at this;cases this
 .rw[d];have k1:P0 s<=P0 (j9 b):=l _ hb.2 (by rw[<-abC hp h ab,hb.1];exact f);have e:pJ s 6∈chs (Z0 p):=by
   have:=List.all_eq_true.1 (List.all_eq_true.1 anr p (List.mem_range.2 ab)) s (List.mem_range.2 j);simpa using this
  have k2:=g _ e (by rw[abC hp h ab];exact k);obtain⟨c1,o,_⟩:=aez hp e;have cs:j9 (pJ s 6)=s:=by
   have:=List.all_eq_true.1 al9 s (List.mem_range.2 ab);simpa using this
  rw[cs]at k2;have:=akv key_inj s (j9 b) ab ab;simp only[decide_eq_true_eq]at this;rw[show j9 b=s from(this ab).symm]at hb;exact hb.1.symm
end
end Go.Proofs
namespace Go
section
variable {P:aP}{ops:Array aT}{C:Bool->ag->Prop}{Le:ag->ag->Prop}{Φ:Bool->Nat->(Nat->ac)->ag->Prop}{X:Nat->Nat->ac->ac->Prop}{a:Act}{Q:Exit->Act->ag->Prop}
def aeB(k:Nat){w:ag}(m:Nat)(C:Bool->ag->Prop)(Le:ag->ag->Prop)(E:Nat->Bool)(Φ:Bool->Nat->(Nat->ac)->ag->Prop)(X:Nat->Nat->ac->ac->Prop)(R:∀i j u v,X i j u v->X j i v u)(S:dq ops=true)(T:k<=ops.size/\Late ops k)
 (U:E m=false) (Y:∀b i vs W p,Le W p->Φ b i vs W->Φ b i vs p) (y:∀(i:Nat)(o:aT),ops[i]?=some o->∀vs q W,vs i=q i->(∀e∈o.dz,vs e.on=q e.on)->∀b,Φ b i vs W->Φ b i q W) (r:C false w.drew)
 (H:cr P ops m C Le E Φ X (λ_ b W=>a7 P ops Q (ops.toList.drop k) b W) 0 (ops.toList.take k) λ_=>a):wpAny P .any ops Q ops.size (dx ops.size false) a w.drew:=by
 have s:=Ro S;obtain⟨Z,hL⟩:=T;obtain⟨V,L,M⟩:=ny U Y (ops.toList.take k) 0 _ (λj d=>aS) H;have FH:0+(ops.toList.take k).length=k:=by simp;omega
 rw[FH]at L M;have hd:cO ops (dx ops.size false)=[]:=by
  refine List.filter_eq_nil_iff.2 λi hi=>?_;have:=List.mem_range.1 hi;simp[this]
 have start:=Cj (P:=P) (a:=a) (Q:=Q) (m:=m) (C:=C) (X:=λi j u v=>E i=false->E j=false->X i j u v) (Φ:=λb i vs W=>(E i=true->vs i=V i)/\(∀o,ops[i]?=some o->∀e∈o.dz,E e.on=true->vs e.on=V e.on)/\(E i=false->Φ b i vs W)) s hL Z (λi j u v h d hi=>R _ _ _ _ (h hi d))
  (λi o g vs q W e1 e2 b h=>⟨λe=>e1▸h.1 e,λo' l e f n=>aS,λe=>y i o g vs q W e1 e2 b (h.2.2 e)⟩) (λi o g z vs W D A B r N F I sB hd hP=>?_) (λvs W A B r FL hP=>?_) ops.size (dx ops.size false) (λ_=>undef) w.drew ar (by
   rw[List.countP_eq_length.2]
   .simp
   .intro i hi;have:=List.mem_range.1 hi
    simp[this]) (by have e:(dx ops.size false).getD m false=false:=(by rw[dC,Array.getElem?_replicate];split<;>rfl);rw[e];exact r) (by rw[hd];intro i hi;cases hi) (by rw[hd];intro i hi;cases hi) (by rw[hd];intro i hi;cases hi) (λi _ hi=>by simp[hi])
 .rw[hd]at start;exact start
 .obtain⟨bj,g1,g2⟩:=L i o (bC _) z g;have vz:∀k∈D,vR E V vs k=vs k:=λk c=>by
   unfold vR;grind
  have J:∀e∈o.dz,vR E V vs e.on=vs e.on:=λe f=>vz _ (N e f);have hb:=g1 (vR E V vs) a (λk _ f=>by simp[vR,f]) rfl;have x:∀k∈D,∀b W,Φ b k (vR E V vs) W↔Φ b k vs W:=λk c b W=>by
   have l:ops[k]?=some ops[k]!:=by simp[I k c]
   grind
  have:=g2 (vR E V vs) W D A B r N F sB (λk c n=>(x k c _ W).2 ((hd k c).2.2 n)) (λj d k c Wk K O=>aS);rw[hb]at this;refine nu ?_ (Nk s g J this);rintro v p⟨a1,a2,a3,a4,a5⟩;refine⟨a2,λk c=>⟨(hd k c).1,(hd k c).2.1,λn=>(x k c _ p).1 (a3 k c n)⟩,⟨λe=>by simp[upd,a1 e],λo' l e f n=>?_,λe=>?_⟩,λk c O hiE=>aS⟩
  .rw[g]at l;cases l;have:=(s.edge i o g e f).1;simp only[upd];grind
  refine y i o g _ _ p (by simp[upd]) (λe' Xo=>?_) _ (a4 e);have:=(s.edge i o g e' Xo).1;simp only[upd];grind
 .have hv:∀j,j<k->vR E V vs j=vs j:=λj d=>by
   unfold vR;grind
  rw[<-yA (vs:=vR E V vs) _ _ λj d=>hv j (List.mem_range.1 d)];refine M (vR E V vs) W a (λk _ f=>by simp[vR,f]) rfl A B r (λj d n=>?_) (λj k d c Wk K O=>aS);have l:ops[j]?=some ops[j]!:=aS;refine y j _ l vs _ W (hv j d).symm (λe f=>(hv e.on (by have:=(s.edge j _ l e f).1;omega)).symm) _ ((FL j d).2.2 n)
end
def Oper.ant{P:aP}{o:aT}{a:Act}{w:ag}{K:Act->ag->Prop}{Q:Exit->Act->ag->Prop}{t:Nat}(hd:o.dst≠some t)(h:o.wp P a w K Q):o.wp P a w (λa' w'=>K a' w'/\a'.tmps.getD t undef=a.tmps.getD t undef) Q:=by
 have f:∀(b:Act)v,b.tmps=a.tmps->(b.put o.dst v).tmps.getD t undef=a.tmps.getD t undef:=λb v e=>by
  unfold Act.put
  cases g:o.dst with
  |none=>simp[e]
  |some d=>
   have:d≠t:=λe=>hd (by rw[g,e]);simp[e,dC,dL,this]
 unfold dQ at *;generalize(a8 a.eval o).run P w=r at *
 cases r with
 |ok n w'=>
  cases n<;>simp only[dT]at h⊢<;>
   first
    |exact⟨h,f _ _ rfl⟩
    |exact Calls.mono h (λe i c=>by cases e<;>first|exact⟨c,f _ _ rfl⟩|exact c)
    |exact Rows.mono h (λ_ _ c=>⟨c,f _ _ rfl⟩)
    |exact h
 |halt x w'=>cases x<;>simp only[dT]at h⊢<;>exact h
def L0(ops:Array aT)(v:ac):Array aT:=(match ops.toList with|[]=>[]|o::l=>{ o with op:=.move (.const v) }::l).toArray
section
variable {P:aP}{ops:Array aT}{Q:Exit->Act->ag->Prop}{t:Nat}{v:ac}
def ahA(i:Nat)(hi:i≠0):(L0 ops v)[i]?=ops[i]?:=by
 obtain⟨l⟩:=ops
 cases l with
 |nil=>rfl
 |cons o l=>
  obtain⟨j,rfl⟩:∃j,i=j+1:=⟨i-1,ab⟩
  simp[L0]
def acw{o:aT}(h:ops[0]?=some o):(L0 ops v)[0]?=some { o with op:=.move (.const v) }:=by
 obtain⟨l⟩:=ops
 cases l with
 |nil=>cases h
 |cons o l=>cases h;rfl
def acy:(L0 ops v).size=ops.size:=by
 obtain⟨l⟩:=ops;cases l<;>simp[L0]
def ala(h:ops[0]?=none):(L0 ops v)[0]?=none:=by
 obtain⟨l⟩:=ops
 cases l with
 |nil=>rfl
 |cons o l=>cases h
def agA{b:Type}(f:aT->b)(hf:∀(o:aT)op,f { o with op:=op }=f o)(i:Nat):((L0 ops v)[i]?).map f=(ops[i]?).map f:=by
 by_cases hi:i=0
 .subst hi
  cases h:ops[0]? with
  |none=>rw[ala h]
  |some o=>rw[acw h];simp[hf]
 .rw[ahA i hi]
def abr(tmps:Array ac):a9 (L0 ops v) tmps=a9 ops tmps:=by
 funext j;unfold a9;have:=agA (ops:=ops) (v:=v) (λo=>o.dst) (λ_ _=>rfl) j;cases b:(L0 ops v)[j]?<;>cases c:ops[j]?<;>simp_all
def ac1(listed:Array Bool):dt .any (L0 ops v) listed=dt .any ops listed:=by
 unfold dt;rw[acy];refine List.filter_congr λi _=>?_;rw[agA (λo=>o.after.all λe=>!du .any e||listed.getD e.on false) (λ_ _=>rfl) i]
def ac2{o:aT}(q:ops[0]?=some o)(A:o.op=.move (.tmp t))(hg:o.dst≠some t)(hl:∀(i:Nat)(o':aT),ops[i]?=some o'->o'.dst=some t->∃e∈o'.after,du .any e=true/\e.on=0):∀(fuel:Nat)(listed:Array Bool)(a:Act)(w:ag),0<listed.size->(listed.getD 0 true=false->a.tmps.getD t undef=v)->wpAny P .any (L0 ops v) Q fuel listed a w->wpAny P .any ops Q fuel listed a w
 |0,listed,a,w,_,_,h=>by
  rw[wpAny]at h⊢;rwa[ac1]at h
 |fuel+1,listed,a,w,r,hv,h=>by
  rw[wpAny]at h⊢;rw[ac1]at h;refine⟨h.1,λi hi=>?_⟩;have b:=h.2 i hi;have n:listed.getD i true=false/\∀o',ops[i]?=some o'->∀e∈o'.after,du .any e=true->listed.getD e.on false=true:=by
   unfold dt at hi;have:=(List.mem_filter.1 hi).2;simp only[aa,Bool.not_eq_true']at this;refine⟨this.1,λo' D e s hb=>?_⟩;have u:=this.2;rw[D]at u;simp only[Option.map_some,Option.getD_some,Array.all_eq_true_iff_forall_mem]at u;have:=u e s;simpa[hb]using this
  have l:∀c w',(listed.getD 0 true=false->i≠0->c.tmps.getD t undef=v)->wpAny P .any (L0 ops v) Q fuel (listed.setIfInBounds i true) c w'->wpAny P .any ops Q fuel (listed.setIfInBounds i true) c w':=λc w' E g=>by
   refine ac2 q A hg hl fuel _ c w' (by simpa using r) (λe=>?_) g;by_cases m:i=0
   .subst m;simp[dC,r]at e
   .refine E ?_ m;simpa[dC,dL,m]using e
  unfold wpOp at b ⊢;by_cases m:i=0
  .subst m;rw[acw q,abr]at b;rw[q];have F:a.tmps.getD t undef=v:=hv n.1;simp only at b ⊢;have B:a8 a.eval { o with op:=.move (.const v) }=a8 a.eval o:=by
    unfold a8;simp only[A];simp[Act.eval,F]
   split
   .rename_i j;have x:dv { o with op:=.move (.const v) } (a9 ops a.tmps)=true:=j;rw[if_pos x]at b;refine b.imp (λk=>?_) λk=>?_
    .have k2:dT P o a (wpAny P .any (L0 ops v) Q fuel (listed.setIfInBounds 0 true)) Q ((a8 a.eval o).run P w):=by
      rw[<-B];exact k
     exact dU (λc w' g=>l c w' (λ_ e=>absurd rfl e) g) k2
    .unfold Oper.asks at k ⊢;rw[B]at k;exact k
   .rename_i j;have x:¬dv { o with op:=.move (.const v) } (a9 ops a.tmps)=true:=j;rw[if_neg x]at b;exact l _ _ (λ_ e=>absurd rfl e) b
  .rw[ahA i m,abr]at b
   cases f:ops[i]? with
   |none=>
    rw[f]at b;exact l a w (λe _=>hv e) b
   |some o'=>
    rw[f]at b;simp only at b ⊢;have p:listed.getD 0 true=false->o'.dst≠some t:=λe hd=>by
     obtain⟨H,s,hb,y⟩:=hl i o' f hd;have:=n.2 o' f H s hb;rw[y]at this;rw[dC]at this e;have:listed[0]?=some listed[0]:=by simp[r]
     simp_all
    split
    .rename_i j;rw[if_pos j]at b;refine b.imp (λk=>?_) id;by_cases e:listed.getD 0 true=false
     .exact dU (λc w' g=>l c w' (λ_ _=>g.2.trans (hv e)) g.1) (Oper.ant (p e) k)
     .exact dU (λc w' g=>l c w' (λI _=>absurd I e) g) k
    .rename_i j;rw[if_neg j]at b;refine l _ _ (λe _=>?_) b;rw[<-hv e];have:=p e;unfold Act.put
     cases z:o'.dst with
     |none=>rfl
     |some d=>
      have:d≠t:=λe=>this (by rw[z,e]);simp[dC,dL,this]
def abH(k:Nat){id:Nat}{a:Act}{w:ag}(t:Nat)(v:ac)(C:ag->Prop)(Le:ag->ag->Prop)(E:Nat->Bool)(Φ:Nat->(Nat->ac)->ag->Prop)(n:P.follows .mixedOrders=true){o:aT}(g:ops[0]?=some o)(d:o.op=.move (.tmp t))(hg:o.dst≠some t)
 (f:(ops.toList.all λo'=>o'.dst != some t||o'.after.toList.any λe=>du .any e&&e.on==0)=true) (hv:a.tmps.getD t undef=v) (p:dq (L0 ops v)=true) (q:Region.Kk (L0 ops v) k=true)
 (l:∀i vs W m,Le W m->Φ i vs W->Φ i vs m) (r:∀(i:Nat)(o:aT),(L0 ops v)[i]?=some o->∀vs c W,vs i=c i->(∀e∈o.dz,vs e.on=c e.on)->Φ i vs W->Φ i c W) (s:C w.drew)
 (H:cL P (L0 ops v) C Le E Φ (λ_ b W=>a7 P (L0 ops v) Q ((L0 ops v).toList.drop k) b W) 0 ((L0 ops v).toList.take k) λ_=>a):(Code.region id ops true).wp P Q a w:=by
 have hl:∀(i:Nat)(o':aT),ops[i]?=some o'->o'.dst=some t->∃e∈o'.after,du .any e=true/\e.on=0:=λi o' hi hd=>by
  have:=List.all_eq_true.1 f o' (by simpa using Array.mem_of_getElem? hi);simp only[hd,bne_self_eq_false,Bool.false_or,List.any_eq_true,aa,beq_iff_eq]at this;obtain⟨e,u,x⟩:=this;exact⟨e,by simpa using u,x⟩
 refine wp_region_any n ?_;have h:=aeB (P:=P) (Q:=Q) (a:=a) (w:=w) k (L0 ops v).size (λ_=>C) Le (λj=>E j&&decide (j<(L0 ops v).size)) (λ_=>Φ) (λ_ _ _ _=>True) (λ_ _ _ _ _=>trivial) p (Kl q) ar (λ_=>l) (λi o d vs c W e1 y _=>r i o d vs c W e1 y) s
  (uH l _ _ _ (by simp;omega) H)
 rw[acy]at h;refine ac2 g d hg hl _ _ _ _ ?_ (λ_=>hv) h;have:=(Array.getElem?_eq_some_iff.1 g).1;simpa using this
end
end Go
namespace Go.Proofs
open Go.RowKit Go.Shelf
attribute [local go_sem] Oper.semAt_some
def amB(q:Nat):Z0 (q+1)=Z0 q++[(q:Int)]:=by simp[Z0,List.range_succ]
def abt(q:Nat):(Z0 q).length=q:=by simp[Z0]
def amC(p:Nat)(l:p<=6)(w:ag):ai PL 39 #[ea eh p] w λe w'=>∃v,e=el v/\H8 w' v (Z0 p)/\bA w w':=by
 go_enter (fx ao Tryz.func39),Tryz.ntmps39;go_wp2
 go_loopw [3,4] (λi a wr=>∃q:Nat,q<=p/\a=ea eh q/\eO 3 wr w.heap.size i (Z0 q)/\bA w wr) (λ_ a _=>p-(intOf a).toNat)
 case atStart=>exact⟨0,bC _,rfl,⟨rfl,ek ⟨rfl,rfl⟩⟩,bi _ _⟩
 case round=>
  obtain⟨q,m,rfl,f,b⟩:=hrel;have g:=bb f;have h:=bb b;have n:=b.size;have c:=bb (abt q);clear f b;by_cases j:q<p
  .have o:(q:Int)<p:=ab
   go_wp2_with (at_builtin;refine Fb VF VG rfl _ _ rfl w.heap.size _ _ (q:Int) wr.heap.size rfl (g.out.alloc _) rfl (aL _ _ _ 0 _ rfl) (by rw[c.out];omega) (by simp;omega) ?_;intro v' w4 k d)
   exact⟨⟨q+1,j,zq,by rw[amB];exact k,(h.out.alloc ab _).trans d⟩,qk⟩
  .obtain rfl:q=p:=ab;go_wp2;go_ret;exact⟨_,rfl,tw.alW g.out,h.out⟩
def abu(W:ag)(v:ac)(ls:List (List Int)):Prop:=∃b c,v=ed b ls.length c/\(0<ls.length->∃k o,b=some ⟨k,o,none⟩/\k<W.heap.size/\∀j,j<ls.length->∃b' a,W.cell? ⟨k,o+j,none⟩=some (ed b' (ls.getD j []).length a)/\bB W (ed b' (ls.getD j []).length a) (ls.getD j []))
def abu.on{W d:ag}{v:ac}{ls:List (List Int)}(h:abu W v ls)(a:bA W d):abu d v ls:=by
 obtain⟨b,c,e,h⟩:=h;refine⟨b,c,e,λg=>?_⟩;obtain⟨k,o,e1,f,hc⟩:=h g;refine⟨k,o,e1,bL f a.size,λj i=>?_⟩;obtain⟨b',l,m,n⟩:=hc j i;exact⟨b',l,(a.cell (p:=⟨k,o+j,none⟩) f).trans m,n.on a⟩
def G0(W:ag)(base:Nat)(v:ac)(ls:List (List Int)):Prop:=∃us:List ac,W.ownsRow base 30 1 v ls.length us/\us.length=ls.length/\∀j,j<ls.length->∃b' a,us[j]?=some (ed b' (ls.getD j []).length a)/\bB W (ed b' (ls.getD j []).length a) (ls.getD j [])/\(0<(ls.getD j []).length->∀k o,b'=some ⟨k,o,none⟩->base<=k/\some k≠v.ownBlock)
def G0.on{W b:ag}{base:Nat}{v:ac}{ls:List (List Int)}(h:G0 W base v ls)(c:bA W b):G0 b base v ls:=by
 obtain⟨us,⟨d,h⟩,e,f⟩:=h;refine⟨us,⟨d,?_⟩,e,λj i=>(f j i).imp λb' h=>h.imp λl h=>⟨h.1,h.2.1.on c,h.2.2⟩⟩
 rcases h with h|⟨g,cap,a,e1,hb,hg,k⟩
 .exact ek h
 .exact ej ⟨g,cap,a,e1,hb,(c.block _ (d8 hg)).trans hg,k⟩
def G0.reads{W:ag}{base:Nat}{v:ac}{ls:List (List Int)}(h:G0 W base v ls):abu W v ls:=by
 obtain⟨us,⟨l,h⟩,m,b⟩:=h
 rcases h with⟨rfl,c⟩|⟨g,cap,d,rfl,hb,hg,hc,n,hs,e⟩
 .exact⟨none,0,by rw[c],λh=>ab⟩
 .refine⟨_,_,rfl,λ_=>⟨g,0,rfl,d8 hg,λj f=>?_⟩⟩;obtain⟨b',i,a,k,_⟩:=b j f;refine⟨b',i,?_,k⟩;rw[<-e,List.getElem?_take_of_lt ab,Array.getElem?_toList]at a;simp only[d9,hg,bM];exact a
def G0.keep{W a:ag}{base:Nat}{v:ac}{ls:List (List Int)}(h:G0 W base v ls)(c:∀k,base<=k->k<W.heap.size->a.heap[k]?=W.heap[k]?)(hs:W.heap.size<=a.heap.size):G0 a base v ls:=by
 obtain⟨us,⟨l,h⟩,m,n⟩:=h;refine⟨us,⟨l,?_⟩,m,λj p=>?_⟩
 .rcases h with h|⟨g,cap,b,e1,hb,hg,r⟩
  .exact ek h
  .exact ej ⟨g,cap,b,e1,hb,(c g hb (d8 hg)).trans hg,r⟩
 .obtain⟨b',d,e1,⟨w,x,e,s⟩,f⟩:=n j p;cases e;refine⟨b',d,e1,⟨b',d,rfl,λt=>?_⟩,f⟩;obtain⟨k,o,e,i,hcell⟩:=s t;refine⟨k,o,e,bL i hs,λq u=>?_⟩;rw[<-hcell q u];simp only[d9];rw[c k (f ab k o e).1 i]
def agB{W:ag}{base:Nat}{v:ac}{ls:List (List Int)}(h:G0 W base v ls):∃b c,v=ed b ls.length c:=by
 obtain⟨b,c,e,_⟩:=h.reads;exact⟨b,c,e⟩
def ap3:PL.underlying 98=some (.slice 30):=ae
def arv:(PL.info? 30).map (λi=>(i.zero,i.size,i.bytes))=some (some (ed none 0 0),1,24):=ae
def agC{e:TypeId}{z:ac}{c a:Nat}(h:(PL.info? e).map (λi=>(i.zero,i.size,i.bytes))=some (some z,c,a)):∃b,PL.info? e=some b/\b.zero=some z/\b.size=c/\b.bytes=a:=by
 cases hi:PL.info? e with
 |none=>rw[hi]at h;cases h
 |some i=>rw[hi]at h;simp at h;exact⟨i,rfl,h⟩
def aeC{ops:Array aT}{rest:List aT}{o:aT}{a:Act}{Q:Exit->Act->ag->Prop}{w:ag}(E:o.guard=none)(s x:Operand)
 (F:o.op=.call { callee:=.builtin .append,args:=#[s,x],argTypes:=#[98,98] }) (base:Nat) (v:ac) (ls:List (List Int)) (l:List Int) (g:Nat) (b':Option aF) (c':Nat) (hs:a.eval s=v) (i:G0 w base v ls)
 (H:a.eval x=ed (some ⟨g,0,none⟩) 1 1) (hc:w.cell? ⟨g,0,none⟩=some (ed b' l.length c')) (I:bB w (ed b' l.length c') l) (r:0<l.length->∀k o,b'=some ⟨k,o,none⟩->base<=k/\some k≠v.ownBlock) (hl:ls.length<=1000) (A:base<=w.heap.size)
 (h:∀v' w',G0 w' base v' (ls++[l])->w.grownBy w' v.ownBlock->(v'.ownBlock=v.ownBlock\/v'.ownBlock=some w.heap.size)->Below base w w'->a7 PL ops Q rest (a.put o.dst v') w'):a7 PL ops Q (o::rest) a w:=by
 obtain⟨us,i,B,t⟩:=i;obtain⟨J,hi,L,M,N⟩:=agC arv;have y:∀q u,[Value.slice b' l.length c'][q]?=some u->w.cell? ((⟨g,0,none⟩:aF).add q)=some u:=λq u e=>by
  match q,e with
  |0,e=>cases e;exact hc
 obtain⟨v',w',O,R,n,_,c⟩:=run_append_own_at (P:=PL) w base 98 o.type 30 J (ed none 0 0) 1 24 ap3 hi L M N rfl ao v ls.length us i ⟨g,0,none⟩ 1 1 [ed b' l.length c'] rfl y (by simp[Value.oneCell']) (by simp only[maxLen];omega) ab A;have keep:∀{m:List Int}{b:Option aF}{d:Nat},bB w (ed b m.length d) m->(0<m.length->∀k o,b=some ⟨k,o,none⟩->base<=k/\some k≠v.ownBlock)->bB w' (ed b m.length d) m/\(0<m.length->∀k o,b=some ⟨k,o,none⟩->base<=k/\some k≠v'.ownBlock):=λ{m b d}k1 k2=>by
  obtain⟨W,c3,e,k3⟩:=k1;cases e;refine⟨⟨b,d,rfl,λf=>?_⟩,λf k o e=>?_⟩
  .obtain⟨k,o,e,p,hcell⟩:=k3 f;refine⟨k,o,e,bL p n.size,λj t=>?_⟩;rw[<-hcell j t];simp only[d9];rw[n.block k p (k2 f k o e).2]
  .obtain⟨k',X,C,p,_⟩:=k3 f;rw[e]at C;cases C;refine⟨(k2 f k o e).1,?_⟩
   rcases c with c|c
   .rw[c];exact(k2 f k o e).2
   .rw[c];intro h;cases h;exact absurd p (bR _)
 refine wpList_plain E λK S=>?_;unfold dQ;simp[a8,F,resolve,invoke,builtin,hs,H,O,Result.andThen];refine S _ _ (h v' w' ⟨us++[ed b' l.length c'],by rw[cC];exact R,by simp[B],λj T=>?_⟩ n c ((bi base w).grown n A (cZ i)));by_cases D:j<ls.length
 .obtain⟨b,d,e1,U,V⟩:=t j D;have z:(ls++[l]).getD j []=ls.getD j []:=by simp[cQ,c8 D]
  rw[z];obtain⟨k1,k2⟩:=keep U V;exact⟨b,d,by rw[c8 ab];exact e1,k1,k2⟩
 .obtain rfl:j=ls.length:=by simp at T;omega
  have z:(ls++[l]).getD ls.length []=l:=by simp[cQ]
  rw[z];obtain⟨k1,k2⟩:=keep I r;exact⟨b',c',by rw[<-B];simp,k1,k2⟩
def chP(l:List Int):Nat->List (List Int)
 |0=>[]
 |i+1=>chP l i++(chs (l.drop (i+1))).map λy=>l.getD i 0::y
def agD(x:Int)(xs:List Int):∀i,chP (x::xs) (i+1)=((chs xs).map λy=>x::y)++chP xs i
 |0=>by simp[chP]
 |i+1=>by rw[chP,agD x xs i,chP,c9];rfl
def ahB:∀l,chP l l.length=chT l
 |[]=>rfl
 |x::xs=>by rw[da,agD,ahB xs];rfl
def ahC:∀l,(chs l).length=2 ^ l.length
 |[]=>rfl
 |x::xs=>by
  have:=ahC xs;simp only[chs,chT,da,cC,db]at this⊢;rw[Nat.pow_succ];omega
def ah3{l:List Int}(h:l.length<=6):(chs l).length<=64:=by
 rw[ahC];exact Nat.pow_le_pow_right (show 0<2 by omega) h
def SH:∀(l:List Int)y,y∈chs l->y.length<=l.length
 |[],y,h=>by simp only[chs,chT,List.mem_singleton]at h;rw[h];exact bq _
 |x::xs,y,h=>by
  simp only[chs,chT,ct,cq,List.mem_map]at h
  rcases h with rfl|⟨z,h,rfl⟩|h
  .exact bC _
  .have:=SH xs z (by rw[chs];rcases h with rfl|h;exact List.mem_cons_self;exact dc _ h);simp only[da];omega
  .have:=SH xs y (by rw[chs];exact dc _ h);simp only[da];omega
def ahD{l:List Int}(h:l.length<=6):∀i,(chP l i).length<=64*i
 |0=>bC _
 |i+1=>by
  have:=ahD h i;have:=ah3 (l:=l.drop (i+1)) (by simp;omega);rw[chP,cC,db];omega
def ah4{W:ag}{g m c:Nat}{x:Int}{ad:Option aF}{l:List Int}(hg:W.heap[g]?=some (ei #[ea eh x] 3 (0,0)))(hl:l.length=m)(d:bB W (ed ad m c) l)(F:m<=1000) :
 ∃b' c' f,(Builtin.append_ #[30,30] 30 #[ed (some ⟨g,0,none⟩) 1 1,ed ad m c]).run PL W=.ok (ed (some ⟨b',0,none⟩) (m+1) c') f/\bA W f/\bB f (ed (some ⟨b',0,none⟩) (m+1) c') (x::l)/\(b'=g\/b'=W.heap.size):=by
 obtain⟨i,hi,z,n,A⟩:=info_parts RE;have B:g<W.heap.size:=d8 hg;subst hl
 rcases Nat.eq_zero_or_pos l.length with r|r
 .have C:l=[]:=List.eq_nil_of_length_eq_zero r;subst C
  have one:∀f:ag,f.heap[g]?=some (ei #[ea eh x] 3 (0,0))->bB f (ed (some ⟨g,0,none⟩) 1 1) [x]:=λf h=>⟨_,_,rfl,λ_=>⟨g,0,rfl,d8 h,λj p=>by
   obtain rfl:j=0:=by simpa using p
   simp[d9,h]⟩⟩
  cases ad with
  |none=>
   have d:=P2 (P:=PL) (w:=W) g 30 30 3 i 1 Rz hi (ed (some ⟨g,0,none⟩) 1 1) 1 [ea eh x] ⟨rfl,ej ⟨g,1,_,rfl,bq _,hg,bq _,by simp[maxLen],rfl,rfl⟩⟩ c;exact⟨g,1,W,d,bi _ _,one W hg,ek rfl⟩
  |some a=>
   have d:=run_append_room (P:=PL) W 30 30 3 i Rz hi g 1 1 #[ea eh x] hg a 0 c [] ar (λj u e=>by cases e) (λu e=>by cases e) (bq _) (by rw[n];simp);have e1:(W.setRow g (#[ea eh x].toList.take (1*i.size)++[] ++ #[ea eh x].toList.drop (1*i.size+([]:List ac).length)).toArray).heap[g]?=some (ei #[ea eh x] 3 (0,0)):=by
    rw[setRow_heap W g _ _ 3 _ hg,n];rfl
   refine⟨g,1,_,d,⟨rfl,rfl,rfl,by simp[World.setRow],λk D=>?_⟩,one _ e1,ek rfl⟩;by_cases e:k=g
   .subst e;rw[e1,hg]
   .exact setRow_other W g k _ e
 .obtain⟨b,H,e,hcell⟩:=d;cases e;obtain⟨k,o,rfl,D,hc⟩:=hcell r
  have d:=run_append_grow (P:=PL) W 30 30 3 i (ea eh 0) Rz hi z ⟨g,0,none⟩ 1 1 [ea eh x] (by rw[n];rfl) (λq u e=>by
   match q,e with
   |0,e=>cases e;show W.cell? ⟨g,0,none⟩=_;simp[d9,hg]) ⟨k,o,none⟩ l.length c (l.map λy=>ea eh y) (by rw[n];simp) (λj u t=>by
   rw[List.getElem?_map]at t;obtain⟨y,ey,rfl⟩:=Option.map_eq_some_iff.1 t;have p:j<l.length:=(List.getElem?_eq_some_iff.1 ey).1;rw[show(⟨k,o,none⟩:aF).add j=⟨k,o+j,none⟩ by simp[Addr.add],hc j ab];show some (ea eh (l.getD j 0))=_
   rw[cQ,ey];rfl) ab ab (by rw[A];exact growslice_fits ab ab)
  rw[Nat.add_comm 1 l.length]at d;have v:=heap_alloc_new W.drew (ei (#[ea eh x]++(l.map λy=>ea eh y).toArray++Builtin.zeroCells (ea eh 0).cells (grownCap W (l.length+1) 1 3-(l.length+1))) 3);refine⟨W.heap.size,grownCap W (l.length+1) 1 3,_,d,⟨rfl,rfl,rfl,ar,λq E=>heap_alloc_old W.drew _ E⟩,⟨_,_,by rw[da],λ_=>⟨W.heap.size,0,rfl,ar,λj p=>?_⟩⟩,ej rfl⟩;have I:j<l.length+1:=by simpa using p
  simp only[d9,bM];rw[show(W.drew).heap.size=W.heap.size from rfl]at v;rw[v]
  cases j with
  |zero=>simp[dO]
  |succ j=>
   have s:j<l.length:=ab;simp[dO,s,cQ]
def ahE(base m:Nat)(x:Int)(y:List Int)(j:Nat)(vs:Nat->ac)(W:ag):Prop:=
 (j=5->∃g,vs 5=ed (some ⟨g,0,none⟩) 1 1/\base<=g/\W.heap[g]?=some (ei #[ea eh x] 3 (0,0)))/\
 (j=10->∃b c,vs 10=ed (some ⟨b,0,none⟩) (m+1) c/\base<=b/\bB W (ed (some ⟨b,0,none⟩) (m+1) c) (x::y))/\
 (j=11->∃g b c,vs 11=ed (some ⟨g,0,none⟩) 1 1/\g<W.heap.size/\W.cell? ⟨g,0,none⟩=some (ed (some ⟨b,0,none⟩) (m+1) c)/\base<=b/\bB W (ed (some ⟨b,0,none⟩) (m+1) c) (x::y))
def ahE.le{base m:Nat}{x:Int}{y:List Int}{j:Nat}{vs:Nat->ac}{W d:ag}(h:ahE base m x y j vs W)(a:bA W d):ahE base m x y j vs d:=
 ⟨λe=>(h.1 e).imp λg k=>⟨k.1,k.2.1,(a.block _ (d8 k.2.2)).trans k.2.2⟩,λe=>(h.2.1 e).imp λb k=>k.imp λc k=>⟨k.1,k.2.1,k.2.2.on a⟩,
  λe=>by
   obtain⟨g,b,c,i,f,l,n,o⟩:=h.2.2 e
   exact⟨g,b,c,i,bL f a.size,(a.cell (p:=⟨g,0,none⟩) f).trans l,n,o.on a⟩⟩
def agE:∀(n:Nat)(l:List Int)(v:ac)(w:ag),l.length=n->n<=6->H8 w v l->ai PL 40 #[v] w λe w'=>∃u,e=el u/\G0 w' w.heap.size u (chs l)/\bA w w':=by
 intro n
 induction n using Nat.strongRecOn with
 |ind n ih=>
  intro l v w hn h6 hv;have IH:=bb ih;have RV:=bb hv;have L:=bb hn;obtain⟨⟨b,c,rfl,hcell⟩,O⟩:=hv;have arx:l.length<=c:=O;rw[hn]at arx hcell RV ⊢;clear O;have HC:=bb hcell;clear ih hn hcell;go_enter (fx ao Tryz.func40),Tryz.ntmps40;go_wp2;obtain⟨W1,mG⟩:=br (w.alloc (ei #[ed none 0 0] 30))
  have O1:Hid (G0 W1 w.heap.size (ed (some ⟨w.heap.size,0,none⟩) 1 1) ([]::chP l 0)):=bb (by
   rw[mG];refine⟨[ed none 0 0],⟨rfl,ej ⟨w.heap.size,1,#[ed none 0 0],rfl,bq _,au w _,by simp[chP],by simp[maxLen],rfl,rfl⟩⟩,rfl,λj hj=>?_⟩;obtain rfl:j=0:=by simp[chP]at hj;omega
   exact⟨none,0,rfl,⟨none,0,rfl,λh=>absurd h (bR 0)⟩,λh=>absurd h (bR 0)⟩)
  have B1:Hid (bA w W1):=bb (by rw[mG];exact(bi _ _).alloc (bq _) _);rw[<-mG];clear mG
  go_loopw [3,4,5,6] (λP v4 v5 v6 wr=>∃i:Nat,i<=n/\v4=ea eh i/\G0 wr w.heap.size P ([]::chP l i)/\bA w wr) (λ_ v4 _ _ _=>n-(intOf v4).toNat)
  case atStart=>exact⟨0,bC _,rfl,O1.out,B1.out⟩
  case round=>
   obtain⟨i,hi,rfl,hO,a⟩:=hrel;have HO:=bb hO;have HB:=bb a;have fW:=a.size;clear hO a;by_cases aH:i<n
   .have i2:(i:Int)<n:=ab;have i3:(i:Int)+1<=n:=ab;have i5:(i:Int)+1<=c:=ab;obtain⟨k1,r,rfl,zz,lp⟩:=HC.out ab;have X0:Hid (∀W,bA w W->W.cell? ⟨k1,r+i,none⟩=some (ea eh (l.getD i 0))):=bb λW a=>(a.cell (p:=⟨k1,r+i,none⟩) zz).trans (lp i ab);have Q:Hid (∀W,bA w W->H8 W (ed (if c=i+1 then some (⟨k1,r,none⟩:aF) else some ⟨k1,r+(i+1),none⟩) (n-(i+1)) (c-(i+1))) (l.drop (i+1))):=bb λW a=>by
     have hdl:(l.drop (i+1)).length=n-(i+1):=by rw[dd,L.out]
     refine⟨⟨_,_,by rw[hdl],λvI=>?_⟩,by show n-(i+1)<=c-(i+1);omega⟩;rw[if_neg ab];refine⟨k1,r+(i+1),rfl,bL zz a.size,λj hj=>?_⟩;refine(a.cell (p:=⟨k1,r+(i+1)+j,none⟩) zz).trans ?_;show w.cell? ⟨k1,r+(i+1)+j,none⟩=_;rw[show r+(i+1)+j=r+(i+1+j) by omega,lp (i+1+j) ab];simp[cQ]
    clear lp;obtain⟨d,s⟩:=br (chs (l.drop (i+1)));have R:Hid (ai PL 40 #[ed (if c=i+1 then some (⟨k1,r,none⟩:aF) else some ⟨k1,r+(i+1),none⟩) (n-(i+1)) (c-(i+1))] wr λe w'=>∃u,e=el u/\G0 w' wr.heap.size u d/\bA wr w'):=bb (by rw[s];exact IH.out (n-(i+1)) ab (l.drop (i+1)) _ wr (by rw[dd,L.out]) ab (Q.out wr HB.out));have HRY:Hid (∀q,q<d.length->(d.getD q []).length<=1000):=bb λq S=>by
     rw[s]at S ⊢;have F:(chs (l.drop (i+1))).getD q []∈chs (l.drop (i+1)):=by rw[cQ,df S];exact dk S
     have:=SH _ _ F;rw[dd,L.out]at this;omega
    have T:Hid (d.length<=64):=bb (by rw[s];exact ah3 (by rw[dd,L.out];omega));have U:Hid (chP l (i+1)=chP l i++d.map λy=>l.getD i 0::y):=bb (by rw[s,chP]);clear s Q
    go_upto_region 5 with fail
    go_cut [5] from 14 to 18 (λv5 wx=>G0 wx wr.heap.size v5 d/\bA wr wx)
    case first=>
     by_cases V:c=i+1
     .subst V;rw[if_pos rfl,Nat.sub_self,show n-(i+1)=0 by omega]at R
      go_wp2_with (go_at_call 40;(with_reducible refine R.out.mono ?_);rintro e w2⟨u,rfl,A,t⟩)
      go_meet
      case rel=>exact⟨A,t⟩
     .rw[if_neg V]at R
      go_wp2_with (go_at_call 40;(with_reducible refine R.out.mono ?_);rintro e w2⟨u,rfl,A,t⟩)
      go_meet
      case rel=>exact⟨A,t⟩
    obtain⟨A,t⟩:=hcut;have RO:=bb A;have RB:=bb t;clear A t R i3 i5
    go_wp2_with fail
    obtain⟨x,hx⟩:=br (l.getD i 0);rw[<-hx]at X0 U;have HOC:=bb (HO.out.on RB.out);have HBC:=bb (HB.out.trans (RB.out.mono fW));obtain⟨ow,how⟩:=br u3.ownBlock;have HOW:Hid (∀k,ow=some k->k<wr.heap.size):=bb λk e=>by
     rw[how]at e;obtain⟨us,⟨_,h⟩,_⟩:=HO.out
     rcases h with⟨rfl,_⟩|⟨g,cap,cur,rfl,_,hg,_⟩
     .cases e
     .cases e;exact d8 hg
    have arz:=ahD (show l.length<=6 by have:=L.out;omega) i;have HPL:Hid ((chP l i).length<=400):=bb ab;clear hx arz;obtain⟨Wq,rfl⟩:=br wr
    go_loopw [3,6] (λP v6 H=>∃q:Nat,q<=d.length/\v6=ea eh q/\G0 H w.heap.size P ([]::chP l i++(d.take q).map λy=>x::y)/\bA w H/\(∀k,Wq.heap.size<=k->k<wc.heap.size->H.heap[k]?=wc.heap[k]?)/\wc.heap.size<=H.heap.size/\(P.ownBlock=ow\/∃k,P.ownBlock=some k/\wc.heap.size<=k)) (λ_ v6 _=>d.length-(intOf v6).toNat)
    case atStart=>exact⟨0,bC _,rfl,by simpa using HOC.out,HBC.out,λ_ _ _=>rfl,bq _,ek how.symm⟩
    case round=>
     obtain⟨q,S,rfl,X,qA,I,yp,JF⟩:=hrel;have RQ:=bb (RO.out.keep I yp);have O2:=bb X;have B2:=bb qA;have K2:=bb I;have H:=bb JF;have S2:=bb yp;obtain⟨b5,c5,e5⟩:=agB RQ.out;subst e5;have B:=qA.size;clear X qA I JF yp;obtain⟨m,F⟩:=br d.length;rw[<-F]at S ⊢;have HM:=bb F;have aCm:m<=64:=by have:=T.out;omega
     by_cases Nh:q<m
     .have iq:(q:Int)<m:=ab;obtain⟨b5',Ke,e5,h5⟩:=RQ.out.reads;cases e5;obtain⟨k5,o5,rfl,hk5,Y⟩:=h5 ab;obtain⟨b6,c6,C,D⟩:=Y q ab;obtain⟨y,hy⟩:=br (d.getD q []);rw[<-hy]at C D;obtain⟨z,E⟩:=br y.length;rw[<-E]at C D;have C6:Hid (∀W,bA wr W->W.cell? ⟨k5,o5+q,none⟩=some (ed b6 z c6)/\bB W (ed b6 z c6) y):=bb λW a=>⟨(a.cell (p:=⟨k5,o5+q,none⟩) hk5).trans C,D.on a⟩
      have J:Hid (y.length=z/\z<=1000):=bb ⟨E.symm,by rw[E,hy];exact HRY.out q (by rw[<-F];exact Nh)⟩
      have HY:Hid (d.take (q+1)=d.take q++[y]):=bb (by
       have Ym:q<d.length:=by rw[<-F];exact Nh
       rw[List.take_add_one,df Ym,hy]
       simp[cQ,Ym])
      clear Y h5 C D F hy E
      go_upto_region 9 with fail
      refine abH 12 3 u3 (λW=>bA wr W) (λW W'=>bA W W') (λj=>j != 5&&j != 10&&j != 11) (ahE wr.heap.size z x y) rfl rfl rfl ao ae rfl ae ae
       (λj vs W W' hle h=>h.le hle) (λj o ho vs eX W he hd h=>⟨λe=>?_,λe=>?_,λe=>?_⟩) ?_ ?_
      .subst e;rw[<-he];exact h.1 rfl
      .subst e;rw[<-he];exact h.2.1 rfl
      .subst e;rw[<-he];exact h.2.2 rfl
      .exact(bi _ _).drew
      .dsimp only[L0]
       iterate 5 (
        apply aY
        case hE=>rfl
        case h=>
         intro vs W f hd;have x0:=X0.out W (bm B2.out (f.mono B));go_simp
         first|exact⟨rfl,f,bi _ _⟩|exact⟨rfl,bi _ _⟩
        case hb=>exact sx)
       apply eH
       case hE=>rfl
       case hb=>exact sx
       case h=>
        intro vs W f hd;go_simp;have a:=(bi W.heap.size W).alloc (bq _) (ei #[ea eh x] 3);exact⟨Below.on f a,a,λ_=>⟨W.heap.size,by simp[upd],f.size,au W _⟩,bp,bp⟩
       iterate 4 (
        apply aY
        case hE=>rfl
        case h=>
         intro vs W f hd;obtain⟨c6a,c6b⟩:=C6.out W f;clear c6b;go_simp
         first|exact⟨rfl,f,bi _ _⟩|exact⟨rfl,bi _ _⟩
        case hb=>exact sx)
       apply eH
       case hE=>rfl
       case hb=>exact sx
       case h=>
        intro vs W f hd;obtain⟨g,hg,ve,hgc⟩:=(hd ⟨5,.data⟩ (cH.2 ⟨ar,rfl⟩) rfl).1 rfl;obtain⟨b',M,W',hr,a,N,hor⟩:=ah4 hgc J.out.1 (C6.out W f).2 J.out.2;unfold fC;rw[if_pos (by rfl)];unfold a8;simp only[resolve,invoke,builtin,Sem.run_bind,Sem.run_pure,Result.andThen_ok,List.map_toArray,List.map_cons,List.map_nil];show qf PL _ (((Builtin.append_ #[30,30] 30 #[vs 5,ed b6 z c6]).run PL W).andThen _);rw[hg,hr];refine⟨Below.on f a,a,bp,λ_=>⟨b',M,by simp[upd],?_,N⟩,bp⟩
        rcases hor with rfl|rfl
        .exact ve
        .exact f.size
       apply eH
       case hE=>rfl
       case hb=>exact sx
       case h=>
        intro vs W f hd;obtain⟨b',M,hv,hb,N⟩:=(hd ⟨10,.data⟩ (cH.2 ⟨ar,rfl⟩) rfl).2.1 rfl;rw[hv];go_simp;have a:=(bi W.heap.size W).alloc (bq _) (ei #[ed (some ⟨b',0,none⟩) (z+1) M] 30);refine⟨Below.on f a,a,bp,bp,λ_=>⟨W.heap.size,b',M,by simp[upd],ar,aL _ _ _ 0 _ rfl,hb,N.on a⟩⟩
       refine cP λvs W f hd=>?_;obtain⟨g,b',M,hv,hgl,sB,hb,N⟩:=(hd 11 ab rfl).2.2 rfl;rw[hv];have hbl:wr.heap.size<=b':=hb;have Z:=bb sB;have HRR:=bb N;have K:=bb f;have hcs:=f.size;clear sB N f hd hv;have OWB:Hid (∀k,u3.ownBlock=some k->k<wr.heap.size):=bb λk e=>by
        obtain⟨us,⟨_,h⟩,_⟩:=O2.out
        rcases h with⟨rfl,_⟩|⟨g,cap,cur,rfl,_,hg,_⟩
        .cases e
        .cases e;exact d8 hg
       have hll:([]::chP l i++(d.take q).map λy=>x::y).length<=1000:=by
        have A:=HPL.out;have t:=T.out;simp only[cC,da,db,List.length_take];omega
       have HLL:=bb hll;clear hll;have hml:z+1=(x::y).length:=by rw[da,J.out.1]
       rw[hml]at Z HRR;clear hml;refine aeC rfl (.tmp 25) (.tmp 36) rfl w.heap.size u3 _ (x::y) g (some ⟨b',0,none⟩) M rfl (O2.out.on K.out) rfl Z.out HRR.out (λ_ k o e=>?_) HLL.out (bT B hcs) λv' w4 fO hgr arA hb4=>?_
       .cases e;exact⟨bT B hbl,λe=>by have:=OWB.out _ e.symm;omega⟩
       have avI:=bb fO;have HGR:=bb hgr;have HHB:=bb hb4;have HHW:=bb arA;clear fO hgr hb4 arA
       go_wp2_with fail
       refine⟨⟨q+1,Nh,zq,?_,(bm B2.out (K.out.mono B)).trans HHB.out,λk A t=>?_,bT S2.out (bT hcs HHB.out.size),?_⟩,qk⟩
       .rw[HY.out,List.map_append,<-c9];exact avI.out
       .have hkW:k<wr.heap.size:=bL t S2.out;rw[HGR.out.block k (bL hkW hcs) (λe=>?_),K.out.block k hkW]
        .exact K2.out k A t
        .rcases H.out with h|⟨k',h,h3⟩
         .have:=HOW.out k (by rw[<-h,e]);omega
         .rw[<-e]at h;cases h;omega
       .rcases HHW.out with h|h
        .rw[h];exact H.out
        .exact ej ⟨_,h,bT S2.out hcs⟩
     .obtain rfl:q=m:=ab;have ahz:[]::chP l i++(d.take q).map (λy=>x::y)=[]::chP l (i+1):=by
       rw[U.out,HM.out,List.take_length];rfl
      rw[ahz]at O2;clear ahz
      go_wp2_with fail
      exact⟨⟨i+1,aH,zq,O2.out,B2.out⟩,qk⟩
   .obtain rfl:i=n:=ab;have LS:chP l i=chT l:=by rw[<-L.out];exact ahB l
    rw[LS]at HO;go_wp2;go_ret;exact⟨_,rfl,HO.out,HB.out⟩
def ac3(C:CD):List Int:=if C.cx=0 then(qC C C.p.toNat (2 ^ C.p.toNat)).getD [] else[]
def ah5(C:CD)(w:ag)(h:C.At w):ai PL 9 #[eb C.val] w λe w'=>∃v,e=el (ec #[v,ea eh C.cx])/\bB w' v (ac3 C)/\bA w w':=by
 by_cases hc:C.cx=0
 .rw[ac3,if_pos hc,hc];exact Cr C w h hc
 .rw[ac3,if_neg hc];have f:=bb h;have b:Hid (KB C w (w.alloc (ei C.val 27))):=bb ⟨au _ _,(bi _ _).alloc (bq _) _⟩;have RC:Hid (∀W,C.At W->ai PL 37 #[eb C.val] W (aO (ea eh C.cx) W)):=bb λW g=>uC C W g;obtain⟨c,a⟩:=br C.cx;rw[<-a]at RC hc ⊢;have i:(c != 0)=true:=by simpa using hc
  clear h a hc;go_enter (fx ao Tryz.func9),Tryz.ntmps9;go_wp2
  go_step3
  obtain⟨j,k,l,m,f4,n⟩:=bf b.out.box
  go_wp2_with (go_at_call 37;(with_reducible refine(RC.out _ (f.out.below b.out.low)).mono ?_);rintro e w1⟨rfl,d⟩;have o:=bb (b.out.on d);clear d j k l m f4 n)
  rw[Exit.noGoto_ret];refine aI (v:=ec #[ed none 0 0,ea eh c]) ?_ rfl ⟨_,rfl,⟨none,0,rfl,bp⟩,o.out.low⟩;simp[aJ,Tryz.results9,go_sem]
def agF(C:CD)(w:ag)(h:C.At w):ai PL 10 #[eb C.val] w λe w'=>∃v,e=el (ec #[v,ea eh C.cx])/\bB w' v (ac3 C)/\bA w w':=by
 have HA:=bb h;have N:Hid (KB C w (w.alloc (ei C.val 27))):=bb ⟨au _ _,(bi _ _).alloc (bq _) _⟩;have RC:Hid (∀W,C.At W->ai PL 32 #[eb C.val] W (aO (ea eh C.cx) W)):=bb λW hW=>rK C W hW;by_cases hc:C.cx=0
 case neg=>
  rw[ac3,if_neg hc];obtain⟨fo,S⟩:=br C.cx;rw[<-S]at RC hc ⊢;have hfb:(fo != 0)=true:=by simpa using hc
  clear h S hc;go_enter (fx ao cb),cc;obtain⟨O,D,P,Q,f4,R⟩:=bf N.out.box
  go_wp2_with (go_at_call 32;(with_reducible refine(RC.out _ (HA.out.below N.out.low)).mono ?_);rintro e w1⟨rfl,a⟩;have K1:=bb (N.out.on a);clear a O D P Q f4 R)
  refine aI (v:=ec #[ed none 0 0,ea eh fo]) ?_ rfl ⟨_,rfl,⟨none,0,rfl,bp⟩,K1.out.low⟩;simp[aJ,cd,go_sem]
 obtain⟨p,hp⟩:∃p:Nat,C.p=p:=⟨C.p.toNat,by have:=cK (ck hc 0 ab);omega⟩
 have m:p<=6:=by have:=cK (ck hc 0 ab);omega
 have HF:Hid (aav C (chs (Z0 p)) (Z0 p)=ac3 C):=bb (by
  rw[ac3,if_pos hc,show C.p.toNat=p by rw[hp];rfl]
  exact amz m ⟨λi hi=>aaF hc hp hi⟩)
 obtain⟨M,T⟩:=br (ac3 C);rw[<-T]at HF ⊢;rw[hc]at RC ⊢;obtain⟨ls,U⟩:=br (chs (Z0 p));rw[<-U]at HF;have HLE:Hid (∀y∈ls,y.length<=6):=bb λy hy=>by
  rw[U]at hy;have:=SH _ _ hy;rw[abt]at this;omega
 have avJ:Hid (ls.length<=64):=bb (by rw[U];exact ah3 (by rw[abt];exact m));have UP:Hid (∀W,ai PL 39 #[ea eh p] W λe w'=>∃v,e=el v/\H8 w' v (Z0 p)/\bA W w'):=bb λW=>amC p m W;have CH:Hid (∀W v,H8 W v (Z0 p)->ai PL 40 #[v] W λe w'=>∃u,e=el u/\abu w' u ls/\bA W w'):=bb λW v hv=>by
  refine(agE p (Z0 p) v W (abt p) m hv).mono ?_;rintro e w'⟨u,rfl,h1,V⟩;exact⟨u,rfl,by rw[U];exact h1.reads,V⟩
 have CV:Hid (∀W v l,C.At W->bB W v l->l.length<=6->ai PL 41 #[eb C.val,v] W (aO (eg (aaD C l)) W)):=bb λW v l hW hv hl=>agX C hW hv ab;have X:Hid ((Z0 p).length<=6):=bb (by rw[abt];exact m);obtain⟨up,Y⟩:=br (Z0 p);rw[<-Y]at HF UP CH X;have HP:=bb hp;clear h hc T U Y hp;go_enter (fx ao cb),cc;obtain⟨O,D,P,Q,f4,R⟩:=bf N.out.box
 go_upto_region 4 with(go_at_call 32;(with_reducible refine(RC.out _ (HA.out.below N.out.low)).mono ?_);rintro e w1⟨rfl,a⟩;have K1:=bb (N.out.on a);clear a O D P Q f4 R;obtain⟨O,D,P,Q,f4,R⟩:=bf K1.out.box)
 rw[HP.out]at D
 go_upto_region 5 with(go_at_call 39;(with_reducible refine(UP.out _).mono ?_);rintro e w2⟨v1,rfl,B,a⟩;have K2:=bb (K1.out.on a);have R2:=bb B;clear a B O D P Q f4 R)
 go_upto_region 6 with(go_at_call 40;(with_reducible refine(CH.out _ _ R2.out).mono ?_);rintro e w3⟨v2,rfl,B,a⟩;have K3:=bb (K2.out.on a);have R3:=bb B;have RU:=bb (R2.out.1.on a);clear a B)
 obtain⟨n,hn⟩:=br ls.length;obtain⟨b2,c2,e2⟩:∃b c,v2=ed b n c:=by
  obtain⟨b,c,e,_⟩:=R3.out;exact⟨b,c,by rw[hn];exact e⟩
 subst e2;have E:=bb hn;have aCq:n<=64:=by rw[hn];exact avJ.out
 clear hn
 go_wp2_with fail
 go_loopw [5,7] (λv5 v7 wr=>∃(q:Nat)(f:List Int)(b:Option aF)(c:Nat),q<=n/\v7=ea eh q/\v5=ed b f.length c/\bB wr (ed b f.length c) f/\f.length<=6/\aav C (ls.drop q) f=M/\bA w3 wr) (λ_ v7 _=>n-(intOf v7).toNat)
 case atStart=>
  obtain⟨b,c,e,h⟩:=RU.out;exact⟨0,up,b,c,bC _,rfl,e,⟨b,c,rfl,h⟩,X.out,HF.out,bi _ _⟩
 case round=>
  obtain⟨q,f,b,c,hq,rfl,rfl,B,F,T,a⟩:=hrel;have RB:=bb B;have Z:=bb F;have HM:=bb T;have H:=bb a;have K4:=bb (K3.out.on a);clear B T a;by_cases aH:q<n
  .have i2:(q:Int)<n:=ab;obtain⟨b2',FB,e2,V⟩:=R3.out.on H.out;rw[<-E.out]at e2 V;cases e2;obtain⟨k2,o2,rfl,ND,hc2⟩:=V ab;obtain⟨b6,c6,r,s⟩:=hc2 q aH;obtain⟨y,hy⟩:=br (ls.getD q []);rw[<-hy]at r s;have o:q<ls.length:=by rw[<-E.out];exact aH
   have I:y.length<=6:=HLE.out y (by rw[hy,cQ,df o];exact dk o)
   have z:Hid (aav C (ls.drop q) f=aav C (ls.drop (q+1)) (if y.length<f.length/\aaD C y=true then y else f)):=bb (by
    rw[List.drop_eq_getElem_cons o,aav,hy]
    simp[cQ,o])
   have J:Hid (∀W,bA wr W->ai PL 41 #[eb C.val,ed b6 y.length c6] W (aO (eg (aaD C y)) W)):=bb λW a=>CV.out W _ y (HA.out.below (K4.out.on a).low) (s.on a) I;obtain⟨cv,hcv⟩:=br (aaD C y);rw[<-hcv]at z J;have HR6:=bb s;have HY6:=bb I;obtain⟨ny,K⟩:=br y.length;obtain⟨L,g⟩:=br f.length;have HNY:=bb K;have A:=bb g;rw[<-K]at r z J;rw[<-g]at z ⊢;have C6:Hid (∀W,bA wr W->W.cell? ⟨k2,o2+q,none⟩=some (ed b6 ny c6)):=bb λW a=>(a.cell (p:=⟨k2,o2+q,none⟩) ND).trans r;clear V hc2 r s hy o hcv K g F I
   have k:∀t:Bool,(t=true↔ny<L/\cv=true)->Hid (aav C (ls.drop (q+1)) (if t then y else f)=M):=λt ht=>bb (by
    have:=z.out.symm.trans HM.out;rw[<-this];by_cases h:ny<L/\cv=true
    .rw[if_pos h,if_pos (ht.2 h)]
    .rw[if_neg h,if_neg (λe=>h (ht.1 e))])
   by_cases hlen:ny<L
   .have i3:(ny:Int)<L:=ab;have RS:=k cv (by simp[hlen]);clear k hlen
    go_upto_region 9 with fail
    refine ig (λW=>bA wr W) (λ_ _=>True) (λ_=>true) (λ_ _ _=>True) rfl ae (λ_ _ _ _ _ _=>trivial) (λ_ _ _ _ _ _ _ _ h=>h) (bi _ _).drew ?_
    iterate 16 (
     apply aY
     case hE=>rfl
     case h=>
      intro vs W d hd;obtain⟨O,D,P,Q,f4,R⟩:=bf (K4.out.on d).box;have cc6:=C6.out W d;go_simp
      first
       |with_reducible exact rfl
       |(go_at_call 41;(with_reducible refine(J.out W d).mono ?_);rintro e W'⟨rfl,a⟩;first|exact⟨_,rfl,rfl,Below.on d a⟩|exact⟨_,rfl,rfl,Below.on d a,trivial⟩)
       |exact⟨rfl,d⟩
       |exact⟨rfl,d,trivial⟩
       |trace_state
     case hb=>exact sx)
    refine cP λvs W d hd=>?_;have j:=bb d;have cc6:=C6.out W d;clear d hd
    cases cv with
    |true=>
     go_wp2_with fail
     exact⟨⟨q+1,y,b6,c6,aH,zq,by rw[HNY.out],HR6.out.on j.out,HY6.out,by simpa using RS.out,H.out.trans (j.out.mono H.out.size)⟩,qk⟩
    |false=>
     go_wp2_with fail
     exact⟨⟨q+1,f,b,c,aH,zq,by rw[A.out],RB.out.on j.out,Z.out,by simpa using RS.out,H.out.trans (j.out.mono H.out.size)⟩,qk⟩
   .have i3:¬(ny:Int)<L:=ab;have RS:=k false (by simp[hlen]);clear k hlen
    go_upto_region 9 with fail
    refine ig (λW=>bA wr W) (λ_ _=>True) (λ_=>true) (λ_ _ _=>True) rfl ae (λ_ _ _ _ _ _=>trivial) (λ_ _ _ _ _ _ _ _ h=>h) (bi _ _).drew ?_
    iterate 16 (
     apply aY
     case hE=>rfl
     case h=>
      intro vs W d hd;have cc6:=C6.out W d;go_simp
      first
       |with_reducible exact rfl
       |exact⟨rfl,d⟩
       |exact⟨rfl,d,trivial⟩
       |trace_state
     case hb=>exact sx)
    refine cP λvs W d hd=>?_;have j:=bb d;clear d hd
    go_wp2_with fail
    exact⟨⟨q+1,f,b,c,aH,zq,by rw[A.out],RB.out.on j.out,Z.out,by simpa using RS.out,H.out.trans (j.out.mono H.out.size)⟩,qk⟩
  .obtain rfl:q=n:=ab
   have HE:Hid (f=M):=bb (by
    have:=HM.out;rw[E.out,List.drop_length]at this
    exact this)
   obtain⟨L,g⟩:=br f.length;rw[<-g];have A:=bb g;clear g F
   go_wp2_with fail
   refine aI (v:=ec #[ed b L c,ea eh 0]) ?_ rfl ⟨_,rfl,?_,K4.out.low⟩
   .simp[aJ,cd,go_sem]
   .rw[A.out,<-HE.out];exact RB.out
set_option maxHeartbeats 40000000
def NI.len{C:CD}{s m:Int}{l:List Int}{L:Int}{f:Bool}(h:NI C s m l L f):l.length<=20:=by
 rcases h with⟨_,rfl,_⟩|⟨a,h⟩
 .exact bC _
 .rcases h with⟨_,h⟩|⟨_,_,rfl,_⟩
  .obtain⟨hc,hs,_⟩:=ahw a;have:=h.six hc hs;omega
  .exact bC _
def amD(C:CD):(ac3 C).length<=20:=by
 unfold ac3;split
 .rename_i hc;have:=(nq hc).2;have:=E3 C C.p.toNat (2 ^ C.p.toNat);omega
 .exact bC _
def amE(u:∀w,ai PL 5 #[] w (aO (eg true) w))(C:CD)(s m:Int)(w:ag)(h:C.Mem w) :
 ai PL 3 #[eb C.val,ea eh s,ea eh m] w (aO (eg true) w):=by
 have E:Hid (∀W,bA w W->C.Mem W):=bb λW c=>h.below c;have r:=bb (show KB C w (w.alloc (ei C.val 27)) from⟨au _ _,(bi _ _).alloc (bq _) _⟩);have K:=bb u;have t:Hid (∀W,C.Mem W->ai PL 4 #[eb C.val] W (aO (eg (!C.small)) W)):=bb λW o=>AK C W o;clear h u
 cases hs:C.small with
 |false=>
  rw[hs]at t;simp only[Bool.not_false]at t;clear hs;go_enter (fx ao ce),cf;obtain⟨g,i,j,k,f4,n⟩:=bf r.out.box
  go_wp2_with (first
   |(go_at_call 4;refine(t.out _ (E.out _ r.out.low)).mono ?_;rintro e w1⟨rfl,y⟩;have z:=bb (r.out.on y);clear y)
   |(go_at_call 5;refine(K.out _).mono ?_;rintro e w2⟨rfl,N⟩;have A:=bb (z.out.on N);clear N))
  go_ret;exact⟨rfl,A.out.low⟩
 |true=>
  rw[hs]at t;simp only[Bool.not_true]at t;have B:Hid (∀W,bA w W->C.At W):=bb λW c=>CD.At.Ri (E.out W c) hs;clear hs;obtain⟨O,p⟩:=br (j8 C s m);obtain⟨P,q⟩:=br C.cx;obtain⟨M,D⟩:=br (ac3 C);have S:Hid (∀W,C.At W->ai PL 6 #[eb C.val,ea eh s,ea eh m] W λe w'=>∃v l L f,e=el (ec #[v,ea eh L,eg f,ea eh O])/\bB w' v l/\bA W w'/\NI C s m l L f):=bb λW o=>by rw[p];exact amv C s m W o
  have T:Hid (∀W,C.At W->ai PL 7 #[eb C.val,ea eh s,ea eh m] W λe w'=>∃v l L f,e=el (ec #[v,ea eh L,eg f,ea eh O])/\bB w' v l/\bA W w'/\NI C s m l L f):=bb λW o=>by rw[p];exact al8 C s m W o
  have U:Hid (∀W,C.At W->ai PL 9 #[eb C.val] W λe w'=>∃v,e=el (ec #[v,ea eh P])/\bB w' v M/\bA W w'):=bb λW o=>by rw[q,D];exact ah5 C W o
  have V:Hid (∀W,C.At W->ai PL 10 #[eb C.val] W λe w'=>∃v,e=el (ec #[v,ea eh P])/\bB w' v M/\bA W w'):=bb λW o=>by rw[q,D];exact agF C W o
  have Q:Hid (∀W a b(l:List Int),l.length<=20->bB W a l->bB W b l->ai PL 8 #[a,b] W (aO (eg true) W)):=bb λW a b l hl X Y=>pI _ _ l.length _ W X Y hl;have F:Hid (M.length<=20):=bb (by rw[D];exact amD C);clear p q D;go_enter (fx ao ce),cf;obtain⟨g,i,j,k,f4,n⟩:=bf r.out.box
  go_upto_region 3 with(go_at_call 4;refine(t.out _ (E.out _ r.out.low)).mono ?_;rintro e w1⟨rfl,y⟩;have z:=bb (r.out.on y);clear y g i j k f4 n;obtain⟨g,i,j,k,f4,n⟩:=bf z.out.box)
  go_upto_region 4 with(go_at_call 6;(with_reducible refine(S.out _ (B.out _ z.out.low)).mono ?_);rintro e w2⟨v1,l,L,f,rfl,d,c,hU⟩;have A:=bb (z.out.on c);have Z:=bb d;have R:=bb hU;clear d c hU g i j k f4 n;obtain⟨g,i,j,k,f4,n⟩:=bf A.out.box)
  go_upto_region 5 with(go_at_call 7;(with_reducible refine(T.out _ (B.out _ A.out.low)).mono ?_);rintro e w3⟨v2,l',L',f',rfl,d,c,hU⟩;obtain⟨rfl,rfl,rfl⟩:=R.out.unique hU;have K3:=bb (A.out.on c);have RB:=bb d;have RC:=bb (Z.out.on c);clear d c hU g i j k f4 n)
  go_upto_region 7 with(go_at_call 8;(with_reducible refine(Q.out _ _ _ _ R.out.len RC.out RB.out).mono ?_);rintro e w4⟨rfl,c⟩;have H:=bb (K3.out.on c);clear c;obtain⟨g,i,j,k,f4,n⟩:=bf H.out.box)
  go_upto_region 8 with(go_at_call 9;(with_reducible refine(U.out _ (B.out _ H.out.low)).mono ?_);rintro e w5⟨v3,rfl,d,c⟩;have I:=bb (H.out.on c);have RD:=bb d;clear d c g i j k f4 n;obtain⟨g,i,j,k,f4,n⟩:=bf I.out.box)
  go_upto_region 9 with(go_at_call 10;(with_reducible refine(V.out _ (B.out _ I.out.low)).mono ?_);rintro e w6⟨v4,rfl,d,c⟩;have K6:=bb (I.out.on c);have RE:=bb (RD.out.on c);have RF:=bb d;clear d c g i j k f4 n)
  go_wp2_with (first
   |(go_at_call 8;(with_reducible refine(Q.out _ _ _ _ F.out RE.out RF.out).mono ?_);rintro e w7⟨rfl,c⟩;have K7:=bb (K6.out.on c);clear c)
   |(go_at_call 5;refine(K.out _).mono ?_;rintro e w8⟨rfl,c⟩;have J:=Below.on K7.out.low c;clear c))
  go_ret;exact⟨rfl,J⟩
end Go.Proofs
