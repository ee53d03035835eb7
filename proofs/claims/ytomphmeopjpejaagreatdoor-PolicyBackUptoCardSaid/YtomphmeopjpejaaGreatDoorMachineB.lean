/- An abstract machine: its functions give what the calls of the program give. -/
import Derived.Test.YtomphmeopjpejaaGreatDoorMachineA
set_option linter.unusedSectionVars false
set_option linter.unusedVariables false
set_option linter.unusedSimpArgs false
namespace Go.AM
open Go.RowKit
def dm:Dg->CT
 |some e=>wks e.wr
 |none=>[]
def rdO:Dg->CT
 |some e=>e.rd
 |none=>[]
section
variable (F:FSt)(d:C8)
def FSt.appO:Dg->FSt
 |some e=>F.app d e
 |none=>F.put d ip
theorem nY {l:aq}{f:HF}{k:Nat}(h:k∉wks l):hov l f k=f k:=by
 induction l with
 |nil=>rfl
 |cons x r ih=>
  obtain ⟨t,v⟩:=x;simp only[wks,AL,not_or] at h;simp only[hov,up];rw[Ac h.1];exact ih h.2
theorem uz {l:aq}{f f':HF}{k:Nat}(h:k∈wks l):hov l f k=hov l f' k:=by
 induction l with
 |nil=>simp[wks] at h
 |cons x r ih=>
  obtain ⟨t,v⟩:=x;simp only[wks,AL] at h;simp only[hov,up];split
  ·rfl
  ·rename_i hne;exact ih (h.resolve_left hne)
theorem Zo {l l':aq}{f:HF}(h: ∀k∈wks l,k∉wks l'):hov l' (hov l f)=hov l (hov l' f):=by
 funext k
 by_cases h1:k∈wks l
 ·rw[nY (h k h1),uz h1]
 ·rw[nY (l:=l) h1]
  by_cases h2:k∈wks l'
  ·exact uz h2
  ·rw[nY h2,nY h2,nY h1]
theorem FSt.ext' {F G:FSt}(h1: ∀t,F.tm t=G.tm t)(h2: ∀k,F.hp k=G.hp k):F=G:=by
 cases F;cases G;simp only[FSt.mk.injEq];exact ⟨funext h1,funext h2⟩
theorem n9 (e:Dg)(k:Nat)(h:k∉dm e):(F.appO d e).hp k=F.hp k:=by
 cases e with
 |none=>rfl
 |some e=>exact nY h
theorem ll (e:Dg)(t:Nat)(h:d≠some t):(F.appO d e).tm t=F.tm t:=by
 cases e<;>simp[FSt.appO,FSt.put,FSt.app,h]
theorem W8 {d d':C8}{e e':Dg}(hd: ∀t,d=some t->d'≠some t)(hw: ∀k∈dm e,k∉dm e'):(F.appO d e).appO d' e'=(F.appO d' e').appO d e:=by
 refine FSt.ext' (λt=>?_) λk=>?_
 ·by_cases h1:d=some t
  ·rw[ll _ _ _ _ (hd t h1)]
   cases e<;>simp[FSt.appO,FSt.put,FSt.app,h1]
  ·rw[ll (F.appO d' e') _ _ _ h1]
   by_cases h2:d'=some t
   ·cases e'<;>simp[FSt.appO,FSt.put,FSt.app,h2]
   ·rw[ll _ _ _ _ h2,ll _ _ _ _ h1,ll _ _ _ _ h2]
 ·cases e<;>cases e'<;>simp only[FSt.appO,FSt.put,FSt.app]
  exact congrFun (Zo hw) k
end
abbrev mE:=D2
def FL:mE->(Nat->Bool)->Nat->FSt->FSt
 | [],_,_,F=>F
 |(d,e)::r,L,k,F=>FL r L (k+1) (bif L k then F.appO d e else F)
theorem y9 (t:Nat): ∀(es:mE)(L L':Nat->Bool)(k:Nat)(F F':FSt),(∀j x,es[j]? =some x->L (k+j)≠L' (k+j)->x.1≠some t)->F.tm t=F'.tm t->(FL es L k F).tm t=(FL es L' k F').tm t
 | [],_,_,_,_,_,_,h=>h
 |(d,e)::r,L,L',k,F,F',hj,h=>by
  refine y9 t r L L' (k+1) _ _ (λj x hx hne=>hj (j+1) x (by simpa using hx) (by rwa [show k+(j+1)=k+1+j from by omega])) ?_
  by_cases hl:L k=L' k
  ·rw[<-hl]
   cases L k with
   |false=>exact h
   |true=>
    dsimp only[cond]
    by_cases hd:d=some t
    ·cases e<;>simp[FSt.appO,FSt.put,FSt.app,hd]
    ·rw[ll _ _ _ _ hd,ll _ _ _ _ hd];exact h
  ·have:=hj 0 (d,e) (by simp) (by simpa using hl)
   have q: ∀(b:Bool)(G:FSt),(bif b then G.appO d e else G).tm t=G.tm t:=λb G=>by cases b;rfl;exact ll _ _ _ _ this
   rw[q,q];exact h
theorem TZ (t:Nat): ∀(es:mE)(L L':Nat->Bool)(k:Nat)(F F':FSt),(∀j x,es[j]? =some x->L (k+j)≠L' (k+j)->t∉dm x.2)->F.hp t=F'.hp t->(FL es L k F).hp t=(FL es L' k F').hp t
 | [],_,_,_,_,_,_,h=>h
 |(d,e)::r,L,L',k,F,F',hj,h=>by
  refine TZ t r L L' (k+1) _ _ (λj x hx hne=>hj (j+1) x (by simpa using hx) (by rwa [show k+(j+1)=k+1+j from by omega])) ?_
  by_cases hl:L k=L' k
  ·rw[<-hl]
   cases L k with
   |false=>exact h
   |true=>
    dsimp only[cond]
    by_cases hd:t∈dm e
    ·cases e with
     |none=>simp[dm] at hd
     |some e=>exact uz hd
    ·rw[n9 _ _ _ _ hd,n9 _ _ _ _ hd];exact h
  ·have:=hj 0 (d,e) (by simp) (by simpa using hl)
   have q: ∀(b:Bool)(G:FSt),(bif b then G.appO d e else G).hp t=G.hp t:=λb G=>by cases b;rfl;exact n9 _ _ _ _ this
   rw[q,q];exact h
theorem ue: ∀(es:mE)(L:Nat->Bool)(k i:Nat)(d:C8)(e:Dg)(F:FSt),es[i]? =some (d,e)->L (k+i)=false->
  (∀j x,es[j]? =some x->i<j->L (k+j)=true->(∀t,d=some t->x.1≠some t)/\ ∀t∈dm e,t∉dm x.2)->
  FL es (λx=>L x||x==k+i) k F=(FL es L k F).appO d e
 | [],_,_,_,_,_,_,h,_,_=>by simp at h
 |(d0,e0)::r,L,k,0,d,e,F,h,hL,hj=>by
  obtain ⟨rfl,rfl⟩:d0=d/\e0=e:=by simpa using h
  simp only[Nat.add_zero] at hL
  have push: ∀(r:mE)(k':Nat)(G:FSt),k<k'->(∀j x,r[j]? =some x->L (k'+j)=true->(∀t,d0=some t->x.1≠some t)/\ ∀t∈dm e0,t∉dm x.2)->
    FL r (λx=>L x||x==k) k' (G.appO d0 e0)=(FL r L k' G).appO d0 e0:=by
   intro r
   induction r with
   |nil=>intro k' G _ _;rfl
   |cons x r ih=>
    obtain ⟨d',e'⟩:=x;intro k' G hk hr;simp only[FL];have hne:(k'==k)=false:=by simp;omega
    rw[hne,Bool.or_false];have hr':=λj x (hx:r[j]? =some x) (hl:L (k'+1+j)=true)=>hr (j+1) x (by simpa using hx) (by rwa [show k'+(j+1)=k'+1+j from by omega])
    cases hl:L k' with
    |false=>exact ih (k'+1) G (by omega) hr'
    |true=>
     dsimp only[cond];obtain ⟨q1,q2⟩:=hr 0 (d',e') (by simp) (by simpa using hl)
     rw[W8 G q1 q2];exact ih (k'+1) (G.appO d' e') (by omega) hr'
  simp only[FL,Nat.add_zero,hL,beq_self_eq_true,Bool.false_or,cond_true,cond_false];refine push r (k+1) F (by omega) λj x hx hl=>hj (j+1) x (by simpa using hx) (by omega) (by rwa [show k+(j+1)=k+1+j from by omega])
 |(d0,e0)::r,L,k,i+1,d,e,F,h,hL,hj=>by
  simp only[FL];have hne:(k==k+(i+1))=false:=by simp
  rw[hne,Bool.or_false]
  have:=ue r L (k+1) i d e (bif L k then F.appO d0 e0 else F) (by simpa using h) (by rwa [show k+1+i=k+(i+1) from by omega])
   (λj x hx hij hl=>hj (j+1) x (by simpa using hx) (by omega) (by rwa [show k+(j+1)=k+1+j from by omega]))
  rw[show k+(i+1)=k+1+i from by omega]
  exact this
def d8 (F:FSt):DN->Ed
 |none=>some true
 |some (t,w)=>match F.tm t with
  | .bool b=>some (b==w)
  | .con (.tuple _)=>some false
  |_=>none
theorem fg (A:AS)(g:DN):d8 A.fs g=bN A.tm g:=by cases g<;>rfl
def looks (o:AOper):CT:=(o.op.opds.filterMap fun| .t n=>some n|_=>none)++(o.guard.map (·.1)).toList
def evF (F:FSt):Opd->AV
 | .t n=>F.tm n
 | .c v=>v
theorem yE (A:AS):evF A.fs=evo A.tm:=by funext x;cases x<;>rfl
structure OpRel (P:Program)(N:Nums)(n:Nat)(ops:Array Oper)(i:Nat)(o:Oper)(ao:AOper):Prop where
 op:bx P N o=some ao.op
 dst:ao.dst=o.dst
 bd: ∀d,o.dst=some d->d<n
 guard:match o.guard,ao.guard with
  |none,none=>True
  |some (j,w),some (t,w')=>w=w'/\t<D0/\(ops[j]?).bind (·.dst)=some t
  |_,_=>False
 after: ∀e∈o.after,Region.binds .any e=true->e.on∈ao.after
 after': ∀j∈ao.after,j<i/\ ∃e∈o.after,Region.binds .any e=true/\e.on=j
def iB (x y:AOper):Prop:=(∀t,x.dst=some t->t∉looks y/\y.dst≠some t)/\ ∀t,y.dst=some t->t∉looks x
def wrO:Dg->aq
 |some e=>e.wr
 |none=>[]
def sfO:Dg->DA
 |some e=>e.sf
 |none=>[]
def rk (e e':Dg):Prop:= ∀k,(k∈dm e->k∉rdO e'/\k∉dm e')/\(k∈dm e'->k∉rdO e∨ ∀f,Sft (sfO e) k (hov (wrO e') f k))
theorem L7 (t:Nat)(P:C0->Prop): ∀(es:mE)(L L':Nat->Bool)(k:Nat)(F F':FSt),(∀j x,es[j]? =some x->L (k+j)≠L' (k+j)->t∉dm x.2∨(L (k+j)=true/\ ∀f,P (hov (wrO x.2) f t)))->(F.hp t=F'.hp t∨P (F.hp t))->((FL es L k F).hp t=(FL es L' k F').hp t∨P ((FL es L k F).hp t))
 | [],_,_,_,_,_,_,h=>h
 |(d,e)::r,L,L',k,F,F',hj,h=>by
  refine L7 t P r L L' (k+1) _ _ (λj x hx hne=>?_) ?_
  ·have:=hj (j+1) x (by simpa using hx) (by rwa [show k+(j+1)=k+1+j from by omega])
   rwa [show k+(j+1)=k+1+j from by omega] at this
  ·by_cases hl:L k=L' k
   ·rw[<-hl]
    cases L k with
    |false=>exact h
    |true=>
     dsimp only[cond]
     by_cases hd:t∈dm e
     ·left
      cases e with
      |none=>simp[dm] at hd
      |some e=>exact uz hd
     ·rw[n9 _ _ _ _ hd,n9 _ _ _ _ hd];exact h
   ·have hq:=hj 0 (d,e) (by simp) (by simpa using hl)
    rw[Nat.add_zero] at hq
    by_cases hd:t∈dm e
    ·obtain ⟨h1,h2⟩:=hq.resolve_left (λq=>q hd)
     right
     rw[h1];dsimp only[cond];cases e with
     |none=>simp[dm] at hd
     |some e=>exact h2 _
    ·have q: ∀(b:Bool)(G:FSt),(bif b then G.appO d e else G).hp t=G.hp t:=λb G=>by cases b;rfl;exact n9 _ _ _ _ hd
     rw[q,q];exact h
section
variable {P:Program} {C:Ctx} {N:Nums}
section
variable (P:Program)(C:Ctx)(o:Oper)(g:Nat)(d:C8)(e:Eff)(F:FSt)
def L8:Prop:=
 ∀U a w (K:Act->World->Prop) (Q:Exit->Act->World->Prop),¬U g->Rel C U F a w->(∀a' w',Rel C (Or1 U g) (F.app d e) a' w'->K a' w')->o.wp P a w K Q
def uK:Prop:=
 ∀U a w (K:Act->World->Prop) (Q:Exit->Act->World->Prop),¬U g->Rel C U F a w->(∀v w' S β used,RelC C (Or1 U g) {F with hp:=hov e.wr F.hp} a w' S β used->V (aG C S β used (hov e.wr F.hp) w') v e.res->Q (.panic [{v:=v,recovered:=false}]) a w')->o.wp P a w K Q
end
structure OneOk (P:Program)(C:Ctx)(N:Nums)(ops:Array Oper)(c0:Nat)(i:Nat)(o:Oper)(ao:AOper)(e:Dg)(F:FSt):Prop where
 rel:OpRel P N C.n ops i o ao
 none_:e=none->d8 F ao.guard=some false
 some_: ∀x,e=some x->d8 F ao.guard=some true/\ ∀F',(∀t∈looks ao,F'.tm t=F.tm t)->(∀k∈x.rd,F'.hp k=F.hp k∨Sft x.sf k (F'.hp k))->L8 P C o (c0+i) ao.dst x F'
section
variable {C:Ctx}{U:Nat->Prop}{F:FSt}{a:Act}{w:World}
theorem dL (hR:Rel C U F a w){ops:Array Oper}{n i:Nat}{o:Oper}{ao:AOper}(hr:OpRel P N n ops i o ao){b:Bool}(h:d8 F ao.guard=some b):Region.wanted o (yielded ops a.tmps)=b:=by
 have hg:=hr.guard;unfold Region.wanted;cases ho:o.guard with
 |none=>
  rw[ho] at hg;cases hag:ao.guard with
  |none=>rw[hag] at h;simpa[d8] using h
  |some x=>rw[hag] at hg;exact hg.elim
 |some x=>
  obtain ⟨j,wv⟩:=x;rw[ho] at hg;cases hag:ao.guard with
  |none=>rw[hag] at hg;exact hg.elim
  |some y=>
   obtain ⟨t,w'⟩:=y;rw[hag] at hg h;obtain ⟨rfl,ht0,ht⟩:=hg;obtain ⟨S,β,used,hRC⟩:=hR;have hv:=hRC.tm t;rw[xo ht0] at hv;simp only[d8] at h;split at h
   ·rename_i b' hb
    rw[hb] at hv;have:=hv.bool_inv;obtain rfl:=Ai h
    have hy:yielded ops a.tmps j=some b':=by
     unfold yielded;rw[ht,Option.bind_some]
     have:a.tmps[t]? =some (.bool b'):=by
      rw[Ak] at this;cases hq:a.tmps[t]? with
      |none=>rw[hq] at this;simp[undef] at this
      |some v=>rw[hq] at this;simpa using this
     rw[this]
    dsimp only;rw[hy];cases b'<;>cases wv<;>rfl
   ·rename_i v hb
    rw[hb] at hv;have hv':=hv.con_inv;obtain rfl:=Ai h
    have hy:yielded ops a.tmps j=none:=by
     unfold yielded;rw[ht,Option.bind_some];rw[Ak] at hv';cases hq:a.tmps[t]? with
     |none=>rfl
     |some v'=>
      rw[hq] at hv';have:v'= .tuple v:=by simpa using hv'
      subst this;rfl
    dsimp only;rw[hy];rfl
   ·cases h
def fq (c0:Nat)(L:Nat->Bool):Nat->Prop:=λg=>g<c0∨ ∃j,L j=true/\g=c0+j
theorem Rel.wide {U U':Nat->Prop}{F:FSt}{a:Act}{w:World}(h:Rel C U F a w)(hU: ∀x,U x->U' x):Rel C U' F a w:=
 let ⟨S,β,used,hi,b,c,d⟩:=h
 ⟨S,β,used,hi.wide hU,b,c,d⟩
theorem Rel.put (h:Rel C U F a w)(d:C8)(hd: ∀t,d=some t->t<C.n):Rel C U (F.put d ip) (a.put d undef) w:=
 let ⟨S,β,used,hr⟩:=h
 ⟨S,β,used,hr.step hr.hi (.refl _) d hd (show V _ undef ip from .con _)⟩
end
section
variable {ops:Array Oper}{aos:CO}{es:mE}{F0:FSt}{c0:Nat}{Q:Exit->Act->World->Prop}(clo:Nat->CT)
theorem af5 (hclo: ∀i ao,aos[i]? =some ao-> ∀j∈clo i,j∈ao.after∨ ∃k∈ao.after,j∈clo k)(hl:aos.length=ops.size)(hl2:es.length=ops.size)(hone: ∀i o ao x,ops[i]? =some o->aos[i]? =some ao->es[i]? =some x->x.1=ao.dst/\OneOk P C N ops c0 i o ao x.2 (FL es (λj=>decide (j<i)) 0 F0))(hpair: ∀i j ai aj xi xj,i<j->aos[i]? =some ai->aos[j]? =some aj->es[i]? =some xi->es[j]? =some xj->i∈clo j∨(iB ai aj/\rk xi.2 xj.2))(hQ: ∀a w,Rel C (fq c0 λj=>decide (j<ops.size)) (FL es (λ_=>true) 0 F0) a w->Q .normal a w):
  ∀(fuel:Nat)(listed:Array Bool)(a:Act)(w:World),listed.size=ops.size->((List.range ops.size).countP λi=> !listed.getD i false)<=fuel->
   (∀i,listed.getD i false=true-> ∀j∈clo i,listed.getD j false=true)->
   Rel C (fq c0 λi=>listed.getD i false) (FL es (λi=>listed.getD i false) 0 F0) a w->wpAny P .any ops Q fuel listed a w:=by
 have get: ∀i,i<ops.size-> ∃o ao x,ops[i]? =some o/\aos[i]? =some ao/\es[i]? =some x:=λi hi=>
  ⟨ops[i],aos[i]'(by omega),es[i]'(by omega),by simp[hi],by rw[AK],by rw[AK]⟩
 -- all listed: the end
 have fin: ∀(listed:Array Bool)(a:Act)(w:World),listed.size=ops.size->(∀i,i<ops.size->listed.getD i false=true)->Rel C (fq c0 λi=>listed.getD i false) (FL es (λi=>listed.getD i false) 0 F0) a w->Q .normal a w:=λlisted a w hsz hall hR=>by
  refine hQ a w ?_
  have:FL es (λi=>listed.getD i false) 0 F0=FL es (λ_=>true) 0 F0:=FSt.ext'
   (λt=>y9 t es _ _ 0 F0 F0 (λj x hx hne=>absurd (by
    have hj:j<es.length:=by
     rcases A4 j es.length with q|q
     ·exact q
     ·rw[AD q] at hx;cases hx
    rw[A7];exact hall j (by omega)) hne) rfl)
   (λt=>TZ t es _ _ 0 F0 F0 (λj x hx hne=>absurd (by
    have hj:j<es.length:=by
     rcases A4 j es.length with q|q
     ·exact q
     ·rw[AD q] at hx;cases hx
    rw[A7];exact hall j (by omega)) hne) rfl)
  rw[<-this];refine hR.wide λx hx=>hx.elim .inl λ⟨j,hj,e⟩=>.inr ⟨j,?_,e⟩
  rcases A4 j listed.size with q|q
  ·rw[hsz] at q;simpa using q
  ·have hj':listed.getD j false=true:=hj
   simp[Array.getD,Nat.not_lt.2 q] at hj'
 have ready_all: ∀(listed:Array Bool),listed.size=ops.size->Region.ready .any ops listed= []-> ∀i,i<ops.size->listed.getD i false=true:=by
  intro listed hsz hr i
  induction i using Nat.strongRecOn with
  |_ i ih=>
   intro hi;cases hq:listed.getD i false with
   |true=>rfl
   |false=>
    exfalso;obtain ⟨o,ao,x,h1,h2,h3⟩:=get i hi;have hrel:=(hone i o ao x h1 h2 h3).2.rel
    have:i∈Region.ready .any ops listed:=by
     rw[mem_ready];refine ⟨?_,o,h1,λe he hb=>?_⟩
     ·have:i<listed.size:=by omega
      simpa[Array.getD,this] using hq
     ·have hlt:=(hrel.after' e.on (hrel.after e he hb)).1
      exact ih e.on hlt (by omega)
    rw[hr] at this;cases this
 intro fuel
 induction fuel with
 |zero=>
  intro listed a w hsz hcnt _ hR
  have hall: ∀i,i<ops.size->listed.getD i false=true:=λi hi=>by
   have:=List.countP_eq_zero.1 (Nat.le_zero.1 hcnt) i (by simpa using hi)
   simpa using this
  refine ⟨?_,fin listed a w hsz hall hR⟩;rw[List.eq_nil_iff_forall_not_mem];intro i hi;rw[mem_ready] at hi;obtain ⟨h0,o,ho,_⟩:=hi
  have hlt:i<ops.size:=by
   rcases A4 i ops.size with q|q
   ·exact q
   ·rw[Array.getElem?_eq_none q] at ho;cases ho
  have h1:=hall i hlt;have:i<listed.size:=by omega
  simp[Array.getD,this] at h0 h1;rw[h0] at h1;cases h1
 |succ fuel ih=>
  intro listed a w hsz hcnt hdown hR;refine ⟨λhr=>fin listed a w hsz (ready_all listed hsz hr) hR,λi hi=>?_⟩
  rw[mem_ready] at hi;obtain ⟨h0,o,ho,hall⟩:=hi
  have hlt:i<ops.size:=by
   rcases A4 i ops.size with q|q
   ·exact q
   ·rw[Array.getElem?_eq_none q] at ho;cases ho
  have hil:i<listed.size:=by omega
  have hLi:listed.getD i false=false:=by simp[Array.getD,hil] at h0⊢;exact h0
  obtain ⟨o',ao,x,h1,h2,h3⟩:=get i hlt;obtain rfl:o'=o:=by rw[ho] at h1;exact (Ai h1).symm
  obtain ⟨hx1,hok⟩:=hone i o' ao x h1 h2 h3
  have hdeps: ∀j∈clo i,listed.getD j false=true:=λj hj=>by
   have hdir: ∀j∈ao.after,listed.getD j false=true:=λj hj=>by
    obtain ⟨_,e,he,hb,rfl⟩:=hok.rel.after' j hj;exact hall e he hb
   rcases hclo i ao h2 j hj with q|⟨k,q,q'⟩
   ·exact hdir j q
   ·exact hdown k (hdir k q) j q'
  -- where the listed set and the text's prefix part, nothing that matters is written
  have part: ∀j xj,es[j]? =some xj->listed.getD j false≠decide (j<i)->(∃aj,aos[j]? =some aj/\((j<i/\iB aj ao/\rk xj.2 x.2)∨(i<j/\iB ao aj/\rk x.2 xj.2))):=λj xj hxj hne=>by
   have hj:j<es.length:=by
    rcases A4 j es.length with q|q
    ·exact q
    ·rw[AD q] at hxj;cases hxj
   obtain ⟨oj,aj,xj',g1,g2,g3⟩:=get j (by omega)
   obtain rfl:xj'=xj:=by rw[g3] at hxj;exact Ai hxj
   refine ⟨aj,g2,?_⟩;rcases Nat.lt_trichotomy j i with q|q|q
   ·left
    have hu:listed.getD j false=false:=by
     cases hq:listed.getD j false with
     |false=>rfl
     |true=>rw[hq] at hne;simp[q] at hne
    rcases hpair j i aj ao xj' x q g2 h2 g3 h3 with hd|⟨p1,p2⟩
    ·rw[hdeps j hd] at hu;cases hu
    ·exact ⟨q,p1,p2⟩
   ·exfalso;subst q;rw[hLi] at hne;simp at hne
   ·right
    have hu:listed.getD j false=true:=by
     cases hq:listed.getD j false with
     |true=>rfl
     |false=>rw[hq] at hne;exfalso;apply hne;simp;omega
    rcases hpair i j ao aj x xj' q h2 g2 h3 g3 with hd|⟨p1,p2⟩
    ·rw[hdown j hu i hd] at hLi;cases hLi
    ·exact ⟨q,p1,p2⟩
  have htm: ∀t∈looks ao,(FL es (λi=>listed.getD i false) 0 F0).tm t=(FL es (λj=>decide (j<i)) 0 F0).tm t:=λt ht=>
   y9 t es _ _ 0 F0 F0 (λj xj hxj hne=>by
    rw[A7] at hne;obtain ⟨aj,g2,hp⟩:=part j xj hxj hne
    obtain ⟨oj,aj',xj',y1,y2,y3⟩:=get j (by
     rcases A4 j es.length with q|q
     ·omega
     ·rw[AD q] at hxj;cases hxj)
    obtain rfl:aj'=aj:=by rw[y2] at g2;exact Ai g2
    obtain rfl:xj'=xj:=by rw[y3] at hxj;exact Ai hxj
    have hdj:=(hone j oj aj' xj' y1 y2 y3).1;rw[hdj];intro e;rcases hp with ⟨_,p1,_⟩|⟨_,p1,_⟩
    ·exact (p1.1 t e).1 ht
    ·exact p1.2 t e ht) rfl
  have hhp: ∀k∈rdO x.2,(FL es (λi=>listed.getD i false) 0 F0).hp k=(FL es (λj=>decide (j<i)) 0 F0).hp k∨Sft (sfO x.2) k ((FL es (λi=>listed.getD i false) 0 F0).hp k):=λk hk=>
   L7 k (Sft (sfO x.2) k) es _ _ 0 F0 F0 (λj xj hxj hne=>by
    rw[A7] at hne;obtain ⟨aj,g2,hp⟩:=part j xj hxj hne;rcases hp with ⟨_,_,p2⟩|⟨hij,_,p2⟩
    ·exact .inl λhw=>((p2 k).1 hw).1 hk
    ·by_cases hw:k∈dm xj.2
     ·right
      refine ⟨?_,((p2 k).2 hw).resolve_left (λq=>q hk)⟩
      rw[A7];cases hq:listed.getD j false with
      |true=>rfl
      |false=>rw[hq] at hne;exfalso;apply hne;simp;omega
     ·exact .inl hw) (.inl rfl)
  have hwant:d8 (FL es (λi=>listed.getD i false) 0 F0) ao.guard=d8 (FL es (λj=>decide (j<i)) 0 F0) ao.guard:=by
   cases hg:ao.guard with
   |none=>rfl
   |some y=>
    obtain ⟨t,wv⟩:=y;simp only[d8];rw[htm t (by simp[looks,hg])]
  have hins:FL es (λy=>(listed.setIfInBounds i true).getD y false) 0 F0=(FL es (λi=>listed.getD i false) 0 F0).appO ao.dst x.2:=by
   have e1:(λy=>(listed.setIfInBounds i true).getD y false)=λy=>listed.getD y false||y==0+i:=by
    funext y
    by_cases hy:y=i
    ·subst hy;simp[Array.getD,hil]
    ·rw[getD_set_ne false (Ne.symm hy)];simp[hy]
   rw[e1];refine ue es _ 0 i ao.dst x.2 F0 (by rw[h3,<-hx1]) (by simpa using hLi) λj xj hxj hij hlj=>?_
   rw[A7] at hlj;obtain ⟨aj,g2,hp⟩:=part j xj hxj (by simp only[hlj];simp;omega)
   obtain ⟨oj,aj',xj',y1,y2,y3⟩:=get j (by
    rcases A4 j es.length with q|q
    ·omega
    ·rw[AD q] at hxj;cases hxj)
   obtain rfl:aj'=aj:=by rw[y2] at g2;exact Ai g2
   obtain rfl:xj'=xj:=by rw[y3] at hxj;exact Ai hxj
   have hdj:=(hone j oj aj' xj' y1 y2 y3).1;rcases hp with ⟨q,_⟩|⟨_,p1,p2⟩
   ·omega
   ·exact ⟨λt ht=>by rw[hdj];exact (p1.1 t ht).2,λk hk=>((p2 k).1 hk).2⟩
  have hU: ∀g,Or1 (fq c0 λi=>listed.getD i false) (c0+i) g->fq c0 (λy=>(listed.setIfInBounds i true).getD y false) g:=by
   rintro g ((hg|⟨j,hj,rfl⟩)|rfl)
   ·exact .inl hg
   ·exact .inr ⟨j,getD_set_true hj,rfl⟩
   ·exact .inr ⟨i,by simp[Array.getD,hil],rfl⟩
  have hsz':(listed.setIfInBounds i true).size=ops.size:=by simpa using hsz
  have hdown': ∀i',(listed.setIfInBounds i true).getD i' false=true-> ∀j∈clo i',(listed.setIfInBounds i true).getD j false=true:=λi' hl' j hj=>by
   by_cases e:i'=i
   ·subst e
    exact getD_set_true (hdeps j hj)
   ·rw[getD_set_ne false (Ne.symm e)] at hl'
    exact getD_set_true (hdown i' hl' j hj)
  have hcnt':((List.range ops.size).countP λy=> !(listed.setIfInBounds i true).getD y false)<=fuel:=by
   have key: ∀l:CT,l.Nodup->i∈l->(l.countP λy=> !(listed.setIfInBounds i true).getD y false)+1=l.countP λy=> !listed.getD y false:=by
    intro l
    induction l with
    |nil=>intro _ h;cases h
    |cons y l ihl=>
     intro hnd hm;rw[List.nodup_cons] at hnd
     by_cases e:y=i
     ·subst e
      have hsame:(l.countP λz=> !(listed.setIfInBounds y true).getD z false)=l.countP λz=> !listed.getD z false:=by
       apply List.countP_congr;intro z hz;rw[getD_set_ne false (λ(q:y=z)=>hnd.1 (q▸hz))]
      have t1:(listed.setIfInBounds y true).getD y false=true:=by simp[Array.getD,hil]
      rw[List.countP_cons_of_neg (by simp only[t1];simp),List.countP_cons_of_pos (by simp only[hLi];simp),hsame]
     ·have hm':i∈l:=by simpa[Ne.symm e] using hm
      have:=ihl hnd.2 hm';have hy:(listed.setIfInBounds i true).getD y false=listed.getD y false:=getD_set_ne false (Ne.symm e);cases hq:listed.getD y false with
      |true=>rw[List.countP_cons_of_neg (by simp only[hy,hq];simp),List.countP_cons_of_neg (by simp only[hq];simp)];exact this
      |false=>rw[List.countP_cons_of_pos (by simp only[hy,hq];simp),List.countP_cons_of_pos (by simp only[hq];simp)];omega
   have:=key (List.range ops.size) List.nodup_range (by simpa using hlt)
   omega
  unfold wpOp;simp only[ho];cases hx2:x.2 with
  |none=>
   have hw:=hok.none_ hx2;rw[<-hwant] at hw;rw[dL hR hok.rel hw];simp only[A6,if_false];refine ih _ _ _ hsz' hcnt' hdown' ?_;rw[hins,hx2,<-hok.rel.dst];exact (hR.put ao.dst (λd hd=>hok.rel.bd d (by rw[<-hok.rel.dst];exact hd))).wide λy hy=>hU y (.inl hy)
  |some e=>
   obtain ⟨hw,hdo⟩:=hok.some_ e hx2;rw[<-hwant] at hw;rw[dL hR hok.rel hw];simp only[if_true];refine .inl (hdo _ htm (λk hk=>by have:=hhp k (by rw[hx2];exact hk);rw[hx2] at this;exact this) _ a w _ Q ?_ hR λa' w' hR'=>?_)
   ·rintro (hg|⟨j,hj,hg⟩)
    ·omega
    ·obtain rfl:j=i:=by omega
     have hj':listed.getD j false=true:=hj;rw[hLi] at hj';cases hj'
   ·refine ih _ _ _ hsz' hcnt' hdown' ?_
    rw[hins,hx2];exact hR'.wide hU
theorem Rel.drop {C:Ctx}{U:Nat->Prop}{F:FSt}{a:Act}{w:World}(h:Rel C U F a w)(D:CT):Rel C U {F with hp:=dC F.hp D} a w:=by
 obtain ⟨S,β,used,hi,hs,hd,htm⟩:=h;obtain ⟨q1,q2⟩:=hi.drop D;exact ⟨_,β,used,q1,hs,hd,λt=>(htm t).mono q2⟩
theorem adS (hclo: ∀i ao,aos[i]? =some ao-> ∀j∈clo i,j∈ao.after∨ ∃k∈ao.after,j∈clo k)(hl:aos.length=ops.size)(hl2:es.length=ops.size){p:Nat}(hps:p<ops.size)(W:Nat->Bool)(hW: ∀j,W j=true->es[j]? =some (none,none)/\p∈clo j)(hPn:es[p]? =some (none,none))(hrelA: ∀i o ao,ops[i]? =some o->aos[i]? =some ao->OpRel P N C.n ops i o ao)(hone: ∀i o ao x,i≠p->W i=false->ops[i]? =some o->aos[i]? =some ao->es[i]? =some x->x.1=ao.dst/\OneOk P C N ops c0 i o ao x.2 (FL es (λj=>decide (j<i)) 0 F0)){e:Eff}(K:CT)(hterm: ∀o ao,ops[p]? =some o->aos[p]? =some ao->d8 (FL es (λj=>decide (j<p)) 0 F0) ao.guard=some true/\(∀j aj xj,j≠p->W j=false->aos[j]? =some aj->es[j]? =some xj->(j<p/\j∈clo p)∨(p<j/\p∈clo j)∨((∀t,xj.1=some t->t∉looks ao)/\ ∀k∈dm xj.2,k∈K))/\ ∀F',(∀t∈looks ao,F'.tm t=(FL es (λj=>decide (j<p)) 0 F0).tm t)->F'.hp=dC (FL es (λj=>decide (j<p)) 0 F0).hp K->uK P C o (c0+p) e F')(hpair: ∀i j ai aj xi xj,i<j->i≠p->j≠p->W i=false->W j=false->aos[i]? =some ai->aos[j]? =some aj->es[i]? =some xi->es[j]? =some xj->i∈clo j∨(iB ai aj/\rk xi.2 xj.2))(hQ: ∀a w v S β used U (F':FSt),RelC C U {F' with hp:=hov e.wr (dC (FL es (λj=>decide (j<p)) 0 F0).hp K)} a w S β used->V (aG C S β used (hov e.wr (dC (FL es (λj=>decide (j<p)) 0 F0).hp K)) w) v e.res->Q (.panic [{v:=v,recovered:=false}]) a w):
  ∀(fuel:Nat)(listed:Array Bool)(a:Act)(w:World),listed.size=ops.size->((List.range ops.size).countP λi=> !listed.getD i false)<=fuel->
   (∀i,listed.getD i false=true-> ∀j∈clo i,listed.getD j false=true)->listed.getD p false=false->
   Rel C (fq c0 λi=>listed.getD i false) (FL es (λi=>listed.getD i false) 0 F0) a w->wpAny P .any ops Q fuel listed a w:=by
 have get: ∀i,i<ops.size-> ∃o ao x,ops[i]? =some o/\aos[i]? =some ao/\es[i]? =some x:=λi hi=>
  ⟨ops[i],aos[i]'(by omega),es[i]'(by omega),by simp[hi],by rw[AK],by rw[AK]⟩
 have ready_all: ∀(listed:Array Bool),listed.size=ops.size->Region.ready .any ops listed= []-> ∀i,i<ops.size->listed.getD i false=true:=by
  intro listed hsz hr i
  induction i using Nat.strongRecOn with
  |_ i ih=>
   intro hi;cases hq:listed.getD i false with
   |true=>rfl
   |false=>
    exfalso;obtain ⟨o,ao,x,h1,h2,h3⟩:=get i hi;have hrel:=hrelA i o ao h1 h2
    have:i∈Region.ready .any ops listed:=by
     rw[mem_ready];refine ⟨?_,o,h1,λe he hb=>?_⟩
     ·have:i<listed.size:=by omega
      simpa[Array.getD,this] using hq
     ·have hlt:=(hrel.after' e.on (hrel.after e he hb)).1
      exact ih e.on hlt (by omega)
    rw[hr] at this;cases this
 intro fuel
 induction fuel with
 |zero=>
  intro listed a w hsz hcnt _ hlp hR;exfalso
  have hall: ∀i,i<ops.size->listed.getD i false=true:=λi hi=>by
   have:=List.countP_eq_zero.1 (Nat.le_zero.1 hcnt) i (by simpa using hi)
   simpa using this
  have:=hall p (by omega)
  rw[hlp] at this;cases this
 |succ fuel ih=>
  intro listed a w hsz hcnt hdown hlp hR;refine ⟨λhr=>absurd (ready_all listed hsz hr p (by omega)) (by rw[hlp];simp),λi hi=>?_⟩
  rw[mem_ready] at hi;obtain ⟨h0,o,ho,hall⟩:=hi
  have hlt:i<ops.size:=by
   rcases A4 i ops.size with q|q
   ·exact q
   ·rw[Array.getElem?_eq_none q] at ho;cases ho
  have hil:i<listed.size:=by omega
  have hLi:listed.getD i false=false:=by simp[Array.getD,hil] at h0⊢;exact h0
  obtain ⟨o',ao,x,h1,h2,h3⟩:=get i hlt;obtain rfl:o'=o:=by rw[ho] at h1;exact (Ai h1).symm
  have hrel:=hrelA i o' ao h1 h2
  have hdeps: ∀j∈clo i,listed.getD j false=true:=λj hj=>by
   have hdir: ∀j∈ao.after,listed.getD j false=true:=λj hj=>by
    obtain ⟨_,e,he,hb,rfl⟩:=hrel.after' j hj;exact hall e he hb
   rcases hclo i ao h2 j hj with q|⟨k,q,q'⟩
   ·exact hdir j q
   ·exact hdown k (hdir k q) j q'
  by_cases hip:i=p
  ·subst hip
   obtain ⟨t1,t2,t3⟩:=hterm o' ao ho h2
   have part: ∀j xj,es[j]? =some xj->listed.getD j false≠decide (j<i)->xj=(none,none)∨((∀t,xj.1=some t->t∉looks ao)/\ ∀k∈dm xj.2,k∈K):=λj xj hxj hne=>by
    have hj:j<es.length:=by
     rcases A4 j es.length with q|q
     ·exact q
     ·rw[AD q] at hxj;cases hxj
    obtain ⟨oj,aj,xj',g1,g2,g3⟩:=get j (by omega)
    obtain rfl:xj'=xj:=by rw[g3] at hxj;exact Ai hxj
    by_cases hji:j=i
    ·exfalso;subst hji;rw[hLi] at hne;simp at hne
    cases hWj:W j with
    |true=>left;have:=(hW j hWj).1;rw[g3] at this;exact Ai this
    |false=>
     right
     rcases t2 j aj xj' hji hWj g2 g3 with ⟨q,hd⟩|⟨q,hd⟩|h
     ·exfalso;rw[hdeps j hd] at hne;simp[q] at hne
     ·exfalso
      have hlj:listed.getD j false=true:=by
       cases hq:listed.getD j false with
       |true=>rfl
       |false=>rw[hq] at hne;exfalso;apply hne;simp;omega
      rw[hdown j hlj i hd] at hLi;cases hLi
     ·exact h
   have htm: ∀t∈looks ao,(FL es (λi=>listed.getD i false) 0 F0).tm t=(FL es (λj=>decide (j<i)) 0 F0).tm t:=λt ht=>
    y9 t es _ _ 0 F0 F0 (λj xj hxj hne=>by
     rw[A7] at hne;rcases part j xj hxj hne with rfl|⟨p1,_⟩
     ·simp
     ·intro e;exact p1 t e ht) rfl
   have hhp:dC (FL es (λi=>listed.getD i false) 0 F0).hp K=dC (FL es (λj=>decide (j<i)) 0 F0).hp K:=funext λk=>by
    unfold dC
    by_cases hk:K.contains k=true
    ·rw[Ad hk,Ad hk]
    ·rw[Ac hk,Ac hk]
     exact TZ k es _ _ 0 F0 F0 (λj xj hxj hne=>by
      rw[A7] at hne;rcases part j xj hxj hne with rfl|⟨_,p2⟩
      ·simp[dm]
      ·exact λq=>hk (by simpa using p2 k q)) rfl
   have hwant:d8 (FL es (λi=>listed.getD i false) 0 F0) ao.guard=d8 (FL es (λj=>decide (j<i)) 0 F0) ao.guard:=by
    cases hg:ao.guard with
    |none=>rfl
    |some y=>
     obtain ⟨t,wv⟩:=y;simp only[d8];rw[htm t (by simp[looks,hg])]
   unfold wpOp;simp only[ho];rw[<-hwant] at t1;rw[dL hR hrel t1];simp only[if_true];refine .inl (t3 {FL es (λi=>listed.getD i false) 0 F0 with hp:=dC (FL es (λi=>listed.getD i false) 0 F0).hp K} htm hhp _ a w _ Q ?_ (hR.drop K) λv w' S β used hR' hv=>?_)
   ·rintro (hg|⟨j,hj,hg⟩)
    ·omega
    ·obtain rfl:j=i:=by omega
     have hj':listed.getD j false=true:=hj;rw[hLi] at hj';cases hj'
   ·dsimp only at hR' hv
    rw[hhp] at hR' hv;exact hQ a w' v S β used _ (FL es (λi=>listed.getD i false) 0 F0) hR' hv
  have hWi:W i=false:=by
   cases hq:W i with
   |false=>rfl
   |true=>rw[hdeps p (hW i hq).2] at hlp;cases hlp
  obtain ⟨hx1,hok⟩:=hone i o' ao x hip hWi h1 h2 h3
  -- where the listed set and the text's prefix part, nothing that matters is written
  have part: ∀j xj,es[j]? =some xj->listed.getD j false≠decide (j<i)->xj=(none,none)∨(∃aj,aos[j]? =some aj/\xj.1=aj.dst/\((j<i/\iB aj ao/\rk xj.2 x.2)∨(i<j/\iB ao aj/\rk x.2 xj.2))):=λj xj hxj hne=>by
   have hj:j<es.length:=by
    rcases A4 j es.length with q|q
    ·exact q
    ·rw[AD q] at hxj;cases hxj
   obtain ⟨oj,aj,xj',g1,g2,g3⟩:=get j (by omega)
   obtain rfl:xj'=xj:=by rw[g3] at hxj;exact Ai hxj
   by_cases hjp:j=p
   ·left;subst hjp;rw[g3] at hPn;exact Ai hPn
   cases hWj:W j with
   |true=>left;have:=(hW j hWj).1;rw[g3] at this;exact Ai this
   |false=>
   right
   refine ⟨aj,g2,(hone j oj aj xj' hjp hWj g1 g2 g3).1,?_⟩;rcases Nat.lt_trichotomy j i with q|q|q
   ·left
    have hu:listed.getD j false=false:=by
     cases hq:listed.getD j false with
     |false=>rfl
     |true=>rw[hq] at hne;simp[q] at hne
    rcases hpair j i aj ao xj' x q hjp hip hWj hWi g2 h2 g3 h3 with hd|⟨p1,p2⟩
    ·rw[hdeps j hd] at hu;cases hu
    ·exact ⟨q,p1,p2⟩
   ·exfalso;subst q;rw[hLi] at hne;simp at hne
   ·right
    have hu:listed.getD j false=true:=by
     cases hq:listed.getD j false with
     |true=>rfl
     |false=>rw[hq] at hne;exfalso;apply hne;simp;omega
    rcases hpair i j ao aj x xj' q hip hjp hWi hWj h2 g2 h3 g3 with hd|⟨p1,p2⟩
    ·rw[hdown j hu i hd] at hLi;cases hLi
    ·exact ⟨q,p1,p2⟩
  have htm: ∀t∈looks ao,(FL es (λi=>listed.getD i false) 0 F0).tm t=(FL es (λj=>decide (j<i)) 0 F0).tm t:=λt ht=>
   y9 t es _ _ 0 F0 F0 (λj xj hxj hne=>by
    rw[A7] at hne;rcases part j xj hxj hne with rfl|⟨aj,g2,hdj,hp⟩
    ·simp
    rw[hdj];intro e;rcases hp with ⟨_,p1,_⟩|⟨_,p1,_⟩
    ·exact (p1.1 t e).1 ht
    ·exact p1.2 t e ht) rfl
  have hhp: ∀k∈rdO x.2,(FL es (λi=>listed.getD i false) 0 F0).hp k=(FL es (λj=>decide (j<i)) 0 F0).hp k∨Sft (sfO x.2) k ((FL es (λi=>listed.getD i false) 0 F0).hp k):=λk hk=>
   L7 k (Sft (sfO x.2) k) es _ _ 0 F0 F0 (λj xj hxj hne=>by
    rw[A7] at hne;rcases part j xj hxj hne with rfl|⟨aj,g2,_,hp⟩
    ·exact .inl (by simp[dm])
    rcases hp with ⟨_,_,p2⟩|⟨hij,_,p2⟩
    ·exact .inl λhw=>((p2 k).1 hw).1 hk
    ·by_cases hw:k∈dm xj.2
     ·right
      refine ⟨?_,((p2 k).2 hw).resolve_left (λq=>q hk)⟩
      rw[A7];cases hq:listed.getD j false with
      |true=>rfl
      |false=>rw[hq] at hne;exfalso;apply hne;simp;omega
     ·exact .inl hw) (.inl rfl)
  have hwant:d8 (FL es (λi=>listed.getD i false) 0 F0) ao.guard=d8 (FL es (λj=>decide (j<i)) 0 F0) ao.guard:=by
   cases hg:ao.guard with
   |none=>rfl
   |some y=>
    obtain ⟨t,wv⟩:=y;simp only[d8];rw[htm t (by simp[looks,hg])]
  have hins:FL es (λy=>(listed.setIfInBounds i true).getD y false) 0 F0=(FL es (λi=>listed.getD i false) 0 F0).appO ao.dst x.2:=by
   have e1:(λy=>(listed.setIfInBounds i true).getD y false)=λy=>listed.getD y false||y==0+i:=by
    funext y
    by_cases hy:y=i
    ·subst hy;simp[Array.getD,hil]
    ·rw[getD_set_ne false (Ne.symm hy)];simp[hy]
   rw[e1];refine ue es _ 0 i ao.dst x.2 F0 (by rw[h3,<-hx1]) (by simpa using hLi) λj xj hxj hij hlj=>?_
   rw[A7] at hlj;rcases part j xj hxj (by simp only[hlj];simp;omega) with rfl|⟨aj,g2,hdj,hp⟩
   ·exact ⟨λt _=>by simp,λk _=>by simp[dm]⟩
   rcases hp with ⟨q,_⟩|⟨_,p1,p2⟩
   ·omega
   ·exact ⟨λt ht=>by rw[hdj];exact (p1.1 t ht).2,λk hk=>((p2 k).1 hk).2⟩
  have hU: ∀g,Or1 (fq c0 λi=>listed.getD i false) (c0+i) g->fq c0 (λy=>(listed.setIfInBounds i true).getD y false) g:=by
   rintro g ((hg|⟨j,hj,rfl⟩)|rfl)
   ·exact .inl hg
   ·exact .inr ⟨j,getD_set_true hj,rfl⟩
   ·exact .inr ⟨i,by simp[Array.getD,hil],rfl⟩
  have hsz':(listed.setIfInBounds i true).size=ops.size:=by simpa using hsz
  have hdown': ∀i',(listed.setIfInBounds i true).getD i' false=true-> ∀j∈clo i',(listed.setIfInBounds i true).getD j false=true:=λi' hl' j hj=>by
   by_cases e:i'=i
   ·subst e
    exact getD_set_true (hdeps j hj)
   ·rw[getD_set_ne false (Ne.symm e)] at hl'
    exact getD_set_true (hdown i' hl' j hj)
  have hcnt':((List.range ops.size).countP λy=> !(listed.setIfInBounds i true).getD y false)<=fuel:=by
   have key: ∀l:CT,l.Nodup->i∈l->(l.countP λy=> !(listed.setIfInBounds i true).getD y false)+1=l.countP λy=> !listed.getD y false:=by
    intro l
    induction l with
    |nil=>intro _ h;cases h
    |cons y l ihl=>
     intro hnd hm;rw[List.nodup_cons] at hnd
     by_cases e:y=i
     ·subst e
      have hsame:(l.countP λz=> !(listed.setIfInBounds y true).getD z false)=l.countP λz=> !listed.getD z false:=by
       apply List.countP_congr;intro z hz;rw[getD_set_ne false (λ(q:y=z)=>hnd.1 (q▸hz))]
      have t1:(listed.setIfInBounds y true).getD y false=true:=by simp[Array.getD,hil]
      rw[List.countP_cons_of_neg (by simp only[t1];simp),List.countP_cons_of_pos (by simp only[hLi];simp),hsame]
     ·have hm':i∈l:=by simpa[Ne.symm e] using hm
      have:=ihl hnd.2 hm';have hy:(listed.setIfInBounds i true).getD y false=listed.getD y false:=getD_set_ne false (Ne.symm e);cases hq:listed.getD y false with
      |true=>rw[List.countP_cons_of_neg (by simp only[hy,hq];simp),List.countP_cons_of_neg (by simp only[hq];simp)];exact this
      |false=>rw[List.countP_cons_of_pos (by simp only[hy,hq];simp),List.countP_cons_of_pos (by simp only[hq];simp)];omega
   have:=key (List.range ops.size) List.nodup_range (by simpa using hlt)
   omega
  unfold wpOp;simp only[ho];cases hx2:x.2 with
  |none=>
   have hw:=hok.none_ hx2;rw[<-hwant] at hw;rw[dL hR hok.rel hw];simp only[A6,if_false];refine ih _ _ _ hsz' hcnt' hdown' (by rw[getD_set_ne false hip];exact hlp) ?_
   rw[hins,hx2,<-hok.rel.dst];exact (hR.put ao.dst (λd hd=>hok.rel.bd d (by rw[<-hok.rel.dst];exact hd))).wide λy hy=>hU y (.inl hy)
  |some e1=>
   obtain ⟨hw,hdo⟩:=hok.some_ e1 hx2;rw[<-hwant] at hw;rw[dL hR hok.rel hw];simp only[if_true];refine .inl (hdo _ htm (λk hk=>by have:=hhp k (by rw[hx2];exact hk);rw[hx2] at this;exact this) _ a w _ Q ?_ hR λa' w' hR'=>?_)
   ·rintro (hg|⟨j,hj,hg⟩)
    ·omega
    ·obtain rfl:j=i:=by omega
     have hj':listed.getD j false=true:=hj;rw[hLi] at hj';cases hj'
   ·refine ih _ _ _ hsz' hcnt' hdown' (by rw[getD_set_ne false hip];exact hlp) ?_
    rw[hins,hx2];exact hR'.wide hU
end
end
open Go.RowKit
mutual
theorem AV.pure_of_keys: ∀a:AV,a.keys true= []->a.pure=true
 | .any,_| .int _ _,_| .bool _,_| .str _,_| .con _,_=>rfl
 | .agg cs,h| .rp cs,h| .fn _ cs,h| .tup cs,h=>by simp only[AV.pure];exact kn cs (by simpa[AV.keys] using h)
 | .sl _ es,h=>by simp only[AV.pure];exact qp es (by simpa[AV.keys] using h)
 | .ref _ _ _,h| .er _ _ _ _,h| .vs _ _ _,h| .vw _ _ _ _,h| .mp _ _,h=>by simp[AV.keys] at h
 | .ifc _ v,h=>by simp only[AV.pure];exact AV.pure_of_keys v (by simpa[AV.keys] using h)
theorem kn: ∀l:CL,b8 true l= []->aP l=true
 | [],_=>rfl
 |a::r,h=>by
  simp only[b8,List.append_eq_nil_iff] at h;simp only[aP,AV.pure_of_keys a h.1,kn r h.2,Bool.and_self]
theorem qp: ∀l:CS,gF true l= []->aa l=true
 | [],_=>rfl
 |a::r,h=>by
  simp only[gF,List.append_eq_nil_iff] at h;simp only[aa,kn a h.1,qp r h.2,Bool.and_self]
end
section
variable {E E':Env}{φ:Nat->Nat->Tgt}
theorem V.pure_env (hro: ∀b o u,E.ro b o u->E'.ro b o u)(hn:E'.num=E.num)(ht:E'.tnum=E.tnum){v:Value}{a:AV}(h:V E v a)(hp:a.pure=true):V E' v a:=by
 have:=h.ren (E':=E') (φ:=λ_ _=>.dead) ⟨hro,hn,ht,λ_ _ _=>trivial⟩
 rwa [AV.ren_pure _ a hp] at this
theorem pD: ∀(l:CL)(i:Nat),tF l=true->i<l.length->(l.getD i .any).dry=true
 | [],_,_,h=>by simp at h
 |a::r,0,h,_=>by simp only[tF,Av] at h;simpa using h.1
 |a::r,i+1,h,hi=>by simp only[tF,Av] at h;simpa using pD r i h.2 (by simpa using hi)
theorem V.dry_env (hn:E'.num=E.num)(ht:E'.tnum=E.tnum){v:Value}{a:AV}(h:V E v a)(hd:a.dry=true):V E' v a:=by
 induction h with
 |any v=>exact .any v
 |int k n=>exact .int k n
 |bool b=>exact .bool b
 |str s=>exact .str s
 |con v=>exact .con v
 |agg cs as hl hf _ ih=>exact .agg cs as hl hf λi hi=>ih i hi (pD as i (by simpa[AV.dry] using hd) hi)
 |sl s es a n c hn' hs hc u hb _ ih=>
  cases es with
  |nil=>exact .sl s [] a n c hn' hs hc u (λq=>absurd rfl q) (λi hi=>by simp at hi)
  |cons=>simp[AV.dry] at hd
 |rp=>simp[AV.dry] at hd
 |ref=>simp[AV.dry] at hd
 |er=>simp[AV.dry] at hd
 |vs=>simp[AV.dry] at hd
 |vw=>simp[AV.dry] at hd
 |mp=>simp[AV.dry] at hd
 |fn f cs as hl _ ih=>rw[<-hn];exact .fn f cs as hl λi hi=>ih i hi (pD as i (by simpa[AV.dry] using hd) hi)
 |tup cs as hl _ ih=>exact .tup cs as hl λi hi=>ih i hi (pD as i (by simpa[AV.dry] using hd) hi)
 |ifc t v a _ ih=>rw[<-ht];exact .ifc t v a (ih (by simpa[AV.dry] using hd))
theorem CellsOk.ren (r:RenOk E E' φ){w:World}{b o:Nat}{cs:CL}(h:CellsOk E w b o cs):CellsOk E' w b o (di φ cs):=λj hj=>by
 rw[bL] at hj;obtain ⟨u,h1,h2,h3,h4⟩:=h j hj;exact ⟨u,h1,h2,h3,by rw[gU];exact h4.ren r⟩
theorem BlkOk.ren (r:RenOk E E' φ){w:World}{p:Place}{b:Blk}(h:BlkOk E w p b):BlkOk E' w p (b.ren φ):=by
 cases b with
 |mp es=>
  obtain ⟨h1,ents,cl,h2,h3,h4⟩:=h;refine ⟨h1,ents,cl,h2,h3,λi hi e he=>?_⟩
  obtain ⟨a,b,c,d⟩:=h4 i hi e he;exact ⟨a,b,by have:=c.ren r;rwa [AV.ren_pure _ _ a] at this,by have:=d.ren r;rwa [AV.ren_pure _ _ b] at this⟩
 |cells cs=>exact ⟨h.1,h.2.ren r⟩
 |vec s es=>
  obtain ⟨h1,h2,h3,h4,h5,h6⟩:=h;refine ⟨h1,λi hi=>?_,by rw[gf];exact h3,λhn=>?_,h5,λi hi=>?_⟩
  ·rw[gf] at hi;rw[ly,bL];exact h2 i hi
  ·obtain ⟨q1,q2⟩:=h4 hn;subst q1;exact ⟨rfl,q2⟩
  ·rw[gf] at hi;rw[ly];exact (h6 i hi).ren r
theorem FE {w:World}{p:Place}{b:Blk}(h:BlkOk E w p b)(hp:b.pure=true)(hro: ∀b o u,E.ro b o u->E'.ro b o u)(hn:E'.num=E.num)(ht:E'.tnum=E.tnum)(hb: ∀o u,w.cell? ⟨p.blk,o,none⟩=some u->u.oneCell'=true->p.isNil=false->E'.ro p.blk o u):T8 E' p b:=by
 have r:RenOk E E' (λ_ _=>.dead):=⟨hro,hn,ht,λ_ _ _=>trivial⟩
 have h':=BlkOk.ren r h
 have e:b.ren (λ_ _=>.dead)=b:=by
  cases b with
  |mp es=>rfl
  |cells cs=>simp only[Blk.ren];rw[gR _ cs hp]
  |vec s es=>simp only[Blk.ren];rw[cX _ es hp]
 rw[e] at h';exact Ma (S':=λ_=>True) h' (λbk o u hc h1 hbk hnn=>by subst hbk;exact hb o u hc h1 hnn) (.refl E')
end
def hpB (bs:Dn):HF:=λk=>(bs[k]?).map λb=>(0,b)
def hpR (bs:C1):HF:=λk=>(bs[k]?).map λx=>(0,x.2)
def ib (n:Nat):Nat->Nat->Prop:=λk g=>k<n/\g=0
structure RetC (C:Ctx)(m:Nat)(w':World)(v:Value)(t:Ret)(S1:Nat->Prop)(β1:Nat->Place):Prop where
 kept:Kept C.X C.W0 w'
 s: ∀b,S1 b->b<w'.heap.size/\(C.W0.heap.size<=b∨C.S0 b)
 keep: ∀b,C.S0 b-> ¬C.X b->S1 b
 val:V (aG C S1 β1 (ib t.bs.length) (hpR t.bs) w') v t.r
 at_: ∀k x,t.bs[k]? =some x->((β1 k).isNil=false->S1 (β1 k).blk/\(C.W0.heap.size<=(β1 k).blk∨C.X (β1 k).blk))/\BlkOk (aG C S1 β1 (ib t.bs.length) (hpR t.bs) w') w' (β1 k) x.2
 inj: ∀k k',k<t.bs.length->k'<t.bs.length->(β1 k).isNil=false->(β1 k').isNil=false->(β1 k).blk=(β1 k').blk->k=k'
 pl: ∀k x,k<m->t.bs[k]? =some x->x.1=true->β1 k=C.π k
 len:m<=t.bs.length
section
variable (N:Nums)(C:Ctx)
def E0:Env where
 ro b o u:=b<C.W0.heap.size/\ ¬C.X b/\ ¬C.S0 b/\C.W0.cell? ⟨b,o,none⟩=some u/\u.oneCell'=true
 lv _ _:=none
 used _ _:=False
 num:=C.num
 tnum:=C.tnum
def GlC:Prop:= ∀g cs,N.gl g=some cs->aP cs=true->V (E0 C) (.pointer (some ⟨g,0,none⟩)) (.rp cs)
def GoC:Prop:= ∀g o,N.go g=some o->g<C.W0.heap.size/\ ¬C.X g/\ ¬C.S0 g/\C.W0.heap[g]? =some o
def ew:Prop:=C.num=N.num/\GlC N C/\GoC N C
end
theorem GlC.at_hi {C:Ctx}{U:Nat->Prop}{hp:HF}{w:World}{S:Nat->Prop}{β:Nat->Place}{used:Nat->Nat->Prop}{N:Nums}(h:HI C U hp w S β used)(hg:GlC N C){g:Nat}{cs:CL}(h1:N.gl g=some cs)(h2:aP cs=true):
  V (aG C S β used hp w) (.pointer (some ⟨g,0,none⟩)) (.rp cs):=by
 refine V.pure_env (E:=E0 C) (E':=aG C S β used hp w) (λb o u q=>?_) rfl rfl (hg g cs h1 h2) (by simpa[AV.pure] using h2)
 obtain ⟨q1,q2,q3,q4,q5⟩:=q;refine ⟨λhs=>?_,?_,q5⟩
 ·rcases (h.s b hs).2 with z|z
  ·omega
  ·exact q3 z
 ·rw[World.cell?_of_block (h.kept.block b q1 q2)];exact q4
structure Entry (C:Ctx)(N:Nums)(vs:Array Value)(args:CL)(bs:Dn):Prop where
 num:ew N C
 tnum:C.tnum=N.tnum
 hi:HI C (λg=>g=0) (hpB bs) C.W0 C.S0 C.π (ib bs.length)
 size:vs.size=args.length
 at_: ∀i,i<args.length->V (aG C C.S0 C.π (ib bs.length) (hpB bs) C.W0) (vs.getD i undef) (args.getD i .any)
def iz (r:AV)(v:Value):Ending:=match du r with
 |none=>.returned v
 |some _=>.panicked [{v:=v,recovered:=false}]
def unR (t:Ret):Ret:=match du t.r with
 |none=>t
 |some a=>⟨a,t.bs⟩
theorem ry {r:AV}(h:du r=none)(v:Value):iz r v= .returned v:=by unfold iz;rw[h]
theorem xl {t:Ret}(h:du t.r=none):unR t=t:=by unfold unR;rw[h]
theorem adF {r a:AV}(h:du r=some a)(v:Value):iz r v= .panicked [{v:=v,recovered:=false}]:=by unfold iz;rw[h]
theorem ags {t:Ret}{a:AV}(h:du t.r=some a):unR t=⟨a,t.bs⟩:=by unfold unR;rw[h]
def fM (P:Program)(N:Nums)(f:Nat)(args:CL)(bs:Dn)(t:Ret):Prop:=
 ∀(C:Ctx)(vs:Array Value),Entry C N vs args bs->Calls P (N.num f) vs C.W0 λe w'=> ∃v,e=iz t.r v/\ ∃S1 β1,RetC C bs.length w' v (unR t) S1 β1
theorem fJ {k:Nat}: ∀{D:CT}{i:Nat},idx k D=some i->D[i]? =some k
 | [],_,h=>by cases h
 |x::r,i,h=>by
  simp only[idx] at h;split at h
  ·rename_i e;obtain rfl:=Ai h;simp[e]
  ·obtain ⟨j,h1,rfl⟩:=map_some h
   simpa using fJ h1
theorem idx_at {k:Nat}: ∀{D:CT},k∈D-> ∃i,idx k D=some i
 |x::r,h=>by
  simp only[idx];split
  ·exact ⟨0,rfl⟩
  ·rename_i e
   obtain ⟨i,hi⟩:=idx_at (D:=r) (by simpa[Ne.symm e] using h)
   exact ⟨i+1,by rw[hi];rfl⟩
theorem kl: ∀l:CT,(dU l).Nodup
 | []=>List.nodup_nil
 |k::r=>by
  simp only[dU];cases h:(dU r).contains k with
  |true=>exact kl r
  |false=>
   refine List.nodup_cons.2 ⟨?_,kl r⟩;intro hm;simp[hm] at h
theorem eW {k:Nat}: ∀{l:CT},k∈dU l↔k∈l
 | []=>by simp[dU]
 |x::r=>by
  simp only[dU];cases h:(dU r).contains x with
  |true=>
   have hx:x∈r:=eW.1 (by simpa using h)
   simp only[cond_true,AL];rw[eW];exact ⟨.inr,λq=>q.elim (λe=>e▸hx) id⟩
  |false=>simp only[cond_false,AL,eW]
theorem p6: ∀{l:CT},cH l=true->l.Nodup
 | [],_=>List.nodup_nil
 |k::r,h=>by
  simp only[cH,Av] at h;refine List.nodup_cons.2 ⟨?_,p6 h.2⟩;intro hm;simp[hm] at h
theorem nf: ∀{l:CT},l.Nodup-> ∀{i j k:Nat},l[i]? =some k->l[j]? =some k->i=j
 | [],_,i,_,_,h,_=>by simp at h
 |x::r,hn,i,j,k,hi,hj=>by
  rw[List.nodup_cons] at hn;cases i with
  |zero=>
   cases j with
   |zero=>rfl
   |succ j=>
    obtain rfl:x=k:=by simpa using hi
    exact absurd (A5 (by simpa using hj)) hn.1
  |succ i=>
   cases j with
   |zero=>
    obtain rfl:x=k:=by simpa using hj
    exact absurd (A5 (by simpa using hi)) hn.1
   |succ j=>exact congrArg (· +1) (nf hn.2 (i:=i) (j:=j) (k:=k) (by simpa using hi) (by simpa using hj))
theorem xM: ∀(l:CL)(i:Nat),aP l=true->(l.getD i .any).pure=true
 | [],_,_=>rfl
 |a::r,0,h=>by simp only[aP,Av] at h;simpa using h.1
 |a::r,i+1,h=>by simp only[aP,Av] at h;simpa using xM r i h.2
theorem yC {hg:HF}{φ:Nat->Nat->Tgt}: ∀{D:CT}{bs:Dn},jp hg φ D=some bs->bs.length=D.length/\ ∀(i k:Nat),D[i]? =some k-> ∃g b,hg k=some (g,b)/\bs[i]? =some (b.ren φ)
 | [], bs, h => by obtain rfl: []=bs:=by simpa[jp] using h
                   exact ⟨rfl,by simp⟩
 |k::r,bs,h=>by
  simp only[jp] at h;split at h
  ·rename_i g b bs' h1 h2
   obtain rfl:=Ai h;obtain ⟨q1,q2⟩:=yC h2;refine ⟨by simp[q1],λi k' hi=>?_⟩
   cases i with
   | zero => obtain rfl:k=k':=by simpa using hi
             exact ⟨g,b,h1,rfl⟩
   |succ i=>simpa using q2 i k' (by simpa using hi)
  ·cases h
section
variable {P:Program} {C:Ctx} {U:Nat->Prop} {hp:HF} {w:World} {S:Nat->Prop} {β:Nat->Place} {used:Nat->Nat->Prop} {g:Nat} {N:Nums}
def dK (C:Ctx)(hp:HF)(w:World)(S:Nat->Prop)(β:Nat->Place)(D fz:CT):Ctx where
 num:=C.num
 tnum:=C.tnum
 W0:=w
 X b:= ∃k∈D,(β k).isNil=false/\(β k).blk=b
 S0 b:=S b/\ ¬ ∃k∈fz,∃x,hp k=some x/\(β k).isNil=false/\(β k).blk=b
 π i:=β (D.getD i 0)
 n:=0
section
variable (h:HI C U hp w S β used)(hn:ew N C)
include h hn
theorem yp (D fz:CT)(hD: ∀k∈D,∃x,hp k=some x):ew N (dK C hp w S β D fz):=by
 have nS0: ∀b,b<C.W0.heap.size-> ¬C.S0 b-> ¬S b:=λb q1 q3 hs=>by
  rcases (h.s b hs).2 with z|z
  ·omega
  ·exact q3 z
 have nX: ∀b,¬S b-> ¬(dK C hp w S β D fz).X b:=by
  rintro b nS ⟨k,hk,hnn,rfl⟩
  obtain ⟨⟨g',b'⟩,hx⟩:=hD k hk;exact nS ((h.at_ k g' b' hx).2.1 hnn).1
 refine ⟨hn.1,λg cs h1 h2=>?_,λg o hg=>?_⟩
 rotate_left
 ·obtain ⟨q1,q2,q3,q4⟩:=hn.2.2 g o hg
  have nS:=nS0 g q1 q3;exact ⟨B7 q1 h.kept.size,nX g nS,λz=>nS z.1,(h.kept.block g q1 q2).trans q4⟩
 refine V.pure_env (E:=E0 C) (E':=E0 (dK C hp w S β D fz)) (λb o u q=>?_) rfl rfl (hn.2.1 g cs h1 h2) (by simpa[AV.pure] using h2)
 obtain ⟨q1,q2,q3,q4,q5⟩:=q
 have nS: ¬S b:=λhs=>by
  rcases (h.s b hs).2 with z|z
  ·omega
  ·exact q3 z
 refine ⟨B7 q1 h.kept.size,?_,λz=>nS z.1,?_,q5⟩
 ·rintro ⟨k,hk,hnn,rfl⟩
  obtain ⟨⟨g',b'⟩,hx⟩:=hD k hk;exact nS ((h.at_ k g' b' hx).2.1 hnn).1
 ·rw[show (dK C hp w S β D fz).W0=w from rfl,World.cell?_of_block (h.kept.block b q1 q2)];exact q4
theorem WT (ht:C.tnum=N.tnum){raw:Bool}{args:CL}{vs:Array Value}(hsz:vs.size=args.length)(hv: ∀i,i<args.length->V (aG C S β used hp w) (vs.getD i undef) (args.getD i .any)){c:CIn}(hc:fp hp raw args=some c):
  Entry (dK C hp w S β c.D c.fz) N vs c.args c.bs/\c.D.Nodup/\(∀k∈c.D,∃x,hp k=some x)/\(∀k∈c.fz,k∉c.D)/\c.bs.length=c.D.length:=by
 unfold fp at hc;split at hc
 ·rename_i hk
  obtain rfl:=Ai hc;refine ⟨⟨yp h hn [] [] (by simp),ht,⟨.refl _ _,λb hb=>⟨(h.s b hb.1).1,.inr hb⟩,λb hb=>(h.s b hb.1).1,λb hb _=>hb,λk g hu=>hu.2,λk g b q=>by simp[hpB] at q,λk k' x x' q=>by simp[hpB] at q,λk b q=>by simp[hpB] at q⟩,hsz,λi hi=>?_⟩,List.nodup_nil,by simp,by simp,rfl⟩
  have hpur:=kn args hk;have hpu:(args.getD i .any).pure=true:=xM args i hpur;exact V.pure_env (E:=aG C S β used hp w) (E':=aG (dK C hp w S β [] []) (dK C hp w S β [] []).S0 (dK C hp w S β [] []).π (ib 0) (hpB []) w) (λb o u q=>⟨λq'=>q.1 q'.1,q.2⟩) rfl rfl (hv i hi) hpu
 ·rename_i K hK
  obtain ⟨bs,hb,rfl⟩:=map_some hc;generalize hD:gY hp raw args=D at hb⊢
  have hnd:D.Nodup:=by
   rw[<-hD];unfold gY
   split
   ·exact List.nodup_nil
   ·unfold qw
    refine List.nodup_append.2 ⟨kl _,kl _,?_⟩;intro a ha b hb e;subst e;rw[eW,List.mem_filter] at hb;have:=hb.2;rw[List.contains_iff_mem.2 ha] at this;cases this
  generalize hfz:(b8 true args).filter (λk=> !D.contains k)=fz at hb⊢
  have hfzD: ∀k∈fz,k∉D:=λk hk=>by rw[<-hfz] at hk;simp at hk;exact hk.2
  obtain ⟨e1,e2⟩:=yC hb
  have hlive: ∀k∈D,∃x,hp k=some x:=λk hk=>by
   obtain ⟨i,hi⟩:=idx_at hk;obtain ⟨g,b,q,_⟩:=e2 i k (fJ hi);exact ⟨_,q⟩
  have hπ: ∀i k,D[i]? =some k->(dK C hp w S β D fz).π i=β k:=λi k hi=>by
   show β (D.getD i 0)=_
   rw[Aj,hi];rfl
  have hr:RenOk (aG C S β used hp w) (aG (dK C hp w S β D fz) (dK C hp w S β D fz).S0 (dK C hp w S β D fz).π (ib bs.length) (hpB bs) w) (oZ hp D fz):=by
   refine ⟨λb o u q=>⟨λq'=>q.1 q'.1,q.2⟩,rfl,rfl,λk g hu=>?_⟩
   unfold oZ;cases hk:hp k with
   |none=>trivial
   |some x=>
    obtain ⟨g',b⟩:=x;dsimp only
    by_cases eg:g'=g
    ·subst eg
     rw[Ad rfl];cases hi:idx k D with
     |some i=>
      have hDi:=fJ hi;obtain ⟨g2,b2,q1,q2⟩:=e2 i k hDi
      have hlt:i<bs.length:=by
       rcases A4 i bs.length with q|q
       ·exact q
       ·rw[AD q] at q2;cases q2
      refine ⟨⟨hlt,rfl⟩,λp hp'=>?_⟩
      obtain ⟨_,_,rfl⟩:=fF hp';rw[hπ i k hDi];exact bu hk
     |none=>
      dsimp only;cases hq:(fz.contains k&&b.pure) with
      |false=>trivial
      |true=>
       simp only[Av] at hq;refine ⟨β k,bu hk,?_⟩;refine FE (h.at_ k g' b hk).2.2 hq.2 (λb o u q=>⟨λq'=>q.1 q'.1,q.2⟩) rfl rfl λo u hc1 h1 hnn=>⟨λq=>q.2 ⟨k,by simpa using hq.1,_,hk,hnn,rfl⟩,hc1,h1⟩
    ·rw[Ac eg];trivial
  refine ⟨⟨yp h hn D fz hlive,ht,⟨.refl _ _,λb hb=>⟨(h.s b hb.1).1,.inr hb⟩,λb hb=>(h.s b hb.1).1,λb hb _=>hb,λk g hu=>hu.2,λi g b q=>?_,λi i' x x' q q' n1 n2 hbk=>?_,λk b q=>rfl⟩,by rw[bL];exact hsz,λi hi=>?_⟩,hnd,hlive,hfzD,e1⟩
  ·obtain ⟨b',q1,q2⟩:=map_some q
   have hlt:i<bs.length:=by
    rcases A4 i bs.length with y|y
    ·exact y
    ·rw[AD y] at q1;cases q1
   obtain ⟨rfl,rfl⟩:=Prod.mk.inj q2;have hDi:D[i]? =some (D[i]'(by omega)):=by rw[AK]
   obtain ⟨g2,b2,y1,y2⟩:=e2 i _ hDi;rw[q1] at y2;obtain rfl:=Ai y2;obtain ⟨z1,z2,z3⟩:=h.at_ _ g2 b2 y1;rw[hπ i _ hDi];refine ⟨⟨hlt,rfl⟩,λhnn=>⟨⟨(z2 hnn).1,?_⟩,.inr ⟨_,List.getElem_mem _,hnn,rfl⟩⟩,z3.ren hr⟩
   rintro ⟨k',hk',x',hx',hn',hb'⟩
   have:=h.inj k' _ _ _ hx' y1 hn' hnn hb';subst this;exact hfzD _ hk' (List.getElem_mem _)
  ·have at1: ∀i x,hpB bs i=some x-> ∃k,D[i]? =some k/\ ∃y,hp k=some y:=λi x q=>by
    obtain ⟨b',q1,_⟩:=map_some q
    have hlt:i<bs.length:=by
     rcases A4 i bs.length with y|y
     ·exact y
     ·rw[AD y] at q1;cases q1
    have hDi:D[i]? =some (D[i]'(by omega)):=by rw[AK]
    exact ⟨_,hDi,hlive _ (List.getElem_mem _)⟩
   obtain ⟨k,d1,y,l1⟩:=at1 i x q;obtain ⟨k',d2,y',l2⟩:=at1 i' x' q';rw[hπ i k d1] at n1 hbk;rw[hπ i' k' d2] at n2 hbk;have:=h.inj k k' _ _ l1 l2 n1 n2 hbk;subst this;exact nf hnd d1 d2
  ·rw[bL] at hi
   rw[gU];exact (hv i hi).ren hr
end
end
open Go.RowKit
section
variable {P:Program} {C:Ctx} {U:Nat->Prop} {hp:HF} {w w':World} {S:Nat->Prop} {β:Nat->Place} {used:Nat->Nat->Prop} {g:Nat} {N:Nums}
theorem GW (φ:Nat->Nat->Tgt)(gi:Nat->Nat)(f:HF): ∀(K:CT)(bs:C1)(i0:Nat),K.length=bs.length->K.Nodup->
  (∀i k x,K[i]? =some k->bs[i]? =some x->hov (nj φ gi i0 K bs) f k=some (gi (i0+i),x.2.ren φ))/\ ∀k,k∉K->hov (nj φ gi i0 K bs) f k=f k
 | [],[],i0,_,_=>⟨λi k x h=>by simp at h,λk _=>rfl⟩
 |k0::K,(b0,x0)::bs,i0,hl,hn=>by
  rw[List.nodup_cons] at hn;obtain ⟨h1,h2⟩:=GW φ gi f K bs (i0+1) (by simpa using hl) hn.2
  refine ⟨λi k x hk hx=>?_,λk hk=>?_⟩
  ·cases i with
   |zero=>
    obtain rfl:k0=k:=by simpa using hk
    obtain rfl:(b0,x0)=x:=by simpa using hx
    simp[nj,hov,up]
   |succ i=>
    have hk':K[i]? =some k:=by simpa using hk
    have hne:k≠k0:=λe=>hn.1 (e▸A5 hk')
    simp only[nj,hov,up,Ac hne];rw[h1 i k x hk' (by simpa using hx)]
    congr 2;congr 1;omega
  ·simp only[AL,not_or] at hk
   simp only[nj,hov,up,Ac hk.1];exact h2 k hk.2
 | [],_::_,_,hl,_=>by simp at hl
 |_::_,[],_,hl,_=>by simp at hl
theorem adp (l l':aq)(f:HF):hov (l++l') f=hov l (hov l' f):=by
 induction l with
 |nil=>rfl
 |cons x r ih=>obtain ⟨k,v⟩:=x;simp only[B4,hov,ih]
theorem o7 {r a:AV}(h:du r=some a): ∃t,r= .ifc t (.tup [.ref 0 1 0,a]):=by
 unfold du at h;split at h
 ·obtain rfl:=Ai h;exact ⟨_,rfl⟩
 ·cases h
theorem Uh {r:AV}(h:r.dry=true):du r=none:=by
 cases hu:du r with
 |none=>rfl
 |some a=>obtain ⟨t,rfl⟩:=o7 hu;simp[AV.dry,tF] at h
theorem Qf {r:AV}(h:r.pure=true):du r=none:=by
 cases hu:du r with
 |none=>rfl
 |some a=>obtain ⟨t,rfl⟩:=o7 hu;simp[AV.pure,aP] at h
theorem Th {hg:HF}{c:CIn}{g dst:Nat}{t:Ret}{e:Eff}(h:ci hg c g dst t=some e):du t.r=none:=by
 unfold ci at h;cases h1:(t.bs.isEmpty&&t.r.dry) with
 |true=>simp only[Av] at h1;exact Uh h1.2
 |false=>
  rw[h1] at h;dsimp only[cond] at h;cases h2:du t.r with
  |none=>rfl
  |some a=>rw[h2] at h;simp at h
theorem Tg (h:HI C U hp w S β used)(hg: ¬U g)(hg0:g≠0){c:CIn}(hnd:c.D.Nodup)(hlive: ∀k∈c.D,∃x,hp k=some x)(hfz: ∀k∈c.fz,k∉c.D)(hbl:c.bs.length=c.D.length){v:Value}{t:Ret}{S1:Nat->Prop}{β1:Nat->Place}(hr:RetC (dK C hp w S β c.D c.fz) c.bs.length w' v t S1 β1){dst:Nat}{e:Eff}(he:ci hp c g dst t=some e):
  ∃S' β' used',HI C (Or1 U g) (hov e.wr hp) w' S' β' used'/\(aG C S β used hp w).le (aG C S' β' used' (hov e.wr hp) w')/\V (aG C S' β' used' (hov e.wr hp) w') v e.res:=by
 let FZ:Nat->Prop:=λb=> ∃k∈c.fz,∃x,hp k=some x/\(β k).isNil=false/\(β k).blk=b
 let X1:Nat->Prop:=λb=> ∃k∈c.D,(β k).isNil=false/\(β k).blk=b
 have kept1:Kept X1 w w':=hr.kept;have blkS: ∀k x,hp k=some x->(β k).isNil=false->S (β k).blk/\(C.W0.heap.size<=(β k).blk∨C.X (β k).blk):=λk x hk hn=>(h.at_ k x.1 x.2 hk).2.1 hn
 have X1S: ∀b,X1 b->S b/\(C.W0.heap.size<=b∨C.X b):=λb ⟨k,hk,hn,hb⟩=>by
  obtain ⟨x,hx⟩:=hlive k hk;subst hb;exact blkS k x hx hn
 have FZS: ∀b,FZ b->S b/\(C.W0.heap.size<=b∨C.X b):=λb ⟨k,hk,x,hx,hn,hb⟩=>by subst hb;exact blkS k x hx hn
 have S1cases: ∀b,S1 b->w.heap.size<=b∨(S b/\ ¬FZ b):=λb hb=>(hr.s b hb).2
 have keptC:Kept C.X C.W0 w':=h.kept.trans kept1 λb hb hx=>((X1S b hx).2).resolve_left (by omega)
 have cellKeep: ∀b o u,¬X1 b->w.cell? ⟨b,o,none⟩=some u->w'.cell? ⟨b,o,none⟩=some u:=λb o u hx hc=>by
  rw[((SameB.of_block (kept1.block b (qz hc) hx)).at o).1];exact hc
 have fresh_out: ∀b,C.S0 b-> ¬C.X b->S b/\ ¬FZ b:=λb hb hx=>⟨h.keep b hb hx,λhf=>by
  rcases (FZS b hf).2 with q|q
  ·have:=h.s0 b hb;omega
  ·exact hx q⟩
 have keep1: ∀b,C.S0 b-> ¬C.X b->S1 b:=λb hb hx=>hr.keep b (fresh_out b hb hx) λhx1=>by
  rcases (X1S b hx1).2 with q|q
  ·have:=h.s0 b hb;omega
  ·exact hx q
 have s1lt: ∀b,S1 b->b<w'.heap.size/\(C.W0.heap.size<=b∨C.S0 b):=λb hb=>⟨(hr.s b hb).1,by
  rcases S1cases b hb with q|q
  ·exact .inl (AN h.kept.size q)
  ·exact (h.s b q.1).2⟩
 -- a key that the callee did not get keeps its object
 have other: ∀k x,hp k=some x->k∉c.D->k∉c.fz->(β k).isNil=false->S1 (β k).blk/\SameB w w' (β k).blk:=λk x hk hD hf hn=>by
  obtain ⟨q1,q2⟩:=blkS k x hk hn
  have nX: ¬X1 (β k).blk:=λ⟨k',hk',hn',hb⟩=>by
   obtain ⟨x',hx'⟩:=hlive k' hk';exact hD (h.inj k' k _ _ hx' hk hn' hn hb▸hk')
  have nF: ¬FZ (β k).blk:=λ⟨k',hk',x',hx',hn',hb⟩=>hf (h.inj k' k _ _ hx' hk hn' hn hb▸hk')
  exact ⟨hr.keep _ ⟨q1,nF⟩ nX,.of_block (kept1.block _ (h.s _ q1).1 nX)⟩
 unfold ci at he;cases hdry:(t.bs.isEmpty&&t.r.dry) with
 |true=>
  rw[hdry] at he;obtain rfl:=Ai he;simp only[Av] at hdry;have hbs:t.bs= []:=List.isEmpty_iff.1 hdry.1
  have hD:c.D= []:=by
   have:=hr.len;rw[hbs,hbl] at this;exact AJ (by simpa using this)
  have nX: ∀b,¬X1 b:=λb ⟨k,hk,_⟩=>by rw[hD] at hk;cases hk
  refine ⟨λb=>S1 b∨FZ b,β,used,?_⟩
  have hch:=h.change (U':=Or1 U g) (hp':=hp) (w':=w') (S':=λb=>S1 b∨FZ b) (β':=β) (used':=used) keptC (λb o u hs hc=>⟨?_,cellKeep b o u (nX b) hc⟩) (λ_ _=>id) (λk g b hk _=>⟨⟨b,hk⟩,rfl⟩) ?_ (λb hb hx=>.inl (keep1 b hb hx)) (λk g hu=>.inl (h.us k g hu)) ?_ h.inj h.pl
  ·exact ⟨hch.1,hch.2,V.dry_env (E:=aG (dK C hp w S β c.D c.fz) S1 β1 (ib t.bs.length) (hpR t.bs) w') (E':=aG C (λb=>S1 b∨FZ b) β used hp w') rfl rfl hr.val hdry.2⟩
  ·rintro (q|q)
   ·rcases S1cases b q with y|y
    ·have:=qz hc;omega
    ·exact hs y.1
   ·exact hs (FZS b q).1
  ·rintro b (q|q)
   ·exact s1lt b q
   ·have:=h.s b (FZS b q).1
    exact ⟨B7 this.1 kept1.size,this.2⟩
  ·intro k g b hk
   refine .inl ⟨hk,rfl,λhn=>?_⟩
   have hsame:SameB w w' (β k).blk:=.of_block (kept1.block _ (h.s _ (blkS k _ hk hn).1).1 (nX _))
   by_cases hf:k∈c.fz
   ·exact ⟨.inr ⟨k,hf,_,hk,hn,rfl⟩,hsame⟩
   ·exact ⟨.inl (other k _ hk (by rw[hD];simp) hf hn).1,hsame⟩
 |false=>
  rw[hdry] at he;dsimp only[cond] at he;obtain ⟨lF,hlF⟩:=se c.D dst t.bs.length;generalize hKd:fh c.D dst t.bs.length=K at he;cases hb:((du t.r).isNone&&(cH K&&decide (K.length=t.bs.length))) with
  |false=>rw[hb] at he;cases he
  |true=>
   rw[hb] at he;obtain rfl:=Ai he;simp only[Av,AO] at hb;obtain ⟨_,hKn,hKl⟩:=hb;have hKn:=p6 hKn
   have hKD: ∀i k,c.D[i]? =some k->K[i]? =some k:=λi k hk=>by
    rw[<-hKd,hlF];rw[BF]
    ·exact hk
    ·rcases A4 i c.D.length with q|q
     ·exact q
     ·rw[AD q] at hk;cases hk
   have hDK: ∀k∈c.D,k∈K:=λk hk=>by rw[<-hKd,hlF];exact List.mem_append_left _ hk
   let gi:=iX hp K c.D.length g t.bs
   let φ:=qL hp K c.D.length g t.bs
   let hp1:=hov (bU c.fz) hp
   have hp1eq:hp1=dC hp c.fz:=je c.fz hp;obtain ⟨k1,k2⟩:=GW φ gi hp1 K t.bs 0 hKl hKn
   let hp':=hov (nj φ gi 0 K t.bs) hp1
   have hwr:hov (nj φ gi 0 K t.bs++bU c.fz) hp=hp':=adp _ _ _;rw[hwr];have kAt: ∀k,k∈K-> ∃i,idx k K=some i:=λk hk=>idx_at hk
   let β':Nat->Place:=λk=>match idx k K with|some i=>β1 i|none=>β k
   let used':Nat->Nat->Prop:=λk g'=>used k g'∨ ∃i,K[i]? =some k/\i<t.bs.length/\g'=gi i
   have β'K: ∀i k,K[i]? =some k->β' k=β1 i:=λi k hk=>by
    obtain ⟨j,hj⟩:=idx_at (A5 hk);have:j=i:=nf hKn (fJ hj) hk;subst this;show (match idx k K with|some i=>β1 i|none=>β k)=_
    rw[hj]
   have β'o: ∀k,k∉K->β' k=β k:=λk hk=>by
    show (match idx k K with|some i=>β1 i|none=>β k)=_
    cases hi:idx k K with
    |none=>rfl
    |some i=>exact absurd (A5 (fJ hi)) hk
   have bsAt: ∀i k,K[i]? =some k-> ∃x,t.bs[i]? =some x/\i<t.bs.length:=λi k hk=>by
    have:i<K.length:=by
     rcases A4 i K.length with q|q
     ·exact q
     ·rw[AD q] at hk;cases hk
    exact ⟨t.bs[i]'(by omega),by rw[AK],by omega⟩
   -- the two kinds of keys
   have hpK: ∀k x,hp' k=some x->(∃i y,K[i]? =some k/\t.bs[i]? =some y/\i<t.bs.length/\x=(gi i,y.2.ren φ))∨(k∉K/\k∉c.fz/\hp k=some x):=λk x hk=>by
    by_cases hm:k∈K
    ·left
     obtain ⟨i,hi⟩:=kAt k hm;obtain ⟨y,hy,hlt⟩:=bsAt i k (fJ hi);have:=k1 i k y (fJ hi) hy;rw[A7] at this;refine ⟨i,y,fJ hi,hy,hlt,?_⟩;exact Ai (hk.symm.trans this)
    ·right
     have:=k2 k hm;have hk1:hp1 k=some x:=this.symm.trans hk;rw[hp1eq] at hk1;unfold dC at hk1;split at hk1
     ·cases hk1
     ·rename_i q;exact ⟨hm,by simpa using q,hk1⟩
   -- an old stamp under a target key
   have giOld: ∀i k,K[i]? =some k->i<t.bs.length->(gi i=g)∨(∃b,c.D[i]? =some k/\hp k=some (gi i,b)/\β1 i=β k):=λi k hk hlt=>by
    show (iX hp K c.D.length g t.bs i=g)∨(∃b,c.D[i]? =some k/\hp k=some (iX hp K c.D.length g t.bs i,b)/\β1 i=β k)
    unfold iX;cases hq:(decide (i<c.D.length)&&(t.bs.getD i default).1) with
    |false=>exact .inl rfl
    |true=>
     right
     simp only[Av,AO] at hq;have hDi:c.D[i]? =some (c.D[i]'hq.1):=AK hq.1;have:=hKD i _ hDi;rw[hk] at this;obtain rfl:=Ai this;obtain ⟨⟨g0,b0⟩,hx⟩:=hlive _ (List.getElem_mem hq.1);have hKg:K.getD i 0=c.D[i]'hq.1:=by rw[Aj,hk];rfl
     refine ⟨b0,hDi,by simp only[cond_true,hKg,yq,hx],?_⟩
     have hbi:t.bs[i]? =some (t.bs[i]'hlt):=AK hlt;have hflag:(t.bs[i]'hlt).1=true:=by have:=hq.2;rwa [Aj,hbi] at this
     have:=hr.pl i _ (by omega) hbi hflag
     rw[this];show β (c.D.getD i 0)=_
     rw[Aj,hDi];rfl
   have hro: ∀b o u,¬S b->w.cell? ⟨b,o,none⟩=some u-> ¬S1 b/\w'.cell? ⟨b,o,none⟩=some u:=λb o u hs hc=>
    ⟨λq=>(S1cases b q).elim (λy=>by have:=qz hc;omega) λy=>hs y.1,cellKeep b o u (λq=>hs (X1S b q).1) hc⟩
   have hlv: ∀k g' b,hp' k=some (g',b)->used k g'->(∃b',hp k=some (g',b'))/\β' k=β k:=λk g' b hk hu=>by
    rcases hpK k _ hk with ⟨i,y,q1,q2,q3,q4⟩|⟨q1,q2,q3⟩
    ·obtain ⟨rfl,_⟩:=Prod.mk.inj q4
     rcases giOld i k q1 q3 with z|⟨b0,_,z2,z3⟩
     ·rw[z] at hu;exact absurd (h.us _ _ hu) hg
     ·exact ⟨⟨b0,z2⟩,(β'K i k q1).trans z3⟩
    ·exact ⟨⟨b,q3⟩,β'o k q1⟩
   have l:(aG C S β used hp w).le (aG C S1 β' used' hp' w'):=kJ hro (λ_ _=>.inl) hlv
   have hren:RenOk (aG (dK C hp w S β c.D c.fz) S1 β1 (ib t.bs.length) (hpR t.bs) w') (aG C S1 β' used' hp' w') φ:=by
    refine ⟨λb o u q=>q,rfl,rfl,λi g' hu=>?_⟩
    obtain ⟨hlt,rfl⟩:=hu;have hKi:K[i]? =some (K[i]'(by omega)):=AK (by omega)
    show (match φ i 0 with| .to k' g'=>_| .frz b=>_| .dead=>_)
    have hφ:φ i 0= .to (K[i]'(by omega)) (gi i):=by show qL hp K c.D.length g t.bs i 0=_;unfold qL;rw[hKi]
    rw[hφ];refine ⟨.inr ⟨i,hKi,hlt,rfl⟩,λp hp2=>?_⟩
    obtain ⟨b,_,rfl⟩:=fF hp2;rw[β'K i _ hKi];have:hpR t.bs i=some (0,(t.bs[i]'hlt).2):=by simp[hpR,hlt]
    exact bu this
   have hch:=h.change (U':=Or1 U g) (hp':=hp') (w':=w') (S':=S1) (β':=β') (used':=used') keptC hro (λ_ _=>.inl) hlv s1lt keep1 ?_ ?_ ?_ ?_
   ·exact ⟨S1,β',used',hch.1,l,hr.val.ren hren⟩
   ·rintro k g' (hu|⟨i,hi,hlt,rfl⟩)
    ·exact .inl (h.us _ _ hu)
    ·rcases giOld i k hi hlt with z|⟨b0,_,z2,_⟩
     ·exact .inr z
     ·exact .inl (h.us _ _ (h.at_ k _ _ z2).1)
   ·intro k g' b hk
    rcases hpK k _ hk with ⟨i,y,q1,q2,q3,q4⟩|⟨q1,q2,q3⟩
    ·right
     obtain ⟨rfl,rfl⟩:=Prod.mk.inj q4;rw[β'K i k q1];obtain ⟨z1,z2⟩:=hr.at_ i y q2;refine ⟨.inr ⟨i,q1,q3,rfl⟩,λhn=>⟨(z1 hn).1,?_⟩,z2.ren hren⟩
     rcases (z1 hn).2 with y|y
     ·exact .inl (AN h.kept.size y)
     ·exact (X1S _ y).2
    ·left
     refine ⟨q3,β'o k q1,λhn=>other k _ q3 (λq=>q1 (hDK k q)) q2 hn⟩
   ·have inD: ∀i k,K[i]? =some k->i<t.bs.length->(β1 i).isNil=false-> ∀k2 x2,hp k2=some x2->k2∉K->(β k2).isNil=false->(β1 i).blk≠(β k2).blk:=λi k hi hlt hn k2 x2 h2 hk2 hn2 hbk=>by
     obtain ⟨y,hy,_⟩:=bsAt i k hi;rcases ((hr.at_ i y hy).1 hn).2 with q|⟨k3,hk3,hn3,hb3⟩
     ·have:=(h.s _ (blkS k2 x2 h2 hn2).1).1
      have q':w.heap.size<=(β1 i).blk:=q;rw[hbk] at q';omega
     ·obtain ⟨x3,hx3⟩:=hlive k3 hk3
      have:=h.inj k3 k2 _ _ hx3 h2 hn3 hn2 (hb3.trans hbk);exact hk2 (this▸hDK k3 hk3)
    intro k k' x x' h1 h2 n1 n2 hbk;rcases hpK k _ h1 with ⟨i,y,q1,q2,q3,_⟩|⟨q1,q2,q3⟩<;>rcases hpK k' _ h2 with ⟨i',y',p1,p2,p3,_⟩|⟨p1,p2,p3⟩
    ·rw[β'K i k q1] at n1 hbk
     rw[β'K i' k' p1] at n2 hbk;have:=hr.inj i i' q3 p3 n1 n2 hbk;subst this;exact Ai (q1.symm.trans p1)
    ·rw[β'K i k q1] at n1 hbk
     rw[β'o k' p1] at n2 hbk;exact absurd hbk (inD i k q1 q3 n1 k' _ p3 p1 n2)
    ·rw[β'o k q1] at n1 hbk
     rw[β'K i' k' p1] at n2 hbk;exact absurd hbk.symm (inD i' k' p1 p3 n2 k _ q3 q1 n1)
    ·rw[β'o k q1] at n1 hbk
     rw[β'o k' p1] at n2 hbk;exact h.inj k k' _ _ q3 p3 n1 n2 hbk
   ·intro k b hk
    rcases hpK k _ hk with ⟨i,y,q1,q2,q3,q4⟩|⟨q1,q2,q3⟩
    ·obtain ⟨e0,_⟩:=Prod.mk.inj q4
     rcases giOld i k q1 q3 with z|⟨b0,_,z2,z3⟩
     ·exact absurd (e0.trans z).symm hg0
     ·rw[β'K i k q1,z3]
      rw[<-e0] at z2;exact h.pl k b0 z2
    ·rw[β'o k q1];exact h.pl k b q3
end
open Go.RowKit
theorem jY {hg hg':HF}: ∀{D:CT},(∀k∈D,hg k=hg' k)->bA hg D=bA hg' D
 | [],_=>rfl
 |k::r,h=>by simp only[bA];rw[h k (by simp),jY λk' hk=>h k' (by simp[hk])]
section
variable {hg hg':HF}{raw:Bool}{args:CL}
theorem Ff (h: ∀k∈gY hg raw args,hg k=hg' k):gY hg' raw args=gY hg raw args:=by
 unfold gY at h⊢;generalize b8 raw args=D at h⊢;cases D with
 |nil=>rfl
 |cons d r=>
  dsimp only at h⊢;unfold qw at h⊢;have h0:=λk hk=>h k (List.mem_append_left _ hk)
  suffices hE:dU (d::r++bA hg' (d::r)++bA hg' (d::r++bA hg' (d::r)))=dU (d::r++bA hg (d::r)++bA hg (d::r++bA hg (d::r))) by
   rw[hE,jY (hg:=hg') (hg':=hg) λk hk=>(h0 k hk).symm]
  clear h;have h:=h0
  rw[jY (hg:=hg') (hg':=hg) (D:=d::r) λk hk=>(h k (eW.2 (List.mem_append_left _ (List.mem_append_left _ hk)))).symm,
   jY (hg:=hg') (hg':=hg) (D:=(d::r)++bA hg (d::r)) λk hk=>(h k (eW.2 (List.mem_append_left _ hk))).symm]
theorem rY {hg hg':HF}{φ φ':Nat->Nat->Tgt}(hφ:φ=φ'): ∀{D:CT},(∀k∈D,hg k=hg' k)->jp hg φ D=jp hg' φ' D
 | [],_=>rfl
 |k::r,h=>by simp only[jp];rw[h k (by simp),rY hφ λk' hk=>h k' (by simp[hk]),hφ]
theorem p9 {k:Nat}{D:CT}(h:k∉D):idx k D=none:=by
 cases hq:idx k D with
 |none=>rfl
 |some i=>exact absurd (A5 (fJ hq)) h
theorem Tj {D fz:CT}(h: ∀k∈fz++D,hg k=hg' k):oZ hg D fz=oZ hg' D fz:=by
 funext k g
 by_cases hk:k∈fz++D
 ·unfold oZ;rw[h k hk]
 ·simp only[B5,not_or] at hk
  have dead: ∀f:HF,oZ f D fz k g= .dead:=λf=>by
   unfold oZ;have hc:fz.contains k=false:=by simpa using hk.1
   cases f k with
   |none=>rfl
   |some x=>
    obtain ⟨g',b⟩:=x;simp only[p9 hk.2,hc,BS,cond_false,ite_self]
  rw[dead,dead]
theorem Ll {c:CIn}(hc:fp hg raw args=some c)(h: ∀k∈c.fz++c.D,hg k=hg' k):fp hg' raw args=some c:=by
 unfold fp at hc⊢;split
 ·rename_i hk;rw[hk] at hc;exact hc
 ·rename_i K hK
  split at hc
  ·rename_i hk;exact absurd hk hK
  ·obtain ⟨bs,hb,rfl⟩:=map_some hc
   dsimp only at h⊢;rw[Ff (hg:=hg) (hg':=hg') λk hk=>h k (List.mem_append_right _ hk)]
   rw[<-Tj h,<-rY (hg:=hg) rfl λk hk=>h k (List.mem_append_right _ hk),hb]
   rfl
theorem Fy {c:CIn}{g dst:Nat}{t:Ret}{e:Eff}(he:ci hg c g dst t=some e)(h: ∀k∈c.fz++c.D,hg k=hg' k):ci hg' c g dst t=some e:=by
 have hg1: ∀i,iX hg (fh c.D dst t.bs.length) c.D.length g t.bs i=iX hg' (fh c.D dst t.bs.length) c.D.length g t.bs i:=λi=>by
  unfold iX;cases hq:(decide (i<c.D.length)&&(t.bs.getD i default).1) with
  |false=>rfl
  |true=>
   simp only[Av,AO] at hq;simp only[cond_true]
   have:(fh c.D dst t.bs.length).getD i 0=c.D[i]'hq.1:=by
    obtain ⟨lF,hlF⟩:=se c.D dst t.bs.length;rw[hlF];rw[Aj,BF hq.1,AK hq.1];rfl
   rw[this];unfold yq;rw[h _ (List.mem_append_right _ (List.getElem_mem _))]
 have hg2:iX hg (fh c.D dst t.bs.length) c.D.length g t.bs=iX hg' (fh c.D dst t.bs.length) c.D.length g t.bs:=funext hg1
 have hg3:qL hg (fh c.D dst t.bs.length) c.D.length g t.bs=qL hg' (fh c.D dst t.bs.length) c.D.length g t.bs:=by
  funext i x;unfold qL;rw[hg1]
 unfold ci at he⊢;dsimp only at he⊢;rw[<-hg2,<-hg3];exact he
end
theorem Tf {hg:HF}{c:CIn}{g dst:Nat}{t:Ret}{e:Eff}(he:ci hg c g dst t=some e):e.rd=c.fz++c.D:=by
 unfold ci at he;cases h1:(t.bs.isEmpty&&t.r.dry) with
 |true=>rw[h1] at he;obtain rfl:=Ai he;rfl
 |false=>
  rw[h1] at he;dsimp only[cond] at he;split at he
  ·obtain rfl:=Ai he;rfl
  ·cases he
section
variable (P:Program)(N:Nums)(n:Nat)(ops:Array Oper)(i:Nat)(o:Oper)
def abW:C8->Bool
 |none=>true
 |some d=>decide (d<n)
def DP:DN->Option DN
 |none=>some none
 |some (j,w)=>match (ops[j]?).bind (·.dst) with
  |some t=>if t<D0 then some (some (t,w)) else none
  |none=>none
def PQ:CT:=(o.after.toList.filter λe=>Region.binds .any e).map (·.on)
def KG:Option AOper:=
 match bx P N o,DP ops o.guard with
 |some op,some gd=>if abW n o.dst=true/\(PQ o).all (λj=>decide (j<i))=true then some {dst:=o.dst,op:=op,guard:=gd,after:=PQ o} else none
 |_,_=>none
end
def fu (P:Program)(N:Nums)(n:Nat)(ops:Array Oper):Nat->List Oper->Option CO
 |_,[]=>some []
 |i,o::r=>match KG P N n ops i o,fu P N n ops (i+1) r with
  |some a,some l=>some (a::l)
  |_,_=>none
def LR (x y:AOper):Bool:=
 (match x.dst with|some t=> !(looks y).contains t&&y.dst !=some t|none=>true)&&(match y.dst with|some t=> !(looks x).contains t|none=>true)
def ur:Nat->CO->Bool
 |_,[]=>true
 |k,o::r=>r.all (λo'=>o'.after.contains k||LR o o')&&ur (k+1) r
def cd (acc:List CT):CO->CO
 | []=>[]
 |o::r=> {o with after:=dU (o.after++o.after.flatMap λk=>acc.getD k [])}::cd (acc++[dU (o.after++o.after.flatMap λk=>acc.getD k [])]) r
def Rh:AOp->Bool
 | .mv _| .pick .. | .build .. | .fadr .. | .bin .. | .eqb .. | .eqn .. | .eqs .. | .un .. | .conv .. | .ext .. | .minmax .. | .istr .. | .slstr .. | .mkfn .. | .nilck _| .iarr .. | .ival .. =>false
 |_=>true
def agC (l:CO)(j:Nat):Bool:=match l[j]? with
 |some o=>Rh o.op
 |none=>true
def kz (draw:Bool)(l:CO):CO:=bif draw then l.map (λo=> {o with after:=bif Rh o.op then o.after.filter (λj=>agC l j) else []}) else l.map λo=> {o with after:=[]}
def ce (P:Program)(N:Nums)(n:Nat):Code->Option ACode
 | .skip=>some .skip
 | .region _ ops draw=>match fu P N n ops 0 ops.toList with
  |some l=>if draw=true->ur 0 (cd [] l)=true then some (.region (kz draw (cd [] l)) draw) else none
  |none=>none
 | .seq a b=>match ce P N n a,ce P N n b with
  |some a,some b=>some (.seq a b)
  |_,_=>none
 | .cond c a b=>match aH N c,ce P N n a,ce P N n b with
  |some c,some a,some b=>some (.cond c a b)
  |_,_,_=>none
 | .block id b=>(ce P N n b).map (.block id)
 | .loop b=>(ce P N n b).map .loop
 | .scope b=>(ce P N n b).map .scope
 | .exit id=>some (.exit id)
 | .ret=>some .ret
 | .label _=>some .skip
 |_=>none
def jb (P:Program):ResultVar->Option RVar
 | .tmp t=>if t<D0 then some (.t t) else none
 | .cell a t=>match qG P t with
  |some sz=>if sz≠some 0/\a<D0 then some (.cell a sz) else none
  |none=>none
def lk (P:Program)(N:Nums)(raw:Bool)(fn:Func):Option AFunc:=
 match fn.body with
 |some c=>match ce P N fn.ntmps c,dP (jb P) fn.results.toList with
  |some b,some rs=>if fn.params.size+fn.nfree<=fn.ntmps/\fn.ntmps<=D0/\fn.name≠ "runtime.NumGoroutine" then some {n:=fn.ntmps,np:=fn.params.size+fn.nfree,raw:=raw,results:=rs,body:=b} else none
  |_,_=>none
 |none=>none
section
variable {P:Program} {C:Ctx} {N:Nums}
theorem DE {F F':FSt}{ao:AOper}(h: ∀t∈looks ao,F'.tm t=F.tm t):ao.op.opds.map (evF F')=ao.op.opds.map (evF F):=by
 apply List.map_congr_left;intro x hx;cases x with
 |c v=>rfl
 |t n=>exact h n (List.mem_append_left _ (List.mem_filterMap.2 ⟨.t n,hx,rfl⟩))
theorem t6 {U:Nat->Prop}{F:FSt}{a:Act}{w:World}{S:Nat->Prop}{β:Nat->Place}{used:Nat->Nat->Prop}(h:RelC C U F a w S β used)(hn:ew N C)(x:Operand)(y:Opd)(hx:aH N x=some y):V (aG C S β used F.hp w) (a.eval x) (evF F y):=by
 cases x with
 |tmp t=>
  simp only[aH] at hx;split at hx
  ·rename_i hlt
   obtain rfl:=Ai hx;have:=h.tm t;rw[xo hlt] at this;exact this
  ·cases hx
 |const v=>
  simp only[aH] at hx;obtain ⟨av,h1,rfl⟩:=map_some hx;exact ab5 h1
 |func f=>
  simp only[aH] at hx;split at hx
  ·rename_i hf
   obtain rfl:=Ai hx;have:=V.fn (E:=aG C S β used F.hp w) (N.fid f) #[] [] rfl (λi hi=>by simp at hi)
   unfold bV fnF fnC at this;rw[hf.2] at this;dsimp only[cond] at this;have e:(aG C S β used F.hp w).num (N.fid f)=f:=by show C.num _=f;rw[hn.1];exact hf.1
   rw[e] at this;exact this
  ·cases hx
 |global g=>
  simp only[aH] at hx;split at hx
  ·rename_i cs hg
   split at hx
   ·rename_i hp
    obtain rfl:=Ai hx;exact hn.2.1.at_hi h.hi hg hp
   ·cases hx
  ·cases hx
theorem adG {ops:Array Oper}{i g:Nat}{o:Oper}{ao:AOper}(hr:OpRel P N C.n ops i o ao)(hn:ew N C)(ht:C.tnum=N.tnum)(hcall: ∀f args,ao.op≠ .call f args)(hg0:g≠0){key:Nat}{e:Eff}{F:FSt}(he:aX ao.op g key (ao.op.opds.map (evF F)) F.hp=some e):L8 P C o g ao.dst e F:=by
 intro U a w K Q hg hR hK;obtain ⟨S,β,used,hRC⟩:=hR;have hs:Sit P C U F.hp w S β used g N a.eval (evF F):=⟨hRC.hi,hn.1,ht,λx y hx=>t6 hRC hn x y hx,hg,hg0⟩
 obtain ⟨v,w',hrun,S',β',used',q1,q2,q3⟩:=agw hs hr.op hcall he;have hstep:=hRC.step q1 q2 ao.dst (λd hd=>hr.bd d (by rw[<-hr.dst];exact hd)) q3
 have hk:=hK _ w' ⟨S',β',used',hstep⟩;unfold Oper.wp;rw[hr.dst] at hk;rcases hrun with h|⟨h,rfl⟩<;>rw[h]
 ·exact hk
 ·exact hk
theorem NW {o:Oper}{fo:Opd}{args:DO}(h:bx P N o=some (.call fo args)):
  ∃cf cargs tys,o.op= .call {callee:=.value cf,args:=cargs,argTypes:=tys}/\aH N cf=some fo/\dP (aH N) cargs.toList=some args:=by
 cases ho:o.op with
 |call c=>
  obtain ⟨callee,cargs,tys⟩:=c;cases callee with
  |value f=>
   simp only[bx,ho] at h;split at h
   ·rename_i f' xs h1 h2
    obtain ⟨rfl,rfl⟩:f'=fo/\xs=args:=by have:=Ai h;cases this;exact ⟨rfl,rfl⟩
    exact ⟨f,cargs,tys,rfl,h1,h2⟩
   ·cases h
  |invoke r m=>simp[bx,ho] at h
  |builtin b=>
   exfalso;simp only[bx,ho] at h
   (repeat' split at h)<;>first|(cases h;done)|(obtain ⟨_,_,q⟩:=map_some h;cases q;done)|(have q:=Ai h;cases q;done)
 |binOp op t x y t'=>
  exfalso;simp only[bx,ho] at h;split at h
  ·cases op<;>dsimp only at h
   case eql|neq=>
    unfold qx at h
    (repeat' split at h)<;>first|(cases h;done)|(obtain ⟨_,_,q⟩:=map_some h;cases q;done)|(have q:=Ai h;cases q;done)
   all_goals (have q:=Ai h;cases q)
  ·cases h
 |makeFunc fn first cap=>
  exfalso;cases fn<;>simp only[bx,ho] at h<;>first|(cases h;done)|skip
  (repeat' split at h)<;>first|(cases h;done)|(obtain ⟨_,_,q⟩:=map_some h;cases q;done)
 |_=>
  exfalso;simp only[bx,ho] at h
  first
  |(cases h;done)
  |(obtain ⟨_,_,q⟩:=map_some h;cases q;done)
  |((repeat' split at h)<;>first|(cases h;done)|(obtain ⟨_,_,q⟩:=map_some h;cases q;done)|(have q:=Ai h;cases q;done)|(simp at h;done))
theorem KH {o:Oper}{x:Opd}(h:bx P N o=some (.panic x)): ∃y,o.op= .panic y/\aH N y=some x:=by
 cases ho:o.op with
 |panic y=>
  simp only[bx,ho] at h;obtain ⟨a,h1,h2⟩:=map_some h;cases h2;exact ⟨y,rfl,h1⟩
 |call c=>
  obtain ⟨callee,cargs,tys⟩:=c;cases callee with
  |value f=>
   exfalso;simp only[bx,ho] at h;split at h
   ·have q:=Ai h;cases q
   ·cases h
  |invoke r m=>simp[bx,ho] at h
  |builtin b=>
   exfalso;simp only[bx,ho] at h
   (repeat' split at h)<;>first|(cases h;done)|(obtain ⟨_,_,q⟩:=map_some h;cases q;done)|(have q:=Ai h;cases q;done)
 |binOp op t x y t'=>
  exfalso;simp only[bx,ho] at h;split at h
  ·cases op<;>dsimp only at h
   case eql|neq=>
    unfold qx at h
    (repeat' split at h)<;>first|(cases h;done)|(obtain ⟨_,_,q⟩:=map_some h;cases q;done)|(have q:=Ai h;cases q;done)
   all_goals (have q:=Ai h;cases q)
  ·cases h
 |makeFunc fn first cap=>
  exfalso;cases fn<;>simp only[bx,ho] at h<;>first|(cases h;done)|skip
  (repeat' split at h)<;>first|(cases h;done)|(obtain ⟨_,_,q⟩:=map_some h;cases q;done)
 |_=>
  exfalso;simp only[bx,ho] at h
  first
  |(cases h;done)
  |(obtain ⟨_,_,q⟩:=map_some h;cases q;done)
  |((repeat' split at h)<;>first|(cases h;done)|(obtain ⟨_,_,q⟩:=map_some h;cases q;done)|(have q:=Ai h;cases q;done)|(simp at h;done))
theorem ab6 {E:Env}{xs ys:Array Value}{as bs:CL}(h1:xs.size=as.length)(v1: ∀i,i<as.length->V E (xs.getD i undef) (as.getD i .any))(v2: ∀i,i<bs.length->V E (ys.getD i undef) (bs.getD i .any)): ∀i,i<(as++bs).length->V E ((xs++ys).getD i undef) ((as++bs).getD i .any):=λi hi=>by
 by_cases q:i<as.length
 ·have:=v1 i q
  have a1:(xs++ys).getD i undef=xs.getD i undef:=by
   simp only[Ak,Array.getElem?_append,h1,Ad q]
  have a2:(as++bs).getD i .any=as.getD i .any:=by
   simp only[Aj];rw[BF q]
  rw[a1,a2];exact this
 ·have:=v2 (i-as.length) (by simp at hi;omega)
  have a1:(xs++ys).getD i undef=ys.getD (i-as.length) undef:=by
   simp only[Ak,Array.getElem?_append,h1,Ac q]
  have a2:(as++bs).getD i .any=bs.getD (i-as.length) .any:=by
   simp only[Aj];rw[BO (by omega)]
  rw[a1,a2];exact this
section
variable {ops:Array Oper}{i g:Nat}{o:Oper}{ao:AOper}{fo:Opd}{args:DO}(hr:OpRel P N C.n ops i o ao)(hn:ew N C)(ht:C.tnum=N.tnum)(hop:ao.op= .call fo args)(hg0:g≠0){F:FSt}{f:Nat}{cap:CL}(hf:evF F fo= .fn f cap){raw:Bool}{c:CIn}(hc:fp F.hp raw (bif isB f then cap++args.map (evF F) else args.map (evF F)++cap)=some c){t:Ret}(hsem:fM P N (bV f) c.args c.bs t){fn:Func}(hfn:P.funcs[N.num (bV f)]? =some fn)(hb:fn.body.isSome=true)(hname:fn.name≠ "runtime.NumGoroutine"){dst:Nat}{e:Eff}
include hr hn ht hop hg0 hf hc hsem hfn hb hname
theorem yO (he:ci F.hp c g dst (unR t)=some e){U:Nat->Prop}{a:Act}{w:World}(hg: ¬U g)(hR:Rel C U F a w):
  ∃S β used args,RelC C U F a w S β used/\(execOp a.eval o).run P w= .ok (.enter (N.num (bV f)) args) w/\Calls P (N.num (bV f)) args w λe' w'=> ∃v,e'=iz t.r v/\
   ∃S' β' used',HI C (Or1 U g) (hov e.wr F.hp) w' S' β' used'/\(aG C S β used F.hp w).le (aG C S' β' used' (hov e.wr F.hp) w')/\V (aG C S' β' used' (hov e.wr F.hp) w') v e.res:=by
 obtain ⟨S,β,used,hRC⟩:=hR;have hcomp:=hr.op;rw[hop] at hcomp
 -- the machine's operation
 obtain ⟨cf,cargs,tys,hoc,h1,h2⟩: ∃cf cargs tys,o.op= .call {callee:=.value cf,args:=cargs,argTypes:=tys}/\aH N cf=some fo/\dP (aH N) cargs.toList=some args:=NW hcomp
 have hs:Sit P C U F.hp w S β used g N a.eval (evF F):=⟨hRC.hi,hn.1,ht,λx y hx=>t6 hRC hn x y hx,hg,hg0⟩
 have vf:=hs.at_ cf fo h1;rw[hf] at vf;obtain ⟨cs,e1,e2,e3⟩:=vf.fn_inv;obtain ⟨l1,l2⟩:=hs.list _ _ h2;have hnum:(aG C S β used F.hp w).num (bV f)=N.num (bV f):=by show C.num _=_;rw[hn.1]
 rw[hnum] at e1;have hl:cargs.size=args.length:=by simpa using l1
 have hl2: ∀i,i<(args.map (evF F)).length->V (aG C S β used F.hp w) ((cargs.map a.eval).getD i undef) ((args.map (evF F)).getD i .any):=λi hi=>by
  have:=l2 i (by simpa using hi)
  rwa [show (cargs.map a.eval).getD i undef=(cargs.toList.map a.eval).getD i undef from by simp[Ak,Aj]]
 have hnone:fn.body≠none:=by rintro q;rw[q] at hb;cases hb
 have hrun:(execOp a.eval o).run P w= .ok (.enter (N.num (bV f)) (bif isB f then cs++cargs.map a.eval else cargs.map a.eval++cs)) w:=by
  cases hbf:isB f<;>simp[fnF,fnC,hbf] at e1<;>simp[execOp,hoc,resolve,e1,Deferred.ofValue,invoke,callFunc,hfn,hname,hnone]
 have hargsz:(bif isB f then cs++cargs.map a.eval else cargs.map a.eval++cs).size=(bif isB f then cap++args.map (evF F) else args.map (evF F)++cap).length:=by
  cases isB f<;>simp[e2,hl]
 have hv: ∀i,i<(bif isB f then cap++args.map (evF F) else args.map (evF F)++cap).length->V (aG C S β used F.hp w) ((bif isB f then cs++cargs.map a.eval else cargs.map a.eval++cs).getD i undef) ((bif isB f then cap++args.map (evF F) else args.map (evF F)++cap).getD i .any):=λi hi=>by
  cases hbf:isB f with
  |true=>rw[hbf] at hi;exact ab6 e2 e3 hl2 i hi
  |false=>rw[hbf] at hi;exact ab6 (by simpa using hl) hl2 e3 i hi
 obtain ⟨hent,d1,d2,d3,d4⟩:=WT hRC.hi hn ht hargsz hv hc;have hcalls:=hsem _ _ hent;refine ⟨S,β,used,_,hRC,hrun,hcalls.mono ?_⟩
 rintro e' w' ⟨v,rfl,S1,β1,hret⟩
 obtain ⟨S',β',used',q1,q2,q3⟩:=Tg hRC.hi hg hg0 d1 d2 d3 d4 hret he;exact ⟨v,rfl,S',β',used',q1,q2,q3⟩
theorem WC (he:ci F.hp c g dst t=some e):L8 P C o g ao.dst e F:=by
 intro U a w K Q hg hR hK;have hnp:=Th he;obtain ⟨S,β,used,vs,hRC,hrun,hcalls⟩:=yO hr hn ht hop hg0 hf hc hsem hfn hb hname (by rw[xl hnp];exact he) hg hR
 unfold Oper.wp;rw[hrun];show Calls P (N.num (bV f)) vs w _
 refine hcalls.mono ?_
 rintro e' w' ⟨v,rfl,S',β',used',q1,q2,q3⟩
 rw[ry hnp];have hstep:=hRC.step q1 q2 ao.dst (λd hd=>hr.bd d (by rw[<-hr.dst];exact hd)) q3
 have hk:=hK _ w' ⟨S',β',used',hstep⟩;rw[hr.dst] at hk;exact hk
theorem SW (he:jH F.hp c g dst t=some e):uK P C o g e F:=by
 intro U a w K Q hg hR hK;unfold jH at he;split at he
 ·rename_i av hu
  obtain ⟨S,β,used,vs,hRC,hrun,hcalls⟩:=yO hr hn ht hop hg0 hf hc hsem hfn hb hname (by rw[ags hu];exact he) hg hR
  unfold Oper.wp;rw[hrun];show Calls P (N.num (bV f)) vs w _
  refine hcalls.mono ?_
  rintro e' w' ⟨v,rfl,S',β',used',q1,q2,q3⟩
  rw[adF hu];refine hK v w' S' β' used' ⟨q1,hRC.size,hRC.defers,λt=>(hRC.tm t).mono q2⟩ q3
 ·cases he
end
theorem SV {ops:Array Oper}{i g:Nat}{o:Oper}{ao:AOper}{x:Opd}(hr:OpRel P N C.n ops i o ao)(hn:ew N C)(hop:ao.op= .panic x){F:FSt}{ty:Nat}{av:AV}(hx:evF F x= .ifc ty av):uK P C o g {res:=.ifc ty av} F:=by
 intro U a w K Q hg hR hK;obtain ⟨S,β,used,hRC⟩:=hR;have hcomp:=hr.op;rw[hop] at hcomp;obtain ⟨y,hoc,h1⟩: ∃y,o.op= .panic y/\aH N y=some x:=KH hcomp
 have hv:=t6 hRC hn y x h1;rw[hx] at hv
 have hrun:(execOp a.eval o).run P w= .halt (.panic (a.eval y)) w:=by
  cases hq:a.eval y<;>rw[hq] at hv<;>cases hv
  simp[execOp,hoc,hq];rfl
 unfold Oper.wp;rw[hrun];exact hK _ w S β used ⟨hRC.hi.wide λ_=>.inl,hRC.size,hRC.defers,hRC.tm⟩ hv
end
open Go.RowKit
def OkS (after:CT)(e:Eff):DD->Prop
 | []=>True
 |(j,rd,wk,sf)::r=>(after.contains j=true∨(i6 wk e.rd=false/\i6 wk (wks e.wr)=false/\ ∀k∈wks e.wr,k∈rd-> ∀f,Sft sf k (hov e.wr f k)))/\OkS after e r
theorem OkS.of {after:CT}{e:Eff}: ∀{dn:DD},jI after e dn=true->OkS after e dn
 | [],_=>trivial
 |(j,rd,wk,sf)::r,h=>by
  simp only[jI,Av,Bool.or_eq_true,Bool.not_eq_true'] at h;refine ⟨?_,OkS.of h.2⟩;rcases h.1 with q|⟨⟨q1,q2⟩,q3⟩
  ·exact .inl q
  ·refine .inr ⟨q1,q2,λk hk hr=>?_⟩
   exfalso;have:i6 (wks e.wr) rd=true:=by unfold i6;rw[List.any_eq_true];exact ⟨k,hk,by simpa using hr⟩
   rw[this] at q3;cases q3
def nh (G:Nat->Fun)(Q:(Cfg->Df)->Prop)(draw:Bool):CO->Nat->DD->AS->List Dg->AS->Prop
 | [],_,_,A,[],A'=>A'=A
 |o::r,i,dn,A,none::es,A'=>bN A.tm o.guard=some false/\nh G Q draw r (i+1) dn (A.put o.dst ip) es A'
 |o::r,i,dn,A,some e::es,A'=>bN A.tm o.guard=some true/\(∃ih,Q ih/\ig G ih o (A.ctr+i) A=some e)/\(draw=true->OkS o.after e dn)/\nh G Q draw r (i+1) (lW i e dn) (A.app o.dst e) es A'
 |_,_,_,_,_,_=>False
def Wk0 (A A':AS):Prop:=A'.ctr=A.ctr/\ ∀C U a w,Rel C U A.fs a w->Rel C U A'.fs a w
theorem Wk0.refl (A:AS):Wk0 A A:=⟨rfl,λ_ _ _ _ h=>h⟩
theorem Wk0.trans {A B D:AS}(h:Wk0 A B)(k:Wk0 B D):Wk0 A D:=⟨k.1.trans h.1,λC U a w r=>k.2 C U a w (h.2 C U a w r)⟩
def RegPan (G:Nat->Fun)(Q:(Cfg->Df)->Prop)(rs:C7)(m:Nat)(t:Ret):CO->Nat->AS->Prop
 | [],_,_=>False
 | o::r,i,A=> ∃A1,Wk0 A A1/\((bN A1.tm o.guard=some false/\RegPan G Q rs m t r (i+1) (A1.put o.dst ip))∨
   (∃A2 e,Wk0 A1 A2/\bN A1.tm o.guard=some true/\(∃ih,Q ih/\ig G ih o (A.ctr+i) A2=some e)/\RegPan G Q rs m t r (i+1) (A2.app o.dst e))∨
   ∃A2 e,Wk0 A1 A2/\bN A1.tm o.guard=some true/\(∃ih,Q ih/\iR G ih o (A.ctr+i) A2=some e)/\eo {A2 with hp:=e.wr++A2.hp} rs m e.res=some t)
section
variable {G:Nat->Fun}{Q:(Cfg->Df)->Prop}{rs:C7}{m:Nat}{t:Ret}{l:CO}
theorem RegPan.pre {i:Nat}{A B:AS}(h:Wk0 A B)(k:RegPan G Q rs m t l i B):RegPan G Q rs m t l i A:=by
 cases l with
 |nil=>exact k.elim
 |cons o r=>
  obtain ⟨A1,h1,h2⟩:=k;rw[h.1] at h2;exact ⟨A1,h.trans h1,h2⟩
def RegSeq (G:Nat->Fun)(Q:(Cfg->Df)->Prop):CO->Nat->AS->AS->Prop
 | [],_,A,A'=>Wk0 A A'
 | o::r,i,A,A'=> ∃A1,Wk0 A A1/\((bN A1.tm o.guard=some false/\RegSeq G Q r (i+1) (A1.put o.dst ip) A')∨
   ∃A2 e,Wk0 A1 A2/\bN A1.tm o.guard=some true/\(∃ih,Q ih/\ig G ih o (A.ctr+i) A2=some e)/\RegSeq G Q r (i+1) (A2.app o.dst e) A')
theorem RegSeq.pre {i:Nat}{A B A':AS}(h:Wk0 A B)(k:RegSeq G Q l i B A'):RegSeq G Q l i A A':=by
 cases l with
 |nil=>exact h.trans k
 |cons o r=>
  obtain ⟨A1,h1,h2⟩:=k;rw[h.1] at h2;exact ⟨A1,h.trans h1,h2⟩
end
theorem AS.put_ctr (A:AS)(d:C8)(v:AV):(A.put d v).ctr=A.ctr:=by cases d<;>rfl
theorem AS.app_ctr (A:AS)(d:C8)(e:Eff):(A.app d e).ctr=A.ctr:=by cases d<;>rfl
def ow:Dd->Bool
 | .inReg _ _ _ _::_=>false
 |_=>true
def Wk (A A':AS):Prop:= ∀C a w,0<A.ctr->Rel C (λg=>g<A.ctr) A.fs a w->Rel C (λg=>g<A'.ctr) A'.fs a w
def wkR:D2->CT
 | []=>[]
 |(_,e)::r=>dm e++wkR r
def qD (G:Nat->Fun)(c p:Nat)(d:C8):CO->Nat->AS->D2->Prop
 | [],_,_,[]=>True
 |x::r,j,A,(d',none)::es=>(x.after.contains p=true∨ ∃t,d=some t/\t∈looks x)/\d'=none/\qD G c p d r (j+1) A es
 |x::r,j,A,(d',some e)::es=>d'=x.dst/\bN A.tm x.guard=some true/\ig G (λ_=>none) x (c+j) A=some e/\e.rd= []/\qD G c p d r (j+1) (A.app x.dst e) es
 |_,_,_,_=>False
inductive Ev (G:Nat->Fun):Cfg->Ret->Prop
 |step {c:Cfg} {t:Ret} (ih:Cfg->Df) (hih: ∀c t,ih c=some t->Ev G c t) (h:jg G ih c=some t):Ev G c t
 |weakR {rest:CO} {i:Nat} {dn:DD} {k:Dd} {A A':AS} {rs:C7} {m:Nat} {t:Ret} (hw:Wk0 A A') (h:Ev G ⟨.inReg rest i dn false::k,A',rs,m⟩ t):Ev G ⟨.inReg rest i dn false::k,A,rs,m⟩ t
 | opS {o:AOper} {rest:CO} {i:Nat} {dn:DD} {k:Dd} {A:AS} {rs:C7} {m:Nat} {t:Ret} {e:Eff} (ih:Cfg->Df) (hih: ∀c t,ih c=some t->Ev G c t) (hw:bN A.tm o.guard=some true) (he:ig G ih o (A.ctr+i) A=some e)
   (h:Ev G ⟨.inReg rest (i+1) dn false::k,A.app o.dst e,rs,m⟩ t):Ev G ⟨.inReg (o::rest) i dn false::k,A,rs,m⟩ t
 | opD {o:AOper} {rest:CO} {i:Nat} {dn:DD} {k:Dd} {A:AS} {rs:C7} {m:Nat} {t:Ret} {e:Eff} (ih:Cfg->Df) (hih: ∀c t,ih c=some t->Ev G c t) (hw:bN A.tm o.guard=some true) (he:ig G ih o (A.ctr+i) A=some e) (hok:OkS o.after e dn)
   (h:Ev G ⟨.inReg rest (i+1) (lW i e dn) true::k,A.app o.dst e,rs,m⟩ t):Ev G ⟨.inReg (o::rest) i dn true::k,A,rs,m⟩ t
 | panS {o:AOper} {rest:CO} {i:Nat} {dn:DD} {k:Dd} {A:AS} {rs:C7} {m:Nat} {t:Ret} {e:Eff} (ih:Cfg->Df) (hih: ∀c t,ih c=some t->Ev G c t) (hw:bN A.tm o.guard=some true) (he:iR G ih o (A.ctr+i) A=some e)
   (ht:eo {A with hp:=e.wr++A.hp} rs m e.res=some t):Ev G ⟨.inReg (o::rest) i dn false::k,A,rs,m⟩ t
 | panM {o:AOper} {rest:CO} {i:Nat} {dn:DD} {k:Dd} {A:AS} {rs:C7} {m:Nat} {t:Ret} {e:Eff} (ih:Cfg->Df) (esr:D2) (hih: ∀c t,ih c=some t->Ev G c t) (hw:bN A.tm o.guard=some true) (he:iR G ih o (A.ctr+i) {A with hp:=bU (wkR esr)++A.hp}=some e)
   (hd: ∀x∈dn,o.after.contains x.1=true/\i6 (wkR esr) x.2.1=false/\i6 (wkR esr) x.2.2.1=false) (hr:nC rs=true) (hq:qD G A.ctr i o.dst rest (i+1) A esr) (hn:cH (wkR esr)=true)
   (ht:eo {A with hp:=e.wr++(bU (wkR esr)++A.hp)} rs m e.res=some t):Ev G ⟨.inReg (o::rest) i dn true::k,A,rs,m⟩ t
 |weak {todo:Dd} {A A':AS} {rs:C7} {m:Nat} {t:Ret} (hr:ow todo=true) (hc:A.ctr<=A'.ctr) (hw:Wk A A') (h:Ev G ⟨todo,A',rs,m⟩ t):Ev G ⟨todo,A,rs,m⟩ t
def ab (G:Nat->Fun)(f:Nat)(args:CL)(bs:Dn)(t:Ret):Prop:=
 match G f with
 | .code F=>args.length=F.np/\Ev G (F.start args bs) t
 | .prim _ p=>p args bs=some t
 | .none=>False
theorem Wo {G:Nat->Fun}: ∀(n:Nat){c:Cfg}{t:Ret},run G n c=some t->Ev G c t
 |0,_,_,h=>by cases h
 |n+1,c,t,h=>by
  rw[XX] at h;exact .step (run G n) (λ_ _ k=>Wo n k) h
def cw (r:CO)(es:List Dg):mE:=(r.map (·.dst)).zip es
structure OneA (G:Nat->Fun)(Q:(Cfg->Df)->Prop)(c0 i:Nat)(o:AOper)(e:Dg)(F:FSt):Prop where
 none_:e=none->d8 F o.guard=some false
 some_: ∀x,e=some x->d8 F o.guard=some true/\ ∃ih A,Q ih/\A.fs=F/\ig G ih o (c0+i) A=some x
theorem o0: ∀(es:mE)(L:Nat->Bool)(k:Nat)(F:FSt),(∀j,k<=j->L j=false)->FL es L k F=F
 | [],_,_,_,_=>rfl
 |(d,e)::r,L,k,F,h=>by simp only[FL];rw[h k (Be k)];exact o0 r L (k+1) F λj hj=>h j (by omega)
theorem nz {G:Nat->Fun}{Q:(Cfg->Df)->Prop}{draw:Bool}{c0:Nat}: ∀(r:CO)(i:Nat)(dn:DD)(A:AS)(es:List Dg)(A':AS),nh G Q draw r i dn A es A'->A.ctr=c0->
  es.length=r.length/\(∀(j:Nat)(o:AOper)(e:Dg),r[j]? =some o->es[j]? =some e->OneA G Q c0 (i+j) o e (FL (cw r es) (λx=>decide (x<i+j)) i A.fs))/\FL (cw r es) (λ_=>true) i A.fs=A'.fs
 | [],i,dn,A,[],A',h,_=>⟨rfl,λj o e h=>by simp at h,by rw[show A'=A from h];rfl⟩
 |o::r,i,dn,A,none::es,A',h,hc=>by
  obtain ⟨h1,h2⟩:=h;obtain ⟨q1,q2,q3⟩:=nz (c0:=c0) r (i+1) dn _ es A' h2 (by rw[AS.put_ctr];exact hc)
  have hz:cw (o::r) (none::es)=(o.dst,none)::cw r es:=rfl;rw[hz];refine ⟨by simp[q1],λj o' e' ho he=>?_,?_⟩
  ·cases j with
   |zero=>
    obtain rfl:o=o':=by simpa using ho
    obtain rfl:none=e':=by simpa using he
    rw[o0 _ _ _ _ (λj hj=>by first|(simp;done)|(simp;omega))]
    exact ⟨λ_=>by rw[fg];exact h1,λx hx=>by cases hx⟩
   |succ j=>
    have:=q2 j o' e' (by simpa using ho) (by simpa using he)
    simp only[FL];rw[show decide (i<i+(j+1))=true from by simp,cond_true]
    rw[AS.fs_put] at this;rw[show i+(j+1)=i+1+j from by omega]
    exact this
  ·simp only[FL,cond_true]
   rw[<-q3,AS.fs_put];rfl
 |o::r,i,dn,A,some e::es,A',h,hc=>by
  obtain ⟨h1,⟨m,hm,he1⟩,_,h2⟩:=h;obtain ⟨q1,q2,q3⟩:=nz (c0:=c0) r (i+1) _ _ es A' h2 (by rw[AS.app_ctr];exact hc)
  have hz:cw (o::r) (some e::es)=(o.dst,some e)::cw r es:=rfl;rw[hz];refine ⟨by simp[q1],λj o' e' ho he=>?_,?_⟩
  ·cases j with
   |zero=>
    obtain rfl:o=o':=by simpa using ho
    obtain rfl:some e=e':=by simpa using he
    rw[o0 _ _ _ _ (λj hj=>by first|(simp;done)|(simp;omega))]
    refine ⟨λq=>(by cases q),λx hx=>⟨by rw[fg];exact h1,m,A,hm,rfl,?_⟩⟩
    obtain rfl:=Ai hx;rw[<-hc];exact he1
   |succ j=>
    have:=q2 j o' e' (by simpa using ho) (by simpa using he)
    simp only[FL];rw[show decide (i<i+(j+1))=true from by simp,cond_true]
    rw[AS.fs_app] at this;rw[show i+(j+1)=i+1+j from by omega]
    exact this
  ·simp only[FL,cond_true]
   rw[<-q3,AS.fs_app];rfl
 | [],_,_,_,_::_,_,h,_=>h.elim
 |_::_,_,_,_,[],_,h,_=>h.elim
theorem sn {G:Nat->Fun}{c p:Nat}{d:C8}: ∀(r:CO)(j:Nat)(A:AS)(es:D2),qD G c p d r j A es->
  es.length=r.length/\ ∀(k:Nat)(x:AOper)(y:C8×Dg),r[k]? =some x->es[k]? =some y->
   ((x.after.contains p=true∨ ∃t,d=some t/\t∈looks x)/\y=(none,none))∨ ∃e,y=(x.dst,some e)/\e.rd= []/\ ∃A',A'.fs=FL es (λq=>decide (q<j+k)) j A.fs/\bN A'.tm x.guard=some true/\ig G (λ_=>none) x (c+(j+k)) A'=some e
 | [],_,_,[],_=>⟨rfl,λk x y h=>by simp at h⟩
 |x::r,j,A,(d',none)::es,h=>by
  obtain ⟨h1,rfl,h2⟩:=h;obtain ⟨q1,q2⟩:=sn r (j+1) A es h2;refine ⟨by simp[q1],λk x' y hx hy=>?_⟩
  cases k with
  |zero=>
   obtain rfl:x=x':=by simpa using hx
   obtain rfl:((none,none):C8×Dg)=y:=by simpa using hy
   exact .inl ⟨h1,rfl⟩
  |succ k=>
   rcases q2 k x' y (by simpa using hx) (by simpa using hy) with q|⟨e,z1,z2,A',z3,z4,z5⟩
   ·exact .inl q
   ·refine .inr ⟨e,z1,z2,A',?_,z4,by rw[show j+(k+1)=j+1+k from by omega];exact z5⟩
    rw[z3];simp only[FL];rw[show decide (j<j+(k+1))=true from by simp,cond_true,show j+(k+1)=j+1+k from by omega]
    rfl
 |x::r,j,A,(d',some e)::es,h=>by
  obtain ⟨rfl,h1,h2,h3,h4⟩:=h;obtain ⟨q1,q2⟩:=sn r (j+1) (A.app x.dst e) es h4;refine ⟨by simp[q1],λk x' y hx hy=>?_⟩
  cases k with
  |zero=>
   obtain rfl:x=x':=by simpa using hx
   obtain rfl:(x.dst,some e)=y:=by simpa using hy
   exact .inr ⟨e,rfl,h3,A,by rw[o0 _ _ _ _ (λq hq=>by first|(simp;done)|(simp;omega))],h1,h2⟩
  |succ k=>
   rcases q2 k x' y (by simpa using hx) (by simpa using hy) with q|⟨e',z1,z2,A',z3,z4,z5⟩
   ·exact .inl q
   ·refine .inr ⟨e',z1,z2,A',?_,z4,by rw[show j+(k+1)=j+1+k from by omega];exact z5⟩
    rw[z3];simp only[FL];rw[show decide (j<j+(k+1))=true from by simp,cond_true,AS.fs_app,show j+(k+1)=j+1+k from by omega]
    rfl
theorem ze {k:Nat}: ∀{es:D2}{i:Nat}{y:C8×Dg},es[i]? =some y->k∈dm y.2->k∈wkR es
 | [],_,_,h,_=>by simp at h
 |(d,e)::r,0,y,h,hk=>by
  obtain rfl:(d,e)=y:=by simpa using h
  exact List.mem_append_left _ hk
 |(d,e)::r,i+1,y,h,hk=>List.mem_append_right _ (ze (es:=r) (i:=i) (by simpa using h) hk)
theorem BW {k:Nat}: ∀{es:D2}{i j:Nat}{y z:C8×Dg},(wkR es).Nodup->i<j->es[i]? =some y->es[j]? =some z->k∈dm y.2->k∉dm z.2
 | [],_,_,_,_,_,_,h,_,_=>by simp at h
 |(d,e)::r,0,j+1,y,z,hn,_,hy,hz,hk=>λhk'=>by
  obtain rfl:(d,e)=y:=by simpa using hy
  exact (List.nodup_append.1 hn).2.2 k hk k (ze (es:=r) (i:=j) (by simpa using hz) hk') rfl
 |(d,e)::r,i+1,j+1,y,z,hn,hij,hy,hz,hk=>BW (es:=r) (List.nodup_append.1 hn).2.1 (Nat.lt_of_succ_lt_succ hij) (by simpa using hy) (by simpa using hz) hk
def RegPanD (G:Nat->Fun)(Q:(Cfg->Df)->Prop)(rs:C7)(m:Nat)(t:Ret)(r:CO)(i:Nat)(dn:DD)(A:AS):Prop:=
 ∃(init:CO)(last:AOper)(rest:CO)(es:List Dg)(esr:D2)(A1:AS)(e:Eff),r=init++last::rest/\nh G Q true init i dn A es A1/\bN A1.tm last.guard=some true/\(∃ih,Q ih/\iR G ih last (A.ctr+(i+init.length)) {A1 with hp:=bU (wkR esr)++A1.hp}=some e)/\
  (∀x∈dn,last.after.contains x.1=true/\i6 (wkR esr) x.2.1=false/\i6 (wkR esr) x.2.2.1=false)/\(∀j e',es[j]? =some (some e')->(last.after.contains (i+j)=true∨(e'.rd= []/\wks e'.wr= []))/\i6 (wkR esr) e'.rd=false/\i6 (wkR esr) (wks e'.wr)=false)/\(nC rs=true/\qD G A.ctr (i+init.length) last.dst rest (i+init.length+1) A1 esr/\cH (wkR esr)=true)/\eo {A1 with hp:=e.wr++(bU (wkR esr)++A1.hp)} rs m e.res=some t
theorem Jh (a:CT):i6 a []=false:=by unfold i6;simp
section
variable {G:Nat->Fun}{Q:(Cfg->Df)->Prop}{rs:C7}{m:Nat}{t:Ret}{o:AOper}{r:CO}{i:Nat}
theorem RegPanD.skip {dn:DD}{A:AS}(hw:bN A.tm o.guard=some false)(h:RegPanD G Q rs m t r (i+1) dn (A.put o.dst ip)):RegPanD G Q rs m t (o::r) i dn A:=by
 obtain ⟨init,last,rest,es,esr,A1,e,rfl,h2,h3,h4,h5,h6,h7,h8⟩:=h;rw[AS.put_ctr] at h4 h7;have hlen:i+(o::init).length=i+1+init.length:=by simp;omega
 refine ⟨o::init,last,rest,none::es,esr,A1,e,rfl,⟨hw,h2⟩,h3,by rw[hlen];exact h4,h5,λj e' he=>?_,by rw[hlen];exact h7,h8⟩
 cases j with
 |zero=>simp at he
 |succ j=>have:=h6 j e' (by simpa using he);rwa [show i+(j+1)=i+1+j from by omega]
theorem ph {a b:CT}(h:i6 a b=false): ∀k∈a,k∉b:=λk ha hb=>by
 have:i6 a b=true:=by unfold i6;rw[List.any_eq_true];exact ⟨k,ha,by simpa using hb⟩
 rw[this] at h;cases h
theorem Ja {after:CT}{e:Eff}: ∀{dn:DD},OkS after e dn-> ∀(j:Nat)(rd wk:CT)(sf:DA),(j,rd,wk,sf)∈dn->j∈after∨((∀k∈wk,k∉e.rd/\k∉wks e.wr)/\ ∀k∈wks e.wr,k∉rd∨ ∀f,Sft sf k (hov e.wr f k))
 | [],_,_,_,_,_,h=>by cases h
 |(j0,rd0,wk0,sf0)::r,h,j,rd,wk,sf,hm=>by
  rcases AL.1 hm with q|q
  ·obtain ⟨rfl,rfl,rfl,rfl⟩:j=j0/\rd=rd0/\wk=wk0/\sf=sf0:=by simpa using q
   rcases h.1 with q|⟨q1,q2,q3⟩
   ·exact .inl (by simpa using q)
   ·refine .inr ⟨λk hk=>⟨ph q1 k hk,ph q2 k hk⟩,λk hk=>?_⟩
    by_cases hr:k∈rd
    ·exact .inr (q3 k hk hr)
    ·exact .inl hr
  ·exact Ja h.2 j rd wk sf q
theorem DJ {e:Eff}{dn:DD}:(∀x∈dn,x∈lW i e dn)/\((i,e.rd,wks e.wr,e.sf)∈lW i e dn∨(e.rd= []/\wks e.wr= [])):=by
 unfold lW;split
 ·rename_i h1 h2;exact ⟨λx hx=>hx,.inr ⟨h1,h2⟩⟩
 ·exact ⟨λx hx=>List.mem_cons_of_mem _ hx,.inl (List.mem_cons_self ..)⟩
theorem RegPanD.cons {dn:DD}{A:AS}{e0:Eff}(hw:bN A.tm o.guard=some true)(he0: ∃ih,Q ih/\ig G ih o (A.ctr+i) A=some e0)(hok:OkS o.after e0 dn)(h:RegPanD G Q rs m t r (i+1) (lW i e0 dn) (A.app o.dst e0)):RegPanD G Q rs m t (o::r) i dn A:=by
 obtain ⟨init,last,rest,es,esr,A1,e,rfl,h2,h3,h4,h5,h6,h7,h8⟩:=h;rw[AS.app_ctr] at h4 h7;obtain ⟨m1,m2⟩:=DJ (i:=i) (e:=e0) (dn:=dn);have hlen:i+(o::init).length=i+1+init.length:=by simp;omega
 refine ⟨o::init,last,rest,some e0::es,esr,A1,e,rfl,⟨hw,he0,λ_=>hok,h2⟩,h3,by rw[hlen];exact h4,λx hx=>h5 x (m1 x hx),λj e' he=>?_,by rw[hlen];exact h7,h8⟩
 cases j with
 |zero=>
  obtain rfl:e0=e':=by simpa using he
  rcases m2 with m2|m2
  ·exact ⟨.inl (h5 _ m2).1,(h5 _ m2).2⟩
  ·exact ⟨.inr m2,by rw[m2.1];exact Jh _,by rw[m2.2];exact Jh _⟩
 |succ j=>have:=h6 j e' (by simpa using he);rwa [show i+(j+1)=i+1+j from by omega]
end
theorem mG {G:Nat->Fun}{Q:(Cfg->Df)->Prop}: ∀(r:CO)(i:Nat)(dn:DD)(A:AS)(es:List Dg)(A':AS),nh G Q true r i dn A es A'->
  (∀(p:Nat)(rd wk:CT)(sf:DA),(p,rd,wk,sf)∈dn-> ∀(j:Nat)(o:AOper)(e:Eff),r[j]? =some o->es[j]? =some (some e)->p∈o.after∨((∀k∈wk,k∉e.rd/\k∉wks e.wr)/\ ∀k∈wks e.wr,k∉rd∨ ∀f,Sft sf k (hov e.wr f k)))/\
  ∀(j1 j2:Nat)(o2:AOper)(e1 e2:Dg),j1<j2->r[j2]? =some o2->es[j1]? =some e1->es[j2]? =some e2->i+j1∈o2.after∨rk e1 e2
 | [],i,dn,A,[],A',_=>⟨λp rd wk sf _ j o e h=>by simp at h,λj1 j2 o2 e1 e2 _ h=>by simp at h⟩
 |o::r,i,dn,A,none::es,A',h=>by
  obtain ⟨_,h2⟩:=h;obtain ⟨q1,q2⟩:=mG r (i+1) dn _ es A' h2;refine ⟨λp rd wk sf hp j o' e' ho he=>?_,λj1 j2 o2 e1 e2 hj ho h1 h3=>?_⟩
  ·cases j with
   |zero=>simp at he
   |succ j=>exact q1 p rd wk sf hp j o' e' (by simpa using ho) (by simpa using he)
  ·cases j2 with
   |zero=>omega
   |succ j2=>
    cases j1 with
    |zero=>
     obtain rfl:none=e1:=by simpa using h1
     exact .inr λk=>⟨λq=>by simp[dm] at q,λ_=>.inl (by simp[rdO])⟩
    |succ j1=>
     have:=q2 j1 j2 o2 e1 e2 (by omega) (by simpa using ho) (by simpa using h1) (by simpa using h3)
     rwa [show i+(j1+1)=i+1+j1 from by omega]
 |o::r,i,dn,A,some e::es,A',h=>by
  obtain ⟨_,_,hok,h2⟩:=h;have hok:=Ja (hok rfl);obtain ⟨m1,m2⟩:=DJ (i:=i) (e:=e) (dn:=dn);obtain ⟨q1,q2⟩:=mG r (i+1) _ _ es A' h2;refine ⟨λp rd wk sf hp j o' e' ho he=>?_,λj1 j2 o2 e1 e2 hj ho h1 h3=>?_⟩
  ·cases j with
   |zero=>
    obtain rfl:o=o':=by simpa using ho
    obtain rfl:e=e':=by simpa using he
    exact hok p rd wk sf hp
   |succ j=>exact q1 p rd wk sf (m1 _ hp) j o' e' (by simpa using ho) (by simpa using he)
  ·cases j2 with
   |zero=>omega
   |succ j2=>
    cases j1 with
    |zero=>
     obtain rfl:some e=e1:=by simpa using h1
     cases e2 with
     |none=>exact .inr λk=>⟨λ_=>⟨by simp[rdO],by simp[dm]⟩,λq=>by simp[dm] at q⟩
     |some e2=>
      rcases m2 with m2|⟨m2,m3⟩
      ·rcases q1 i e.rd (wks e.wr) e.sf m2 j2 o2 e2 (by simpa using ho) (by simpa using h3) with q|⟨p1,p2⟩
       ·exact .inl (by simpa using q)
       ·exact .inr λk=>⟨λq=>p1 k q,λq=>p2 k q⟩
      ·exact .inr λk=>⟨λq=>by simp[dm,m3] at q,λ_=>.inl (by simp[rdO,m2])⟩
    |succ j1=>
     have:=q2 j1 j2 o2 e1 e2 (by omega) (by simpa using ho) (by simpa using h1) (by simpa using h3)
     rwa [show i+(j1+1)=i+1+j1 from by omega]
 | [],_,_,_,_::_,_,h=>h.elim
 |_::_,_,_,_,[],_,h=>h.elim
section
variable {P:Program} {C:Ctx} {U:Nat->Prop} {w:World} {S:Nat->Prop} {β:Nat->Place} {used:Nat->Nat->Prop} {N:Nums}
def xD (tmps:Array Value):ResultVar->Sem Value
 | .tmp t=>pure (tmps.getD t undef)
 | .cell a t=>do loadVar t (<-asAddr (tmps.getD a undef))
theorem QN (fn:Func)(tmps:Array Value):results fn tmps=(do
  let vs<-fn.results.mapM (xD tmps)
  pure (if h:vs.size=1 then vs[0] else .tuple vs)):=by
 unfold results
 congr 1
theorem Oz {A:AS}{a:Act}(h:RelC C U A.fs a w S β used): ∀(rv:List ResultVar)(rs:C7)(l:CL),dP (jb P) rv=some rs->p5 A rs=some l->
  ∃vs:List Value,(rv.mapM (xD a.tmps)).run P w= .ok vs w/\vs.length=l.length/\ ∀i,i<l.length->V (aG C S β used (aW A.hp) w) (vs.getD i undef) (l.getD i .any)
 | [],rs,l,h1,h2=>by
  obtain rfl: []=rs:=by simpa[dP] using h1
  obtain rfl: []=l:=by simpa[p5] using h2
  exact ⟨[],rfl,rfl,λi hi=>by simp at hi⟩
 |v::rv,rs,l,h1,h2=>by
  obtain ⟨r,rs',q1,q2,rfl⟩:=pj h1;simp only[p5] at h2;cases hr:uq A r with
  |none=>rw[hr] at h2;cases h2
  |some av=>
   cases hl:p5 A rs' with
   |none=>rw[hr,hl] at h2;cases h2
   |some l'=>
    rw[hr,hl] at h2;obtain rfl:=Ai h2;obtain ⟨vs,k1,k2,k3⟩:=Oz h rv rs' l' q2 hl
    have one: ∃x,(xD a.tmps v).run P w= .ok x w/\V (aG C S β used (aW A.hp) w) x av:=by
     cases v with
     |tmp t=>
      simp only[jb] at q1;split at q1
      ·rename_i hlt
       obtain rfl:=Ai q1;obtain rfl:bJ A.tm t=av:=by simpa[uq] using hr
       have:=h.tm t;rw[xo hlt] at this;exact ⟨_,rfl,this⟩
      ·cases q1
     |cell ad t=>
      simp only[jb] at q1;split at q1
      ·rename_i sz hsz
       split at q1
       ·rename_i h0
        obtain rfl:=Ai q1;simp only[uq] at hr;split at hr
        ·rename_i cs rr hcs
         have hne:cs≠ []:=by
          have h0:=h0.1
          rintro rfl
          cases sz with
          |none=>cases hr
          |some n=>
           simp only[fD,Bb] at hr;split at hr
           ·rename_i q;exact h0 (by rw[Nat.le_zero.1 q])
           ·cases hr
         have htm:=h.tm ad;rw[xo h0.2] at htm;have hat:=yU h.hi htm hcs hne;obtain ⟨u,y1,y2⟩:=Cr hsz hat hr;obtain ⟨b,o,e1,_⟩:=hat.ex;refine ⟨u,?_,y2⟩;have y1':(loadVar t ⟨b,o,none⟩).run P w= .ok u w:=by simpa[Instr.loadAt,Instr.sureAddr,e1] using y1
         simp[xD,e1,asAddr,y1']
        ·cases hr
       ·cases q1
      ·cases q1
    obtain ⟨x,o1,o2⟩:=one;refine ⟨x::vs,?_,by simp[k2],λi hi=>?_⟩
    ·rw[List.mapM_cons]
     simp only[Sem.run_bind,o1,k1,Result.andThen_ok,Sem.run_pure]
    ·cases i with
     |zero=>simpa using o2
     |succ i=>simpa using k3 i (by simpa using hi)
theorem lx {A:AS}{a:Act}(h:RelC C U A.fs a w S β used){fn:Func}{rs:C7}(hrs:dP (jb P) fn.results.toList=some rs){av:AV}(hr:iP A rs=some av):
  ∃v,(results fn a.tmps).run P w= .ok v w/\V (aG C S β used (aW A.hp) w) v av:=by
 unfold iP at hr;cases hl:p5 A rs with
 |none=>rw[hl] at hr;cases hr
 |some l=>
  obtain ⟨vs,k1,k2,k3⟩:=Oz (P:=P) h _ rs l hrs hl
  have hrun:(results fn a.tmps).run P w= .ok (if h:vs.toArray.size=1 then vs.toArray[0] else .tuple vs.toArray) w:=by
   rw[QN,Array.mapM_eq_mapM_toList];simp only[Sem.run_bind,Sem.run_map,k1,Result.andThen_ok,Sem.run_pure]
  rw[hl] at hr;split at hr
  ·rename_i a0 e
   obtain rfl:=Ai e;obtain rfl:=Ai hr
   match vs,k2 with
   | [x],_=>exact ⟨x,by rw[hrun];rfl,by simpa using k3 0 (by simp)⟩
  ·rename_i l' hne e
   obtain rfl:=Ai e;obtain rfl:=Ai hr
   have hlen:vs.toArray.size≠1:=by
    intro q;have:l.length=1:=by simpa[k2] using q
    obtain ⟨x,hx⟩:=List.length_eq_one_iff.1 this;exact hne x hx
   refine ⟨.tuple vs.toArray,by rw[hrun,dif_neg hlen],.tup _ _ (by simpa using k2) λi hi=>?_⟩
   have:=k3 i hi;simpa[Ak,Aj] using this
  ·cases hr
end
open Go.RowKit
section
variable {P:Program} {C:Ctx} {U:Nat->Prop} {w:World} {S:Nat->Prop} {β:Nat->Place} {used:Nat->Nat->Prop} {N:Nums}
theorem xY {hp:aq}{φ:Nat->Nat->Tgt}{m:Nat}: ∀{K:CT}{bs:C1},gX hp φ m K=some bs->bs.length=K.length/\ ∀(i k:Nat),K[i]? =some k-> ∃g b,aW hp k=some (g,b)/\bs[i]? =some (decide (k<m/\g=0),b.ren φ)
 | [], bs, h => by obtain rfl: []=bs:=by simpa[gX] using h
                   exact ⟨rfl,by simp⟩
 |k::r,bs,h=>by
  simp only[gX] at h;split at h
  ·rename_i g b bs' h1 h2
   obtain rfl:=Ai h;obtain ⟨q1,q2⟩:=xY h2;refine ⟨by simp[q1],λi k' hi=>?_⟩
   cases i with
   | zero => obtain rfl:k=k':=by simpa using hi
             exact ⟨g,b,h1,rfl⟩
   |succ i=>simpa using q2 i k' (by simpa using hi)
  ·cases h
theorem jA {m:Nat}{N:CT}{i:Nat}:(List.range m++N)[i]? =if i<m then some i else N[i-m]? :=by
 by_cases h:i<m
 ·rw[BF (by simpa using h),Ad h];simp[h]
 ·rw[BO (by simpa using h),Ac h];simp
theorem ox {hp:aq}{m:Nat}{r:AV}:(im hp m r).Nodup/\ ∀k∈im hp m r,m<=k:=by
 unfold im;refine ⟨kl _,λk hk=>?_⟩
 have:=eW.1 hk;rw[List.mem_filter] at this;simpa using this.2
section
variable {A:AS}(h:HI C U (aW A.hp) w S β used){v:Value}{rs:C7}{m:Nat}{t:Ret}{av:AV}
include h
theorem qN (hv:V (aG C S β used (aW A.hp) w) v av)(ht:qn A m av=some t): ∃S1 β1,RetC C m w v t S1 β1:=by
 unfold qn at ht;cases hq:(m==0&&av.pure) with
 |true=>
  rw[hq] at ht;obtain rfl:=Ai ht;simp only[Av,beq_iff_eq] at hq;exact ⟨S,β,h.kept,h.s,h.keep,V.pure_env (E:=aG C S β used (aW A.hp) w) (E':=aG C S β (ib 0) (hpR []) w) (λ_ _ _ q=>q) rfl rfl hv hq.2,λk x hk=>by simp at hk,λk k' hk=>by simp at hk,λk x hk hx=>by simp at hx,by rw[hq.1];exact Nat.zero_le _⟩
 |false=>
  rw[hq] at ht;dsimp only[cond] at ht;obtain ⟨bs,hb,rfl⟩:=map_some ht;obtain ⟨n1,n2⟩:=ox (hp:=A.hp) (m:=m) (r:=av);generalize im A.hp m av=K at hb n1 n2⊢;obtain ⟨b1,b2⟩:=xY hb;have hlen:bs.length=m+K.length:=by rw[b1];simp
  let key:Nat->Nat:=λi=>if i<m then i else K.getD (i-m) 0
  have hkey: ∀i,i<bs.length->(List.range m++K)[i]? =some (key i):=λi hi=>by
   rw[jA];show _=some (if i<m then i else K.getD (i-m) 0)
   split
   ·rfl
   ·rw[Aj,AK (by omega)];rfl
  have hk0: ∀i,i<m->key i=i:=λi hi=>by show (if i<m then i else _)=_;rw[Ad hi]
  have hk1: ∀i,¬i<m->i<bs.length->K[i-m]? =some (key i):=λi hi hl=>by
   have:=hkey i hl;rw[jA,Ac hi] at this;exact this
  have hinjk: ∀i j,i<bs.length->j<bs.length->key i=key j->i=j:=λi j hi hj e=>by
   by_cases q1:i<m<;>by_cases q2:j<m
   ·rw[hk0 i q1,hk0 j q2] at e;exact e
   ·have:=n2 _ (A5 (hk1 j q2 hj));rw[<-e,hk0 i q1] at this;omega
   ·have:=n2 _ (A5 (hk1 i q1 hi));rw[e,hk0 j q2] at this;omega
   ·have a:=hk1 i q1 hi;have b:=hk1 j q2 hj
    rw[e] at a;have:=nf n1 a b;omega
  have hφ:RenOk (aG C S β used (aW A.hp) w) (aG C S (λi=>β (key i)) (ib bs.length) (hpR bs) w) (qY A.hp m K):=by
   refine ⟨λ_ _ _ q=>q,rfl,rfl,λk g hu=>?_⟩
   unfold qY;cases hk:aW A.hp k with
   |none=>trivial
   |some x=>
    obtain ⟨g',b⟩:=x;dsimp only
    by_cases eg:g'=g
    ·subst eg
     rw[Ad rfl]
     have fin: ∀i,i<bs.length->key i=k->((aG C S (λi=>β (key i)) (ib bs.length) (hpR bs) w).used i 0/\ ∀p,(aG C S (λi=>β (key i)) (ib bs.length) (hpR bs) w).lv i 0=some p->(aG C S β used (aW A.hp) w).lv k g'=some p):=λi hi e=>by
      refine ⟨⟨hi,rfl⟩,λp hp=>?_⟩
      obtain ⟨_,_,rfl⟩:=fF hp;rw[e];exact bu hk
     by_cases hm:k<m
     ·rw[Ad hm]
      exact fin k (by omega) (hk0 k hm)
     ·rw[Ac hm]
      cases hi:idx k K with
      |none=>trivial
      |some i=>
       have hKi:=fJ hi
       have hil:i<K.length:=by
        rcases A4 i K.length with q|q
        ·exact q
        ·rw[AD q] at hKi;cases hKi
       refine fin (m+i) (by omega) ?_
       have:=hk1 (m+i) (by omega) (by omega)
       rw[show m+i-m=i from by omega,hKi] at this
       exact (Ai this).symm
    ·rw[Ac eg];trivial
  have atk: ∀i x,bs[i]? =some x-> ∃g b,aW A.hp (key i)=some (g,b)/\x=(decide (key i<m/\g=0),b.ren (qY A.hp m K))/\i<bs.length:=λi x hx=>by
   have hi:i<bs.length:=by
    rcases A4 i bs.length with q|q
    ·exact q
    ·rw[AD q] at hx;cases hx
   obtain ⟨g,b,q1,q2⟩:=b2 i _ (hkey i hi);exact ⟨g,b,q1,by rw[hx] at q2;exact Ai q2,hi⟩
  refine ⟨S,λi=>β (key i),h.kept,h.s,h.keep,hv.ren hφ,λi x hx=>?_,λi j hi hj n1' n2' hbk=>?_,λi x hi hx hf=>?_,by dsimp only;omega⟩
  ·obtain ⟨g,b,q1,q2,_⟩:=atk i x hx
   obtain ⟨z1,z2,z3⟩:=h.at_ _ g b q1;rw[q2];exact ⟨z2,z3.ren hφ⟩
  ·dsimp only at hi hj
   obtain ⟨g,b,q1,_⟩:=b2 i _ (hkey i hi);obtain ⟨g',b',q2,_⟩:=b2 j _ (hkey j hj);exact hinjk i j hi hj (h.inj _ _ _ _ q1 q2 n1' n2' hbk)
  ·obtain ⟨g,b,q1,q2,_⟩:=atk i x hx
   rw[q2] at hf;have:key i<m/\g=0:=by simpa using hf
   obtain ⟨_,rfl⟩:=this;have:=h.pl _ _ q1;rw[hk0 i hi] at this⊢;exact this
theorem mZ (hav:iP A rs=some av)(hv:V (aG C S β used (aW A.hp) w) v av)(ht:eT A rs m=some t): ∃S1 β1,RetC C m w v t S1 β1:=by
 unfold eT at ht;rw[hav] at ht;exact qN h hv ht
end
theorem RetC.np {m:Nat}{v:Value}{t:Ret}{S1:Nat->Prop}{β1:Nat->Place}(h:RetC C m w v t S1 β1):du t.r=none:=by
 cases hu:du t.r with
 |none=>rfl
 |some a=>
  obtain ⟨ty,e⟩:=o7 hu;have hv:=h.val;rw[e] at hv;cases hv with
  |ifc _ v' _ hv'=>
   obtain ⟨cs,_,_,hc⟩:=hv'.tup_inv;obtain ⟨_,hus,_⟩:=(hc 0 (by simp)).ref_inv
   exact absurd hus.2 (by decide)
end
def mJ (P:Program)(N:Nums)(n:Nat):Item->AItem->Prop
 | .code c,.code a=>ce P N n c=some a
 | .code c,.inLoop a=> ∃c',c= .loop c'/\ce P N n c'=some a
 | .inLoop c,.inLoop a=>ce P N n c=some a
 | .inBlock i,.inBlock j=>i=j
 | .inScope _,.inScope=>True
 |_,_=>False
def ud (P:Program)(N:Nums)(n:Nat):List Item->Dd->Prop
 | [],[]=>True
 |i::r,a::s=>mJ P N n i a/\ud P N n r s
 |_,_=>False
theorem Br {P:Program}{N:Nums}{n id:Nat}: ∀{k:List Item}{ak ak':Dd},ud P N n k ak->pM id ak=some ak'-> ∃k',exitTo id k=some k'/\ud P N n k' ak'
 | [],[],_,_,h=>by cases h
 |i::r,a::s,ak',⟨h1,h2⟩,h=>by
  cases a with
  |inBlock j=>
   cases i<;>simp only[mJ] at h1
   subst h1;simp only[pM] at h;split at h
   ·rename_i e;subst e
    obtain rfl:=Ai h;exact ⟨r,by simp[exitTo],h2⟩
   ·rename_i e
    obtain ⟨k',q1,q2⟩:=Br h2 h;exact ⟨k',by rw[exitTo];simp[e,q1],q2⟩
  |code|inLoop|inScope=>
   obtain ⟨k',q1,q2⟩:=Br (id:=id) h2 (by simpa[pM] using h)
   refine ⟨k',?_,q2⟩;cases i<;>simp only[mJ] at h1<;>simpa[exitTo] using q1
  |inReg=>cases i<;>simp[mJ] at h1
 | [],_::_,_,h,_=>h.elim
 |_::_,[],_,h,_=>h.elim
section
variable {P:Program}{b:Frame}{a:Act}{k:List Item}{cs:List Frame}{w:World}{c:Code}
theorem Mz:step P (lone (b.at a (.code (.scope c)::k)) cs w)= .next (lone (b.at a (.code c:: .inScope c::k)) cs w):=
 step_lone_go (by simp[stepG,stepG.exec,Frame.at])
theorem D7:step P (lone (b.at a (.inScope c::k)) cs w)= .next (lone (b.at a k) cs w):=
 step_lone_go (by simp[stepG,stepG.exec,Frame.at])
end
theorem Ag: ∀(seen:CT)(l:CV)(t:Nat),t∉seen->bJ (nub seen l) t=bJ l t
 |_,[],_,_=>rfl
 |seen,(u,v)::r,t,h=>by
  simp only[nub];cases hs:seen.contains u with
  |true=>
   have hne:u≠t:=λe=>h (e▸by simpa using hs)
   simp only[cond_true,bJ,Ac hne];exact Ag seen r t h
  |false=>
   simp only[cond_false,bJ]
   by_cases e:u=t
   ·rw[Ad e,Ad e]
   ·rw[Ac e,Ac e]
    exact Ag (u::seen) r t (by simp[h];exact λq=>e q.symm)
theorem v7: ∀(seen:CT)(l:aq)(t:Nat),t∉seen->aW (Jd seen l) t=aW l t
 |_,[],_,_=>rfl
 |seen,(u,v)::r,t,h=>by
  simp only[Jd];cases hs:seen.contains u with
  |true=>
   have hne:u≠t:=λe=>h (e▸by simpa using hs)
   simp only[cond_true,aW,Ac hne];exact v7 seen r t h
  |false=>
   simp only[cond_false,aW]
   by_cases e:u=t
   ·rw[Ad e,Ad e]
   ·rw[Ac e,Ac e]
    exact v7 (u::seen) r t (by simp[h];exact λq=>e q.symm)
theorem AS.nub_fs (A:AS):A.nub.fs=A.fs:=FSt.ext' (λt=>Ag [] A.tm t (by simp)) λk=>v7 [] A.hp k (by simp)
theorem zm: ∀(l:CL)(i t:Nat),bJ (tms i l) t=if i<=t then l.getD (t-i) .any else .any
 | [],i,t=>by simp[tms,bJ]
 |a::r,i,t=>by
  simp only[tms,bJ]
  by_cases e:i=t
  ·subst e;simp
  ·rw[Ac e,zm r (i+1) t]
   by_cases q:i<=t
   ·rw[Ad q,Ad (by omega),show t-i=(t- (i+1))+1 from by omega,List.getD_cons_succ]
   ·rw[Ac q,Ac (by omega)]
theorem J6: ∀(l:Dn)(i t:Nat),aW (j8 i l) t=if i<=t then (l[t-i]?).map (λb=>(0,b)) else none
 | [],i,t=>by simp[j8,aW]
 |a::r,i,t=>by
  simp only[j8,aW]
  by_cases e:i=t
  ·subst e;simp
  ·rw[Ac e,J6 r (i+1) t]
   by_cases q:i<=t
   ·rw[Ad q,Ad (by omega),show t-i=(t- (i+1))+1 from by omega,List.getElem?_cons_succ]
   ·rw[Ac q,Ac (by omega)]
open Go.RowKit
def GOk (P:Program)(N:Nums)(G:Nat->Fun):Prop:= ∀f,match G f with
 | .code F=> ∃fn,P.funcs[N.num f]? =some fn/\lk P N F.raw fn=some F
 | .prim _ p=>(∃fn,P.funcs[N.num f]? =some fn/\fn.body.isSome=true/\fn.name≠ "runtime.NumGoroutine")/\ ∀args bs t,p args bs=some t->fM P N f args bs t
 | .none=>True
def vU:World->List Addr->List (List Value)->World
 |w,p::ps,ws::wss=>vU (w.setCells p.block p.off ws) ps wss
 |w,_,_=>w
def L5:World->List Addr->List (List Value)->Prop
 |w,p::ps,ws::wss=>p.spot=none/\(∀j,j<ws.length->(w.cell? ⟨p.block,p.off+j,none⟩).isSome=true/\w.frozen? ⟨p.block,p.off+j,none⟩=false)/\L5 (w.setCells p.block p.off ws) ps wss
 |_,[],[]=>True
 |_,_,_=>False
def Vss (E:Env):List (List Value)->CS->Prop
 |ws::wss,cs::css=>ws.length=cs.length/\(∀j,j<cs.length->(ws.getD j undef).oneCell'=true/\V E (ws.getD j undef) (cs.getD j .any))/\Vss E wss css
 | [],[]=>True
 |_,_=>False
def more (w:World)(os:Array Obj):World:= {w with heap:=w.heap++os}
section
variable {C:Ctx}{U:Nat->Prop}
theorem HI.more {hp:HF}{w:World}{S:Nat->Prop}{β:Nat->Place}{used:Nat->Nat->Prop}(h:HI C U hp w S β used)(os:Array Obj):HI C U hp (more w os) S β used/\(aG C S β used hp w).le (aG C S β used hp (Go.AM.more w os)):=by
 have hb: ∀b,b<w.heap.size->(Go.AM.more w os).heap[b]? =w.heap[b]? :=λb hb=>by
  show (w.heap++os)[b]? =_
  rw[Array.getElem?_append_left hb]
 have hz:w.heap.size<=(Go.AM.more w os).heap.size:=by show _<=(w.heap++os).size;rw[Array.size_append];omega
 refine (HI.change (w':=Go.AM.more w os) (S':=S) (β':=β) (used':=used) (hp':=hp) (U':=U) h ⟨h.kept.os,h.kept.tape,h.kept.output,AN h.kept.size hz,λb h1 h2=>(hb b (B7 h1 h.kept.size)).trans (h.kept.block b h1 h2)⟩ (λb o u hs hc=>⟨hs,by rw[((SameB.of_block (hb b (qz hc))).at o).1];exact hc⟩) (λ_ _ x=>x) (λk g b hk _=>⟨⟨b,hk⟩,rfl⟩) (λb hs=>⟨B7 (h.s b hs).1 hz,(h.s b hs).2⟩) h.keep h.us (λk g b hk=>.inl ⟨hk,rfl,λhn=>?_⟩) h.inj h.pl)
 have:=((h.at_ k g b hk).2.1 hn).1;exact ⟨this,SameB.of_block (hb _ (h.s _ this).1)⟩
theorem RelC.more {F:FSt}{a:Act}{w:World}{S:Nat->Prop}{β:Nat->Place}{used:Nat->Nat->Prop}(h:RelC C U F a w S β used)(os:Array Obj):RelC C U F a (Go.AM.more w os) S β used:=
 ⟨(h.hi.more os).1,h.size,h.defers,λt=>(h.tm t).mono (h.hi.more os).2⟩
end
structure DSem (P:Program)(C:Ctx)(fn:Func)(sp:AV->Option CS):Prop where
 ret: ∀(tmps:Array Value)(w:World)(R:Ending->World->Prop),(∀os,∃v,(results fn tmps).run P (more w os)= .ok v (more w os)/\R (.returned v) (more w os))->Leaves P fn tmps R C.dfr .returning w
 pan: ∀(E:Env)(v:Value)(a:AV)(css:CS),E.num=C.num->E.tnum=C.tnum->V E v a->sp a=some css-> ∃wss,Vss E wss css/\ ∀(tmps:Array Value)(w:World)(R:Ending->World->Prop)(fv:Fn)(ps:List Addr),C.dval= .func fv #[] (ps.map λp=>Value.pointer (some p)).toArray->L5 w ps wss->
  (∀os,∃v,(results fn tmps).run P (more (vU w ps wss) os)= .ok v (more (vU w ps wss) os)/\R (.returned v) (more (vU w ps wss) os))->Leaves P fn tmps R C.dfr (.panicking [{v:=v,recovered:=false}]) w
section
variable (P:Program)(N:Nums)
def TK (C:Ctx)(fn:Func)(rs:C7):Prop:=dP (jb P) fn.results.toList=some (eZ rs)/\match rs with
 | .dfd sp::_=>DSem P C fn sp
 |_=>C.dfr= []
def rC (cfg:Cfg)(t:Ret):Prop:=
 ∀(C:Ctx)(todo:List Item)(a:Act)(w:World)(b:Frame)(cs:List Frame)(fn:Func),
  ud P N C.n todo cfg.todo->ew N C->C.tnum=N.tnum->0<cfg.A.ctr->Rel C (λg=>g<cfg.A.ctr) cfg.A.fs a w->
  P.funcs[b.fn]? =some fn->TK P C fn cfg.rs->b.kind= .normal->
  ∃v w' fr S1 β1,RetC C cfg.m w' v (unR t) S1 β1/\Steps P (lone (b.at a todo) cs w) (lone fr cs w')/\fr.fn=b.fn/\fr.leaving P w' (iz t.r v)
def gw (ih:Cfg->Df):Prop:= ∀c t,ih c=some t->ow c.todo=true->rC P N c t
end
section
variable {P:Program} {N:Nums} {G:Nat->Fun}
section
variable {raw:Bool}{fn:Func}{F:AFunc}
theorem nK (h:lk P N raw fn=some F):
  ∃c,fn.body=some c/\ce P N fn.ntmps c=some F.body/\dP (jb P) fn.results.toList=some F.results/\(fn.params.size+fn.nfree<=fn.ntmps/\fn.ntmps<=D0)/\F.np=fn.params.size+fn.nfree/\fn.name≠ "runtime.NumGoroutine" :=by
 unfold lk at h;cases hb:fn.body with
 |none=>rw[hb] at h;cases h
 |some c=>
  rw[hb] at h;dsimp only at h;split at h
  ·rename_i bd rs h1 h2
   split at h
   ·rename_i hq
    obtain rfl:=Ai h;exact ⟨c,rfl,h1,h2,⟨hq.1,hq.2.1⟩,rfl,hq.2.2⟩
   ·cases h
  ·cases h
theorem RA: ∀{l:List ResultVar}{rs:C7},dP (jb P) l=some rs->eZ rs=rs/\ ∀sp r,rs≠ .dfd sp::r
 | [], rs, h => by obtain rfl: []=rs:=by simpa[dP] using h
                   exact ⟨rfl,λ_ _ q=>by cases q⟩
 |v::l,rs,h=>by
  obtain ⟨r,rs',q1,q2,rfl⟩:=pj h;cases r with
  |t n=>exact ⟨rfl,λ_ _ q=>by cases q⟩
  |cell a sz=>exact ⟨rfl,λ_ _ q=>by cases q⟩
  |dfd sp=>
   exfalso;cases v with
   |tmp t=>simp only[jb] at q1;split at q1<;>cases q1
   |cell a t=>
    simp only[jb] at q1;split at q1
    ·split at q1<;>cases q1
    ·cases q1
theorem QK (h:lk P N raw fn=some F){C:Ctx}(hd:C.dfr= []):TK P C fn F.results:=by
 obtain ⟨c,_,_,h3,_⟩:=nK h;obtain ⟨q1,q2⟩:=RA h3;refine ⟨by rw[q1];exact h3,?_⟩
 split
 ·rename_i sp r e;exact absurd e (q2 sp r)
 ·exact hd
end
theorem Ce {C:Ctx}{N:Nums}{vs:Array Value}{args:CL}{bs:Dn}{n:Nat}(hent:Entry C N vs args bs)(h4:args.length<=n/\n<=D0):
  Rel {C with n:=n,dfr:=[],dval:=undef} (λg=>g<1) (AS.mk (tms 0 args) (j8 0 bs) 1).fs {tmps:=vs++Array.replicate (n-vs.size) undef,defers:=[]} C.W0:=by
 have hi:=hent.hi
 have hhp:aW (j8 0 bs)=hpB bs:=by
  funext k
  rw[J6,Ad (Nat.zero_le k),Nat.sub_zero];rfl
 refine ⟨C.S0,C.π,ib bs.length,?_,?_,rfl,λt=>?_⟩
 ·show HI {C with n:=n,dfr:=[],dval:=undef} _ (aW (j8 0 bs)) C.W0 C.S0 C.π (ib bs.length)
  rw[hhp];exact ⟨hi.kept,hi.s,hi.s0,hi.keep,λk g u=>by rw[hi.us k g u];omega,hi.at_,hi.inj,hi.pl⟩
 ·refine ⟨?_,h4.2⟩
  show (vs++Array.replicate (n-vs.size) undef).size=n
  have:=hent.size;have:=h4.1;simp;omega
 ·have hd0:t=D0->args.getD t .any= .any:=λe=>by rw[Aj,AD (by have:=h4.1;have:=h4.2;omega)];rfl
  show V (aG {C with n:=n,dfr:=[],dval:=undef} C.S0 C.π (ib bs.length) (aW (j8 0 bs)) C.W0) (if t=D0 then undef else (vs++Array.replicate (n-vs.size) undef).getD t undef) (bJ (tms 0 args) t)
  rw[hhp,zm,Ad (Nat.zero_le t),Nat.sub_zero]
  by_cases hq0:t=D0
  ·rw[hd0 hq0];exact .any _
  rw[Ac hq0]
  by_cases ht:t<args.length
  ·have hv:=hent.at_ t ht
   have hsz:=hent.size
   have:(vs++Array.replicate (n-vs.size) undef).getD t undef=vs.getD t undef:=by
    simp only[Ak];rw[Array.getElem?_append_left (by omega)]
   rw[this];exact hv
  ·have:args.getD t .any= .any:=by rw[Aj,AD (by omega)];rfl
   rw[this];exact .any _
theorem vp {P:Program}{m m':Machine}{r:AV}{v:Value}(h:Steps P m m'):Comes P m m' (iz r v):=by
 unfold iz;split<;>exact h
theorem Az (hG:GOk P N G){f:Nat}{F:AFunc}(hf:G f= .code F){args:CL}{bs:Dn}{t:Ret}(hl:args.length=F.np)(hs:rC P N (F.start args bs) t):fM P N f args bs t:=by
 intro C vs hent cs;have hg:=hG f;rw[hf] at hg;obtain ⟨fn,hfn,hcf⟩:=hg;obtain ⟨c,h1,h2,h3,h4,h5,h6⟩:=nK hcf
 let C':Ctx:= {C with n:=fn.ntmps,dfr:=[],dval:=undef}
 let b:Frame:= { (default:Frame) with fn:=N.num f,kind:=.normal}
 let a:Act:= {tmps:=vs++Array.replicate (fn.ntmps-vs.size) undef,defers:=[]}
 have henter:Frame.enter P (N.num f) vs .normal=b.at a [.code c]:=by
  simp[Frame.enter,Frame.at,hfn,h1,b,a]
 have hrel:Rel C' (λg=>g<1) (F.start args bs).A.fs a C.W0:=Ce hent ⟨by have:=h4.1;omega,h4.2⟩
 obtain ⟨v,w',fr,S1,β1,hret,hst,hfr,hlv⟩:=hs C' [.code c] a C.W0 b cs fn ⟨h2,trivial⟩ hent.num hent.tnum (Nat.zero_lt_one) hrel hfn (QK hcf rfl) rfl;refine ⟨iz t.r v,w',fr,⟨v,rfl,S1,β1,⟨hret.kept,hret.s,hret.keep,hret.val,hret.at_,hret.inj,hret.pl,hret.len⟩⟩,?_,hfr,hlv⟩;refine vp ?_;rw[henter];exact hst
theorem Td {hg:Nat->C0}{c:CIn}{g dst:Nat}{t:Ret}{e:Eff}(h:ci hg c g dst t=some e):e.sf= []:=by
 unfold ci at h;simp only[Bool.cond_eq_ite] at h
 (repeat' split at h)<;>first|(cases h;done)|(obtain rfl:=Ai h;rfl)
section
variable (hG:GOk P N G){C:Ctx}{ops:Array Oper}{i g:Nat}{o:Oper}{ao ao':AOper}(hr:OpRel P N C.n ops i o ao)(hop:ao'.op=ao.op)(hdst:ao'.dst=ao.dst)(hn:ew N C)(ht:C.tnum=N.tnum)(hg0:g≠0){ih:Cfg->Df}(hih:gw P N ih){A:AS}{e:Eff}
include hG hr hop hdst hn ht hg0 hih
theorem my (he:ig G ih ao' g A=some e):
  ∀F',(∀t∈looks ao,F'.tm t=A.fs.tm t)->(∀k∈e.rd,F'.hp k=A.fs.hp k∨Sft e.sf k (F'.hp k))->L8 P C o g ao.dst e F':=by
 intro F' hF1 hF2;have hvals:=DE hF1;rw[yE] at hvals;unfold ig at he;rw[hop] at he;split at he
 ·rename_i f args hao
  rw[hao] at hvals;simp only[AOp.opds,Ao,List.cons.injEq] at hvals;obtain ⟨hv1,hv2⟩:=hvals;simp only[Ao] at he;unfold n8 at he;split at he
  ·rename_i fi cap args' heq
   obtain ⟨hq1,hq2⟩:=List.cons.inj heq;cases hci:fp (aW A.hp) (G (bV fi)).raw (bif isB fi then cap++args' else args'++cap) with
   |none=>rw[hci] at he;cases he
   |some c=>
    rw[hci] at he;dsimp only at he;have hfo:evF F' f= .fn fi cap:=by rw[hv1];exact hq1
    have hargs:args.map (evF F')=args':=by rw[hv2];exact hq2
    have fin: ∀t,fM P N (bV fi) c.args c.bs t->(∃fn,P.funcs[N.num (bV fi)]? =some fn/\fn.body.isSome=true/\fn.name≠ "runtime.NumGoroutine")->ci (aW A.hp) c g (ao'.dst.getD 0) t=some e->L8 P C o g ao.dst e F':=by
     rintro t hsem ⟨fn,hfn,hb,hname⟩ hco
     have hrd:=Tf hco;have hag: ∀k∈c.fz++c.D,aW A.hp k=F'.hp k:=λk hk=>((hF2 k (by rw[hrd];exact hk)).resolve_right λq=>by rw[Td hco] at q;exact q.nil).symm
     have hci':=Ll hci hag;rw[<-hargs] at hci';exact WC hr hn ht hao hg0 hfo hci' hsem hfn hb hname (Fy hco hag)
    cases hGf:G (bV fi) with
    |none=>rw[hGf] at he;cases he
    |code F=>
     rw[hGf] at he;dsimp only at he;split at he
     ·rename_i hl
      cases hrn:ih (F.start c.args c.bs) with
      |none=>rw[hrn] at he;cases he
      |some t=>
       rw[hrn] at he;have hg:=hG (bV fi);rw[hGf] at hg;obtain ⟨fn,hfn,hcf⟩:=hg;obtain ⟨cc,k1,_,_,_,_,k6⟩:=nK hcf;exact fin t (Az hG hGf hl (hih _ _ hrn rfl)) ⟨fn,hfn,by rw[k1];rfl,k6⟩ he
     ·cases he
    |prim raw p=>
     rw[hGf] at he;dsimp only at he;cases hp:p c.args c.bs with
     |none=>rw[hp] at he;cases he
     |some t=>
      rw[hp] at he;have hg:=hG (bV fi);rw[hGf] at hg;exact fin t (hg.2 _ _ _ hp) hg.1 he
  ·cases he
 ·rename_i hnc
  have he':=W9 (hg':=F'.hp) he hF2;rw[<-hvals] at he';exact adG hr hn ht hnc hg0 he'
theorem Cy (he:iR G ih ao' g A=some e): ∀F',(∀t∈looks ao,F'.tm t=A.fs.tm t)->F'.hp=A.fs.hp->uK P C o g e F':=by
 intro F' hF1 hF2;have hvals:=DE hF1;rw[yE] at hvals;have hF2':aW A.hp=F'.hp:=hF2.symm;unfold iR at he;rw[hop] at he;split at he
 ·rename_i f args hao
  rw[hao] at hvals;simp only[AOp.opds] at hvals;rw[<-hvals,hF2'] at he;simp only[Ao] at he;unfold nc at he;split at he
  ·rename_i fi cap args' heq
   obtain ⟨hq1,hq2⟩:=List.cons.inj heq;cases hci:fp F'.hp (G (bV fi)).raw (bif isB fi then cap++args' else args'++cap) with
   |none=>rw[hci] at he;cases he
   |some c=>
    rw[hci] at he;dsimp only at he;rw[<-hq2] at hci
    have fin: ∀t,fM P N (bV fi) c.args c.bs t->(∃fn,P.funcs[N.num (bV fi)]? =some fn/\fn.body.isSome=true/\fn.name≠ "runtime.NumGoroutine")->jH F'.hp c g (ao'.dst.getD 0) t=some e->uK P C o g e F':=by
     rintro t hsem ⟨fn,hfn,hb,hname⟩ hco
     exact SW hr hn ht hao hg0 hq1 hci hsem hfn hb hname hco
    cases hGf:G (bV fi) with
    |none=>rw[hGf] at he;cases he
    |code F=>
     rw[hGf] at he;dsimp only at he;split at he
     ·rename_i hl
      cases hrn:ih (F.start c.args c.bs) with
      |none=>rw[hrn] at he;cases he
      |some t=>
       rw[hrn] at he;have hg:=hG (bV fi);rw[hGf] at hg;obtain ⟨fn,hfn,hcf⟩:=hg;obtain ⟨cc,k1,_,_,_,_,k6⟩:=nK hcf;exact fin t (Az hG hGf hl (hih _ _ hrn rfl)) ⟨fn,hfn,by rw[k1];rfl,k6⟩ he
     ·cases he
    |prim raw p=>
     rw[hGf] at he;dsimp only at he;cases hp:p c.args c.bs with
     |none=>rw[hp] at he;cases he
     |some t=>
      rw[hp] at he;have hg:=hG (bV fi);rw[hGf] at hg;exact fin t (hg.2 _ _ _ hp) hg.1 he
  ·cases he
 ·rename_i x hao
  rw[hao] at hvals;simp only[AOp.opds,Ao,Bd,List.cons.injEq,and_true] at hvals;split at he
  ·rename_i ty av hx
   obtain rfl:=Ai he;refine SV hr hn hao ?_;rw[hvals];exact hx
  ·cases he
 ·cases he
theorem Yo (he:iR G ih ao' g A=some e):uK P C o g e A.fs:=Cy hG hr hop hdst hn ht hg0 hih he A.fs (λ_ _=>rfl) rfl
end
theorem gq {n:Nat}{ops:Array Oper}: ∀{os:List Oper}{i:Nat}{l:CO},fu P N n ops i os=some l->l.length=os.length/\ ∀(j:Nat)(o:Oper)(ao:AOper),os[j]? =some o->l[j]? =some ao->OpRel P N n ops (i+j) o ao
 | [], i, l, h => by obtain rfl: []=l:=by simpa[fu] using h
                     exact ⟨rfl,λj o ao h=>by simp at h⟩
 |o::os,i,l,h=>by
  simp only[fu] at h;split at h
  ·rename_i a l' h1 h2
   obtain rfl:=Ai h;obtain ⟨q1,q2⟩:=gq h2;refine ⟨by simp[q1],λj o' ao ho ha=>?_⟩
   cases j with
   |succ j=>
    have:=q2 j o' ao (by simpa using ho) (by simpa using ha)
    rwa [show i+(j+1)=i+1+j from by omega]
   |zero=>
    obtain rfl:o=o':=by simpa using ho
    obtain rfl:a=ao:=by simpa using ha
    unfold KG at h1;split at h1
    ·rename_i op gd g1 g2
     split at h1
     ·rename_i hq
      obtain rfl:=Ai h1;refine ⟨g1,rfl,λd hd=>?_,?_,λe he hb=>?_,λj hj=>?_⟩
      ·have:=hq.1;rw[hd] at this;simpa[abW] using this
      ·dsimp only
       cases hg:o.guard with
       |none=>rw[hg] at g2;obtain rfl:=Ai g2;trivial
       |some x=>
        obtain ⟨jj,ww⟩:=x;rw[hg] at g2;simp only[DP] at g2;split at g2
        ·rename_i t ht
         split at g2
         case isFalse=>cases g2
         rename_i hlt;obtain rfl:=Ai g2;exact ⟨rfl,hlt,ht⟩
        ·cases g2
      ·exact BE.2 ⟨e,List.mem_filter.2 ⟨by simpa using he,hb⟩,rfl⟩
      ·obtain ⟨e,he,rfl⟩:=BE.1 hj
       obtain ⟨he1,he2⟩:=List.mem_filter.1 he;refine ⟨?_,e,by simpa using he1,he2,rfl⟩
       have:=List.all_eq_true.1 hq.2 e.on hj;simpa using this
     ·cases h1
    ·cases h1
  ·cases h
theorem Od {x y:AOper}(h:LR x y=true):iB x y:=by
 unfold LR at h;simp only[Av] at h;refine ⟨λt ht=>?_,λt ht=>?_⟩
 ·have:=h.1;rw[ht] at this;simpa using this
 ·have:=h.2;rw[ht] at this;simpa using this
theorem qQ: ∀{l:CO}{k:Nat},ur k l=true-> ∀(i j:Nat)(ai aj:AOper),i<j->l[i]? =some ai->l[j]? =some aj->k+i∈aj.after∨iB ai aj
 | [],_,_,i,_,_,_,_,h,_=>by simp at h
 |o::r,k,h,i,j,ai,aj,hij,hi,hj=>by
  simp only[ur,Av] at h;cases j with
  |zero=>omega
  |succ j=>
   cases i with
   |zero=>
    obtain rfl:o=ai:=by simpa using hi
    have:=List.all_eq_true.1 h.1 aj (A5 (by simpa using hj))
    simp only[Bool.or_eq_true] at this;rcases this with q|q
    ·exact .inl (by simpa using q)
    ·exact .inr (Od q)
   |succ i=>
    have:=qQ h.2 i j ai aj (by omega) (by simpa using hi) (by simpa using hj)
    rwa [show k+(i+1)=k+1+i from by omega]
theorem jD (φ:Nat->Nat->Tgt): ∀(l:CV)(t:Nat),bJ (jh φ l) t=(bJ l t).ren φ
 | [],t=>by simp[jh,bJ,AV.ren]
 |(u,v)::r,t=>by
  simp only[jh,bJ];split
  ·rfl
  ·exact jD φ r t
theorem jM (φ:Nat->Nat->Tgt): ∀(l:aq)(k:Nat),aW (renH φ l) k=(aW l k).map λx=>(x.1,x.2.ren φ)
 | [],k=>rfl
 |(u,some (g,b))::r,k=>by
  simp only[renH,aW];split
  ·rfl
  ·exact jM φ r k
 |(u,none)::r,k=>by
  simp only[renH,aW];split
  ·rfl
  ·exact jM φ r k
section
variable {C:Ctx}{U:Nat->Prop}
theorem HI.renH {hp hp':HF}{w:World}{S S':Nat->Prop}{β:Nat->Place}{used:Nat->Nat->Prop}{φ:Nat->Nat->Tgt}(h':HI C U hp' w S' β used)(h:HI C U hp w S β used)(r:RenOk (aG C S β used hp w) (aG C S' β used hp' w) φ)(hsub: ∀k x,hp' k=some x->hp k=some x):
  aG C S' β used (λk=>(hp' k).map λx=>(x.1,x.2.ren φ)) w=aG C S' β used hp' w/\
  HI C U (λk=>(hp' k).map λx=>(x.1,x.2.ren φ)) w S' β used:=by
 have he:aG C S' β used (λk=>(hp' k).map λx=>(x.1,x.2.ren φ)) w=aG C S' β used hp' w:=by
  unfold aG
  congr 1
  funext k g
  dsimp only;cases hp' k with
  |none=>rfl
  |some x=>rfl
 refine ⟨he,h'.kept,h'.s,h'.s0,h'.keep,h'.us,λk g b hk=>?_,λk k' x x' hk hk'=>?_,λk b hk=>?_⟩
 ·obtain ⟨x,hx,e⟩:=map_some hk
  obtain ⟨g',b'⟩:=x;obtain ⟨rfl,rfl⟩:g'=g/\b'.ren φ=b:=by simpa using e
  obtain ⟨q1,q2,q3⟩:=h'.at_ k g' b' hx;refine ⟨q1,q2,?_⟩;rw[he];exact BlkOk.ren r (h.at_ k g' b' (hsub _ _ hx)).2.2
 ·obtain ⟨y,hy,_⟩:=map_some hk
  obtain ⟨y',hy',_⟩:=map_some hk';exact h'.inj k k' y y' hy hy'
 ·obtain ⟨x,hx,e⟩:=map_some hk
  obtain ⟨g',b'⟩:=x;obtain ⟨rfl,rfl⟩:g'=0/\b'.ren φ=b:=by simpa using e
  exact h'.pl k b' hx
theorem Rel.frz {A:AS}{a:Act}{w:World}(h:Rel C U A.fs a w)(D:CT):Rel C U (A.frz D).fs a w:=by
 obtain ⟨S,β,used,hR⟩:=h;have hd:=hR.hi.drop D;have hf:=hR.hi.frz D;dsimp only at hd hf
 have hren:RenOk (aG C S β used A.fs.hp w) _ (pm (aW A.hp) D):=⟨hf.ro,hf.num,hf.tnum,λk g u=>by
  unfold pm;cases hc:D.contains k with
  |true=>exact hf.at_ k g u
  |false=>exact ⟨u,λp hp=>hd.2.lv k g p u hp⟩⟩
 have hsub: ∀k x,dC A.fs.hp D k=some x->A.fs.hp k=some x:=λk x hx=>by
  unfold dC at hx;split at hx
  ·cases hx
  ·exact hx
 obtain ⟨e1,e2⟩:=HI.renH hd.1 hR.hi hren hsub
 have hhp:(A.frz D).fs.hp=λk=>(dC A.fs.hp D k).map λx=>(x.1,x.2.ren (pm (aW A.hp) D)):=by
  show aW (bU D++_)=_
  rw[fU,je]
  funext k
  unfold dC;split
  ·rfl
  ·exact jM _ _ _
 refine ⟨_,β,used,by rw[hhp];exact e2,hR.size,hR.defers,λt=>?_⟩
 rw[hhp,e1];show V _ _ (bJ (jh _ _) t)
 rw[jD];exact (hR.tm t).ren hren
end
theorem Gx (hG:GOk P N G){C:Ctx}{ops:Array Oper}{aops:CO}{c0:Nat}(hc0:0<c0)(hn:ew N C)(ht:C.tnum=N.tnum)(hl:aops.length=ops.size)(hrel: ∀i o ao,ops[i]? =some o->aops[i]? =some ao-> ∃al,OpRel P N C.n ops i o al/\ao.op=al.op/\ao.dst=al.dst/\ao.guard=al.guard){A':AS}{Q:Exit->Act->World->Prop}(hQ: ∀a w,Rel C (fq c0 λj=>decide (j<ops.size)) A'.fs a w->Q .normal a w):
  ∀(r:CO)(i:Nat)(A:AS)(a:Act)(w:World),aops.drop i=r->A.ctr=c0->i+r.length=ops.size->RegSeq G (gw P N) r i A A'->Rel C (fq c0 λj=>decide (j<i)) A.fs a w->wpOps P ops Q (List.range' i r.length) a w
 | [],i,A,a,w,_,_,hi,hs,hR=>by
  obtain rfl:i=ops.size:=by simpa using hi
  exact hQ a w (hs.2 _ _ _ _ hR)
 |ao::r,i,A,a,w,hd,hc,hi,hs,hR=>by
  have hlt:i<ops.size:=by simp at hi;omega
  have ho:ops[i]? =some ops[i]:=by simp[hlt]
  generalize ops[i]=o at ho
  have ha:aops[i]? =some ao:=by
   have:(aops.drop i)[0]? =some ao:=by rw[hd];rfl
   simpa using this
  obtain ⟨al,hrl,x1,x2,x3⟩:=hrel i o ao ho ha;have hd':aops.drop (i+1)=r:=by rw[<-List.drop_drop,hd];rfl
  have hU: ∀g,Or1 (fq c0 λj=>decide (j<i)) (c0+i) g->fq c0 (λj=>decide (j<i+1)) g:=by
   rintro g ((hg|⟨j,hj,rfl⟩)|rfl)
   ·exact .inl hg
   ·exact .inr ⟨j,by simp at hj⊢;omega,rfl⟩
   ·exact .inr ⟨i,by simp,rfl⟩
  rw[As,List.range'_succ,wpOps_cons];unfold wpOp;simp only[ho];obtain ⟨A0,hA0,hs⟩:=hs;have hR:=hA0.2 _ _ _ _ hR;have hc0':A0.ctr=c0:=hA0.1.trans hc;rcases hs with ⟨h1,h2⟩|⟨A1,e,hA1,hw,⟨ih,hih,he⟩,h2⟩
  ·rw[dL hR hrl (by rw[<-x3,fg];exact h1)]
   simp only[A6,if_false];refine Gx hG hc0 hn ht hl hrel hQ r (i+1) (A0.put ao.dst ip) _ _ hd' (by rw[AS.put_ctr];exact hc0') (by simp at hi;omega) h2 ?_
   rw[AS.fs_put,<-hrl.dst,<-x2];exact (hR.put ao.dst (λd hd=>hrl.bd d (by rw[<-hrl.dst,<-x2];exact hd))).wide λy hy=>hU y (.inl hy)
  ·rw[dL hR hrl (by rw[<-x3,fg];exact hw)]
   simp only[if_true]
   have hR1:Rel C (fq c0 λj=>decide (j<i)) A1.fs a w:=by
    exact hA1.2 _ _ _ _ hR
   have hc1:A1.ctr=c0:=hA1.1.trans hc0';rw[hc] at he;have hdo:=my hG hrl x1 x2 hn ht (by omega) hih he A1.fs (λ_ _=>rfl) (λ_ _=>.inl rfl)
   refine .inl (hdo _ a w _ Q ?_ hR1 λa' w' hR'=>?_)
   ·rintro (hg|⟨j,hj,hg⟩)
    ·omega
    ·have:j<i:=by simpa using hj
     omega
   ·refine Gx hG hc0 hn ht hl hrel hQ r (i+1) (A1.app ao.dst e) _ _ hd' (by rw[AS.app_ctr];exact hc1) (by simp at hi;omega) h2 ?_
    rw[AS.fs_app,x2];exact hR'.wide hU
theorem zt (hG:GOk P N G){C:Ctx}{ops:Array Oper}{aops:CO}{c0:Nat}(hc0:0<c0)(hn:ew N C)(ht:C.tnum=N.tnum)(hl:aops.length=ops.size)(hrel: ∀i o ao,ops[i]? =some o->aops[i]? =some ao-> ∃al,OpRel P N C.n ops i o al/\ao.op=al.op/\ao.dst=al.dst/\ao.guard=al.guard){rs:C7}{m:Nat}{t:Ret}{Q:Exit->Act->World->Prop}(hQ: ∀a w A v x S β used U,RelC C U A.fs a w S β used->V (aG C S β used A.fs.hp w) v x->eo A rs m x=some t->Q (.panic [{v:=v,recovered:=false}]) a w):
  ∀(r:CO)(i:Nat)(A:AS)(a:Act)(w:World),aops.drop i=r->A.ctr=c0->i+r.length=ops.size->RegPan G (gw P N) rs m t r i A->Rel C (fq c0 λj=>decide (j<i)) A.fs a w->wpOps P ops Q (List.range' i r.length) a w
 | [],i,A,a,w,_,_,hi,hs,hR=>hs.elim
 |ao::r,i,A,a,w,hd,hc,hi,hs,hR=>by
  have hlt:i<ops.size:=by simp at hi;omega
  have ho:ops[i]? =some ops[i]:=by simp[hlt]
  generalize ops[i]=o at ho
  have ha:aops[i]? =some ao:=by
   have:(aops.drop i)[0]? =some ao:=by rw[hd];rfl
   simpa using this
  obtain ⟨al,hrl,x1,x2,x3⟩:=hrel i o ao ho ha;have hd':aops.drop (i+1)=r:=by rw[<-List.drop_drop,hd];rfl
  have hU: ∀g,Or1 (fq c0 λj=>decide (j<i)) (c0+i) g->fq c0 (λj=>decide (j<i+1)) g:=by
   rintro g ((hg|⟨j,hj,rfl⟩)|rfl)
   ·exact .inl hg
   ·exact .inr ⟨j,by simp at hj⊢;omega,rfl⟩
   ·exact .inr ⟨i,by simp,rfl⟩
  have hfr: ¬fq c0 (λj=>decide (j<i)) (c0+i):=by
   rintro (hg|⟨j,hj,hg⟩)
   ·omega
   ·have:j<i:=by simpa using hj
    omega
  rw[As,List.range'_succ,wpOps_cons];unfold wpOp;simp only[ho];obtain ⟨A0,hA0,hs⟩:=hs;have hR:=hA0.2 _ _ _ _ hR;have hc0':A0.ctr=c0:=hA0.1.trans hc;rcases hs with ⟨h1,h2⟩|⟨A1,e,hA1,hw,⟨ih,hih,he⟩,h2⟩|⟨A1,e,hA1,hw,⟨ih,hih,he⟩,h2⟩
  ·rw[dL hR hrl (by rw[<-x3,fg];exact h1)]
   simp only[A6,if_false];refine zt hG hc0 hn ht hl hrel hQ r (i+1) (A0.put ao.dst ip) _ _ hd' (by rw[AS.put_ctr];exact hc0') (by simp at hi;omega) h2 ?_
   rw[AS.fs_put,<-hrl.dst,<-x2];exact (hR.put ao.dst (λd hd=>hrl.bd d (by rw[<-hrl.dst,<-x2];exact hd))).wide λy hy=>hU y (.inl hy)
  ·rw[dL hR hrl (by rw[<-x3,fg];exact hw)]
   simp only[if_true]
   have hR1:Rel C (fq c0 λj=>decide (j<i)) A1.fs a w:=by
    exact hA1.2 _ _ _ _ hR
   have hc1:A1.ctr=c0:=hA1.1.trans hc0';rw[hc] at he;have hdo:=my hG hrl x1 x2 hn ht (by omega) hih he A1.fs (λ_ _=>rfl) (λ_ _=>.inl rfl)
   refine .inl (hdo _ a w _ Q hfr hR1 λa' w' hR'=>?_)
   refine zt hG hc0 hn ht hl hrel hQ r (i+1) (A1.app ao.dst e) _ _ hd' (by rw[AS.app_ctr];exact hc1) (by simp at hi;omega) h2 ?_
   rw[AS.fs_app,x2];exact hR'.wide hU
  ·rw[dL hR hrl (by rw[<-x3,fg];exact hw)]
   simp only[if_true]
   have hR1:Rel C (fq c0 λj=>decide (j<i)) A1.fs a w:=by
    exact hA1.2 _ _ _ _ hR
   rw[hc] at he;have hdo:=Yo hG hrl x1 x2 hn ht (by omega) hih he
   refine .inl (hdo _ a w _ Q hfr hR1 λv w' S β used hR' hv=>?_)
   have ee:({A1 with hp:=e.wr++A1.hp}:AS).fs= {A1.fs with hp:=hov e.wr A1.fs.hp}:=by
    show FSt.mk _ (aW (e.wr++A1.hp))=_
    rw[fU];rfl
   refine hQ a w' {A1 with hp:=e.wr++A1.hp} v e.res S β used _ (by rw[ee];exact hR') ?_ h2
   rw[ee];exact hv
end
open Go.RowKit
section
variable {P:Program} {N:Nums} {G:Nat->Fun}
theorem Rel.drew {C:Ctx}{U:Nat->Prop}{F:FSt}{a:Act}{w:World}(h:Rel C U F a w):Rel C U F a {w with drawn:=w.drawn+1}:=
 let ⟨S,β,used,hi,b,c,d⟩:=h
 ⟨S,β,used,hi.drew,b,c,d⟩
theorem mA: ∀(r:CO)(acc:List CT)(i:Nat)(x:AOper),(cd acc r)[i]? =some x-> ∃y,r[i]? =some y/\x.op=y.op/\x.dst=y.dst/\x.guard=y.guard/\(∀j∈y.after,j∈x.after)/\
  ∀j∈x.after,j∈y.after∨ ∃k∈y.after,j∈ (acc++(cd acc r).map (·.after)).getD k []
 | [],_,_,_,h=>by simp[cd] at h
 |o::r,acc,0,x,h=>by
  simp only[cd,List.getElem?_cons_zero,Option.some.injEq] at h;subst h;refine ⟨o,rfl,rfl,rfl,rfl,λj hj=>eW.2 (List.mem_append_left _ hj),λj hj=>?_⟩
  rcases B5.1 (eW.1 hj) with q|q
  ·exact .inl q
  ·right
   obtain ⟨k,hk,hj'⟩:=List.mem_flatMap.1 q;refine ⟨k,hk,?_⟩;rw[Aj] at hj'⊢;rcases A4 k acc.length with z|z
   ·rw[BF z];exact hj'
   ·rw[AD z] at hj';simp at hj'
 |o::r,acc,i+1,x,h=>by
  simp only[cd,List.getElem?_cons_succ] at h;obtain ⟨y,h1,h2,h3,h4,h5,h6⟩:=mA r _ i x h;refine ⟨y,by simpa using h1,h2,h3,h4,h5,λj hj=>?_⟩
  rcases h6 j hj with q|⟨k,hk,hj'⟩
  ·exact .inl q
  ·exact .inr ⟨k,hk,by simpa[cd] using hj'⟩
theorem tP: ∀(r:CO)(acc:List CT),(cd acc r).length=r.length
 | [],_=>rfl
 |o::r,acc=>by simp only[cd,As,tP r]
section
variable {draw:Bool}{l:CO}{i:Nat}{x:AOper}
theorem l7 (h:(kz draw l)[i]? =some x): ∃y,l[i]? =some y/\x.op=y.op/\x.dst=y.dst/\x.guard=y.guard/\ ∀j∈x.after,j∈y.after:=by
 cases draw with
 |true=>
  simp only[kz,cond_true,Cf] at h;obtain ⟨y,h1,rfl⟩:=map_some h;refine ⟨y,h1,rfl,rfl,rfl,λj hj=>?_⟩
  dsimp only at hj;cases hm:Rh y.op with
  |true=>rw[hm] at hj;exact (List.mem_filter.1 hj).1
  |false=>rw[hm] at hj;cases hj
 |false=>
  simp only[kz,cond_false,Cf] at h;obtain ⟨y,h1,rfl⟩:=map_some h;exact ⟨y,h1,rfl,rfl,rfl,λj hj=>by cases hj⟩
theorem ui (h:(kz draw (cd [] l))[i]? =some x): ∃y,l[i]? =some y/\x.op=y.op/\x.dst=y.dst/\x.guard=y.guard/\True:=by
 obtain ⟨z,z1,z2,z3,z4,_⟩:=l7 h;obtain ⟨y,y1,y2,y3,y4,_⟩:=mA l [] i z z1;exact ⟨y,y1,z2.trans y2,z3.trans y3,z4.trans y4,trivial⟩
theorem Gm:(kz draw l).length=l.length:=by cases draw<;>simp[kz]
theorem j9:(kz draw (cd [] l)).length=l.length:=by rw[Gm,tP]
end
theorem mQ {r:CO}{es:List Dg}{i:Nat}{x:C8×Dg}(h:(cw r es)[i]? =some x): ∃o e,r[i]? =some o/\es[i]? =some e/\x=(o.dst,e):=by
 unfold cw at h;rw[List.getElem?_zip_eq_some] at h;obtain ⟨h1,h2⟩:=h;rw[Cf] at h1;obtain ⟨o,q1,q2⟩:=map_some h1;exact ⟨o,x.2,q1,h2,by rw[q2]⟩
theorem Eo (hG:GOk P N G)(hm:P.follows .mixedOrders=true){C:Ctx}(hn:ew N C)(ht:C.tnum=N.tnum){id:Nat}{rops:Array Oper}{aops:CO}{l:CO}(hl:fu P N C.n rops 0 rops.toList=some l)(hreg:ur 0 (cd [] l)=true)(haops:aops=kz true (cd [] l)){A A':AS}{es:List Dg}(hout:nh G (gw P N) true aops 0 [] A es A')(hctr:0<A.ctr){a:Act}{w:World}(hR:Rel C (λg=>g<A.ctr) A.fs a w):
  (Code.region id rops true).wp P (λe a' w'=>e= .normal/\Rel C (fq A.ctr λj=>decide (j<rops.size)) A'.fs a' w') a w:=by
 obtain ⟨l1,l2⟩:=gq hl;have hll:l.length=rops.size:=by rw[l1];simp
 obtain ⟨q1,q2,q3⟩:=nz aops 0 [] A es A' hout rfl;have hal:aops.length=rops.size:=by rw[haops,j9];exact hll
 have hesl:(cw aops es).length=rops.size:=by simp[cw,q1,hal]
 have hone: ∀i o ao x,rops[i]? =some o->l[i]? =some ao->(cw aops es)[i]? =some x->x.1=ao.dst/\OneOk P C N rops A.ctr i o ao x.2 (FL (cw aops es) (λj=>decide (j<i)) 0 A.fs):=by
  intro i o ao x ho ha hx;obtain ⟨o',e,h1,h2,rfl⟩:=mQ hx;rw[haops] at h1;obtain ⟨y,y1,y2,y3,y4,_⟩:=ui h1;obtain rfl:y=ao:=by rw[ha] at y1;exact (Ai y1).symm
  have hrel:=l2 i o y (by simpa using ho) ha
  rw[A7] at hrel;have h1':aops[i]? =some o':=by rw[haops];exact h1
  have h:=q2 i o' e h1' h2;simp only[A7] at h;refine ⟨y3,hrel,λhe=>?_,λx hx2=>?_⟩
  ·rw[<-y4];exact h.none_ he
  ·obtain ⟨z1,ih,A2,z2,z3,z4⟩:=h.some_ x hx2
   refine ⟨by rw[<-y4];exact z1,?_⟩
   rw[<-z3];exact my hG hrel y2 y3 hn ht (by omega) z2 z4
 have hclo: ∀i ao,l[i]? =some ao-> ∀j∈ ((cd [] l).map (·.after)).getD i [],j∈ao.after∨ ∃k∈ao.after,j∈ ((cd [] l).map (·.after)).getD k []:=by
  intro i ao hi j hj;rw[Aj,Cf] at hj;cases hx:(cd [] l)[i]? with
  |none=>rw[hx] at hj;simp at hj
  |some x=>
   rw[hx] at hj;obtain ⟨y,y1,_,_,_,_,y2⟩:=mA l [] i x hx;obtain rfl:y=ao:=by rw[hi] at y1;exact (Ai y1).symm
   have:=y2 j hj;simpa using this
 refine wp_region_any hm (af5 (c0:=A.ctr) (F0:=A.fs) (λi=>((cd [] l).map (·.after)).getD i []) hclo hll hesl hone ?_ (λa' w' hR'=>⟨rfl,by rw[<-q3];exact hR'⟩) rops.size (Array.replicate rops.size false) a _ (by simp) ?_ ?_ ?_)
 ·intro i j ai aj xi xj hij hi hj hxi hxj
  obtain ⟨oi,ei,y1,y2,rfl⟩:=mQ hxi;obtain ⟨oj,ej,y3,y4,rfl⟩:=mQ hxj;rw[haops] at y1 y3;obtain ⟨zi,zi1,zi2,zi3,zi4,_⟩:=l7 y1;obtain ⟨zj,zj1,zj2,zj3,zj4,zj5⟩:=l7 y3;obtain ⟨wi,wi1,wi2,wi3,wi4,wi5,_⟩:=mA l [] i zi zi1;obtain ⟨wj,wj1,wj2,wj3,wj4,wj5,_⟩:=mA l [] j zj zj1;obtain rfl:wi=ai:=by rw[hi] at wi1;exact (Ai wi1).symm
  obtain rfl:wj=aj:=by rw[hj] at wj1;exact (Ai wj1).symm
  have hcl: ∀k∈zj.after,k∈ ((cd [] l).map (·.after)).getD j []:=λk hk=>by
   rw[Aj,Cf,zj1];exact hk
  rcases qQ (hreg) i j zi zj hij zi1 zj1 with z|z
  ·rw[A7] at z;exact .inl (hcl _ z)
  ·rw[<-haops] at y1 y3
   rcases (mG aops 0 [] A es A' hout).2 i j oj ei ej hij y3 y2 y4 with z2|z2
   ·rw[A7] at z2;exact .inl (hcl _ (zj5 _ z2))
   ·refine .inr ⟨?_,z2⟩
    have l1:looks zi=looks wi:=by unfold looks;rw[wi2,wi4]
    have l2:looks zj=looks wj:=by unfold looks;rw[wj2,wj4]
    unfold iB at z⊢;rw[l1,l2,wi3,wj3] at z;exact z
 ·exact AN List.countP_le_length (by simp)
 ·intro i h
  simp only[Ak] at h;rw[Array.getElem?_replicate] at h;split at h<;>simp at h
 ·have hf: ∀i,(Array.replicate rops.size false).getD i false=false:=λi=>by
   simp only[Ak];rw[Array.getElem?_replicate];split<;>rfl
  rw[o0 _ _ _ _ (λj _=>hf j)]
  exact hR.drew.wide λx hx=>.inl hx
section
variable (hG:GOk P N G){C:Ctx}(hn:ew N C)(ht:C.tnum=N.tnum){id:Nat}{rops:Array Oper}{aops:CO}{l:CO}(hl:fu P N C.n rops 0 rops.toList=some l)(haops:aops=kz false (cd [] l))
include hG hn ht hl haops
theorem En {A A':AS}(hout:RegSeq G (gw P N) aops 0 A A')(hctr:0<A.ctr){a:Act}{w:World}(hR:Rel C (λg=>g<A.ctr) A.fs a w):
  (Code.region id rops false).wp P (λe a' w'=>e= .normal/\Rel C (fq A.ctr λj=>decide (j<rops.size)) A'.fs a' w') a w:=by
 obtain ⟨l1,l2⟩:=gq hl;have hll:l.length=rops.size:=by rw[l1];simp
 have hal:aops.length=rops.size:=by rw[haops,j9];exact hll
 refine wp_region ?_;rw[List.range_eq_range',show List.range' 0 rops.size=List.range' 0 aops.length from by rw[hal]]
 refine Gx hG hctr hn ht hal (λi o ao ho ha=>?_) (λa' w' hR'=>⟨rfl,hR'⟩) aops 0 A a w rfl rfl (by omega) hout (hR.wide λx hx=>.inl hx)
 rw[haops] at ha;obtain ⟨y,y1,y2,y3,y4,_⟩:=ui ha;have hrel:=l2 i o y (by simpa using ho) y1
 rw[A7] at hrel;exact ⟨y,hrel,y2,y3,y4⟩
theorem QP {A:AS}{rs:C7}{m:Nat}{t:Ret}(hout:RegPan G (gw P N) rs m t aops 0 A)(hctr:0<A.ctr){a:Act}{w:World}(hR:Rel C (λg=>g<A.ctr) A.fs a w):
  (Code.region id rops false).wp P (λe a' w'=> ∃v x A S β used U,e= .panic [{v:=v,recovered:=false}]/\RelC C U A.fs a' w' S β used/\V (aG C S β used A.fs.hp w') v x/\eo A rs m x=some t) a w:=by
 obtain ⟨l1,l2⟩:=gq hl;have hll:l.length=rops.size:=by rw[l1];simp
 have hal:aops.length=rops.size:=by rw[haops,j9];exact hll
 refine wp_region ?_;rw[List.range_eq_range',show List.range' 0 rops.size=List.range' 0 aops.length from by rw[hal]]
 refine zt (t:=t) hG hctr hn ht hal (λi o ao ho ha=>?_) (λa' w' A v x S β used U h1 h2 h3=>⟨v,x,A,S,β,used,U,rfl,h1,h2,h3⟩) aops 0 A a w rfl rfl (by omega) hout (hR.wide λx hx=>.inl hx)
 rw[haops] at ha;obtain ⟨y,y1,y2,y3,y4,_⟩:=ui ha;have hrel:=l2 i o y (by simpa using ho) y1
 rw[A7] at hrel;exact ⟨y,hrel,y2,y3,y4⟩
end
theorem sX (hp:aq)(key:Nat)(z:C0):aW ((key,z)::hp)=up (aW hp) key z:=by
 funext k
 simp only[aW,up]
 by_cases h:key=k
 ·subst h;simp
 ·rw[Ac h,Ac (Ne.symm h)]
theorem Qp {α:Type}{l cs:List α}(h:cs.length=l.length):cJ l 0 cs=cs:=by
 unfold cJ;simp[h]
theorem Vss.mono {E E':Env}(l:E.le E'): ∀{wss:List (List Value)}{css:CS},Vss E wss css->Vss E' wss css
 | [],[],_=>trivial
 |_::_,_::_,h=>⟨h.1,λj hj=>⟨(h.2.1 j hj).1,(h.2.1 j hj).2.mono l⟩,Vss.mono l h.2.2⟩
 | [],_::_,h=>h.elim
 |_::_,[],h=>h.elim
theorem xL {C:Ctx}{a:Act}: ∀(caps:CL)(css:CS)(vs:List Value)(wss:List (List Value))(A A':AS)(w:World)(U:Nat->Prop)(S:Nat->Prop)(β:Nat->Place)(used:Nat->Nat->Prop),
  vs.length=caps.length->(∀i,i<caps.length->V (aG C S β used A.fs.hp w) (vs.getD i undef) (caps.getD i .any))->Vss (aG C S β used A.fs.hp w) wss css->RelC C U A.fs a w S β used->lc A caps css=some A'->
  ∃ps:List Addr,vs=ps.map (λp=>Value.pointer (some p))/\L5 w ps wss/\ ∃U' used',RelC C U' A'.fs a (vU w ps wss) S β used'
 | [],css,vs,wss,A,A',w,U,S,β,used,hl,hv,hs,hR,hp=>by
  cases css with
  |cons _ _=>cases hp
  |nil=>
   obtain rfl:=Ai hp;obtain rfl:vs= []:=AJ hl;cases wss with
   |cons _ _=>exact hs.elim
   |nil=>exact ⟨[],rfl,trivial,U,used,hR⟩
 |c::caps,css,vs,wss,A,A',w,U,S,β,used,hl,hv,hs,hR,hp=>by
  cases css with
  |nil=>
   exfalso;unfold lc at hp;split at hp<;>simp_all
  |cons cs css=>
  cases wss with
  |nil=>exact hs.elim
  |cons ws wss=>
  cases vs with
  |nil=>simp at hl
  |cons v vs=>
  obtain ⟨s1,s2,s3⟩:=hs;unfold lc at hp;split at hp
  ·rename_i h0;cases h0
  ·rename_i k g caps' cs' css' e1 e2
   obtain ⟨rfl,rfl⟩:=List.cons.inj e1;obtain ⟨rfl,rfl⟩:=List.cons.inj e2;split at hp
   ·rename_i g' l hk
    split at hp
    ·rename_i hq
     obtain ⟨rfl,hlen⟩:=hq;have v0:=hv 0 (by simp)
     simp only[List.getD_cons_zero] at v0;obtain ⟨_,_,hx⟩:=v0.ref_inv;have e0:=hx _ (bu (show A.fs.hp k=some (g',.cells l) from hk))
     obtain ⟨u1,u2,u3⟩:=hR.hi.at_ k g' _ hk;obtain ⟨hnn,hco⟩:=u3;have hcs:Cs (aG C S β used A.fs.hp w) ws.toArray cs:=⟨by simpa using s1,λi hi=>by have:=(s2 i hi).1;simpa[Ak,Aj] using this,λi hi=>by have:=(s2 i hi).2;simpa[Ak,Aj] using this⟩
     obtain ⟨used',k1,k2,k3⟩:=hR.hi.write hk hnn ((β k).off) ws g' (.cells cs) (.inl rfl) (λE l=>⟨hnn,by
      have:=mB (hco.le' l) (hcs.mono l) 0 (by omega)
      rw[Qp hlen] at this;simpa using this⟩)
     have hR1:RelC C (λx=>U x∨x=g') ({A with hp:=(k,some (g',.cells cs))::A.hp}:AS).fs a (w.setCells (β k).blk (β k).off ws) S β used':=by
      have eh:({A with hp:=(k,some (g',.cells cs))::A.hp}:AS).fs= {A.fs with hp:=up A.fs.hp k (some (g',.cells cs))}:=by
       show FSt.mk _ (aW ((k,some (g',.cells cs))::A.hp))=_
       rw[sX];rfl
      rw[eh];exact ⟨k1,hR.size,hR.defers,λt=>(hR.tm t).mono k2⟩
     have eh2:({A with hp:=(k,some (g',.cells cs))::A.hp}:AS).fs.hp=up A.fs.hp k (some (g',.cells cs)):=by
      show aW ((k,some (g',.cells cs))::A.hp)=_
      rw[sX];rfl
     obtain ⟨ps,p1,p2,U',used2,p3⟩:=xL caps css vs wss _ A' _ _ S β used' (by simpa using hl) (λi hi=>by
      have:=hv (i+1) (by simpa using hi)
      simp only[List.getD_cons_succ] at this;rw[eh2];exact this.mono k2) (by rw[eh2];exact s3.mono k2) hR1 hp
     refine ⟨⟨(β k).blk,(β k).off,none⟩::ps,?_,⟨rfl,λj hj=>?_,p2⟩,U',used2,p3⟩
     ·rw[e0,p1];rfl
     ·obtain ⟨u,y1,y2,_⟩:=hco j (by omega)
      dsimp only;rw[y1];exact ⟨rfl,y2⟩
    ·cases hp
   ·cases hp
  ·cases hp
section
variable {C:Ctx}{fn:Func}{U:Nat->Prop}{A:AS}{F':FSt}{a:Act}{w:World}{S:Nat->Prop}{β:Nat->Place}{used:Nat->Nat->Prop}{rs:C7}{m:Nat}{t:Ret}{v:Value}{x:AV}
theorem acT {cs:List Frame}(hR:RelC C U A.fs a w S β used)(hv:V (aG C S β used A.fs.hp w) v x)(hend:eo A rs m x=some t)(hrs:TK P C fn rs)(fr:Frame)(h1:fr.mode= .panicking [{v:=v,recovered:=false}])(h2:fr.defers=a.defers)(h3:fr.tmps=a.tmps)(h4:fr.kind= .normal)(h5:P.funcs[fr.fn]? =some fn):
  ∃v' w' fr' S1 β1,RetC C m w' v' (unR t) S1 β1/\Steps P (lone fr cs w) (lone fr' cs w')/\fr'.fn=fr.fn/\fr'.leaving P w' (iz t.r v'):=by
 have h0:=hrs.2;have h00:=hrs.1;unfold eo at hend;split at hend
 ·rename_i sp rs'
  dsimp only at h0;split at hend
  ·rename_i f caps hd
   cases hib:isB f with
   |true=>rw[hib] at hend;cases hend
   |false=>
   rw[hib,cond_false] at hend;split at hend
   ·rename_i css hsp
    cases hpc:lc A caps css with
    |none=>rw[hpc] at hend;cases hend
    |some A'=>
     rw[hpc] at hend;have hend:eT A' rs' m=some t:=hend;have hdv:=hR.tm D0;have ed:tmv C a D0=C.dval:=Ad rfl;rw[ed,show A.fs.tm D0=bJ A.tm D0 from rfl,hd] at hdv
     obtain ⟨cv,c1,c2,c3⟩:=hdv.fn_inv;obtain ⟨wss,w1,w2⟩:=h0.pan _ v x css rfl rfl hv hsp;obtain ⟨ps,p1,p2,U',used',p3⟩:=xL caps css cv.toList wss A A' w U S β used (by simpa using c2) (λi hi=>by have:=c3 i hi;simpa[Ak,Aj] using this) w1 hR hpc
     cases hav:iP A' rs' with
     |none=>unfold eT at hend;rw[hav] at hend;cases hend
     |some av=>
      have hnp:du t.r=none:=by
       obtain ⟨v',r1,r2⟩:=lx (P:=P) p3 h00 hav;obtain ⟨S1,β1,hret⟩:=mZ p3.hi hav r2 hend;exact hret.np
      rw[xl hnp]
      have hl:=w2 a.tmps w (λe w'=> ∃v' S1 β1,e= .returned v'/\RetC C m w' v' t S1 β1) (.func (C.num (bV f))) ps (by rw[c1,<-p1];unfold fnF fnC;rw[hib];rfl) p2 λos=>by
       obtain ⟨v',r1,r2⟩:=lx (P:=P) (p3.more os) h00 hav;obtain ⟨S1,β1,hret⟩:=mZ (p3.more os).hi hav r2 hend;exact ⟨v',r1,v',S1,β1,rfl,hret⟩
      obtain ⟨e',w',fr',⟨v',S1,β1,rfl,hret⟩,hst,q1,q2⟩:=leaves_steps C.dfr _ w fr cs h1 (by rw[h2];exact hR.defers) h3 h5 h4 hl
      exact ⟨v',_,fr',S1,β1,hret,hst,q1,by rw[ry hnp];exact q2⟩
   ·cases hend
  ·cases hend
 ·rename_i hne
  have h0':C.dfr= []:=by
   split at h0
   ·rename_i sp r;exact absurd rfl (hne sp r)
   ·exact h0
  obtain ⟨t0,hto,rfl⟩:=map_some hend;obtain ⟨S1,β1,hret⟩:=qN hR.hi hv hto;exact ⟨v,w,fr,S1,β1,hret,.refl _ _,rfl,h1,by rw[h2,hR.defers,h0'],fn,h5⟩
theorem Yn (hR:RelC C U {F' with hp:=aW A.hp} a w S β used)(hv:V (aG C S β used (aW A.hp) w) v x)(hnr:nC rs=true)(hend:eo A rs m x=some t)(hrs:TK P C fn rs)(fr:Frame)(h1:fr.mode= .panicking [{v:=v,recovered:=false}])(h2:fr.defers=a.defers)(h5:P.funcs[fr.fn]? =some fn):
  ∃v' S1 β1,RetC C m w v' (unR t) S1 β1/\fr.leaving P w (iz t.r v'):=by
 have h0:=hrs.2
 have h0':C.dfr= []:=by
  split at h0
  ·cases hnr
  ·exact h0
 unfold eo at hend;split at hend
 ·cases hnr
 ·obtain ⟨t0,hto,rfl⟩:=map_some hend
  obtain ⟨S1,β1,hret⟩:=qN hR.hi hv hto;exact ⟨v,S1,β1,hret,h1,by rw[h2,hR.defers,h0'],fn,h5⟩
end
theorem uf: ∀(es r:mE)(L:Nat->Bool)(k:Nat)(F:FSt),FL (es++r) L k F=FL r L (k+es.length) (FL es L k F)
 | [],r,L,k,F=>by simp[FL]
 |(d,e)::es,r,L,k,F=>by
  simp only[B4,FL];rw[uf es r L (k+1)]
  congr 1
  simp;omega
theorem P5 (es:mE)(L L':Nat->Bool)(k:Nat)(F:FSt)(h: ∀j,j<es.length->L (k+j)=L' (k+j)):FL es L k F=FL es L' k F:=by
 induction es generalizing k F with
 |nil=>rfl
 |cons x es ih=>
  obtain ⟨d,e⟩:=x;simp only[FL];have h0:=h 0 (by simp)
  rw[Nat.add_zero] at h0;rw[h0];exact ih (k+1) _ λj hj=>by have:=h (j+1) (by simpa using hj);rwa [show k+(j+1)=k+1+j from by omega] at this
theorem qP {Q:(Cfg->Df)->Prop}{draw:Bool}: ∀{r:CO}{i:Nat}{dn:DD}{A:AS}{es:List Dg}{A':AS},nh G Q draw r i dn A es A'->A'.ctr=A.ctr
 | [],_,_,A,[],A',h=>by rw[show A'=A from h]
 |o::r,i,dn,A,none::es,A',h=>by rw[qP h.2,AS.put_ctr]
 |o::r,i,dn,A,some e::es,A',h=>by rw[qP h.2.2.2,AS.app_ctr]
 | [],_,_,_,_::_,_,h=>h.elim
 |_::_,_,_,_,[],_,h=>h.elim
theorem Nf (hG:GOk P N G)(hm:P.follows .mixedOrders=true){C:Ctx}(hn:ew N C)(ht:C.tnum=N.tnum){id:Nat}{rops:Array Oper}{aops:CO}{l:CO}(hl:fu P N C.n rops 0 rops.toList=some l)(hreg:ur 0 (cd [] l)=true)(haops:aops=kz true (cd [] l)){A:AS}{rs:C7}{m:Nat}{t:Ret}(hout:RegPanD G (gw P N) rs m t aops 0 [] A)(hctr:0<A.ctr){a:Act}{w:World}(hR:Rel C (λg=>g<A.ctr) A.fs a w):
  (Code.region id rops true).wp P (λe a' w'=> ∃v x A,∃F':FSt,∃S β used U,e= .panic [{v:=v,recovered:=false}]/\RelC C U {F' with hp:=aW A.hp} a' w' S β used/\V (aG C S β used (aW A.hp) w') v x/\nC rs=true/\eo A rs m x=some t) a w:=by
 obtain ⟨l1,l2⟩:=gq hl;have hll:l.length=rops.size:=by rw[l1];simp
 obtain ⟨init,last,rest,es,esr,A1,ep,hr0,h2,h3,⟨ih,hih,h4⟩,_,h6,⟨h7,hq,hnd⟩,h8⟩:=hout;have hnd:=p6 hnd;have hal:aops.length=rops.size:=by rw[haops,j9];exact hll
 have hp1:init.length+1+rest.length=rops.size:=by rw[<-hal,hr0];simp;omega
 obtain ⟨q1,q2,q3⟩:=nz init 0 [] A es A1 h2 rfl;have hctr1:A1.ctr=A.ctr:=qP h2;obtain ⟨r1,r2⟩:=sn rest _ A1 esr hq;have hesl:(cw init es).length=init.length:=by simp[cw,q1]
 let es':mE:=cw init es++(none,none)::esr
 have hes':es'.length=rops.size:=by show (cw init es++(none,none)::esr).length=_;simp[hesl,r1];omega
 have elo: ∀i,i<init.length->es'[i]? =(cw init es)[i]? :=λi hi=>by show (cw init es++(none,none)::esr)[i]? =_;rw[BF (by omega)]
 have emid:es'[init.length]? =some (none,none):=by show (cw init es++(none,none)::esr)[init.length]? =_;rw[BO (by omega),hesl];simp
 have ehi: ∀k,es'[init.length+1+k]? =esr[k]? :=λk=>by show (cw init es++(none,none)::esr)[init.length+1+k]? =_;rw[BO (by omega),hesl,show init.length+1+k-init.length=k+1 from by omega];simp
 have alo: ∀i,i<init.length->aops[i]? =init[i]? :=λi hi=>by rw[hr0,BF hi]
 have amid:aops[init.length]? =some last:=by rw[hr0];simp
 have ahi: ∀k,aops[init.length+1+k]? =rest[k]? :=λk=>by rw[hr0,BO (by omega),show init.length+1+k-init.length=k+1 from by omega];simp
 have hFL: ∀i,i<=init.length->FL es' (λj=>decide (j<i)) 0 A.fs=FL (cw init es) (λj=>decide (j<i)) 0 A.fs:=λi hi=>by
  show FL (cw init es++(none,none)::esr) _ _ _=_
  rw[uf];exact o0 _ _ _ _ λj hj=>by rw[hesl] at hj;simp;omega
 have hA1:FL es' (λj=>decide (j<init.length)) 0 A.fs=A1.fs:=by
  rw[hFL _ (Be _),<-q3];exact P5 _ _ _ _ _ λj hj=>by rw[hesl] at hj;simp[hj]
 have hFL2: ∀k,FL es' (λj=>decide (j<init.length+1+k)) 0 A.fs=FL esr (λj=>decide (j<init.length+1+k)) (init.length+1) A1.fs:=λk=>by
  show FL (cw init es++(none,none)::esr) _ _ _=_
  rw[uf,hesl]
  have e1:FL (cw init es) (λj=>decide (j<init.length+1+k)) 0 A.fs=A1.fs:=by
   rw[<-q3];exact P5 _ _ _ _ _ λj hj=>by rw[hesl] at hj;simp;omega
  rw[e1];simp only[FL];rw[show decide (0+init.length<init.length+1+k)=true from by simp;omega,cond_true,A7]
  rfl
 have hrelA: ∀i o ao,rops[i]? =some o->l[i]? =some ao->OpRel P N C.n rops i o ao:=λi o ao ho ha=>by
  have hrel:=l2 i o ao (by simpa using ho) ha
  rwa [A7] at hrel
 have hat: ∀(i:Nat)(o':AOper),aops[i]? =some o'-> ∃y:AOper,l[i]? =some y/\o'.op=y.op/\o'.dst=y.dst/\o'.guard=y.guard:=λi o' h1=>by
  rw[haops] at h1;obtain ⟨y,y1,y2,y3,y4,_⟩:=ui h1;exact ⟨y,y1,y2,y3,y4⟩
 have hcloA: ∀(j:Nat)(oj:AOper),aops[j]? =some oj-> ∀k∈oj.after,k∈ ((cd [] l).map (·.after)).getD j []:=λj oj hj k hk=>by
  rw[haops] at hj;obtain ⟨zj,zj1,zj2,zj3,zj4,zj5⟩:=l7 hj;rw[Aj,Cf,zj1];exact zj5 k hk
 have hord: ∀(i j:Nat)(oi oj:AOper),i<j->aops[i]? =some oi->aops[j]? =some oj->i∈ ((cd [] l).map (·.after)).getD j []∨iB oi oj:=λi j oi oj hij hi hj=>by
  rw[haops] at hi hj;obtain ⟨zi,zi1,zi2,zi3,zi4,_⟩:=l7 hi;obtain ⟨zj,zj1,zj2,zj3,zj4,_⟩:=l7 hj;rcases qQ hreg i j zi zj hij zi1 zj1 with z|z
  ·rw[A7] at z
   left;rw[Aj,Cf,zj1];exact z
  ·right
   have l1:looks oi=looks zi:=by unfold looks;rw[zi2,zi4]
   have l2:looks oj=looks zj:=by unfold looks;rw[zj2,zj4]
   unfold iB at z⊢;rw[l1,l2,zi3,zj3];exact z
 have hsame: ∀(i:Nat)(o' ao:AOper),aops[i]? =some o'->l[i]? =some ao->looks o'=looks ao/\o'.dst=ao.dst:=λi o' ao h1 h2=>by
  obtain ⟨y,y1,y2,y3,y4⟩:=hat i o' h1;obtain rfl:y=ao:=by rw[h2] at y1;exact (Ai y1).symm
  exact ⟨by unfold looks;rw[y2,y4],y3⟩
 have hapT: ∀(oi oj ai aj:AOper),looks oi=looks ai->oi.dst=ai.dst->looks oj=looks aj->oj.dst=aj.dst->iB oi oj->iB ai aj:=λoi oj ai aj e1 e2 e3 e4 h=>by
  unfold iB at h⊢;rw[<-e1,<-e2,<-e3,<-e4];exact h
 have getA: ∀i,i<rops.size-> ∃o',aops[i]? =some o':=λi hi=>⟨aops[i]'(by omega),by rw[AK]⟩
 let W:Nat->Bool:=λj=>decide (init.length<j)&&match es'[j]? with
  |some (none,none)=>true
  |_=>false
 have hWspec: ∀j,W j=true->init.length<j/\es'[j]? =some (none,none):=λj hj=>by
  have hj:(decide (init.length<j)&&match es'[j]? with
   |some (none,none)=>true
   |_=>false)=true:=hj
  simp only[Av,AO] at hj;refine ⟨hj.1,?_⟩;have:=hj.2;split at this
  ·assumption
  ·cases this
 have quiet: ∀j xj,init.length<j->W j=false->es'[j]? =some xj-> ∃oj e,aops[j]? =some oj/\xj=(oj.dst,some e)/\e.rd= []/\(∀k∈dm xj.2,k∈wkR esr)/\ ∃A',A'.fs=FL es' (λq=>decide (q<j)) 0 A.fs/\bN A'.tm oj.guard=some true/\ig G (λ_=>none) oj (A.ctr+j) A'=some e:=λj xj hj hW hx=>by
  obtain ⟨k,rfl⟩: ∃k,j=init.length+1+k:=⟨j-init.length-1,by omega⟩
  have hx':=hx;rw[ehi] at hx'
  have hk:k<rest.length:=by
   rcases A4 k rest.length with q|q
   ·exact q
   ·rw[AD (by omega)] at hx';cases hx'
  obtain ⟨x,hxr⟩: ∃x,rest[k]? =some x:=⟨rest[k],AK hk⟩
  rcases r2 k x xj hxr hx' with ⟨_,rfl⟩|⟨e,e1,e2,A',e3,e4,e5⟩
  ·exfalso
   have:W (init.length+1+k)=true:=by
    show (decide (init.length<init.length+1+k)&&match es'[init.length+1+k]? with
     |some (none,none)=>true
     |_=>false)=true
    rw[hx];simp;omega
   rw[hW] at this;cases this
  ·exact ⟨x,e,by rw[ahi];exact hxr,e1,e2,λq hq=>ze hx' hq,A',by rw[hFL2,e3,A7],e4,by rw[A7] at e5;exact e5⟩
 have hone: ∀i o ao x,i≠init.length->W i=false->rops[i]? =some o->l[i]? =some ao->es'[i]? =some x->x.1=ao.dst/\OneOk P C N rops A.ctr i o ao x.2 (FL es' (λj=>decide (j<i)) 0 A.fs):=by
  intro i o ao x hi hW ho ha hx;rcases A4 i init.length with hlt|hge
  ·have hx':(cw init es)[i]? =some x:=by rw[<-elo i hlt];exact hx
   obtain ⟨o',e,h1,h2',rfl⟩:=mQ hx';obtain ⟨y,y1,y2,y3,y4⟩:=hat i o' (by rw[alo i hlt];exact h1)
   obtain rfl:y=ao:=by rw[ha] at y1;exact (Ai y1).symm
   have h:=q2 i o' e h1 h2';simp only[A7] at h;rw[hFL i (by omega)]
   refine ⟨y3,hrelA i o y ho ha,λhe=>?_,λx hx2=>?_⟩
   ·rw[<-y4];exact h.none_ he
   ·obtain ⟨z1,ih,A2,z2,z3,z4⟩:=h.some_ x hx2
    refine ⟨by rw[<-y4];exact z1,?_⟩
    rw[<-z3];exact my hG (hrelA i o y ho ha) y2 y3 hn ht (by omega) z2 z4
  ·obtain ⟨oj,e,g1,rfl,g2,_,A',g3,g4,g5⟩:=quiet i x (by omega) hW hx
   obtain ⟨y,y1,y2,y3,y4⟩:=hat i oj g1;obtain rfl:y=ao:=by rw[ha] at y1;exact (Ai y1).symm
   refine ⟨y3,hrelA i o y ho ha,λhe=>(by cases he),λx hx2=>?_⟩
   obtain rfl:=Ai hx2;refine ⟨by rw[<-y4,<-g3,fg];exact g4,?_⟩
   rw[<-g3];exact my hG (hrelA i o y ho ha) y2 y3 hn ht (by omega) (λc t h _=>by cases h) g5
 have hclo: ∀i ao,l[i]? =some ao-> ∀j∈ ((cd [] l).map (·.after)).getD i [],j∈ao.after∨ ∃k∈ao.after,j∈ ((cd [] l).map (·.after)).getD k []:=by
  intro i ao hi j hj;rw[Aj,Cf] at hj;cases hx:(cd [] l)[i]? with
  |none=>rw[hx] at hj;simp at hj
  |some x=>
   rw[hx] at hj;obtain ⟨y,y1,_,_,_,_,y2⟩:=mA l [] i x hx;obtain rfl:y=ao:=by rw[hi] at y1;exact (Ai y1).symm
   have:=y2 j hj;simpa using this
 have hDr:aW (bU (wkR esr)++A1.hp)=dC A1.fs.hp (wkR esr):=by rw[fU,je];rfl
 refine wp_region_any hm (adS (c0:=A.ctr) (F0:=A.fs) (e:=ep) (K:=wkR esr) (p:=init.length) (λi=>((cd [] l).map (·.after)).getD i []) hclo hll hes' (by omega) W (λj hj=>?_) emid hrelA hone (λo ao ho ha=>?_) ?_
  (λa' w' v S β used U F' hR' hv'=>⟨v,ep.res,{A1 with hp:=ep.wr++(bU (wkR esr)++A1.hp)},F',S,β,used,U,rfl,by rw[hA1] at hR';dsimp only;rw[fU,hDr];exact hR',by rw[hA1] at hv';dsimp only;rw[fU,hDr];exact hv',h7,h8⟩) rops.size (Array.replicate rops.size false) a _ (by simp) ?_ ?_ ?_ ?_)
 ·obtain ⟨hj1,hj2⟩:=hWspec j hj
  refine ⟨hj2,?_⟩;obtain ⟨k,rfl⟩: ∃k,j=init.length+1+k:=⟨j-init.length-1,by omega⟩
  rw[ehi] at hj2
  have hk:k<rest.length:=by
   rcases A4 k rest.length with q|q
   ·exact q
   ·rw[AD (by omega)] at hj2;cases hj2
  obtain ⟨x,hxr⟩: ∃x,rest[k]? =some x:=⟨rest[k],AK hk⟩
  rcases r2 k x _ hxr hj2 with ⟨hw|⟨t,ht1,ht2⟩,_⟩|⟨e,e1,_⟩
  ·exact hcloA _ x (by rw[ahi];exact hxr) _ (by simpa using hw)
  ·rcases hord init.length (init.length+1+k) last x (by omega) amid (by rw[ahi];exact hxr) with z|z
   ·exact z
   ·exact absurd ht2 (z.1 t ht1).1
  ·exact absurd (congrArg Prod.snd e1) (by simp)
 ·obtain ⟨y,y1,y2,y3,y4⟩:=hat _ _ amid
  obtain rfl:y=ao:=by rw[ha] at y1;exact (Ai y1).symm
  obtain ⟨s1,s2⟩:=hsame _ _ _ amid ha;rw[hA1];refine ⟨by rw[<-y4,fg];exact h3,λj aj xj hj hWj haj hxj=>?_,λF' f1 f2=>?_⟩
  ·have hjs:j<rops.size:=by
    rcases A4 j es'.length with q|q
    ·omega
    ·rw[AD q] at hxj;cases hxj
   obtain ⟨oj,hoj⟩:=getA j hjs;obtain ⟨t1,t2⟩:=hsame j oj aj hoj haj;rcases A4 j init.length with hlt|hge
   ·have hxj':(cw init es)[j]? =some xj:=by rw[<-elo j hlt];exact hxj
    obtain ⟨o',e',g1,g2,rfl⟩:=mQ hxj';obtain rfl:o'=oj:=by rw[alo j hlt,g1] at hoj;exact Ai hoj
    rcases hord j init.length o' last hlt hoj amid with z|z
    ·exact .inl ⟨hlt,z⟩
    ·have hap: ∀t,o'.dst=some t->t∉looks y:=λt ht=>by rw[<-s1];exact (z.1 t ht).1
     cases e' with
     |none=>exact .inr (.inr ⟨hap,by simp[dm]⟩)
     |some e'=>
          rcases (h6 j e' g2).1 with q|⟨_,q⟩
          ·rw[A7] at q
           exact .inl ⟨hlt,hcloA _ last amid _ (by simpa using q)⟩
          ·exact .inr (.inr ⟨hap,by simp[dm,q]⟩)
   ·obtain ⟨oj',e,g1,rfl,g2,g6,_⟩:=quiet j xj (by omega) hWj hxj
    obtain rfl:oj'=oj:=by rw[hoj] at g1;exact (Ai g1).symm
    rcases hord init.length j last oj' (by omega) amid hoj with z|z
    ·exact .inr (.inl ⟨by omega,z⟩)
    ·exact .inr (.inr ⟨λt ht=>by rw[<-s1];exact z.2 t ht,g6⟩)
  ·have h4':iR G ih last (A.ctr+init.length) {A1 with hp:=bU (wkR esr)++A1.hp}=some ep:=by rw[A7] at h4;exact h4
   exact Cy hG (hrelA _ o y ho ha) y2 y3 hn ht (by omega) hih h4' F' f1 (f2.trans hDr.symm)
 ·intro i j ai aj xi xj hij hip hjp hWi hWj hi hj hxi hxj
  have hjs:j<rops.size:=by
   rcases A4 j es'.length with q|q
   ·omega
   ·rw[AD q] at hxj;cases hxj
  obtain ⟨oi,hoi⟩:=getA i (by omega)
  obtain ⟨oj,hoj⟩:=getA j hjs;obtain ⟨s1,s2⟩:=hsame i oi ai hoi hi;obtain ⟨t1,t2⟩:=hsame j oj aj hoj hj;rcases hord i j oi oj hij hoi hoj with z|z
  ·exact .inl z
  have hap:=hapT oi oj ai aj s1 s2 t1 t2 z;rcases A4 j init.length with hlt|hge
  ·have hxi':(cw init es)[i]? =some xi:=by rw[<-elo i (by omega)];exact hxi
   have hxj':(cw init es)[j]? =some xj:=by rw[<-elo j hlt];exact hxj
   obtain ⟨oi',ei,y1,y2,rfl⟩:=mQ hxi';obtain ⟨oj',ej,y3,y4,rfl⟩:=mQ hxj';obtain rfl:oj'=oj:=by rw[alo j hlt,y3] at hoj;exact Ai hoj
   rcases (mG init 0 [] A es A1 h2).2 i j oj' ei ej hij y3 y2 y4 with z2|z2
   ·rw[A7] at z2;exact .inl (hcloA _ oj' hoj _ z2)
   ·exact .inr ⟨hap,z2⟩
  ·obtain ⟨oj',e,g1,rfl,g2,g6,_⟩:=quiet j xj (by omega) hWj hxj
   refine .inr ⟨hap,?_⟩;rcases A4 i init.length with hli|hgi
   ·have hxi':(cw init es)[i]? =some xi:=by rw[<-elo i hli];exact hxi
    obtain ⟨oi',ei,y1,y2,rfl⟩:=mQ hxi';cases ei with
    |none=>exact λk=>⟨λh=>by simp[dm] at h,λ_=>.inl (by simp[rdO])⟩
    |some ei=>
     obtain ⟨_,m1,m2⟩:=h6 i ei y2;refine λk=>⟨λh=>⟨by simp[rdO,g2],λh'=>ph m2 k (g6 k h') h⟩,λh=>.inl (ph m1 k (g6 k h))⟩
   ·obtain ⟨oi',e',k1,rfl,k2,k6,_⟩:=quiet i xi (by omega) hWi hxi
    obtain ⟨a1,rfl⟩: ∃a1,i=init.length+1+a1:=⟨i-init.length-1,by omega⟩
    obtain ⟨a2,rfl⟩: ∃a2,j=init.length+1+a2:=⟨j-init.length-1,by omega⟩
    rw[ehi] at hxi hxj;refine λk=>⟨λh=>⟨by simp[rdO,g2],BW hnd (by omega) hxi hxj h⟩,λ_=>.inl (by simp[rdO,k2])⟩
 ·exact AN List.countP_le_length (by simp)
 ·intro i h
  simp only[Ak] at h;rw[Array.getElem?_replicate] at h;split at h<;>simp at h
 ·simp only[Ak]
  rw[Array.getElem?_replicate];split<;>rfl
 ·have hf: ∀i,(Array.replicate rops.size false).getD i false=false:=λi=>by
   simp only[Ak];rw[Array.getElem?_replicate];split<;>rfl
  rw[o0 _ _ _ _ (λj _=>hf j)]
  exact hR.drew.wide λx hx=>.inl hx
def Ext (P:Program)(N:Nums)(G:Nat->Fun)(c:Cfg)(t:Ret):Prop:=
 match c.todo with
 | .inReg rest i dn true::k=>(∃es A',nh G (gw P N) true rest i dn c.A es A'/\A'.ctr=c.A.ctr/\rC P N ⟨k,{A' with ctr:=c.A.ctr+(i+rest.length)},c.rs,c.m⟩ t)∨RegPanD G (gw P N) c.rs c.m t rest i dn c.A
 | .inReg rest i _ false::k=>(∃A',RegSeq G (gw P N) rest i c.A A'/\A'.ctr=c.A.ctr/\rC P N ⟨k,{A' with ctr:=c.A.ctr+(i+rest.length)},c.rs,c.m⟩ t)∨RegPan G (gw P N) c.rs c.m t rest i c.A
 |_=>rC P N c t
theorem cI {c:Cfg}{t:Ret}(h:Ext P N G c t):rC P N c t:=by
 obtain ⟨todo,A,rs,m⟩:=c;cases todo with
 |nil=>exact h
 |cons it k=>
  cases it with
  |inReg rest i dn draw=>
   intro C todo' a w b cs fn hit;cases todo' with
   |nil=>exact hit.elim
   |cons x r=>
    obtain ⟨hi,_⟩:=hit;cases x<;>simp[mJ] at hi
  |_=>exact h
theorem Ov {c:Cfg}{t:Ret}(hr:ow c.todo=true)(h:rC P N c t):Ext P N G c t:=by
 obtain ⟨todo,A,rs,m⟩:=c;cases todo with
 |nil=>exact h
 |cons it k=>
  cases it with
  |inReg rest i dn draw=>cases hr
  |_=>exact h
section
variable (hG:GOk P N G)(hm:P.follows .mixedOrders=true)
include hG hm
theorem Wx {cfg:Cfg}{t:Ret}(hev:Ev G cfg t):Ext P N G cfg t:=by
 induction hev with
 |weakR hw _ IH=>
  rcases IH with ⟨A',h2,h3,h4⟩|hp
  ·dsimp only at h2 h3 h4
   rw[hw.1] at h3 h4;exact .inl ⟨A',h2.pre hw,h3,h4⟩
  ·exact .inr (RegPan.pre hw hp)
 | @panS o rest i dn k A rs m t e ih hih hw he ht IHc=>
  exact .inr ⟨A,Wk0.refl A,.inr (.inr ⟨A,e,Wk0.refl A,hw,⟨ih,λc t h hr=>cI (IHc c t h),he⟩,ht⟩)⟩
 | @opS o rest i dn k A rs m t e ih hih hw he _ IHc IH=>
  rcases IH with ⟨A',h2,h3,h4⟩|hp
  ·dsimp only at h2 h3 h4
   rw[AS.app_ctr] at h3 h4;exact .inl ⟨A',⟨A,Wk0.refl A,.inr ⟨A,e,Wk0.refl A,hw,⟨ih,λc t h hr=>cI (IHc c t h),he⟩,h2⟩⟩,h3,by rw[show i+(o::rest).length=i+1+rest.length from by simp;omega];exact h4⟩
  ·have hp:RegPan G (gw P N) rs m t rest (i+1) (A.app o.dst e):=hp
   exact .inr ⟨A,Wk0.refl A,.inr (.inl ⟨A,e,Wk0.refl A,hw,⟨ih,λc t h hr=>cI (IHc c t h),he⟩,hp⟩)⟩
 | @opD o rest i dn k A rs m t e ih hih hw he hok _ IHc IH=>
  rcases IH with ⟨es,A',h2,h3,h4⟩|hp
  ·dsimp only at h2 h3 h4
   rw[AS.app_ctr] at h3 h4;exact .inl ⟨some e::es,A',⟨hw,⟨ih,λc t h hr=>cI (IHc c t h),he⟩,λ_=>hok,h2⟩,h3,by rw[show i+(o::rest).length=i+1+rest.length from by simp;omega];exact h4⟩
  ·exact .inr (RegPanD.cons hw ⟨ih,λc t h hr=>cI (IHc c t h),he⟩ hok hp)
 | @panM o rest i dn k A rs m t e ih esr hih hw he hd hr hq hn ht IHc=>
  exact .inr ⟨[],o,rest,[],esr,A,e,rfl,rfl,hw,⟨ih,λc t h hr=>cI (IHc c t h),by simpa using he⟩,hd,λj e' h=>by simp at h,⟨hr,by simpa using hq,hn⟩,ht⟩
 |weak hr hc hw _ IH=>
  refine Ov hr λC todo a w b cs fn hit hn ht hctr hR hfn hrs hkind=>?_
  exact cI IH C todo a w b cs fn hit hn ht (B7 hctr hc) (hw C a w hctr hR) hfn hrs hkind
 | @step cfg t ih hih hrun IH=>
  have good:gw P N ih:=λc t h hr=>cI (IH c t h)
  obtain ⟨ctodo,A,rs,mm⟩:=cfg;cases hrg:ow ctodo with
  |false=>
   cases ctodo with
   |nil=>cases hrg
   |cons it k=>
    cases it with
    |inReg rest i dn draw=>
     cases rest with
     |nil=>
      have h1:=cI (IH _ _ hrun);cases draw with
      |true=>exact .inl ⟨[],A,rfl,rfl,h1⟩
      |false=>exact .inl ⟨A,Wk0.refl A,rfl,h1⟩
     |cons o rest=>
      simp only[jg] at hrun;have hlen:i+(o::rest).length=i+1+rest.length:=by simp;omega
      cases hw:bN A.tm o.guard with
      |none=>rw[hw] at hrun;cases hrun
      |some b=>
       rw[hw] at hrun;cases b with
       |false=>
                dsimp only at hrun;cases draw with
                |true=>
                 rcases IH _ _ hrun with ⟨es,A',h2,h3,h4⟩|hp
                 ·dsimp only at h2 h3 h4
                  rw[AS.put_ctr] at h3 h4;exact .inl ⟨none::es,A',⟨hw,h2⟩,h3,by rw[hlen];exact h4⟩
                 ·exact .inr (RegPanD.skip hw hp)
                |false=>
                 rcases IH _ _ hrun with ⟨A',h2,h3,h4⟩|hp
                 ·dsimp only at h2 h3 h4
                  rw[AS.put_ctr] at h3 h4;exact .inl ⟨A',⟨A,Wk0.refl A,.inl ⟨hw,h2⟩⟩,h3,by rw[hlen];exact h4⟩
                 ·exact .inr ⟨A,Wk0.refl A,.inl ⟨hw,hp⟩⟩
       |true=>
                dsimp only at hrun;cases he:ig G ih o (A.ctr+i) A with
                |none=>
                 rw[he] at hrun;cases draw with
                 |true=>
                  cases hq:(rest.isEmpty&&(abR o.after dn&&nC rs)) with
                  |false=>rw[hq] at hrun;cases hrun
                  |true=>
                   rw[hq] at hrun;simp only[Bool.not_true,Bool.and_false,cond_false] at hrun;split at hrun
                   ·cases hrun
                   ·rename_i e1 he1
                    simp only[Av] at hq;obtain ⟨q1,q2,q3⟩:=hq;obtain rfl:rest= []:=List.isEmpty_iff.1 q1;exact .inr ⟨[],o,[],[],[],A,e1,rfl,rfl,hw,⟨ih,good,by simpa[wkR,bU] using he1⟩,λx hx=>⟨List.all_eq_true.1 q2 x hx,rfl,rfl⟩,λj e' h=>by simp at h,⟨q3,trivial,rfl⟩,hrun⟩
                 |false=>
                  simp only[BS,cond_false] at hrun;split at hrun
                  ·cases hrun
                  ·rename_i e1 he1
                   exact .inr ⟨A,Wk0.refl A,.inr (.inr ⟨A,e1,Wk0.refl A,hw,⟨ih,good,he1⟩,hrun⟩)⟩
                |some e=>
                 rw[he] at hrun;dsimp only at hrun;cases draw with
                 |true=>
                  dsimp only[cond] at hrun;cases hok:jI o.after e dn with
                  |false=>rw[hok] at hrun;cases hrun
                  |true=>
                   rw[hok] at hrun;dsimp only at hrun;rcases IH _ _ hrun with ⟨es,A',h2,h3,h4⟩|hp
                   ·dsimp only at h2 h3 h4
                    rw[AS.app_ctr] at h3 h4;exact .inl ⟨some e::es,A',⟨hw,⟨ih,good,he⟩,λ_=>OkS.of hok,h2⟩,h3,by rw[hlen];exact h4⟩
                   ·exact .inr (RegPanD.cons hw ⟨ih,good,he⟩ (OkS.of hok) hp)
                 |false=>
                  dsimp only[cond] at hrun;split at hrun
                  ·rcases IH _ _ hrun with ⟨A',h2,h3,h4⟩|hp
                   ·dsimp only at h2 h3 h4
                    rw[AS.app_ctr] at h3 h4;exact .inl ⟨A',⟨A,Wk0.refl A,.inr ⟨A,e,Wk0.refl A,hw,⟨ih,good,he⟩,h2⟩⟩,h3,by rw[hlen];exact h4⟩
                   ·exact .inr ⟨A,Wk0.refl A,.inr (.inl ⟨A,e,Wk0.refl A,hw,⟨ih,good,he⟩,hp⟩)⟩
                  ·split at hrun
                   ·cases hrun
                   ·rename_i e1 he1
                    rcases IH _ _ hrun with ⟨A',h2,h3,h4⟩|hp
                    ·dsimp only at h2 h3 h4
                     rw[AS.app_ctr] at h3 h4;exact .inl ⟨A',⟨A,Wk0.refl A,.inr ⟨A.frz (wl (aW A.hp) e.wr),e1,⟨rfl,λC U a w r=>r.frz _⟩,hw,⟨ih,good,he1⟩,h2⟩⟩,h3,by rw[hlen];exact h4⟩
                    ·exact .inr ⟨A,Wk0.refl A,.inr (.inl ⟨A.frz (wl (aW A.hp) e.wr),e1,⟨rfl,λC U a w r=>r.frz _⟩,hw,⟨ih,good,he1⟩,hp⟩)⟩
    |_=>cases hrg
  |true=>
   refine Ov hrg ?_;intro C todo a w b cs fn hit hn ht hctr hR hfn hrs hkind
   have next: ∀(todo':List Item)(ctodo':Dd)(A':AS)(a':Act)(w':World),rC P N {todo:=ctodo',A:=A',rs:=rs,m:=mm} t->ud P N C.n todo' ctodo'->0<A'.ctr->Rel C (λg=>g<A'.ctr) A'.fs a' w'->
     Steps P (lone (b.at a todo) cs w) (lone (b.at a' todo') cs w')->
     ∃v w' fr S1 β1,RetC C mm w' v (unR t) S1 β1/\Steps P (lone (b.at a todo) cs w) (lone fr cs w')/\fr.fn=b.fn/\fr.leaving P w' (iz t.r v):=by
    intro todo' ctodo' A' a' w' hr hit' hctr' hR' hst;obtain ⟨v,w2,fr,S1,β1,k1,k2,k3,k4⟩:=hr C todo' a' w' b cs fn hit' hn ht hctr' hR' hfn hrs hkind;exact ⟨v,w2,fr,S1,β1,k1,hst.trans k2,k3,k4⟩
   have ending: ∀(fr:Frame),fr.mode= .returning->fr.defers=a.defers->fr.tmps=a.tmps->fr.kind=b.kind->fr.fn=b.fn->step P (lone (b.at a todo) cs w)= .next (lone fr cs w)->eT A (eZ rs) mm=some t->
     ∃v w' fr S1 β1,RetC C mm w' v (unR t) S1 β1/\Steps P (lone (b.at a todo) cs w) (lone fr cs w')/\fr.fn=b.fn/\fr.leaving P w' (iz t.r v):=by
    intro fr h1 h2 h3 h4 h5 h6 hro;obtain ⟨S,β,used,hRC⟩:=hR;cases hav:iP A (eZ rs) with
    |none=>unfold eT at hro;rw[hav] at hro;cases hro
    |some av=>
     have hnp:du t.r=none:=by
      obtain ⟨v,r1,r2⟩:=lx (P:=P) hRC hrs.1 hav;obtain ⟨S1,β1,hret⟩:=mZ hRC.hi hav r2 hro;exact hret.np
     rw[xl hnp]
     have hl:Leaves P fn a.tmps (λe w'=> ∃v S1 β1,e= .returned v/\RetC C mm w' v t S1 β1) C.dfr .returning w:=by
      have h0:=hrs.2;split at h0
      ·exact h0.ret _ _ _ λos=>by
                obtain ⟨v,r1,r2⟩:=lx (P:=P) (hRC.more os) hrs.1 hav;obtain ⟨S1,β1,hret⟩:=mZ (hRC.more os).hi hav r2 hro;exact ⟨v,r1,v,S1,β1,rfl,hret⟩
      ·rw[h0]
       obtain ⟨v,r1,r2⟩:=lx (P:=P) hRC hrs.1 hav;obtain ⟨S1,β1,hret⟩:=mZ hRC.hi hav r2 hro;exact ⟨v,r1,v,S1,β1,rfl,hret⟩
     obtain ⟨e',w',fr',⟨v,S1,β1,rfl,hret⟩,hst,q1,q2⟩:=leaves_steps C.dfr .returning w fr cs h1 (by rw[h2];exact hRC.defers) h3 (by rw[h5];exact hfn) (by rw[h4];exact hkind) hl
     exact ⟨v,w',fr',S1,β1,hret,.head h6 hst,q1.trans h5,by rw[ry hnp];exact q2⟩
   cases ctodo with
   |nil=>
    cases todo with
    |cons=>exact hit.elim
    |nil=>exact ending {b.at a [] with mode:=.returning} rfl rfl rfl rfl rfl step_end hrun
   |cons it ak=>
    cases todo with
    |nil=>exact hit.elim
    |cons i k=>
     obtain ⟨hi,hk⟩:=hit;cases it with
     |inReg=>cases i<;>simp[mJ] at hi
     |inScope=>
      cases i<;>simp only[mJ] at hi
      exact next k ak A a w (cI (IH _ _ hrun)) hk hctr hR (.one D7)
     |inBlock id=>
      cases i<;>simp only[mJ] at hi
      exact next k ak A a w (cI (IH _ _ hrun)) hk hctr hR (.one step_inBlock)
     |inLoop c=>
      simp only[jg] at hrun;cases i<;>simp only[mJ] at hi
      ·obtain ⟨c',rfl,hc⟩:=hi
       refine next (.code c':: .inLoop c'::k) (.code c:: .inLoop c::ak) A.nub a w (cI (IH _ _ hrun)) ⟨hc,hc,hk⟩ hctr ?_ (.one step_loop)
       rw[AS.nub_fs];exact hR
      ·rename_i c'
       refine next (.code c':: .inLoop c'::k) (.code c:: .inLoop c::ak) A.nub a w (cI (IH _ _ hrun)) ⟨hi,hi,hk⟩ hctr ?_ (.one step_inLoop)
       rw[AS.nub_fs];exact hR
     |code ac=>
      cases i<;>simp only[mJ] at hi
      rename_i c;cases c with
      |skip=>
       obtain rfl:ACode.skip=ac:=by simpa[ce] using hi
       exact next k ak A a w (cI (IH _ _ hrun)) hk hctr hR (.one step_skip)
      |label lb=>
       obtain rfl:ACode.skip=ac:=by simpa[ce] using hi
       exact next k ak A a w (cI (IH _ _ hrun)) hk hctr hR (.one step_label)
      |ret=>
       obtain rfl:ACode.ret=ac:=by simpa[ce] using hi
       exact ending {b.at a (.code .ret::k) with mode:=.returning} rfl rfl rfl rfl rfl step_ret hrun
      |seq x y=>
       simp only[ce] at hi;split at hi
       ·rename_i x' y' h1 h2
        obtain rfl:=Ai hi;exact next (.code x:: .code y::k) (.code x':: .code y'::ak) A a w (cI (IH _ _ hrun)) ⟨h1,h2,hk⟩ hctr hR (.one step_seq)
       ·cases hi
      |cond x y z=>
       simp only[ce] at hi;split at hi
       ·rename_i x' y' z' h0 h1 h2
        obtain rfl:=Ai hi;simp only[jg] at hrun;split at hrun
        ·rename_i tt hev
         obtain ⟨S,β,used,hRC⟩:=hR;have hv:=t6 hRC hn x x' h0;rw[yE,hev] at hv;have hstep:=step_cond (P:=P) (b:=b) (a:=a) (k:=k) (cs:=cs) (w:=w) (c:=x) (x:=y) (y:=z) hv.bool_inv;refine next (.code (if tt=true then y else z)::k) (.code (bif tt then y' else z')::ak) A a w (cI (IH _ _ hrun)) ⟨?_,hk⟩ hctr ⟨S,β,used,hRC⟩ (.one hstep)
         cases tt
         ·exact h2
         ·exact h1
        ·cases hrun
       ·cases hi
      |block id x=>
       simp only[ce] at hi;obtain ⟨x',h1,rfl⟩:=map_some hi;exact next (.code x:: .inBlock id::k) (.code x':: .inBlock id::ak) A a w (cI (IH _ _ hrun)) ⟨h1,rfl,hk⟩ hctr hR (.one step_block)
      |loop x=>
       simp only[ce] at hi;obtain ⟨x',h1,rfl⟩:=map_some hi;exact next (.code (.loop x)::k) (.inLoop x'::ak) A a w (cI (IH _ _ hrun)) ⟨⟨x,rfl,h1⟩,hk⟩ hctr hR (.refl _ _)
      |scope x=>
       simp only[ce] at hi;obtain ⟨x',h1,rfl⟩:=map_some hi;exact next (.code x:: .inScope x::k) (.code x':: .inScope::ak) A a w (cI (IH _ _ hrun)) ⟨h1,trivial,hk⟩ hctr hR (.one Mz)
      |exit id=>
       obtain rfl:ACode.exit id=ac:=by simpa[ce] using hi
       simp only[jg] at hrun;split at hrun
       ·rename_i k' hex
        obtain ⟨k2,e1,e2⟩:=Br hk hex;exact next k2 k' A a w (cI (IH _ _ hrun)) e2 hctr hR (.one (step_exit e1))
       ·cases hrun
      |region id rops draw=>
       simp only[ce] at hi;cases hl:fu P N C.n rops 0 rops.toList with
       |none=>rw[hl] at hi;cases hi
       | some l =>
                rw[hl] at hi;dsimp only at hi;split at hi
                ·rename_i hreg
                 obtain rfl:=Ai hi;simp only[jg] at hrun;have hc0:0<A.ctr:=hctr;have hsz:(kz draw (cd [] l)).length=rops.size:=by rw[j9,(gq hl).1];simp
                 have hpan:RegPan G (gw P N) rs mm t (kz draw (cd [] l)) 0 A->draw=false->
                   ∃v w' fr S1 β1,RetC C mm w' v (unR t) S1 β1/\Steps P (lone (b.at a (.code (.region id rops draw)::k)) cs w) (lone fr cs w')/\fr.fn=b.fn/\fr.leaving P w' (iz t.r v):=by
                  rintro hp rfl
                  obtain ⟨e,a',w',⟨v,x,A1,S,β,used,U,rfl,hR1,hv1,hend⟩,harr⟩:=QP (C:=C) hG hn ht (id:=id) hl rfl hp hctr hR b k cs;obtain ⟨todo1,hst⟩:=harr;obtain ⟨v',w'',fr',S1,β1,k1,k2,k3,k4⟩:=acT (cs:=cs) hR1 hv1 hend hrs {b.at a' todo1 with mode:=.panicking [{v:=v,recovered:=false}]} rfl rfl rfl hkind hfn
                  exact ⟨v',w'',fr',S1,β1,k1,hst.trans k2,k3,k4⟩
                 have key:(∃v w' fr S1 β1,RetC C mm w' v (unR t) S1 β1/\Steps P (lone (b.at a (.code (.region id rops draw)::k)) cs w) (lone fr cs w')/\fr.fn=b.fn/\fr.leaving P w' (iz t.r v))∨ ∃(A':AS),rC P N {todo:=ak,A:=({tm:=A'.tm,hp:=A'.hp,ctr:=A.ctr+(0+(kz draw (cd [] l)).length)}:AS),rs:=rs,m:=mm} t/\
                   (Code.region id rops draw).wp P (λe a' w'=>e= .normal/\Rel C (fq A.ctr λj=>decide (j<rops.size)) A'.fs a' w') a w:=by
                  cases draw with
                  |true=>
                   rcases IH _ _ hrun with ⟨es,A',x2,x3,x4⟩|hp
                   rotate_left
                   ·left
                    obtain ⟨e,a',w',⟨v,x,A1,F',S,β,used,U,rfl,hR1,hv1,hnr,hend⟩,harr⟩:=Nf hG hm hn ht (id:=id) hl (hreg rfl) rfl hp hctr hR b k cs;obtain ⟨todo1,hst⟩:=harr;obtain ⟨v',S1,β1,k1,k4⟩:=Yn hR1 hv1 hnr hend hrs {b.at a' todo1 with mode:=.panicking [{v:=v,recovered:=false}]} rfl rfl hfn
                    exact ⟨v',w',_,S1,β1,k1,hst,rfl,k4⟩
                   exact .inr ⟨A',x4,Eo hG hm hn ht (id:=id) hl (hreg rfl) rfl x2 hctr hR⟩
                  |false=>
                   rcases IH _ _ hrun with ⟨A',x2,x3,x4⟩|hp
                   ·exact .inr ⟨A',x4,En hG hn ht (id:=id) hl rfl x2 hctr hR⟩
                   ·exact .inl (hpan hp rfl)
                 rcases key with key|⟨A',x4,hwp⟩
                 ·exact key
                 obtain ⟨e,a',w',⟨rfl,hR'⟩,harr⟩:=hwp b k cs;refine next k ak _ a' w' x4 hk (B7 hc0 (Nat.le_add_right _ _)) ?_ harr
                 refine hR'.wide λg hg=>?_
                 dsimp only;rcases hg with hg|⟨j,hj,rfl⟩
                 ·omega
                 ·have:j<rops.size:=by simpa using hj
                  omega
                ·cases hi
      |_=>simp[ce] at hi
theorem iy {f:Nat}{args:CL}{bs:Dn}{t:Ret}(h:ab G f args bs t):fM P N f args bs t:=by
 unfold ab at h;cases hf:G f with
 |none=>rw[hf] at h;exact h.elim
 |code F=>
  rw[hf] at h;obtain ⟨h1,h2⟩:=h;exact Az hG hf h1 (cI (Wx hG hm h2))
 |prim raw p=>
  rw[hf] at h;have:=hG f;rw[hf] at this;exact this.2 _ _ _ h
end
end
section
variable {G:Nat->Fun}
open Classical in
end
section
variable {G:Nat->Fun}
theorem fm {c c':Cfg}{t:Ret}(hs: ∀ih:Cfg->Df,jg G ih c=ih c')(h:Ev G c' t):Ev G c t:=by
 classical
 refine .step (λx=>if x=c' then some t else none) (λx t' hx=>?_) ((hs _).trans (Ad rfl))
 split at hx
 ·rename_i e;subst e;obtain rfl:=Ai hx;exact h
 ·cases hx
section
variable {x:Opd}{a b:ACode}{k:Dd}{A:AS}{rs:C7}{m:Nat}{t:Ret}
theorem yD (h:eT A (eZ rs) m=some t):Ev G ⟨.code .ret::k,A,rs,m⟩ t:=.step (λ_=>none) (λ_ _ h=>by cases h) h
theorem Kd (h:eT A (eZ rs) m=some t):Ev G ⟨[],A,rs,m⟩ t:=.step (λ_=>none) (λ_ _ h=>by cases h) h
theorem adC (c:Bool)(hx:evo A.tm x= .bool c)(h1:c=true->Ev G ⟨.code a::k,A,rs,m⟩ t)(h2:c=false->Ev G ⟨.code b::k,A,rs,m⟩ t):Ev G ⟨.code (.cond x a b)::k,A,rs,m⟩ t:=by
 refine fm (c':=⟨.code (bif c then a else b)::k,A,rs,m⟩) (λih=>by simp only[jg,hx]) ?_
 cases c with
 |true=>exact h1 rfl
 |false=>exact h2 rfl
end
theorem adx {b:ACode}{k:Dd}{A:AS}{rs:C7}{m:Nat}{t:Ret}(h:Ev G ⟨.code b:: .inLoop b::k,A.nub,rs,m⟩ t):Ev G ⟨.inLoop b::k,A,rs,m⟩ t:=fm (λ_=>rfl) h
theorem Wq {i:Nat}{dn:DD}{draw:Bool}{k:Dd}{tm:CV}{hp:aq}{ctr:Nat}{rs:C7}{m:Nat}{t:Ret}(h:Ev G ⟨k,⟨tm,hp,ctr+i⟩,rs,m⟩ t):
  Ev G ⟨.inReg [] i dn draw::k,⟨tm,hp,ctr⟩,rs,m⟩ t:=fm (λ_=>rfl) h
def OpE (G:Nat->Fun)(o:AOper)(g:Nat)(A:AS)(e:Eff):Prop:= ∃ih:Cfg->Df,(∀c t,ih c=some t->Ev G c t)/\ig G ih o g A=some e
theorem OpE.op {d:C8}{op:AOp}{gd:DN}{af:CT}{g:Nat}{A:AS}{e:Eff}(hop: ∀f args,op≠ .call f args)(h:aX op g (sJ (d.getD 0) 0) (op.opds.map (evo A.tm)) (aW A.hp)=some e):OpE G ⟨d,op,gd,af⟩ g A e:=by
 refine ⟨λ_=>none,λ_ _ h=>(by cases h),?_⟩
 unfold ig;cases op with
 |call f args=>exact absurd rfl (hop f args)
 |_=>exact h
theorem OpE.call {d:C8}{fo:Opd}{args:DO}{gd:DN}{af:CT}{g:Nat}{A:AS}{e:Eff}{f:Nat}{cap vals:CL}{c:CIn}{t:Ret}(hv:(fo::args).map (evo A.tm)= .fn f cap::vals)(hc:fp (aW A.hp) (G (bV f)).raw (bif isB f then cap++vals else vals++cap)=some c)(hG:ab G (bV f) c.args c.bs t)(ho:ci (aW A.hp) c g (d.getD 0) t=some e):
  OpE G ⟨d,.call fo args,gd,af⟩ g A e:=by
 unfold ab at hG;cases hf:G (bV f) with
 |none=>rw[hf] at hG;exact hG.elim
 |prim r p=>
  rw[hf] at hG;refine ⟨λ_=>none,λ_ _ h=>(by cases h),?_⟩
  show n8 G (λ_=>none) _ _ _ _=_
  unfold n8;rw[hv];dsimp only;rw[hc];simp only[hf,hG,ho]
 |code F=>
  rw[hf] at hG;obtain ⟨h1,h2⟩:=hG
  classical
  refine ⟨λx=>if x=F.start c.args c.bs then some t else none,λx t' hx=>?_,?_⟩
  ·dsimp only at hx
   split at hx
   ·rename_i e;subst e;obtain rfl:=Ai hx;exact h2
   ·cases hx
  show n8 G (λx=>if x=F.start c.args c.bs then some t else none) _ _ _ _=_
  unfold n8;rw[hv];dsimp only;rw[hc];simp only[hf,h1,ho,if_true]
section
variable {hg:Nat->C0}{raw:Bool}{args:CL}
theorem qe (h:aP args=true):fp hg raw args=some {args:=args,bs:=[],D:=[],fz:=[]}:=by
 unfold fp;rw[ix _ _ h]
theorem Oa {g dst:Nat}{r:AV}(h:r.dry=true):ci hg {args:=args,bs:=[],D:=[],fz:=[]} g dst {r:=r,bs:=[]}=some {res:=r}:=by
 unfold ci;simp[h]
end
section
variable {o:AOper}{rest:CO}{i:Nat}{dn:DD}{draw:Bool}{k:Dd}{A:AS}{rs:C7}{m:Nat}{t:Ret}
section
variable {e:Eff}(hw:bN A.tm o.guard=some true)(he:OpE G o (A.ctr+i) A e)
include hw he
theorem afG (h:Ev G ⟨.inReg rest (i+1) dn false::k,A.app o.dst e,rs,m⟩ t):Ev G ⟨.inReg (o::rest) i dn false::k,A,rs,m⟩ t:=by
 obtain ⟨ih,hih,hn⟩:=he;exact .opS ih hih hw hn h
theorem afI (hg:OkS o.after e dn)(h:Ev G ⟨.inReg rest (i+1) (lW i e dn) true::k,A.app o.dst e,rs,m⟩ t):Ev G ⟨.inReg (o::rest) i dn true::k,A,rs,m⟩ t:=by
 obtain ⟨ih,hih,hn⟩:=he;exact .opD ih hih hw hn hg h
end
theorem afH (hw:bN A.tm o.guard=some false)(h:Ev G ⟨.inReg rest (i+1) dn draw::k,A.put o.dst ip,rs,m⟩ t):Ev G ⟨.inReg (o::rest) i dn draw::k,A,rs,m⟩ t:=by
 refine fm (c':=⟨.inReg rest (i+1) dn draw::k,A.put o.dst ip,rs,m⟩) (λih=>by simp only[jg,hw]) h
end
theorem lQ {f:Nat}{F:AFunc}{args:CL}{bs:Dn}{t:Ret}(hf:G f= .code F)(hl:args.length=F.np)(h:Ev G ⟨[.code F.body],⟨tms 0 args,j8 0 bs,1⟩,F.results,bs.length⟩ t):ab G f args bs t:=by
 unfold ab;rw[hf];exact ⟨hl,h⟩
end
structure AS.Same (A B:AS):Prop where
 tm:bJ A.tm=bJ B.tm
 hp:aW A.hp=aW B.hp
 ctr:A.ctr=B.ctr
theorem AS.Same.refl (A:AS):A.Same A:=⟨rfl,rfl,rfl⟩
theorem AS.Same.put {A B:AS}(h:A.Same B)(d:C8)(v:AV):(A.put d v).Same (B.put d v):=by
 cases d with
 |none=>exact h
 |some d=>exact ⟨by funext t;simp only[AS.put,bJ];rw[h.tm],h.hp,h.ctr⟩
theorem qu {a b:aq}(h:aW a=aW b)(l:aq):aW (l++a)=aW (l++b):=by
 rw[fU,fU,h]
section
variable {A B:AS}(h:A.Same B)
include h
theorem AS.Same.app (d:C8)(e:Eff):(A.app d e).Same (B.app d e):=by
 have h1:=h.put d e.res;refine ⟨h1.tm,?_,h1.ctr⟩;show aW (e.wr++A.hp)=aW (e.wr++B.hp)
 exact qu h.hp _
theorem AS.Same.frz (D:CT):(A.frz D).Same (B.frz D):=by
 refine ⟨?_,?_,h.ctr⟩
 ·funext t
  show bJ (jh _ A.tm) t=bJ (jh _ B.tm) t
  rw[jD,jD,h.tm,h.hp]
 ·show aW (bU D++renH _ A.hp)=aW (bU D++renH _ B.hp)
  refine qu ?_ _
  funext k
  rw[jM,jM,h.hp]
theorem Wk0.of_same:Wk0 A B:=⟨h.ctr.symm,λC U a w r=>by
 have:A.fs=B.fs:=by unfold AS.fs;rw[h.tm,h.hp]
 rw[<-this];exact r⟩
end
section
variable {G:Nat->Fun}{todo:Dd}{A B:AS}
theorem Wk.of0 (h:Wk0 A B):Wk A B:=λC a w _ r=>by
 have:=h.2 C _ a w r;rw[h.1];exact this
def mg:Dd->Bool
 | .inReg _ _ _ d::_=> !d
 |_=>true
theorem tz {rs:C7}{m:Nat}{t:Ret}(hd:mg todo=true)(h:Wk0 A B)(k:Ev G ⟨todo,B,rs,m⟩ t):Ev G ⟨todo,A,rs,m⟩ t:=by
 cases todo with
 |nil=>exact .weak rfl (Nat.le_of_eq h.1.symm) (.of0 h) k
 |cons it r=>
  cases it with
  |inReg rest i dn d=>
   cases d with
   |true=>cases hd
   |false=>exact .weakR h k
  |_=>exact .weak rfl (Nat.le_of_eq h.1.symm) (.of0 h) k
def yj:CT->CV->CV
 | [],_=>[]
 |t::L,tm=>(t,bJ tm t)::yj L tm
def yk:CT->aq->aq
 | [],_=>[]
 |k::L,hp=>(k,aW hp k)::yk L hp
theorem xp (tm:CV): ∀L,bJ (yj L tm++tm)=bJ tm
 | []=>rfl
 |t::L=>by
  funext u
  simp only[yj,B4,bJ,xp tm L];split
  ·rename_i e;rw[e]
  ·rfl
theorem yn (hp:aq): ∀L,aW (yk L hp++hp)=aW hp
 | []=>rfl
 |t::L=>by
  funext u
  simp only[yk,B4,aW,yn hp L];split
  ·rename_i e;rw[e]
  ·rfl
theorem ag {tm:CV}{hp:aq}{ctr:Nat}{rs:C7}{m:Nat}{t:Ret}(L K:CT)(h:Ev G ⟨todo,⟨yj L tm++tm,yk K hp++hp,ctr⟩,rs,m⟩ t)(hd:mg todo=true:=by rfl):Ev G ⟨todo,⟨tm,hp,ctr⟩,rs,m⟩ t:=
 tz (B:=⟨yj L tm++tm,yk K hp++hp,ctr⟩) hd (.of_same ⟨(xp tm L).symm,(yn hp K).symm,rfl⟩) h
theorem aa3 {b:ACode}{k:Dd}{A:AS}{rs:C7}{m:Nat}{t:Ret}(h:Ev G ⟨.code b:: .inLoop b::k,A,rs,m⟩ t):Ev G ⟨.inLoop b::k,A,rs,m⟩ t:=by
 refine adx ?_;have hs:A.nub.Same A:=⟨congrArg FSt.tm (AS.nub_fs A),congrArg FSt.hp (AS.nub_fs A),rfl⟩;exact tz (B:=A) rfl (.of_same hs) h
end
def mh:CV->Nat->(AV->Prop)->Prop
 | [],_,k=>k .any
 |(t,v)::r,u,k=>bif Nat.beq t u then k v else mh r u k
theorem iJ {k:AV->Prop}{u:Nat}: ∀{l:CV},mh l u k↔k (bJ l u)
 | []=>Iff.rfl
 |(t,v)::r=>by
  simp only[mh,bJ]
  by_cases h:t=u
  ·subst h;simp
  ·have:Nat.beq t u=false:=by
    cases hb:Nat.beq t u with
    |false=>rfl
    |true=>exact absurd (Nat.eq_of_beq_eq_true hb) h
   rw[this,Ac h];exact iJ
def dQ:aq->Nat->(C0->Prop)->Prop
 | [],_,k=>k none
 |(t,v)::r,u,k=>bif Nat.beq t u then k v else dQ r u k
theorem bG {k:C0->Prop}{u:Nat}: ∀{l:aq},dQ l u k↔k (aW l u)
 | []=>Iff.rfl
 |(t,v)::r=>by
  simp only[dQ,aW]
  by_cases h:t=u
  ·subst h;simp
  ·have:Nat.beq t u=false:=by
    cases hb:Nat.beq t u with
    |false=>rfl
    |true=>exact absurd (Nat.eq_of_beq_eq_true hb) h
   rw[this,Ac h];exact bG
def QV (tm:CV):Opd->(AV->Prop)->Prop
 | .t n,k=>mh tm n k
 | .c v,k=>k v
theorem I6 {tm:CV}{k:AV->Prop}{x:Opd}:QV tm x k↔k (evo tm x):=by
 cases x with
 |t n=>exact iJ
 |c v=>exact Iff.rfl
def ux (tm:CV):DO->(CL->Prop)->Prop
 | [],k=>k []
 |x::r,k=>QV tm x λv=>ux tm r λvs=>k (v::vs)
theorem sB {tm:CV}: ∀{l:DO}{k:CL->Prop},ux tm l k↔k (l.map (evo tm))
 | [],k=>Iff.rfl
 |x::r,k=>by simp only[ux,I6,Ao,sB]
def uF:Nat->CL->(CL->Prop)->Prop
 |0,l,k=>k l
 |_+1,[],k=>k []
 |n+1,_::r,k=>uF n r k
theorem pG: ∀{n:Nat}{l:CL}{k:CL->Prop},uF n l k↔k (l.drop n)
 |0,l,k=>Iff.rfl
 |n+1,[],k=>Iff.rfl
 |n+1,_::r,k=>by simp only[uF,List.drop_succ_cons];exact pG
def FJ:Nat->CL->(CL->Prop)->Prop
 |0,_,k=>k []
 |_+1,[],_=>False
 |n+1,a::r,k=>FJ n r λl=>k (a::l)
theorem Gn: ∀{n:Nat}{l:CL}{k:CL->Prop},FJ n l k->n<=l.length/\k (l.take n)
 |0,l,k,h=>⟨Nat.zero_le _,by simpa[FJ] using h⟩
 |n+1,[],k,h=>h.elim
 |n+1,a::r,k,h=>by
  obtain ⟨h1,h2⟩:=Gn (n:=n) (l:=r) h;exact ⟨by simp;omega,by simpa using h2⟩
def FK (sz:C8)(cs:CL)(k:AV->Prop):Prop:=
 match sz with
 |none=>match cs with
  |c::_=>k c
  | []=>False
 |some n=>FJ n cs λl=>k (.agg l)
theorem IL {sz:C8}{cs:CL}{k:AV->Prop}(h:FK sz cs k): ∃v,fD sz cs=some v/\k v:=by
 unfold FK at h;unfold fD;cases sz with
 |none=>
  cases cs with
  |nil=>exact h.elim
  |cons c r=>exact ⟨c,rfl,h⟩
 |some n=>
  obtain ⟨h1,h2⟩:=Gn h;exact ⟨_,by dsimp only;rw[Ad h1],h2⟩
def sr:Nat->CL->CL->(CL->Prop)->Prop
 |0,[],l,k=>k l
 |0,c::cs,_::l,k=>sr 0 cs l λr=>k (c::r)
 |n+1,cs,a::l,k=>sr n cs l λr=>k (a::r)
 |_,_,_,_=>False
theorem zK: ∀{n:Nat}{cs l:CL}{k:CL->Prop},sr n cs l k->n+cs.length<=l.length/\k (cJ l n cs)
 |0,[],l,k,h=>⟨by simp,by simpa[sr,cJ] using h⟩
 |0,c::cs,[],k,h=>by simp[sr] at h
 |0,c::cs,a::l,k,h=>by
  obtain ⟨h1,h2⟩:=zK (n:=0) (cs:=cs) (l:=l) (k:=λr=>k (c::r)) h
  refine ⟨by simp at h1⊢;omega,?_⟩
  simpa[cJ] using h2
 |n+1,cs,[],k,h=>by cases cs<;>simp[sr] at h
 |n+1,cs,a::l,k,h=>by
  have h':sr n cs l λr=>k (a::r):=by cases cs<;>exact h
  obtain ⟨h1,h2⟩:=zK h';refine ⟨by simp;omega,?_⟩
  have:cJ (a::l) (n+1) cs=a::cJ l n cs:=by
   simp[cJ,show n+1+cs.length=n+cs.length+1 from by omega]
  rw[this];exact h2
def RT:Nat->CL->(AV->Prop)->Prop
 |0,[],_=>False
 |_+1,[],_=>False
 |0,a::_,k=>k a
 |n+1,_::r,k=>RT n r k
theorem O0: ∀{n:Nat}{l:CL}{k:AV->Prop},RT n l k->n<l.length/\k (l.getD n .any)
 |0,[],_,h=>h.elim
 |n+1,[],_,h=>h.elim
 |0,a::r,k,h=>⟨by simp,by simpa[RT] using h⟩
 |n+1,a::r,k,h=>by
  obtain ⟨h1,h2⟩:=O0 (n:=n) (l:=r) h;exact ⟨by simp;omega,by simpa using h2⟩
def yv:CL->(CL->Prop)->Prop
 | [],k=>k []
 |a::r,k=>yv r λl=>k (a::l)
theorem yu: ∀{l:CL}{k:CL->Prop},yv l k↔k l
 | [],k=>Iff.rfl
 |a::r,k=>by simp only[yv];exact yu
def qy (v:AV)(k:CL->Prop):Prop:=
 match v with
 | .agg cs=>k cs
 |a=>bif a.flat then k [a] else False
theorem pJ {v:AV}{k:CL->Prop}(h:qy v k): ∃cs,dJ v=some cs/\k cs:=by
 unfold qy at h;unfold dJ;split at h
 ·exact ⟨_,rfl,h⟩
 ·rename_i hne
  split
  ·rename_i cs;exact absurd rfl (hne cs)
  ·cases hf:v.flat with
   |true=>rw[hf] at h;exact ⟨_,rfl,h⟩
   |false=>rw[hf] at h;exact h.elim
structure condC (c:Bool)(p q:Prop):Prop where
 yes:c=true->p
 no:c=false->q
theorem abX {p q:Prop}(h:p):condC true p q:=⟨λ_=>h,λh=>(by cases h)⟩
theorem abZ {p q:Prop}(h:q):condC false p q:=⟨λh=>(by cases h),λ_=>h⟩
def atC (hp:aq)(a:AV)(k:CL->CT->Prop):Prop:=
 match a with
 | .rp cs=>k cs []
 | .ref key g o=>dQ hp key λx=>match x with
  |some (g',.cells cs)=>g'=g/\uF o cs λl=>k l [key]
  |_=>False
 | .er key g i o=>dQ hp key λx=>match x with
  |some (g',.vec _ es)=>g'=g/\ ∃cs,es[i]? =some cs/\uF o cs λl=>k l [key]
  |_=>False
 |_=>False
theorem W5 {hp:aq}{a:AV}{k:CL->CT->Prop}(h:atC hp a k): ∃cs rd,cM (aW hp) a=some (cs,rd)/\k cs rd:=by
 unfold atC at h;split at h
 ·exact ⟨_,_,rfl,h⟩
 ·rw[bG] at h
  split at h
  ·rename_i g' cs hx
   obtain ⟨rfl,h⟩:=h;rw[pG] at h;exact ⟨_,_,by simp only[cM,hx,if_true],h⟩
  ·exact h.elim
 ·rw[bG] at h
  split at h
  ·rename_i g' s es hx
   obtain ⟨rfl,cs,hc,h⟩:=h;rw[pG] at h;obtain ⟨hi,rfl⟩:=AC.1 hc;refine ⟨_,_,by simp only[cM,hx,if_true];rw[Ad hi],?_⟩
   rw[Aj,hc];exact h
  ·exact h.elim
 ·exact h.elim
inductive TakeC (n:Nat)(es:CS)(k:CS->Prop):Prop
 |full (h:n=es.length) (hk:k es):TakeC n es k
 |part (h:n<=es.length) (hk:k (es.take n)):TakeC n es k
theorem TakeC.ok {n:Nat}{es:CS}{k:CS->Prop}(h:TakeC n es k):n<=es.length/\k (es.take n):=by
 cases h with
 |full h hk=>subst h;rw[List.take_length];exact ⟨Be _,hk⟩
 |part h hk=>exact ⟨h,hk⟩
def XO (hp:aq)(s:Nat)(y:AV)(k:CS->CT->Prop):Prop:=
 match y with
 | .str l=>s=1/\k (byteCells l) []
 | .sl s' es=>s'=s/\k es []
 | .con (.slice none 0 0)=>k [] []
 | .vs key g n=>dQ hp key λz=>match z with
  |some (g',.vec s' es)=>g'=g/\s'=s/\TakeC n es λl=>k l [key]
  |_=>False
 | .vw key g o n=>dQ hp key λz=>match z with
  |some (g',.vec s' es)=>g'=g/\s'=s/\Nat.ble (o+n) es.length=true/\k ((es.drop o).take n) [key]
  |_=>False
 |_=>False
theorem acq {hp:aq}{s:Nat}{y:AV}{k:CS->CT->Prop}(h:XO hp s y k): ∃ys r,aX.appSrc (aW hp) s y=some (ys,r)/\k ys r:=by
 unfold XO at h;unfold aX.appSrc;split at h
 ·obtain ⟨rfl,h⟩:=h;exact ⟨_,_,rfl,h⟩
 ·obtain ⟨rfl,h⟩:=h;exact ⟨_,_,by simp,h⟩
 ·exact ⟨_,_,rfl,h⟩
 ·rw[bG] at h
  split at h
  ·rename_i hx
   obtain ⟨rfl,rfl,h⟩:=h;obtain ⟨h1,h⟩:=h.ok;exact ⟨_,_,by simp only[hx];rw[Ad (by simp),Ad h1],h⟩
  ·exact h.elim
 ·rw[bG] at h
  split at h
  ·rename_i hx
   obtain ⟨rfl,rfl,h1,h⟩:=h;exact ⟨_,_,by simp only[hx];rw[Ad (by simp),Ad (Nat.le_of_ble_eq_true h1)],h⟩
  ·exact h.elim
 ·exact h.elim
def oX (v:AV)(y:Nat)(k:Nat->Prop):Prop:=
 match v with
 | .int _ i=>0<=i/\i<=y/\k i.toNat
 |_=>False
theorem jZ {v:AV}{y:Nat}{k:Nat->Prop}(h:oX v y k): ∃i,bnd v y=some i/\k i:=by
 unfold oX at h;unfold bnd;split at h
 ·exact ⟨_,Ad ⟨h.1,h.2.1⟩,h.2.2⟩
 ·exact h.elim
def Qq (lo hi mx:Bool)(n:Nat)(bs:CL)(k:Nat->Nat->Prop):Prop:=
 match lo,hi,mx,bs with
 |false,false,false,[]=>k 0 n
 |true,false,false,[a]=>oX a n λl=>k l n
 |false,true,false,[b]=>oX b n λh=>k 0 h
 |true,true,false,[a,b]=>oX b n λh=>oX a h λl=>k l h
 |false,true,true,[b,c]=>oX c n λm=>oX b m λh=>k 0 h
 |true,true,true,[a,b,c]=>oX c n λm=>oX b m λh=>oX a h λl=>k l h
 |_,_,_,_=>False
theorem Oq {lo hi mx:Bool}{n:Nat}{bs:CL}{k:Nat->Nat->Prop}(h:Qq lo hi mx n bs k): ∃a b,aX.slBounds lo hi mx n bs=some (a,b)/\k a b:=by
 unfold Qq at h;unfold aX.slBounds;split at h
 ·exact ⟨_,_,rfl,h⟩
 ·obtain ⟨i,h1,h2⟩:=jZ h;exact ⟨_,_,by simp only[h1,Option.map_some],h2⟩
 ·obtain ⟨i,h1,h2⟩:=jZ h;exact ⟨_,_,by simp only[h1,Option.map_some],h2⟩
 ·obtain ⟨i,h1,h2⟩:=jZ h
  obtain ⟨j,h3,h4⟩:=jZ h2;exact ⟨_,_,by simp only[h1,h3,Option.map_some,Option.bind_some],h4⟩
 ·obtain ⟨i,h1,h2⟩:=jZ h
  obtain ⟨j,h3,h4⟩:=jZ h2;exact ⟨_,_,by simp only[h1,h3,Option.map_some,Option.bind_some],h4⟩
 ·obtain ⟨i,h1,h2⟩:=jZ h
  obtain ⟨j,h3,h4⟩:=jZ h2;obtain ⟨l,h5,h6⟩:=jZ h4;exact ⟨_,_,by simp only[h1,h3,h5,Option.map_some,Option.bind_some],h6⟩
 ·exact h.elim
def YZ (x:AV)(k:Nat->Prop):Prop:=
 match x with
 | .sl _ es=>k es.length
 | .con (.slice none 0 0)=>k 0
 | .vs _ _ n=>k n
 | .vw _ _ _ n=>k n
 |_=>False
theorem adl {x:AV}{k:Nat->Prop}(h:YZ x k): ∃n,lL x=some n/\k n:=by
 unfold YZ at h;split at h
 ·exact ⟨_,rfl,h⟩
 ·exact ⟨_,rfl,h⟩
 ·exact ⟨_,rfl,h⟩
 ·exact ⟨_,rfl,h⟩
 ·exact h.elim
inductive B2s (hp:aq)(x:AV)(k:CF->CT->Prop):Prop
 |mk (es:CS) (r:CT) (l:CF) (h1:cK (aW hp) x=some (es,r)) (h2:aX.bytesOf es=some l) (h3:k l r):B2s hp x k
inductive BslC (hp:aq)(s:Nat)(z:CL)(n:Nat)(ps:CT)(vs:CL)(k:CS->CT->Prop):Prop
 |pure (h1:aP vs=true) (es:CS) (h2:lU s (iY n z) ps vs=some es) (hk:k es []):BslC hp s z n ps vs k
 |frz (D:CT) (hD:b8 true vs=D) (hne:D≠ []) (es:CS) (h2:lU s (iY n z) ps (di (j5 (aW hp) D) vs)=some es) (hk:k es D):BslC hp s z n ps vs k
section
variable (op:AOp)(g key:Nat)(vals:CL)(hp:aq)(k:Eff->Prop)
def opD:Prop:= ∃e,aX op g key vals (aW hp)=some e/\k e
def stC (key' g' i o sz:Nat)(cs:CL)(k:Eff->Prop):Prop:=
 match cs with
 | [.vs kk gg nn]=>dQ hp key' λy=>match y with
  |some (g'',.vec s es)=>g''=g'/\ ∃old,es[i]? =some old/\Nat.ble (o+sz) s=true/\(!Nat.beq kk key'&&wd ((old.drop o).take 1) [kk])=true/\k {res:=.any,wr:=[(key',some (g'',.vec s (es.set i (cJ old o [.vs kk gg nn]))))],rd:=[key',kk]}
  |_=>False
 |cs=>aP cs=true/\dQ hp key' λy=>match y with
  |some (g'',.vec s es)=>g''=g'/\ ∃old,es[i]? =some old/\Nat.ble (o+sz) s=true/\k {res:=.any,wr:=[(key',some (g'',.vec s (es.set i (cJ old o cs))))],rd:=[key']}
  |_=>False
def opC:Prop:=
 match op,vals with
 | .mv _,[x]=>k {res:=x}
 | .pick ..,[c,a,b]=>match c with
  | .bool t=>condC t (k {res:=a}) (k {res:=b})
  |_=>False
 | .box _,[x]=>qy x λcs=>k {res:=.ref key g 0,wr:=[(key,some (g,.cells cs))]}
 | .alloc z,[]=>qy z λcs=>k {res:=.ref key g 0,wr:=[(key,some (g,.cells cs))]}
 | .build z ps _,vs=> ∃cs,rq z ps vs=some cs/\yv cs λl=>k {res:=.agg l}
 | .load sz _,[a]=>atC hp a λcs rd=>FK sz cs λv=>k {res:=v,rd:=rd,sf:=si a cs sz}
 | .store sz o1 o2,[a,x]=>match a with
  | .ref key' g' o=>qy x λcs=>bif Nat.beq cs.length sz then (dQ hp key' λy=>match y with
   |some (g'',.cells old)=>g''=g'/\sr o cs old λnew=>k {res:=.any,wr:=[(key',some (g'',.cells new))],rd:=[key']}
   |_=>False) else False
  | .er key' g' i o=>qy x λcs=>bif Nat.beq cs.length sz then stC hp key' g' i o sz cs k else False
  |_=>opD (.store sz o1 o2) g key [a,x] hp k
 | .fadr off _,[a]=>match a with
  | .ref key' g' o=>k {res:=.ref key' g' (o+off)}
  | .er key' g' i o=>k {res:=.er key' g' i (o+off)}
  | .rp cs=>uF off cs λl=>k {res:=.rp l}
  |_=>False
 | .iadr s o1 o2,[x,i]=>match x with
  | .sl s' es=>match i with
   | .int _ j=>s'=s/\0<=j/\ ∃cs,es[j.toNat]? =some cs/\k {res:=.rp cs}
   |_=>False
  | .vs key' g' n=>match i with
   | .int _ j=>dQ hp key' λy=>match y with
    |some (g'',.vec s' _)=>g''=g'/\s'=s/\0<=j/\j.toNat<n/\k {res:=.er key' g' j.toNat 0,rd:=[key']}
    |_=>False
   |_=>False
  | .vw key' g' o n=>match i with
   | .int _ j=>dQ hp key' λy=>match y with
    |some (g'',.vec s' _)=>g''=g'/\s'=s/\0<=j/\j.toNat<n/\k {res:=.er key' g' (o+j.toNat) 0,rd:=[key']}
    |_=>False
   |_=>False
  |_=>opD (.iadr s o1 o2) g key [x,i] hp k
 | .bin op _ _,[x,y]=> ∃v,bp op x y=some v/\k {res:=v}
 | .ext _ i,[x]=>match x with
  | .tup vs=>RT i vs λv=>k {res:=v}
  |_=>False
 | .len str o,[x]=>match x with
  | .sl _ es=>bif str then False else k {res:=.int .i64 es.length}
  | .vs _ _ n=>bif str then False else k {res:=.int .i64 n}
  | .vw _ _ _ n=>bif str then False else k {res:=.int .i64 n}
  | .str s=>bif str then k {res:=.int .i64 s.length} else False
  |_=>opD (.len str o) g key [x] hp k
 | .istr _ _,[x,i]=>match i,x with
  | .int _ j,.str l=>0<=j/\ ∃b,l[j.toNat]? =some b/\k {res:=.int .u8 (b:UInt8).toNat}
  |_,_=>False
 | .slstr _ lo hi,x::bs=>match x with
  | .str l=>Qq lo.isSome hi.isSome false l.length bs λa b=>k {res:=.str ((l.drop a).take (b-a))}
  |_=>False
 | .app s bytes _ _,[x,y]=>XO hp s y λys r=>match x with
  | .con (.slice none 0 0)=>ni ys.length bytes=true/\k {res:=.vs key g ys.length,wr:=[(key,some (g,.vec s ys))],rd:=r}
  | .vs key' g' n=>dQ hp key' λz=>match z with
   |some (g'',.vec s' es)=>g''=g'/\s'=s/\TakeC n es λl=>ni (n+ys.length) bytes=true/\k {res:=.vs key' g (n+ys.length),wr:=[(key',some (g,.vec s (l++ys)))],rd:=key'::r}
   |_=>False
  |_=>False
 | .mksl s bytes z _ _,[n,c]=>match n,c with
  | .int .i64 n,.int .i64 c=>0<=n/\n<=c/\z.length=s/\ni c.toNat bytes=true/\k {res:=.vs key g n.toNat,wr:=[(key,some (g,.vec s (iY n.toNat z)))]}
  |_,_=>False
 | .bsl s z n ps _,vs=>Nat.ble (n*s) 16777216=true/\z.length=s/\BslC hp s z n ps vs λes D=>k {res:=.vs key g n,wr:=(key,some (g,.vec s es))::bU D,rd:=D}
 | .b2s _,[x]=>B2s hp x λl r=>k {res:=.str l,rd:=r}
 | .slc s _ lo hi mx,x::bs=>YZ x λn=>Qq lo.isSome hi.isSome mx.isSome n bs λl h=>match x with
  | .sl s' es=>s'=s/\k {res:=.sl s ((es.drop l).take (h-l))}
  | .con (.slice none 0 0)=>k {res:=.sl s []}
  | .vs key' g' _=>dQ hp key' λy=>match y with
   |some (g'',.vec s' _)=>g''=g'/\s'=s/\((l=0/\mx.isSome=false/\k {res:=.vs key' g' h,rd:=[key']})∨(¬(l=0/\mx.isSome=false)/\k {res:=.vw key' g' l (h-l),rd:=[key']}))
   |_=>False
  | .vw key' g' o _=>dQ hp key' λy=>match y with
   |some (g'',.vec s' _)=>g''=g'/\s'=s/\k {res:=.vw key' g' (o+l) (h-l),rd:=[key']}
   |_=>False
  |_=>False
 |op,vs=>opD op g key vs hp k
end
theorem aer {op:AOp}{g key:Nat}{vals:CL}{hp:aq}{k:Eff->Prop}(h:opC op g key vals hp k): ∃e,aX op g key vals (aW hp)=some e/\k e:=by
 unfold opC at h;split at h
 ·exact ⟨_,rfl,h⟩
 ·split at h
  ·rename_i t
   cases t with
   |true=>exact ⟨_,rfl,h.1 rfl⟩
   |false=>exact ⟨_,rfl,h.2 rfl⟩
  ·exact h.elim
 ·obtain ⟨cs,h1,h2⟩:=pJ h
  exact ⟨_,by simp only[aX,h1,Option.map_some],h2⟩
 ·obtain ⟨cs,h1,h2⟩:=pJ h
  exact ⟨_,by simp only[aX,h1,Option.map_some],h2⟩
 ·obtain ⟨cs,h1,h2⟩:=h
  rw[yu] at h2;exact ⟨_,by simp only[aX,h1,Option.map_some],h2⟩
 ·obtain ⟨cs,rd,h1,h2⟩:=W5 h
  obtain ⟨v,h3,h4⟩:=IL h2;exact ⟨_,by simp only[aX,h1,h3,Option.map_some],h4⟩
 ·rename_i sz o1 o2 a x
  split at h
  ·obtain ⟨cs,h1,h2⟩:=pJ h
   cases hb:Nat.beq cs.length sz with
   |false=>rw[hb] at h2;exact h2.elim
   |true=>
    have hl:cs.length=sz:=Nat.eq_of_beq_eq_true hb;rw[hb] at h2;dsimp only[cond] at h2;rw[bG] at h2;split at h2
    ·rename_i g'' old hx
     obtain ⟨rfl,h3⟩:=h2;obtain ⟨h4,h5⟩:=zK h3;rw[hl] at h4;exact ⟨_,by simp only[aX,h1,hx,if_true,hl,Ad h4],h5⟩
    ·exact h2.elim
  ·obtain ⟨cs,h1,h2⟩:=pJ h
   cases hb:Nat.beq cs.length sz with
   |false=>rw[hb] at h2;exact h2.elim
   |true=>
    have hl:cs.length=sz:=Nat.eq_of_beq_eq_true hb;rw[hb] at h2;dsimp only[cond] at h2;unfold stC at h2;split at h2
    ·rename_i kk gg nn
     rw[bG] at h2;split at h2
     ·rename_i g'' s es hx
      obtain ⟨rfl,old,h3,h4,hq,h5⟩:=h2;obtain ⟨hi,rfl⟩:=AC.1 h3;have h4:=Nat.le_of_ble_eq_true h4;simp only[Av,Bool.not_eq_true'] at hq;have hne:=Nat.ne_of_beq_eq_false hq.1;refine ⟨_,?_,h5⟩;simp only[aX,h1,hx,if_true,hl];rw[Ad ⟨hi,h4⟩];have hk:b8 true [AV.vs kk gg nn]= [kk]:=rfl;rw[hk];have hc0: ∀z,kk≠z->List.contains [kk] z=false:=λz h=>by simpa using Ne.symm h
      have hc:=hc0 _ hne;simp only[Aj,h3,Option.getD_some,hc,cond_false];rw[show sz=1 from hl.symm,hq.2,Bool.or_true,cond_true]
     ·exact h2.elim
    ·obtain ⟨hpu,h2⟩:=h2
     rw[bG] at h2;split at h2
     ·rename_i g'' s es hx
      obtain ⟨rfl,old,h3,h4,h5⟩:=h2;obtain ⟨hi,rfl⟩:=AC.1 h3;have h4:=Nat.le_of_ble_eq_true h4;have hk:=ix true cs hpu;refine ⟨_,?_,h5⟩;simp only[aX,h1,hx,if_true,hl];rw[Ad ⟨hi,h4⟩,hk];simp only[Aj,h3,Option.getD_some]
     ·exact h2.elim
  ·exact h
 ·split at h
  ·exact ⟨_,rfl,h⟩
  ·exact ⟨_,rfl,h⟩
  ·rw[pG] at h;exact ⟨_,rfl,h⟩
  ·exact h.elim
 ·split at h
  ·split at h
   ·obtain ⟨rfl,h1,cs,h2,h3⟩:=h
    obtain ⟨hi,rfl⟩:=AC.1 h2;refine ⟨_,by unfold aX;dsimp only;rw[Ad (by exact ⟨rfl,h1,hi⟩)],?_⟩
    rw[Aj,h2];exact h3
   ·exact h.elim
  ·split at h
   ·rw[bG] at h
    split at h
    ·rename_i hx
     obtain ⟨rfl,rfl,h1,h2,h3⟩:=h;exact ⟨_,by unfold aX;dsimp only;rw[hx];dsimp only;rw[Ad (by exact ⟨rfl,rfl⟩),Ad (by exact ⟨h1,h2⟩)],h3⟩
    ·exact h.elim
   ·exact h.elim
  ·split at h
   ·rw[bG] at h
    split at h
    ·rename_i hx
     obtain ⟨rfl,rfl,h1,h2,h3⟩:=h;exact ⟨_,by unfold aX;dsimp only;rw[hx];dsimp only;rw[Ad (by exact ⟨rfl,rfl⟩),Ad (by exact ⟨h1,h2⟩)],h3⟩
    ·exact h.elim
   ·exact h.elim
  ·exact h
 ·obtain ⟨v,h1,h2⟩:=h
  exact ⟨_,by simp only[aX,h1,Option.map_some],h2⟩
 ·split at h
  ·obtain ⟨h1,h2⟩:=O0 h
   exact ⟨_,by simp only[aX,Ad h1],h2⟩
  ·exact h.elim
 ·rename_i str o x
  split at h
  ·cases str with
   |true=>exact h.elim
   |false=>exact ⟨_,rfl,h⟩
  ·cases str with
   |true=>exact h.elim
   |false=>exact ⟨_,rfl,h⟩
  ·cases str with
   |true=>exact h.elim
   |false=>exact ⟨_,rfl,h⟩
  ·cases str with
   |false=>exact h.elim
   |true=>exact ⟨_,rfl,h⟩
  ·exact h
 ·split at h
  ·obtain ⟨h1,b,h2,h3⟩:=h
   obtain ⟨hi,rfl⟩:=AC.1 h2;refine ⟨_,by unfold aX;dsimp only;rw[Ad (by exact ⟨h1,hi⟩)],?_⟩
   rw[Aj,h2];exact h3
  ·exact h.elim
 ·split at h
  ·obtain ⟨a,b,h1,h2⟩:=Oq h
   exact ⟨_,by simp only[aX,h1],h2⟩
  ·exact h.elim
 ·obtain ⟨ys,r,h1,h2⟩:=acq h
  split at h2
  ·exact ⟨_,by simp only[aX,h1];rw[Ad h2.1],h2.2⟩
  ·rw[bG] at h2
   split at h2
   ·rename_i hx
    obtain ⟨rfl,rfl,h2⟩:=h2;obtain ⟨h3,h4,h5⟩:=h2.ok;exact ⟨_,by simp only[aX,h1,hx];rw[Ad (by exact ⟨by simp,by simp,h3,h4⟩)],h5⟩
   ·exact h2.elim
  ·exact h2.elim
 ·split at h
  ·obtain ⟨h1,h2,h3,h4,h5⟩:=h
   exact ⟨_,by unfold aX;dsimp only;rw[Ad (by exact ⟨h1,h2,h3,h4⟩)],h5⟩
  ·exact h.elim
 ·obtain ⟨h2,h3,h⟩:=h
  have h2':=Nat.le_of_ble_eq_true h2;cases h with
  |pure h1 es h4 h5=>
   refine ⟨_,?_,h5⟩;unfold aX;dsimp only;rw[Ad (by exact ⟨h2',h3⟩),ix true _ h1]
   dsimp only;rw[h4];rfl
  |frz D hD hne es h4 h5=>
   refine ⟨_,?_,h5⟩;unfold aX;dsimp only;rw[Ad (by exact ⟨h2',h3⟩),hD]
   cases D with
   |nil=>exact absurd rfl hne
   |cons d r=>dsimp only;rw[h4];rfl
 ·obtain ⟨es,r,l,h1,h2,h3⟩:=h
  exact ⟨_,by simp only[aX,h1,h2,Option.map_some],h3⟩
 ·obtain ⟨n,h1,h2⟩:=adl h
  obtain ⟨l,hh,h3,h4⟩:=Oq h2;split at h4
  ·obtain ⟨rfl,h5⟩:=h4
   exact ⟨_,by simp only[aX,h1,h3,if_true],h5⟩
  ·exact ⟨_,by simp only[aX,h1,h3],h4⟩
  ·rw[bG] at h4
   split at h4
   ·rename_i hx
    obtain ⟨rfl,rfl,h5⟩:=h4;rcases h5 with ⟨q1,q2,h5⟩|⟨q,h5⟩
    ·exact ⟨_,by simp only[aX,h1,h3,hx];rw[Ad (by simp),Ad (by exact ⟨q1,q2⟩)],h5⟩
    ·exact ⟨_,by simp only[aX,h1,h3,hx];rw[Ad (by simp),Ac q],h5⟩
   ·exact h4.elim
  ·rw[bG] at h4
   split at h4
   ·rename_i hx
    obtain ⟨rfl,rfl,h5⟩:=h4;exact ⟨_,by simp only[aX,h1,h3,hx];rw[Ad (by simp)],h5⟩
   ·exact h4.elim
  ·exact h4.elim
 ·exact h
def FG (tm:CV)(gd:DN)(p q:Prop):Prop:=
 match gd with
 |none=>p
 |some (t,w)=>mh tm t λv=>match v with
  | .bool b=>condC (b==w) p q
  | .con (.tuple _)=>q
  |_=>False
theorem Xn {tm:CV}{gd:DN}{p q:Prop}(h:FG tm gd p q):(bN tm gd=some true/\p)∨(bN tm gd=some false/\q):=by
 unfold FG at h;split at h
 ·exact .inl ⟨rfl,h⟩
 ·rename_i t w
  rw[iJ] at h;unfold bN;dsimp only;split at h
  ·rename_i b hb
   rw[hb];dsimp only;cases hc:b==w with
   |true=>rw[hc] at h;exact .inl ⟨rfl,h.1 rfl⟩
   |false=>rw[hc] at h;exact .inr ⟨rfl,h.2 rfl⟩
  ·rename_i hb
   rw[hb];exact .inr ⟨rfl,h⟩
  ·exact h.elim
def t8:aq->aq->(aq->Prop)->Prop
 | [],h,k=>k h
 |x::r,h,k=>t8 r h λl=>k (x::l)
theorem xb: ∀{a h:aq}{k:aq->Prop},t8 a h k↔k (a++h)
 | [],h,k=>Iff.rfl
 |x::r,h,k=>by simp only[t8,B4];exact xb
def ss (d:C8)(v:AV)(tm:CV)(k:CV->Prop):Prop:=
 match d with
 |some d=>k ((d,v)::tm)
 |none=>k tm
inductive CallG (G:Nat->Fun)(hp:aq)(f:Nat)(args:CL)(g dst:Nat)(E:Prop)(k:Eff->Prop):Prop
 |mk (c:CIn) (r:Ret) (e:Eff) (h1:fp (aW hp) (G f).raw args=some c) (h2:ab G f c.args c.bs r) (h3:ci (aW hp) c g dst r=some e) (h4:k e):CallG G hp f args g dst E k
 |stop (h:E):CallG G hp f args g dst E k
theorem agX {G:Nat->Fun}{hp:aq}{f:Nat}{args:CL}{g dst:Nat}{E:Prop}{k:Eff->Prop}{r:AV}(hG:ab G f args [] ⟨r,[]⟩)(hp':aP args=true)(hr:r.dry=true)(h:k {res:=r}):CallG G hp f args g dst E k:=
 .mk _ _ _ (qe hp') hG (Oa hr) h
def FQ (b:Bool)(q p:Prop):Prop:=bif b then p else q/\p
theorem aa8 {o:CT}{e:Eff}{dn:DD}{p:Prop}(h:FQ (jI o e dn) (OkS o e dn) p):OkS o e dn/\p:=by
 unfold FQ at h;cases hb:jI o e dn with
 |true=>rw[hb] at h;exact ⟨OkS.of hb,h⟩
 |false=>rw[hb] at h;exact h
def W (G:Nat->Fun)(rs:C7)(m:Nat)(t:Ret)(d:Nat):Nat->Dd->CV->aq->Nat->Prop
 |0,todo,tm,hp,ctr=>Ev G ⟨todo,⟨tm,hp,ctr⟩,rs,m⟩ t
 |n+1,todo,tm,hp,ctr=>bif Nat.ble todo.length d then Ev G ⟨todo,⟨tm,hp,ctr⟩,rs,m⟩ t else match todo with
  | []=>Ev G ⟨[],⟨tm,hp,ctr⟩,rs,m⟩ t
  | .code c::k=>match c with
   | .ret=>Ev G ⟨.code .ret::k,⟨tm,hp,ctr⟩,rs,m⟩ t
   | .skip=>W G rs m t d n k tm hp ctr
   | .seq a b=>W G rs m t d n (.code a:: .code b::k) tm hp ctr
   | .cond x a b=>QV tm x λv=>match v with
    | .bool c=>condC c (W G rs m t d n (.code a::k) tm hp ctr) (W G rs m t d n (.code b::k) tm hp ctr)
    |_=>False
   | .block id b=>W G rs m t d n (.code b:: .inBlock id::k) tm hp ctr
   | .scope b=>W G rs m t d n (.code b:: .inScope::k) tm hp ctr
   | .loop b=>Ev G ⟨.inLoop b::k,⟨tm,hp,ctr⟩,rs,m⟩ t
   | .exit id=>match pM id k with
    |some k'=>W G rs m t d n k' tm hp ctr
    |none=>False
   | .region ops draw=>W G rs m t d n (.inReg ops 0 [] draw::k) tm hp ctr
  | .inLoop b::k=>Ev G ⟨.inLoop b::k,⟨tm,hp,ctr⟩,rs,m⟩ t
  | .inBlock _::k=>W G rs m t d n k tm hp ctr
  | .inScope::k=>W G rs m t d n k tm hp ctr
  | .inReg [] i _ _::k=>W G rs m t d n k tm hp (ctr+i)
  | .inReg (o::rest) i dn draw::k=>
   let ke:Eff->Prop:=λe=>
    bif draw then FQ (jI o.after e dn) (OkS o.after e dn) (ss o.dst e.res tm λtm'=>t8 e.wr hp λhp'=>W G rs m t d n (.inReg rest (i+1) (lW i e dn) draw::k) tm' hp' ctr)
    else ss o.dst e.res tm λtm'=>t8 e.wr hp λhp'=>W G rs m t d n (.inReg rest (i+1) dn draw::k) tm' hp' ctr
   FG tm o.guard
    (match o.op with
    | .call f args=>ux tm (f::args) λvals=>match vals with
     | .fn f' cap::vs=>bif isB f' then CallG G hp (f'-BB) (cap++vs) (ctr+i) (o.dst.getD 0) (Ev G ⟨.inReg (o::rest) i dn draw::k,⟨tm,hp,ctr⟩,rs,m⟩ t) ke
      else CallG G hp f' (vs++cap) (ctr+i) (o.dst.getD 0) (Ev G ⟨.inReg (o::rest) i dn draw::k,⟨tm,hp,ctr⟩,rs,m⟩ t) ke
     |_=>False
    | .panic _=>Ev G ⟨.inReg (o::rest) i dn draw::k,⟨tm,hp,ctr⟩,rs,m⟩ t
    |op=>ux tm op.opds λvals=>opC op (ctr+i) (sJ (o.dst.getD 0) 0) vals hp ke)
    (ss o.dst ip tm λtm'=>W G rs m t d n (.inReg rest (i+1) dn draw::k) tm' hp ctr)
theorem iV {G:Nat->Fun}{rs:C7}{m:Nat}{t:Ret}(d:Nat): ∀(n:Nat)(todo:Dd)(tm:CV)(hp:aq)(ctr:Nat),W G rs m t d n todo tm hp ctr->Ev G ⟨todo,⟨tm,hp,ctr⟩,rs,m⟩ t
 |0,todo,tm,hp,ctr,h=>h
 |n+1,todo,tm,hp,ctr,h=>by
  unfold W at h;cases hle:Nat.ble todo.length d with
  |true=>rw[hle] at h;exact h
  |false=>
  rw[hle] at h;dsimp only[cond] at h;cases todo with
  |nil=>exact h
  |cons it k=>
   cases it with
   |code c=>
    cases c with
    |ret=>exact h
    |cond x a b=>
     have h':=I6.1 (show QV tm x _ from h)
     split at h'
     ·rename_i c hx
      exact adC c hx (λe=>iV d n _ _ _ _ (h'.1 e)) (λe=>iV d n _ _ _ _ (h'.2 e))
     ·exact h'.elim
    |exit id=>
     have h':(match pM id k with|some k'=>W G rs m t d n k' tm hp ctr|none=>False):=h
     split at h'
     ·rename_i k' hx
      exact fm (λih=>by simp only[jg,hx]) (iV d n _ _ _ _ h')
     ·exact h'.elim
    |loop b=>exact fm (λ_=>rfl) (show Ev G _ t from h)
    |skip=>exact fm (λ_=>rfl) (iV d n _ _ _ _ h)
    |seq a b=>exact fm (λ_=>rfl) (iV d n _ _ _ _ h)
    |block id b=>exact fm (λ_=>rfl) (iV d n _ _ _ _ h)
    |scope b=>exact fm (λ_=>rfl) (iV d n _ _ _ _ h)
    |region ops draw=>exact fm (λ_=>rfl) (iV d n _ _ _ _ h)
   |inLoop b=>exact h
   |inBlock id=>exact fm (λ_=>rfl) (iV d n _ _ _ _ h)
   |inScope=>exact fm (λ_=>rfl) (iV d n _ _ _ _ h)
   |inReg rest i dn draw=>
    cases rest with
    |nil=>exact Wq (iV d n _ _ _ _ h)
    |cons o rest=>
     have fin: ∀e:Eff,bN tm o.guard=some true->OpE G o (ctr+i) ⟨tm,hp,ctr⟩ e->
       (bif draw then FQ (jI o.after e dn) (OkS o.after e dn) (ss o.dst e.res tm λtm'=>t8 e.wr hp λhp'=>W G rs m t d n (.inReg rest (i+1) (lW i e dn) draw::k) tm' hp' ctr)
        else ss o.dst e.res tm λtm'=>t8 e.wr hp λhp'=>W G rs m t d n (.inReg rest (i+1) dn draw::k) tm' hp' ctr)->
       Ev G ⟨.inReg (o::rest) i dn draw::k,⟨tm,hp,ctr⟩,rs,m⟩ t:=by
      intro e hw he hk
      have put: ∀(k2:CV->aq->Prop),(ss o.dst e.res tm λtm'=>t8 e.wr hp λhp'=>k2 tm' hp')->k2 ((AS.mk tm hp ctr).app o.dst e).tm ((AS.mk tm hp ctr).app o.dst e).hp:=by
       intro k2 h2;unfold ss at h2;cases hd:o.dst with
       |none=>rw[hd] at h2;exact xb.1 h2
       |some d=>rw[hd] at h2;exact xb.1 h2
      have hctr:((AS.mk tm hp ctr).app o.dst e).ctr=ctr:=AS.app_ctr _ _ _;have eta: ∀(A:AS),A.ctr=ctr->(⟨A.tm,A.hp,ctr⟩:AS)=A:=λA hA=>by subst hA;rfl
      cases draw with
      |true=>
       dsimp only[cond] at hk;replace hk:=aa8 hk;refine afI hw he hk.1 ?_;rw[<-eta _ hctr];exact iV d n _ _ _ _ (put (λtm' hp'=>W G rs m t d n (.inReg rest (i+1) (lW i e dn) true::k) tm' hp' ctr) hk.2)
      |false=>
       dsimp only[cond] at hk
       ·refine afG hw he ?_
        rw[<-eta _ hctr];exact iV d n _ _ _ _ (put (λtm' hp'=>W G rs m t d n (.inReg rest (i+1) dn false::k) tm' hp' ctr) hk)
     rcases Xn (show FG tm o.guard _ _ from h) with ⟨hw,h'⟩|⟨hw,h'⟩
     ·obtain ⟨d,op,gd,af⟩:=o
      cases op with
      |call f args=>
       have h2:=sB.1 (show ux tm (f::args) _ from h')
       dsimp only at h2;split at h2
       ·rename_i f' cap vs hv
        cases hb:isB f' with
        |true=>
         simp only[hb,cond_true] at h2;have e1:bV f'=f'-BB:=by unfold bV;rw[hb,cond_true]
         cases h2 with
         |mk c r e q1 q2 q3 q4=>exact fin e hw (.call hv (by rw[e1,hb,cond_true];exact q1) (by rw[e1];exact q2) q3) q4
         |stop h=>exact h
        |false=>
         simp only[hb,cond_false] at h2;have e1:bV f'=f':=by unfold bV;rw[hb,cond_false]
         cases h2 with
         |mk c r e q1 q2 q3 q4=>exact fin e hw (.call hv (by rw[e1,hb,cond_false];exact q1) (by rw[e1];exact q2) q3) q4
         |stop h=>exact h
       ·exact h2.elim
      |panic x=>exact h'
      |_=>
       have h2:=sB.1 h';dsimp only at h2
       ·obtain ⟨e,q1,q2⟩:=aer h2
        exact fin e hw (.op (by intro f args hh;cases hh) q1) q2
     ·refine afH hw ?_
      have:(AS.mk tm hp ctr).put o.dst ip=⟨((AS.mk tm hp ctr).put o.dst ip).tm,hp,ctr⟩:=by cases o.dst<;>rfl
      rw[this];refine iV d n _ _ _ _ ?_;unfold ss at h';cases hd:o.dst with
      |none=>rw[hd] at h';exact h'
      |some d=>rw[hd] at h';exact h'
section
variable {G:Nat->Fun}{a b:ACode}{k:Dd}{A:AS}{rs:C7}{m:Nat}{t:Ret}
theorem W_ok (n:Nat)(todo:Dd)(tm:CV)(hp:aq)(ctr:Nat)(h:W G rs m t 0 n todo tm hp ctr):Ev G ⟨todo,⟨tm,hp,ctr⟩,rs,m⟩ t:=iV 0 n todo tm hp ctr h
theorem Wn (h:Ev G ⟨.code a:: .code b::k,A,rs,m⟩ t):Ev G ⟨.code (.seq a b)::k,A,rs,m⟩ t:=fm (λ_=>rfl) h
end
section
variable {p q:Prop}
theorem ab1 {c:Prop}[Decidable c](h1:c->p)(h2: ¬c->q):condC (decide c) p q:=⟨λh=>h1 (of_decide_eq_true h),λh=>h2 (of_decide_eq_false h)⟩
theorem afT {c:Prop}[Decidable c](h:c)(h1:p):condC (decide c) p q:=ab1 (λ_=>h1) λh2=>absurd h h2
theorem afU {c:Prop}[Decidable c](h: ¬c)(h1:q):condC (decide c) p q:=ab1 (λh2=>absurd h2 h) λ_=>h1
section
variable {a b:Int}
theorem ab2 (h1:a=b->p)(h2: ¬a=b->q):condC (a==b) p q:=⟨λh=>h1 (by simpa using h),λh=>h2 (by simpa using h)⟩
theorem afV (h:a=b)(h1:p):condC (a==b) p q:=ab2 (λ_=>h1) λh2=>absurd h h2
theorem afW (h: ¬a=b)(h1:q):condC (a==b) p q:=ab2 (λh2=>absurd h2 h) λ_=>h1
theorem abY (h1: ¬a=b->p)(h2:a=b->q):condC (a !=b) p q:=⟨λh=>h1 (by simpa using h),λh=>h2 (by simpa using h)⟩
theorem afO (h: ¬a=b)(h1:p):condC (a !=b) p q:=abY (λ_=>h1) λh2=>absurd h2 h
theorem afP (h:a=b)(h1:q):condC (a !=b) p q:=abY (λh2=>absurd h h2) λ_=>h1
end
theorem afQ {b:Bool}(h:condC b p q):condC (b==true) p q:=by cases b<;>exact h
theorem afR {b:Bool}(h:condC b q p):condC (b==false) p q:=by
 cases b with
 |true=>exact ⟨λe=>(by cases e),λ_=>h.1 rfl⟩
 |false=>exact ⟨λ_=>h.2 rfl,λe=>(by cases e)⟩
end
theorem af2 {a b:Nat}(h:a<=b):Nat.ble a b=true:=Nat.ble_eq_true_of_le h
theorem ky {a:Int}(h1: -9223372036854775808<=a)(h2:a<=9223372036854775807):IntKind.wrap .i64 a=a:=by
 have h:IntKind.wrap .i64 a=if a % 18446744073709551616>=9223372036854775808 then a % 18446744073709551616-18446744073709551616 else a % 18446744073709551616:=by
  first|rfl|simp[IntKind.wrap,IntKind.bits,IntKind.signed]
 rw[h];split<;>omega
theorem LJ {a b:Int}(h1: -9223372036854775808<=a+b)(h2:a+b<=9223372036854775807):bp .add (.int .i64 a) (.int .i64 b)=some (.int .i64 (a+b)):=by
 show some (AV.int .i64 (IntKind.wrap .i64 (a+b)))=_
 rw[ky h1 h2]
theorem Lz {a b:Int}(h1: -9223372036854775808<=a-b)(h2:a-b<=9223372036854775807):bp .sub (.int .i64 a) (.int .i64 b)=some (.int .i64 (a-b)):=by
 show some (AV.int .i64 (IntKind.wrap .i64 (a-b)))=_
 rw[ky h1 h2]
theorem LG {a b:Int}(h1: -9223372036854775808<=a*b)(h2:a*b<=9223372036854775807):bp .mul (.int .i64 a) (.int .i64 b)=some (.int .i64 (a*b)):=by
 show some (AV.int .i64 (IntKind.wrap .i64 (a*b)))=_
 rw[ky h1 h2]
theorem abg {x:Opd}{g key:Nat}{k:IntKind}{n:Int}{hg:Nat->C0}(h1: -9223372036854775808<=n)(h2:n<=9223372036854775807):aX (.conv .i64 x) g key [.int k n] hg=some {res:=.int .i64 n}:=by
 show some (Eff.mk (AV.int .i64 (IntKind.wrap .i64 n)) [] [] [])=_
 rw[ky h1 h2]
mutual
theorem AV.ren_congr {φ ψ:Nat->Nat->Tgt}: ∀a:AV,(∀k∈a.keys true,∀g,φ k g=ψ k g)->a.ren φ=a.ren ψ
 | .any,_| .int _ _,_| .bool _,_| .str _,_| .con _,_=>by simp[AV.ren]
 | .agg cs,h=>by simp only[AV.ren];rw[jT cs (by simpa[AV.keys] using h)]
 | .rp cs,h=>by simp only[AV.ren];rw[jT cs (by simpa[AV.keys] using h)]
 | .fn f cs,h=>by simp only[AV.ren];rw[jT cs (by simpa[AV.keys] using h)]
 | .tup cs,h=>by simp only[AV.ren];rw[jT cs (by simpa[AV.keys] using h)]
 | .sl s es,h=>by simp only[AV.ren];rw[uZ es (by simpa[AV.keys] using h)]
 | .ref k g o,h=>by simp only[AV.ren];rw[h k (by simp[AV.keys])]
 | .er k g i o,h=>by simp only[AV.ren];rw[h k (by simp[AV.keys])]
 | .vs k g n,h=>by simp only[AV.ren];rw[h k (by simp[AV.keys])]
 | .vw k g o n,h=>by simp only[AV.ren];rw[h k (by simp[AV.keys])]
 | .mp k g,h=>by simp only[AV.ren];rw[h k (by simp[AV.keys])]
 | .ifc t v,h=>by simp only[AV.ren];rw[AV.ren_congr v (by simpa[AV.keys] using h)]
theorem jT {φ ψ:Nat->Nat->Tgt}: ∀l:CL,(∀k∈b8 true l,∀g,φ k g=ψ k g)->di φ l=di ψ l
 | [],_=>rfl
 |a::r,h=>by
  simp only[b8,B5] at h;simp only[di];rw[AV.ren_congr a λk hk=>h k (.inl hk),jT r λk hk=>h k (.inr hk)]
theorem uZ {φ ψ:Nat->Nat->Tgt}: ∀l:CS,(∀k∈gF true l,∀g,φ k g=ψ k g)->fa φ l=fa ψ l
 | [],_=>rfl
 |a::r,h=>by
  simp only[gF,B5] at h;simp only[fa];rw[jT a λk hk=>h k (.inl hk),uZ r λk hk=>h k (.inr hk)]
end
abbrev Fzs:=List (Nat×Nat×Blk)
def FzOk (hp:aq):Fzs->Prop
 | []=>True
 |(k,g,b)::r=>(dQ hp k λz=>z=some (g,b))/\b.pure=true/\FzOk hp r
def φF:Fzs->Nat->Nat->Tgt
 | [],k,g=>.to k g
 |(k',g',b)::r,k,g=>bif Nat.beq k' k then (bif Nat.beq g' g then .frz b else .dead) else φF r k g
theorem FzOk.at {hp:aq}: ∀{Fz:Fzs},FzOk hp Fz-> ∀x∈Fz,aW hp x.1=some (x.2.1,x.2.2)/\x.2.2.pure=true
 |(k,g,b)::r,⟨h1,h2,h3⟩,x,hx=>by
  rcases AL.1 hx with rfl|hx
  ·exact ⟨bG.1 h1,h2⟩
  ·exact FzOk.at h3 x hx
theorem dW {a b:Nat}(h:a≠b):Nat.beq a b=false:=by
 cases hb:Nat.beq a b with
 |false=>rfl
 |true=>exact absurd (Nat.eq_of_beq_eq_true hb) h
theorem Ud {hp:aq}: ∀{Fz:Fzs},FzOk hp Fz-> ∀k g,k∈Fz.map (·.1)->φF Fz k g=match aW hp k with
  |some (g',b)=>if g'=g then (bif b.pure then .frz b else .dead) else .dead
  |none=>.dead
 |(k',g',b)::r,h,k,g,hk=>by
  by_cases e:k'=k
  ·subst e
   obtain ⟨h1,h2⟩:=h.at (k',g',b) (by simp)
   simp only at h1 h2;rw[h1];simp only[φF,Nat.beq_refl,cond_true,h2]
   by_cases e2:g'=g
   ·subst e2;simp
   ·rw[dW e2,Ac e2];rfl
  ·simp only[φF,dW e,cond_false]
   exact Ud h.2.2 k g (by simpa[Ne.symm e] using hk)
theorem Uc: ∀{Fz:Fzs}{k:Nat},k∉Fz.map (·.1)-> ∀g,φF Fz k g= .to k g
 | [],_,_,_=>rfl
 |(k',g',b)::r,k,hk,g=>by
  simp only[Ao,AL,not_or] at hk;simp only[φF,dW (Ne.symm hk.1),cond_false];exact Uc hk.2 g
theorem OY {hp:aq}{Fz:Fzs}(h:FzOk hp Fz):pm (aW hp) (Fz.map (·.1))=φF Fz:=by
 funext k g
 unfold pm j5
 by_cases hk:k∈Fz.map (·.1)
 ·have hc:(Fz.map (·.1)).contains k=true:=by simpa using hk
  rw[hc,cond_true,cond_true,Ud h k g hk];cases aW hp k<;>rfl
 ·have hc:(Fz.map (·.1)).contains k=false:=by
   cases hq:(Fz.map (·.1)).contains k with
   |false=>rfl
   |true=>exact absurd (by simpa using hq) hk
  rw[hc,cond_false,Uc hk]
def LOk (tm:CV)(φ:Nat->Nat->Tgt):CV->Prop
 | []=>True
 |(t,v)::r=>(mh tm t λu=>u.ren φ=v)/\LOk tm φ r
def KOk (hp:aq)(D:CT)(φ:Nat->Nat->Tgt):aq->Prop
 | []=>True
 |(k,z)::r=>(bif D.contains k then z=none else dQ hp k λy=>match y with
  |none=>z=none
  |some (g,b)=>z=some (g,b.ren φ))/\KOk hp D φ r
theorem LOk.get {tm:CV}{φ:Nat->Nat->Tgt}: ∀{L:CV},LOk tm φ L->bJ (L++jh φ tm)=bJ (jh φ tm)
 | [],_=>rfl
 |(t,v)::r,⟨h1,h2⟩=>by
  funext u
  simp only[B4,bJ,h2.get];split
  ·rename_i e;subst e
   rw[iJ] at h1;rw[jD,h1]
  ·rfl
theorem DH: ∀{D:CT}{h:aq}{k:Nat},aW (bU D++h) k=if D.contains k then none else aW h k
 | [],h,k=>by simp[bU]
 |d::D,h,k=>by
  simp only[bU,B4,aW,DH (D:=D)]
  by_cases e:d=k
  ·subst e;simp
  ·simp[e,Ne.symm e]
theorem KOk.get {hp:aq}{D:CT}{φ:Nat->Nat->Tgt}: ∀{K:aq},KOk hp D φ K->aW (K++(bU D++renH φ hp))=aW (bU D++renH φ hp)
 | [],_=>rfl
 |(k,z)::r,⟨h1,h2⟩=>by
  funext u
  simp only[B4,aW,h2.get];split
  ·rename_i e;subst e
   rw[DH];cases hc:D.contains k with
   |true=>rw[hc] at h1;rw[Ad rfl];exact h1
   |false=>
    rw[hc,cond_false,bG] at h1;rw[Ac (by simp)]
    rw[jM];cases hk:aW hp k with
    |none=>rw[hk] at h1;rw[h1];rfl
    |some y=>obtain ⟨g,b⟩:=y;rw[hk] at h1;rw[h1];rfl
  ·rfl
section
variable {G:Nat->Fun} {rs:C7} {m:Nat} {t:Ret}
theorem Kc {todo:Dd}{tm:CV}{hp:aq}{ctr:Nat}(Fz:Fzs)(L:CV)(K:aq)(hF:FzOk hp Fz)(hL:LOk tm (φF Fz) L)(hK:KOk hp (Fz.map (·.1)) (φF Fz) K)(h: ∀T H,Ev G ⟨todo,⟨L++T,K++H,ctr⟩,rs,m⟩ t)(hd:mg todo=true:=by rfl):Ev G ⟨todo,⟨tm,hp,ctr⟩,rs,m⟩ t:=by
 have q:=h (jh (φF Fz) tm) (bU (Fz.map (·.1))++renH (φF Fz) hp)
 have hs:AS.Same ((AS.mk tm hp ctr).frz (Fz.map (·.1))) ⟨L++jh (φF Fz) tm,K++(bU (Fz.map (·.1))++renH (φF Fz) hp),ctr⟩:=by
  refine ⟨?_,?_,rfl⟩
  ·show bJ (jh (pm (aW hp) _) tm)=_
   rw[OY hF];exact hL.get.symm
  ·show aW (bU _++renH (pm (aW hp) _) hp)=_
   rw[OY hF];exact hK.get.symm
 exact tz hd (Wk0.trans (B:=(AS.mk tm hp ctr).frz (Fz.map (·.1))) ⟨rfl,λC U a w r=>r.frz _⟩ (.of_same hs)) q
end
theorem Blk.ren_pure {φ:Nat->Nat->Tgt}{b:Blk}(h:b.pure=true):b.ren φ=b:=by
 cases b with
 |mp es=>rfl
 |cells cs=>simp only[Blk.ren];rw[gR φ cs h]
 |vec s es=>simp only[Blk.ren];rw[cX φ es h]
section
variable {G:Nat->Fun} {hp:aq} {f:Nat} {args args':CL} {g dst:Nat} {E:Prop} {k:Eff->Prop} {r r':AV} {bs:C1}
end
section
variable {tm:CV}{hp:aq}{ctr:Nat}{rs:C7}
theorem uY {a:AV}(ha:iP ⟨tm,hp,ctr⟩ rs=some a)(h:a.pure=true):eT ⟨tm,hp,ctr⟩ rs 0=some ⟨a,[]⟩:=by
 unfold eT;rw[ha];simp[h]
def φR:Fzs->Nat->Nat->Nat->Tgt
 | [],_,_,_=>.dead
 |(k',g',_)::r,i,k,g=>bif Nat.beq k' k then (bif Nat.beq g' g then .to i 0 else .dead) else φR r (i+1) k g
theorem r5 {hp:aq}: ∀{Rz:Fzs},FzOk hp Rz->bA (aW hp) (Rz.map (·.1))= []
 | [],_=>rfl
 |(k,g,b)::r,h=>by
  obtain ⟨h1,h2⟩:=h.at (k,g,b) (by simp)
  simp only at h1 h2
  have hb:b.keys= []:=by
   cases b with
   |mp es=>rfl
   |cells cs=>exact ix true cs h2
   |vec s es=>exact iK true es h2
  simp only[Ao,bA,h1,hb,r5 h.2.2,BD]
theorem KC: ∀{l:CT},cH l=true->dU l=l
 | [],_=>rfl
 |k::r,h=>by
  simp only[cH,Av,Bool.not_eq_true'] at h;simp only[dU,KC h.2,h.1,cond_false]
theorem UJ {hp:aq}: ∀{Rz:Fzs}(i:Nat),FzOk hp Rz-> ∀k g,k∈Rz.map (·.1)->φR Rz i k g=match aW hp k with
  |some (g',_)=>if g'=g then (match idx k (Rz.map (·.1)) with|some j=>.to (i+j) 0|none=>.dead) else .dead
  |none=>.dead
 |(k',g',b)::r,i,h,k,g,hk=>by
  by_cases e:k'=k
  ·subst e
   obtain ⟨h1,_⟩:=h.at (k',g',b) (by simp)
   simp only at h1;rw[h1];simp only[φR,Nat.beq_refl,cond_true,Ao,idx,if_true,Nat.add_zero]
   by_cases e2:g'=g
   ·subst e2;simp
   ·rw[dW e2,Ac e2];rfl
  ·simp only[φR,dW e,cond_false,Ao,idx,Ac e]
   rw[UJ (i+1) h.2.2 k g (by simpa[Ne.symm e] using hk)]
   cases aW hp k with
   |none=>rfl
   |some x=>
    dsimp only;split
    ·cases idx k (r.map (·.1)) with
     |none=>rfl
     |some j=>simp only[Option.map_some];rw[show i+1+j=i+(j+1) from by omega]
    ·rfl
theorem CI {hp:aq}{φ:Nat->Nat->Tgt}: ∀{Rz:Fzs},FzOk hp Rz->gX hp φ 0 (Rz.map (·.1))=some (Rz.map λx=>(false,x.2.2))
 | [],_=>rfl
 |(k,g,b)::r,h=>by
  obtain ⟨h1,h2⟩:=h.at (k,g,b) (by simp)
  simp only at h1 h2;simp only[Ao,gX,h1,CI h.2.2,Blk.ren_pure h2];simp
theorem QL {a r':AV}{bs:C1}(Rz:Fzs)(ha:iP ⟨tm,hp,ctr⟩ rs=some a)(hF:FzOk hp Rz)(hk:a.keys true=Rz.map (·.1))(hn:cH (Rz.map (·.1))=true)(hne:Rz.map (·.1)≠ [])(hr:a.ren (φR Rz 0)=r')(hb:(Rz.map λx=>(false,x.2.2))=bs):eT ⟨tm,hp,ctr⟩ rs 0=some ⟨r',bs⟩:=by
 unfold eT;rw[ha];dsimp only
 have hp0:a.pure=false:=by
  cases h:a.pure with
  |false=>rfl
  |true=>exact absurd (by rw[<-hk];exact AV.keys_pure true a h) hne
 rw[hp0];simp only[Bool.and_false,cond_false,List.range_zero,By];have hall: ∀l:CT,l.filter (λk=>decide (0<=k))=l:=λl=>List.filter_eq_self.2 (by simp)
 have hN:im hp 0 a=Rz.map (·.1):=by
  unfold im;simp only[List.range_zero,bA,BD,hk,hall,r5 hF];exact KC hn
 have hφ:a.ren (qY hp 0 (Rz.map (·.1)))=r':=by
  rw[<-hr];refine AV.ren_congr a λk hk' g=>?_
  rw[hk] at hk';rw[UJ 0 hF k g hk'];unfold qY;cases aW hp k with
  |none=>rfl
  |some x=>
   obtain ⟨g',b⟩:=x;simp only[A7,Nat.not_lt_zero,if_false];split
   ·cases idx k (Rz.map (·.1))<;>rfl
   ·rfl
 rw[hN,CI hF];simp only[Option.map_some,hφ,hb]
end
section
variable {a:Int}(h1:0<=a)
include h1
theorem Xk (h2:a<=4294967295):IntKind.wrap .u32 a=a:=by
 have h:IntKind.wrap .u32 a=a % 4294967296:=by first|rfl|simp[IntKind.wrap,IntKind.bits,IntKind.signed]
 rw[h];omega
theorem qk (h2:a<=255):IntKind.wrap .u8 a=a:=by
 have h:IntKind.wrap .u8 a=a % 256:=by first|rfl|simp[IntKind.wrap,IntKind.bits,IntKind.signed]
 rw[h];omega
theorem Xg (h2:a<=18446744073709551615):IntKind.wrap .u64 a=a:=by
 have h:IntKind.wrap .u64 a=a % 18446744073709551616:=by first|rfl|simp[IntKind.wrap,IntKind.bits,IntKind.signed]
 rw[h];omega
end
section
variable {x:Opd}{g key:Nat}{k:IntKind}{n:Int}{hg:Nat->C0}
theorem abf (h1:0<=n)(h2:n<=4294967295):aX (.conv .u32 x) g key [.int k n] hg=some {res:=.int .u32 n}:=by
 show some (Eff.mk (AV.int .u32 (IntKind.wrap .u32 n)) [] [] [])=_
 rw[Xk h1 h2]
theorem adI (h1:0<=n)(h2:n<=255):aX (.conv .u8 x) g key [.int k n] hg=some {res:=.int .u8 n}:=by
 show some (Eff.mk (AV.int .u8 (IntKind.wrap .u8 n)) [] [] [])=_
 rw[qk h1 h2]
theorem abe (h1:0<=n)(h2:n<=18446744073709551615):aX (.conv .u64 x) g key [.int k n] hg=some {res:=.int .u64 n}:=by
 show some (Eff.mk (AV.int .u64 (IntKind.wrap .u64 n)) [] [] [])=_
 rw[Xg h1 h2]
theorem LF {a b:Int}(h0:0<=a)(hb:0<b)(h2:a<=9223372036854775807):bp .quo (.int .i64 a) (.int .i64 b)=some (.int .i64 (a/ b)):=by
 show (if b=0 then none else some (AV.int .i64 (IntKind.wrap .i64 (a.tdiv b))))=_
 rw[Ac (by omega),Int.tdiv_eq_ediv_of_nonneg h0]
 have h3:=Int.ediv_nonneg h0 (Int.le_of_lt hb);have h4:=Int.ediv_le_self b h0;rw[ky (by omega) (by omega)]
theorem LC {a b:Int}(h0:0<=a)(hb:0<b):bp .rem (.int .i64 a) (.int .i64 b)=some (.int .i64 (a % b)):=by
 show (if b=0 then none else some (AV.int .i64 (a.tmod b)))=_
 rw[Ac (by omega),Int.tmod_eq_emod_of_nonneg h0]
theorem Mf {a:Int}{hg:Nat->C0}(h1: -9223372036854775807<=a)(h2:a<=9223372036854775807):aX (.un .neg x) g key [.int .i64 a] hg=some {res:=.int .i64 (-a)}:=by
 show some (Eff.mk (AV.int .i64 (IntKind.wrap .i64 (0-a))) [] [] [])=_
 rw[ky (by omega) (by omega)]
 rw[show 0-a= -a from by omega]
end
theorem acB {n bytes:Nat}(h:n* (bytes+1)<=140737488355328):ni n bytes=true:=by simpa[ni] using h
theorem xr {α:Sort _}{p q:α->Prop}{a:α}(h:p a)(k:q a): ∃a,p a/\q a:=⟨a,h,k⟩
theorem ai {a b:Prop}(h:a)(k:b):a/\b:=⟨h,k⟩
theorem aO {a b:Prop}(k:b)(h:a:=by omega):a/\b:=⟨h,k⟩
theorem aB {m n:Nat}{b:Prop}(k:b)(h:m<=n:=by omega):Nat.ble m n=true/\b:=⟨af2 h,k⟩
theorem aR {n m:Nat}{b:Prop}(k:b)(h:n* (m+1)<=140737488355328:=by omega):ni n m=true/\b:=⟨acB h,k⟩
section
variable {p q:Prop}
theorem cD {c:Prop}[Decidable c](h1:p)(h:c:=by omega):condC (decide c) p q:=afT h h1
theorem dD {c:Prop}[Decidable c](h1:q)(h: ¬c:=by omega):condC (decide c) p q:=afU h h1
section
variable {a b:Int}
theorem cB (h1:p)(h:a=b:=by omega):condC (a==b) p q:=afV h h1
theorem dB (h1:q)(h: ¬a=b:=by omega):condC (a==b) p q:=afW h h1
theorem cN (h1:p)(h: ¬a=b:=by omega):condC (a !=b) p q:=afO h h1
theorem dN (h1:q)(h:a=b:=by omega):condC (a !=b) p q:=afP h h1
end
end
section
variable {k:AV->Prop} {a b:Int}
theorem zQ (h:k (.int .i64 (a/ b)))(h0:0<=a:=by omega)(hb:0<b:=by omega)(h2:a<=9223372036854775807:=by omega): ∃v,bp .quo (.int .i64 a) (.int .i64 b)=some v/\k v:=⟨_,LF h0 hb h2,h⟩
theorem zR (h:k (.int .i64 (a % b)))(h0:0<=a:=by omega)(hb:0<b:=by omega): ∃v,bp .rem (.int .i64 a) (.int .i64 b)=some v/\k v:=⟨_,LC h0 hb,h⟩
theorem zS (h:k (.int .i64 (a-b)))(h1: -9223372036854775808<=a-b:=by omega)(h2:a-b<=9223372036854775807:=by omega): ∃v,bp .sub (.int .i64 a) (.int .i64 b)=some v/\k v:=⟨_,Lz h1 h2,h⟩
theorem zA (h:k (.int .i64 (a+b)))(h1: -9223372036854775808<=a+b:=by omega)(h2:a+b<=9223372036854775807:=by omega): ∃v,bp .add (.int .i64 a) (.int .i64 b)=some v/\k v:=⟨_,LJ h1 h2,h⟩
theorem zM (h:k (.int .i64 (a*b)))(h1: -9223372036854775808<=a*b:=by omega)(h2:a*b<=9223372036854775807:=by omega): ∃v,bp .mul (.int .i64 a) (.int .i64 b)=some v/\k v:=⟨_,LG h1 h2,h⟩
end
section
variable {k:Eff->Prop} {a:Int} {x:Opd} {g key:Nat} {hg:Nat->C0} {q:IntKind}
theorem zN (h:k {res:=.int .i64 (-a)})(h1: -9223372036854775807<=a:=by omega)(h2:a<=9223372036854775807:=by omega): ∃e,aX (.un .neg x) g key [.int .i64 a] hg=some e/\k e:=⟨_,Mf h1 h2,h⟩
theorem zC (h:k {res:=.int .i64 a})(h1: -9223372036854775808<=a:=by omega)(h2:a<=9223372036854775807:=by omega): ∃e,aX (.conv .i64 x) g key [.int q a] hg=some e/\k e:=⟨_,abg h1 h2,h⟩
theorem zC4 (h:k {res:=.int .u32 a})(h1:0<=a:=by omega)(h2:a<=4294967295:=by omega): ∃e,aX (.conv .u32 x) g key [.int q a] hg=some e/\k e:=⟨_,abf h1 h2,h⟩
theorem zC1 (h:k {res:=.int .u8 a})(h1:0<=a:=by omega)(h2:a<=255:=by omega): ∃e,aX (.conv .u8 x) g key [.int q a] hg=some e/\k e:=⟨_,adI h1 h2,h⟩
theorem zC8 (h:k {res:=.int .u64 a})(h1:0<=a:=by omega)(h2:a<=18446744073709551615:=by omega): ∃e,aX (.conv .u64 x) g key [.int q a] hg=some e/\k e:=⟨_,abe h1 h2,h⟩
end
def LeP (P:Env->Prop)(a b:AV):Prop:= ∀E x,P E->V E x a->V E x b
def LLe (P:Env->Prop):CL->CL->Prop
 | [],[]=>True
 |a::r,b::s=>LeP P a b/\LLe P r s
 |_,_=>False
def LLLe (P:Env->Prop):CS->CS->Prop
 | [],[]=>True
 |a::r,b::s=>LLe P a b/\LLLe P r s
 |_,_=>False
def BLe (P:Env->Prop):Blk->Blk->Prop
 | .cells cs,.cells cs'=>LLe P cs cs'
 | .vec s es,.vec s' es'=>s=s'/\LLLe P es es'
 | .mp es,.mp es'=>es=es'
 |_,_=>False
def Any:Env->Prop:=λ_=>True
def uJ (key g s:Nat)(E:Env):Prop:=E.used key g/\ ∀p,E.lv key g=some p->p=⟨0,0,0,s,true⟩
section
variable {P:Env->Prop}
theorem LeP.refl (a:AV):LeP P a a:=λ_ _ _ h=>h
theorem LLe.refl: ∀l:CL,LLe P l l
 | []=>trivial
 |a::r=>⟨.refl a,LLe.refl r⟩
theorem LLLe.refl: ∀l:CS,LLLe P l l
 | []=>trivial
 |a::r=>⟨.refl a,LLLe.refl r⟩
theorem BLe.refl: ∀b:Blk,BLe P b b
 | .cells cs=>LLe.refl cs
 | .vec _ es=>⟨rfl,LLLe.refl es⟩
 | .mp _=>rfl
theorem LLe.length: ∀{l m:CL},LLe P l m->m.length=l.length
 | [],[],_=>rfl
 |_::_,_::_,h=>by simp[LLe.length h.2]
 | [],_::_,h=>h.elim
 |_::_,[],h=>h.elim
theorem LLe.at: ∀{l m:CL}(i:Nat),LLe P l m->LeP P (l.getD i .any) (m.getD i .any)
 | [],[],_,_=>.refl _
 |_::_,_::_,0,h=>h.1
 |_::_,_::_,i+1,h=>by simpa using LLe.at i h.2
 | [],_::_,_,h=>h.elim
 |_::_,[],_,h=>h.elim
theorem LLLe.length: ∀{l m:CS},LLLe P l m->m.length=l.length
 | [],[],_=>rfl
 |_::_,_::_,h=>by simp[LLLe.length h.2]
 | [],_::_,h=>h.elim
 |_::_,[],h=>h.elim
theorem LLLe.at: ∀{l m:CS}(i:Nat),LLLe P l m->LLe P (l.getD i []) (m.getD i [])
 | [],[],_,_=>LLe.refl _
 |_::_,_::_,0,h=>h.1
 |_::_,_::_,i+1,h=>by simpa using LLLe.at i h.2
 | [],_::_,_,h=>h.elim
 |_::_,[],_,h=>h.elim
theorem LLLe.map {α:Type}{f g:α->CL}(h: ∀x,LLe P (f x) (g x)): ∀l:List α,LLLe P (l.map f) (l.map g)
 | []=>trivial
 |x::r=>⟨h x,LLLe.map h r⟩
theorem LeP.agg {a b:CL}(h:LLe P a b):LeP P (.agg a) (.agg b):=λE x hp v=>by
 cases v with
 |agg cs _ hl hf hv=>exact .agg cs b (by rw[h.length];exact hl) (λi hi=>hf i (by rwa [h.length] at hi)) λi hi=>h.at i E _ hp (hv i (by rwa [h.length] at hi))
theorem LeP.fn {f:Nat}{a b:CL}(h:LLe P a b):LeP P (.fn f a) (.fn f b):=λE x hp v=>by
 cases v with
 |fn _ cs _ hl hv=>exact .fn f cs b (by rw[h.length];exact hl) λi hi=>h.at i E _ hp (hv i (by rwa [h.length] at hi))
theorem LeP.sl {s:Nat}{a b:CS}(h:LLLe P a b):LeP P (.sl s a) (.sl s b):=λE x hp v=>by
 cases v with
 |sl _ _ ad n c hn hs hc u hb hv=>
  have hl:=h.length;refine .sl s b ad n c (by rw[hl];exact hn) (λi hi=>?_) hc u (λhe=>?_) λi hi j hj=>(h.at i).at j E _ hp (hv i (by rwa [hl] at hi) j hj)
  ·rw[(h.at i).length];exact hs i (by rwa [hl] at hi)
  ·have:a≠ []:=λe=>he (by subst e;exact AJ hl)
   obtain ⟨bk,off,e,q⟩:=hb this;exact ⟨bk,off,e,λi hi j hj=>q i (by rwa [hl] at hi) j hj⟩
theorem LeP.nil (s:Nat):LeP P (.con (.slice none 0 0)) (.sl s []):=λE x _ v=>by
 cases v with
 |con=>exact .sl s [] none 0 0 rfl (by simp) (Be 0) (λ_ _=>undef) (λh=>absurd rfl h) (by simp)
theorem LeP.nilV (key g s:Nat):LeP (uJ key g s) (.con (.slice none 0 0)) (.vs key g 0):=λE x hp v=>by
 cases v with
 |con=>exact .vs _ key g 0 ⟨none,0,rfl⟩ hp.1 λp h=>by rw[hp.2 p h];exact ⟨rfl,Be 0⟩
theorem LeP.any (a:AV):LeP P a .any:=λ_ x _ _=>.any x
end
section
variable {C:Ctx} {U:Nat->Prop} {hp hp':HF} {w:World} {S:Nat->Prop} {β:Nat->Place} {used:Nat->Nat->Prop} {P:Env->Prop}
def HLe (P:Env->Prop)(x y:C0):Prop:=
 match x,y with
 |none,none=>True
 |some (g,b),some (g',b')=>g'=g/\BLe P b b'
 |some _,none=>True
 |none,some _=>False
theorem HLe.refl (x:C0):HLe P x x:=by
 cases x with
 |none=>trivial
 |some x=>exact ⟨rfl,BLe.refl _⟩
theorem CellsOk.le {E:Env}(hP:P E){b o:Nat}{cs cs':CL}(h:CellsOk E w b o cs)(l:LLe P cs cs'):CellsOk E w b o cs':=λj hj=>by
 obtain ⟨u,h1,h2,h3,h4⟩:=h j (by rwa [l.length] at hj)
 exact ⟨u,h1,h2,h3,l.at j E _ hP h4⟩
theorem BlkOk.le {E:Env}(hP:P E){p:Place}{b b':Blk}(h:BlkOk E w p b)(l:BLe P b b'):BlkOk E w p b':=by
 cases b with
 |cells cs=>
  cases b' with
  |vec=>exact l.elim
  |mp=>exact l.elim
  |cells cs'=>exact ⟨h.1,h.2.le hP l⟩
 |vec s es=>
  cases b' with
  |cells=>exact l.elim
  |mp=>exact l.elim
  |vec s' es'=>
   obtain ⟨rfl,l⟩:=l;obtain ⟨h1,h2,h3,h4,h5,h6⟩:=h;have hl:=l.length;refine ⟨h1,λi hi=>by rw[(l.at i).length];exact h2 i (by rwa [hl] at hi),by rw[hl];exact h3,λhn=>?_,h5,λi hi=>(h6 i (by rwa [hl] at hi)).le hP (l.at i)⟩
   obtain ⟨rfl,k⟩:=h4 hn;exact ⟨AJ hl,k⟩
 |mp es=>
  cases b' with
  |cells=>exact l.elim
  |vec=>exact l.elim
  |mp es'=>
   obtain rfl:es=es':=l;exact h
theorem HI.le (h:HI C U hp w S β used)(hP:P (aG C S β used hp w))(l: ∀k,HLe P (hp k) (hp' k)):HI C U hp' w S β used/\(aG C S β used hp w).le (aG C S β used hp' w):=by
 have hlv: ∀k g b,hp' k=some (g,b)-> ∃b',hp k=some (g,b')/\BLe P b' b:=λk g b hk=>by
  have:=l k;rw[hk] at this;cases hq:hp k with
  |none=>rw[hq] at this;exact this.elim
  |some x=>obtain ⟨g',b'⟩:=x;rw[hq] at this;obtain ⟨rfl,h2⟩:=this;exact ⟨b',rfl,h2⟩
 have le:(aG C S β used hp w).le (aG C S β used hp' w):=kJ (λ_ _ _ a b=>⟨a,b⟩) (λ_ _ u=>u) λk g b hk _=>by
  obtain ⟨b',h1,_⟩:=hlv k g b hk;exact ⟨⟨b',h1⟩,rfl⟩
 refine ⟨⟨h.kept,h.s,h.s0,h.keep,h.us,λk g b hk=>?_,λk k' x x' h1 h2=>?_,λk b hk=>?_⟩,le⟩
 ·obtain ⟨b',h1,h2⟩:=hlv k g b hk
  obtain ⟨q1,q2,q3⟩:=h.at_ k g b' h1;exact ⟨q1,q2,(q3.le hP h2).mono le λ_=>.refl _ _⟩
 ·obtain ⟨g1,b1⟩:=x
  obtain ⟨g2,b2⟩:=x';obtain ⟨c1,r1,_⟩:=hlv k g1 b1 h1;obtain ⟨c2,r2,_⟩:=hlv k' g2 b2 h2;exact h.inj k k' _ _ r1 r2
 ·obtain ⟨b',h1,h2⟩:=hlv k 0 b hk
  exact h.pl k b' h1
theorem RelC.le {F F':FSt}{a:Act}(h:RelC C U F a w S β used)(hP:P (aG C S β used F.hp w))(lt: ∀t,LeP P (F.tm t) (F'.tm t))(lh: ∀k,HLe P (F.hp k) (F'.hp k)):RelC C U F' a w S β used:=by
 obtain ⟨h1,h2⟩:=h.hi.le hP lh;exact ⟨h1,h.size,h.defers,λt=>(lt t _ _ hP (h.tm t)).mono h2⟩
end
theorem Wk0.of_le {A B:AS}(hc:B.ctr=A.ctr)(lt: ∀t,LeP Any (bJ A.tm t) (bJ B.tm t))(lh: ∀k,HLe Any (aW A.hp k) (aW B.hp k)):Wk0 A B:=
 ⟨hc,λC U a w ⟨S,β,used,h⟩=>⟨S,β,used,h.le (P:=Any) trivial lt lh⟩⟩
theorem Wk.of_nil {A B:AS}(key s:Nat)(hc:B.ctr=A.ctr+1)(lt: ∀t,LeP (uJ key A.ctr s) (bJ A.tm t) (bJ B.tm t))(lh: ∀k,HLe (uJ key A.ctr s) (up (aW A.hp) key (some (A.ctr,.vec s [])) k) (aW B.hp k)):Wk A B:=by
 rintro C a w hpos ⟨S,β,used,h⟩
 obtain ⟨S',β',used',h1,h2,h3,h4⟩:=h.hi.newNil (g:=A.ctr) (λhlt=>Nat.lt_irrefl _ hlt) (by omega) key s
 have h5:RelC C (λx=>x<A.ctr∨x=A.ctr) ⟨bJ A.tm,up (aW A.hp) key (some (A.ctr,.vec s []))⟩ a w S' β' used':=⟨h1,h.size,h.defers,λt=>(h.tm t).mono h2⟩
 have h6:=h5.le (F':=B.fs) (P:=uJ key A.ctr s) ⟨h4,λp hp=>by
  obtain ⟨b,e1,e2⟩:=fF hp;rw[e2,h3]⟩ lt lh
 exact ⟨S',β',used',h6.hi.wide (λx hx=>by rw[hc];rcases hx with hx|hx<;>omega),h6.size,h6.defers,h6.tm⟩
def TOk (P:Env->Prop)(tm:CV):CV->Prop
 | []=>True
 |(t,v)::r=>(mh tm t λu=>LeP P u v)/\TOk P tm r
def HOk (P:Env->Prop)(hp:aq):aq->Prop
 | []=>True
 |(k,z)::r=>(dQ hp k λy=>HLe P y z)/\HOk P hp r
theorem TOk.get {P:Env->Prop}{tm:CV}: ∀{L:CV},TOk P tm L-> ∀t,LeP P (bJ tm t) (bJ (L++tm) t)
 | [],_,t=>.refl _
 |(u,v)::r,⟨h1,h2⟩,t=>by
  simp only[B4,bJ];split
  ·rename_i e;subst e;exact iJ.1 h1
  ·exact h2.get t
theorem HOk.get {P:Env->Prop}{hp:aq}: ∀{K:aq},HOk P hp K-> ∀k,HLe P (aW hp k) (aW (K++hp) k)
 | [],_,k=>.refl _
 |(u,v)::r,⟨h1,h2⟩,k=>by
  simp only[B4,aW];split
  ·rename_i e;subst e;exact bG.1 h1
  ·exact h2.get k
theorem adq (hp:aq)(key:Nat)(z:C0):aW ((key,z)::hp)=up (aW hp) key z:=by
 funext k
 simp only[aW,up]
 by_cases h:key=k
 ·subst h;simp
 ·rw[Ac h,Ac (Ne.symm h)]
section
variable {G:Nat->Fun} {todo:Dd} {tm:CV} {hp:aq} {ctr:Nat} {rs:C7} {m:Nat} {t:Ret}
theorem db (L:CV)(K:aq)(hL:TOk Any tm L)(hK:HOk Any hp K)(h:Ev G ⟨todo,⟨L++tm,K++hp,ctr⟩,rs,m⟩ t)(hd:mg todo=true:=by rfl):Ev G ⟨todo,⟨tm,hp,ctr⟩,rs,m⟩ t:=
 tz (B:=⟨L++tm,K++hp,ctr⟩) hd (.of_le rfl hL.get hK.get) h
theorem en (key s:Nat)(L:CV)(K:aq)(hL:TOk (uJ key ctr s) tm L)(hK:HOk (uJ key ctr s) ((key,some (ctr,.vec s []))::hp) K)(h:Ev G ⟨todo,⟨L++tm,K++(key,some (ctr,.vec s []))::hp,ctr+1⟩,rs,m⟩ t)(hd:ow todo=true:=by rfl):Ev G ⟨todo,⟨tm,hp,ctr⟩,rs,m⟩ t:=
 .weak (A':=⟨L++tm,K++(key,some (ctr,.vec s []))::hp,ctr+1⟩) hd (Nat.le_succ _) (.of_nil key s rfl hL.get λk=>by rw[<-adq];exact hK.get k) h
end
theorem Gj (l:CL)(t:Nat):bJ (tms 0 l) t=l.getD t .any:=by rw[zm,Ad (Nat.zero_le t),Nat.sub_zero]
section
variable {G:Nat->Fun}{f:Nat}{F:AFunc}{args:CL}{bs:Dn}{t:Ret}(n:Nat)(hf:G f= .code F)
include hf
theorem JE {args args':CL}{bs:Dn}{t:Ret}(h:ab G f args' bs t)(hl:LLe Any args args'):ab G f args bs t:=by
 unfold ab at h⊢;rw[hf] at h⊢;refine ⟨by rw[<-hl.length];exact h.1,?_⟩
 refine tz (B:=(F.start args' bs).A) rfl (.of_le rfl (λu=>?_) λk=>HLe.refl _) h.2
 show LeP Any (bJ (tms 0 args) u) (bJ (tms 0 args') u)
 rw[Gj,Gj];exact hl.at u
theorem tj (hl:args.length=F.np)(h:run G n (F.start args bs)=some t):ab G f args bs t:=by
 unfold ab;rw[hf];exact ⟨hl,Wo n h⟩
end
section
variable {G:Nat->Fun} {k:Dd} {tm:CV} {hp:aq} {ctr:Nat} {rs:C7} {m:Nat} {t:Ret}
section
variable {a:AV}(Rz:Fzs)(ha:iP ⟨tm,hp,ctr⟩ (eZ rs)=some a)
include ha
section
variable (h:a.pure=true)(he:Ret.mk a []=t)
include h he
theorem adw:Ev G ⟨.code .ret::k,⟨tm,hp,ctr⟩,rs,0⟩ t:=by
 subst he;exact yD (uY ha h)
theorem adB:Ev G ⟨[],⟨tm,hp,ctr⟩,rs,0⟩ t:=by
 subst he;exact Kd (uY ha h)
end
theorem adu (hF:FzOk hp Rz)(hk:a.keys true=Rz.map (·.1))(hn:cH (Rz.map (·.1))=true)(hne:Rz.map (·.1)≠ [])(he:Ret.mk (a.ren (φR Rz 0)) (Rz.map λx=>(false,x.2.2))=t):
  Ev G ⟨.code .ret::k,⟨tm,hp,ctr⟩,rs,0⟩ t:=by
 subst he;exact yD (QL Rz ha hF hk hn hne rfl rfl)
end
end
section
variable {p q:Prop}
section
variable {b:Bool}
theorem cV (h1:p)(h:b=true:=by assumption):condC b p q:=⟨λ_=>h1,λe=>(by rw[h] at e;cases e)⟩
theorem dV (h1:q)(h:b=false:=by assumption):condC b p q:=⟨λe=>(by rw[h] at e;cases e),λ_=>h1⟩
theorem Pj (h:condC b q p):condC (!b) p q:=by
 cases b with
 |true=>exact abZ (h.1 rfl)
 |false=>exact abX (h.2 rfl)
theorem afM (h:condC b p q):condC (xor false b) p q:=by cases b<;>exact h
theorem afL (h:condC b q p):condC (xor true b) p q:=by cases b<;>exact Pj (b:=_) h
theorem adJ {a b:Bool}(h:condC a (condC b p q) q):condC (a&&b) p q:=by
 cases a with
 |true=>exact h.1 rfl
 |false=>exact ⟨λe=>(by cases e),λ_=>h.2 rfl⟩
theorem afN {a b:Bool}(h:condC a p (condC b p q)):condC (a||b) p q:=by
 cases a with
 |true=>exact ⟨λ_=>h.1 rfl,λe=>(by cases e)⟩
 |false=>exact h.2 rfl
theorem ab0 {α:Type}[BEq α][LawfulBEq α]{a b:α}(h1:a=b->p)(h2: ¬a=b->q):condC (a==b) p q:=⟨λh=>h1 (by simpa using h),λh=>h2 (by simpa using h)⟩
theorem cE {α:Type}[BEq α][LawfulBEq α]{a b:α}(h1:p)(h:a=b:=by first|rfl|assumption):condC (a==b) p q:=ab0 (λ_=>h1) λh2=>absurd h h2
theorem dE {α:Type}[BEq α][LawfulBEq α]{a b:α}(h1:q)(h: ¬a=b:=by assumption):condC (a==b) p q:=ab0 (λh2=>absurd h2 h) λ_=>h1
theorem afS (h:b=false)(h1:q):condC b p q:=⟨λe=>(by rw[h] at e;cases e),λ_=>h1⟩
end
end
def jF (tm:CV)(hp:aq):C7->(CL->Prop)->Prop
 | [],k=>k []
 | .dfd _::_,_=>False
 | .t n::r,k=>mh tm n λv=>jF tm hp r λl=>k (v::l)
 | .cell a sz::r,k=>mh tm a λp=>atC hp p λcs _=>FK sz cs λv=>jF tm hp r λl=>k (v::l)
theorem zy {tm:CV}{hp:aq}{ctr:Nat}: ∀{rs:C7}{k:CL->Prop},jF tm hp rs k-> ∃l,p5 ⟨tm,hp,ctr⟩ rs=some l/\k l
 | [],k,h=>⟨[],rfl,h⟩
 | .dfd _::_,_,h=>(show False from h).elim
 | .t n::r,k,h=>by
  obtain ⟨l,h1,h2⟩:=zy (ctr:=ctr) (rs:=r) (iJ.1 (show mh tm n _ from h))
  exact ⟨_,by simp only[p5,uq,h1],h2⟩
 | .cell a sz::r,k,h=>by
  obtain ⟨cs,rd,h1,h2⟩:=W5 (iJ.1 (show mh tm a _ from h))
  obtain ⟨v,h3,h4⟩:=IL h2;obtain ⟨l,h5,h6⟩:=zy (ctr:=ctr) (rs:=r) h4;exact ⟨_,by simp only[p5,uq,h1,h3,h5],h6⟩
def ji (k:AV->Prop)(l:CL):Prop:=
 match l with
 | [a]=>k a
 |l=>k (.tup l)
theorem kH {tm:CV}{hp:aq}{ctr:Nat}{rs:C7}{k:AV->Prop}(h:jF tm hp rs (ji k)): ∃a,iP ⟨tm,hp,ctr⟩ rs=some a/\k a:=by
 obtain ⟨l,h1,h2⟩:=zy (ctr:=ctr) h;unfold ji at h2;unfold iP;rw[h1];split at h2
 ·exact ⟨_,rfl,h2⟩
 ·rename_i hne
  refine ⟨_,?_,h2⟩;split
  ·rename_i a heq;exact absurd (Ai heq) (hne a)
  ·rename_i heq;rw[Ai heq]
  ·rename_i heq;cases heq
section
variable {G:Nat->Fun} {k:Dd} {tm:CV} {hp:aq} {ctr:Nat} {rs:C7} {m:Nat} {t:Ret}
section
variable (h:jF tm hp (eZ rs) (ji λa=>a.pure=true/\Ret.mk a []=t))
include h
theorem Wu:Ev G ⟨.code .ret::k,⟨tm,hp,ctr⟩,rs,0⟩ t:=by
 obtain ⟨a,h1,h2,h3⟩:=kH (ctr:=ctr) h;exact adw h1 h2 h3
theorem Pc:Ev G ⟨[],⟨tm,hp,ctr⟩,rs,0⟩ t:=by
 obtain ⟨a,h1,h2,h3⟩:=kH (ctr:=ctr) h;exact adB h1 h2 h3
end
theorem adA (Rz:Fzs)(h:jF tm hp (eZ rs) (ji λa=>FzOk hp Rz/\a.keys true=Rz.map (·.1)/\cH (Rz.map (·.1))=true/\Rz.map (·.1)≠ []/\Ret.mk (a.ren (φR Rz 0)) (Rz.map λx=>(false,x.2.2))=t)):Ev G ⟨.code .ret::k,⟨tm,hp,ctr⟩,rs,0⟩ t:=by
 obtain ⟨a,h1,h2,h3,h4,h5,h6⟩:=kH (ctr:=ctr) h;exact adu Rz h1 h2 h3 h4 h5 h6
end
theorem ns: ∀l:CF,aX.bytesOf (byteCells l)=some l
 | []=>rfl
 |b::r=>by
  have h:=ns r;simp only[byteCells,Ao] at h⊢;simp[aX.bytesOf,h]
section
variable {k:CF->CT->Prop}{hp:aq}{l:CF}
theorem zBs (h:k l []):B2s hp (.sl 1 (byteCells l)) k:=⟨_,_,l,rfl,ns l,h⟩
theorem zBn (h:k [] []):B2s hp (.con (.slice none 0 0)) k:=⟨_,_,[],rfl,rfl,h⟩
theorem zBv {key g n:Nat}(hF:dQ hp key λz=>z=some (g,.vec 1 (byteCells l)))(hn:n=l.length)(h:k l [key]):B2s hp (.vs key g n) k:=by
 subst hn;refine ⟨byteCells l,[key],l,?_,ns l,h⟩;have hl:(byteCells l).length=l.length:=by simp[byteCells]
 simp only[cK,bG.1 hF,hl,if_true,Be];rw[<-hl,List.take_length]
end
end Go.AM
