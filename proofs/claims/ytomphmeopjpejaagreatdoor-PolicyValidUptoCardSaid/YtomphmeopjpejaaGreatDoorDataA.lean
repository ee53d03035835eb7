/- What the functions of this program give, on the abstract machine. -/
import Derived.Test.YtomphmeopjpejaaGreatDoorLibraryA
import Derived.Test.YtomphmeopjpejaaGreatDoorMachineC
set_option linter.unusedVariables false
set_option linter.unusedSimpArgs false
namespace Go.AM.IR
set_option linter.unusedSectionVars false
set_option linter.unusedVariables false
inductive Rx where
 |mk (kind lo hi:Int) (kids:List Rx)
namespace Rx
def kind:Rx->Int| .mk k _ _ _=>k
def kids:Rx->List Rx| .mk _ _ _ l=>l
end Rx
def dv (k lo hi:Int)(n:Nat):Bool:=
 if k=1 then decide (0<=lo/\lo<=hi/\hi<=4294967295/\n=0)
 else (decide (lo=0/\hi=0))&&(if k=0∨k=2 then decide (n=0) else if k=3 then decide (2<=n) else if k=4 then decide (n≠1) else if 5<=k/\k<=7 then decide (n=1) else false)
mutual
def chk:Rx->Nat->Nat->Option Nat
 | .mk k lo hi kids,lv,c=>if 16<lv then none else if 64<=c then none else if dv k lo hi kids.length then jX kids (lv+1) (c+1) else none
def jX:List Rx->Nat->Nat->Option Nat
 | [],_,c=>some c
 |x::r,lv,c=>match chk x lv c with
  |some c'=>jX r lv c'
  |none=>none
end
def fH (k:Int)(x:Rx):Bool:=
 if x.kind=3 then decide (k≠4) else if x.kind=4 then !x.kids.isEmpty else decide (5<=x.kind/\x.kind<=7)&&decide (5<=k/\k<=7)
def fa (k:Int)(x:Rx)(p:List UInt8):List UInt8:=if fH k x then 40::(p++[41]) else p
def dU (c:UInt8):List (List UInt8)->List UInt8
 | []=>[]
 | [x]=>x
 |x::r=>x++c::dU c r
def gY (dec:Int->List UInt8)(k lo hi:Int)(ps:List (List UInt8)):List UInt8:=
 if k=0 then [40,41] else if k=1 then (if lo=hi then dec lo else 91::(dec lo++45::(dec hi++[93]))) else if k=2 then [46] else if k=3 then dU 32 ps else
 if k=4 then (if ps.isEmpty then [33] else dU 124 ps) else if k=5 then ps.headD []++[42] else if k=6 then ps.headD []++[43] else ps.headD []++[63]
mutual
def pat (dec:Int->List UInt8):Rx->List UInt8
 | .mk k lo hi kids=>gY dec k lo hi (bH dec k kids)
def bH (dec:Int->List UInt8)(k:Int):List Rx->List (List UInt8)
 | []=>[]
 |x::r=>fa k x (pat dec x)::bH dec k r
end
abbrev PR:=Nat->Option (Rx×Nat)
abbrev NR:=Nat->Option (Int×Nat)
def chr (s:List UInt8)(n:Nat)(c:UInt8):Bool:=s[n]? ==some c
section
variable (s:List UInt8) (num:NR)
def dh (alt:PR):PR:=λn=>
 if chr s n 46 then some (.mk 2 0 0 [],n+1) else
 if chr s n 33 then some (.mk 4 0 0 [],n+1) else
 if chr s n 40 then (if chr s (n+1) 41 then some (.mk 0 0 0 [],n+2) else match alt (n+1) with
  |some (x,m)=>if chr s m 41 then some (x,m+1) else none
  |none=>none) else
 if chr s n 91 then match num (n+1) with
  |some (a,m)=>if chr s m 45 then (match num (m+1) with
   |some (b,k)=>if chr s k 93 then some (.mk 1 a b [],k+1) else none
   |none=>none) else none
  |none=>none else
 match num n with
 |some (a,m)=>some (.mk 1 a a [],m)
 |none=>none
def gh (atom:PR):PR:=λn=>match atom n with
 |some (x,m)=>if chr s m 42 then some (.mk 5 0 0 [x],m+1) else if chr s m 43 then some (.mk 6 0 0 [x],m+1) else if chr s m 63 then some (.mk 7 0 0 [x],m+1) else some (x,m)
 |none=>none
def gF (item:PR)(c:UInt8):Nat->List Rx->Nat->Option (List Rx×Nat)
 |0,_,_=>none
 |f+1,acc,n=>match item n with
  |some (x,m)=>if chr s m c then gF item c f (acc++[x]) (m+1) else some (acc++[x],m)
  |none=>none
def jH (k:Int):Option (List Rx×Nat)->Option (Rx×Nat)
 |some ([x],m)=>some (x,m)
 |some (l,m)=>some (.mk k 0 0 l,m)
 |none=>none
def m6 (item:PR):PR:=λn=>jH 3 (gF s item 32 (s.length+1) [] n)
def di:Nat->PR
 |0=>λ_=>none
 |k+1=>λn=>jH 4 (gF s (m6 s (gh s (dh s num (di k)))) 124 (s.length+1) [] n)
end
def isD (c:UInt8):Bool:=decide (48<=c.toNat/\c.toNat<=57)
def rZ (t:List UInt8):Prop:= ∀c,t.head?=some c->isD c=false
def stopI (t:List UInt8):Prop:= ∀c,t.head?=some c->isD c=false/\c≠42/\c≠43/\c≠63
def stopS (t:List UInt8):Prop:= ∀c,t.head?=some c->isD c=false/\c≠42/\c≠43/\c≠63/\c≠32
def stopA (t:List UInt8):Prop:= ∀c,t.head?=some c->isD c=false/\c≠42/\c≠43/\c≠63/\c≠32/\c≠124
theorem stopI.d {t} (h:stopI t):rZ t:=λc e=>(h c e).1
theorem stopS.i {t} (h:stopS t):stopI t:=λc e=>⟨(h c e).1,(h c e).2.1,(h c e).2.2.1,(h c e).2.2.2.1⟩
theorem stopA.s {t} (h:stopA t):stopS t:=λc e=>⟨(h c e).1,(h c e).2.1,(h c e).2.2.1,(h c e).2.2.2.1,(h c e).2.2.2.2.1⟩
theorem yb {s t:List UInt8}{n:Nat}(h:s.drop n=t)(i:Nat):s[n+i]? =t[i]? :=by rw[<-h,List.getElem?_drop]
theorem ci {s t:List UInt8}{n:Nat}(h:s.drop n=t)(c:UInt8):chr s n c=(t.head?==some c):=by
 have:=yb h 0;unfold chr;rw[Nat.add_zero] at this;rw[this];cases t<;>rfl
theorem dG {s a t:List UInt8}{n:Nat}(h:s.drop n=a++t):s.drop (n+a.length)=t:=by
 rw[<-List.drop_drop,h,List.drop_left]
theorem jk {s t:List UInt8}{n:Nat}{c:UInt8}(h:s.drop n=c::t):s.drop (n+1)=t:=by
 rw[<-List.drop_drop,h];rfl
def Gu (s:List UInt8)(num:NR)(dec:Int->List UInt8):Prop:= ∀(n:Nat)(a:Int)(t:List UInt8),0<=a->a<=4294967295->s.drop n=dec a++t->rZ t->num n=some (a,n+(dec a).length)
def Mi (dec:Int->List UInt8):Prop:= ∀a:Int,0<=a->a<=4294967295-> ∃c r,dec a=c::r/\isD c=true
theorem aaO {c:UInt8}(h:isD c=true){d:UInt8}(hd:isD d=false):(c==d)=false:=by
 rw[beq_eq_false_iff_ne];rintro rfl;rw[h] at hd;cases hd
section
variable {s:List UInt8} {num:NR} {dec:Int->List UInt8} (hnum:Gu s num dec) (hdec:Mi dec)
include hnum hdec
theorem U6 {alt:PR}{n:Nat}{a:Int}{t:List UInt8}(h0:0<=a)(h1:a<=4294967295)(h:s.drop n=dec a++t)(ht:rZ t):dh s num alt n=some (.mk 1 a a [],n+(dec a).length):=by
 obtain ⟨c,r,e,hc⟩:=hdec a h0 h1
 have hh: ∀d,isD d=false->chr s n d=false:=λd hd=>by
  rw[ci h,e];simpa using aaO hc hd
 unfold dh;rw[hh 46 rfl,hh 33 rfl,hh 40 rfl,hh 91 rfl,hnum n a t h0 h1 h ht];simp
theorem UZ {alt:PR}{n:Nat}{a b:Int}{t:List UInt8}(h0:0<=a)(h1:a<=4294967295)(h2:0<=b)(h3:b<=4294967295)(h:s.drop n=91::(dec a++45::(dec b++93::t))):dh s num alt n=some (.mk 1 a b [],n+(91::(dec a++45::(dec b++[93]))).length):=by
 have e1:=jk h;have e2:=dG e1;have e3:=jk e2;have e4:=dG e3;have c1:chr s n 46=false:=by rw[ci h];rfl
 have c2:chr s n 33=false:=by rw[ci h];rfl
 have c3:chr s n 40=false:=by rw[ci h];rfl
 have c4:chr s n 91=true:=by rw[ci h];rfl
 have c5:chr s (n+1+(dec a).length) 45=true:=by rw[ci e2];rfl
 have c6:chr s (n+1+(dec a).length+1+(dec b).length) 93=true:=by rw[ci e4];rfl
 have n1:=hnum _ _ _ h0 h1 e1 (by intro c hc;simp at hc;subst hc;rfl)
 have n2:=hnum _ _ _ h2 h3 e3 (by intro c hc;simp at hc;subst hc;rfl)
 simp[dh,c1,c2,c3,c4,c5,c6,n1,n2];omega
end
theorem U5 {s:List UInt8}{num:NR}{alt:PR}{n:Nat}{x:Rx}{p t:List UInt8}(h:s.drop n=40::(p++41::t))(hp:p≠ [])(hp1:p.head?≠some 41)(ha:alt (n+1)=some (x,n+1+p.length)):dh s num alt n=some (x,n+(40::(p++[41])).length):=by
 have e1:=jk h;have e2:=dG e1;have c1:chr s n 46=false:=by rw[ci h];rfl
 have c2:chr s n 33=false:=by rw[ci h];rfl
 have c3:chr s n 40=true:=by rw[ci h];rfl
 have c4:chr s (n+1) 41=false:=by
  rw[ci e1];have:(p++41::t).head?=p.head?:=by cases p with|nil=>exact absurd rfl hp|cons a b=>rfl
  rw[this];simpa using hp1
 have c5:chr s (n+1+p.length) 41=true:=by rw[ci e2];rfl
 simp[dh,c1,c2,c3,c4,c5,ha];omega
theorem rf {s:List UInt8}{atom:PR}{n m:Nat}{x:Rx}{t:List UInt8}(h:atom n=some (x,m))(hd:s.drop m=t)(ht:stopI t):gh s atom n=some (x,m):=by
 unfold gh;rw[h];simp only[];rw[ci hd,ci hd,ci hd];cases hh:t.head? with
 |none=>simp
 |some c=>obtain ⟨_,h1,h2,h3⟩:=ht c hh;simp[h1,h2,h3]
theorem Ov {s:List UInt8}{atom:PR}{n m:Nat}{x:Rx}{t:List UInt8}{k:Int}{c:UInt8}(h:atom n=some (x,m))(hd:s.drop m=c::t)(hk:(k=5/\c=42)∨(k=6/\c=43)∨(k=7/\c=63)):gh s atom n=some (.mk k 0 0 [x],m+1):=by
 unfold gh;rw[h];simp only[];rw[ci hd,ci hd,ci hd];rcases hk with ⟨rfl,rfl⟩|⟨rfl,rfl⟩|⟨rfl,rfl⟩<;>rfl
inductive All2 {α β:Type}(R:α->β->Prop):List α->List β->Prop
 |nil:All2 R [] []
 |cons {a b l m}:R a b->All2 R l m->All2 R (a::l) (b::m)
def Mf (item:PR)(s:List UInt8)(c:UInt8)(stop:List UInt8->Prop)(x:Rx)(p:List UInt8):Prop:= ∀(n:Nat)(t:List UInt8),s.drop n=p++t->stop t∨t.head?=some c->item n=some (x,n+p.length)
theorem j6 (c:UInt8)(p q:List UInt8)(qs:List (List UInt8)):dU c (p::q::qs)=p++c::dU c (q::qs):=rfl
theorem BX {s:List UInt8}{item:PR}{c:UInt8}{stop:List UInt8->Prop}(hst: ∀t,stop t->t.head?≠some c):
  ∀(xs:List Rx)(ps:List (List UInt8))(acc:List Rx)(n f:Nat)(t:List UInt8),xs≠ []->All2 (Mf item s c stop) xs ps->s.drop n=dU c ps++t->stop t->xs.length<=f->gF s item c f acc n=some (acc++xs,n+(dU c ps).length)
 | [],_,_,_,_,_,h,_,_,_,_=>absurd rfl h
 | [x],ps,acc,n,f,t,_,hP,hd,ht,hf=>by
  cases hP with
  |cons h1 h2=>
  rename_i p ps;cases h2;cases f with
  |zero=>simp at hf
  |succ f=>
  rw[dU] at hd⊢;rw[gF,h1 n t hd (.inl ht)];simp only[];rw[ci (dG hd),if_neg (by simpa using hst t ht)]
 |x::y::r,ps,acc,n,f,t,_,hP,hd,ht,hf=>by
  cases hP with
  |cons h1 h2=>
  rename_i p ps;cases f with
  |zero=>simp at hf
  |succ f=>
  cases ps with
  |nil=>cases h2
  |cons q qs=>
  rw[j6,List.append_assoc,List.cons_append] at hd;rw[gF,h1 n _ hd (.inr rfl)];simp only[];have hd2:=dG hd;rw[ci hd2,if_pos (by simp)]
  rw[BX hst (y::r) (q::qs) (acc++[x]) _ f t (by simp) h2 (jk hd2) ht (by simpa using hf)]
  rw[j6,List.length_append,List.length_cons,List.append_assoc]
  congr 2;omega
def lvl (x:Rx):Nat:=if 5<=x.kind/\x.kind<=7 then 1 else if x.kind=3 then 2 else if x.kind=4/\x.kids≠ [] then 3 else 0
structure Good (s:List UInt8)(num:NR)(dec:Int->List UInt8)(k:Nat)(x:Rx):Prop where
 hd: ∃a r,pat dec x=a::r/\a≠41
 at_:lvl x=0-> ∀(n:Nat)(t:List UInt8),s.drop n=pat dec x++t->rZ t->dh s num (di s num k) n=some (x,n+(pat dec x).length)
 it:lvl x<=1-> ∀(n:Nat)(t:List UInt8),s.drop n=pat dec x++t->stopI t->gh s (dh s num (di s num k)) n=some (x,n+(pat dec x).length)
 sq:lvl x<=2-> ∀(n:Nat)(t:List UInt8),s.drop n=pat dec x++t->stopS t->m6 s (gh s (dh s num (di s num k))) n=some (x,n+(pat dec x).length)
 al: ∀(n:Nat)(t:List UInt8),s.drop n=pat dec x++t->stopA t->di s num (k+1) n=some (x,n+(pat dec x).length)
theorem kI {s t:List UInt8}{m:Nat}{c:UInt8}(hd:s.drop m=t)(h: ∀b,t.head?=some b->b≠c):chr s m c=false:=by
 rw[ci hd];cases hh:t.head? with
 |none=>rfl
 |some b=>simpa using h b hh
theorem mI {s:List UInt8}{item:PR}{c:UInt8}{n m:Nat}{x:Rx}{t:List UInt8}{k:Int}(h:item n=some (x,m))(hc:chr s m c=false):jH k (gF s item c (s.length+1) [] n)=some (x,m):=by
 rw[gF,h];simp[hc,jH]
section
variable {s:List UInt8} {num:NR} {dec:Int->List UInt8} {k:Nat} {x:Rx}
theorem acm (h: ∃a r,pat dec x=a::r/\a≠41)(hl:lvl x=3)(ha: ∀(n:Nat) (t:List UInt8),s.drop n=pat dec x++t->stopA t->di s num (k+1) n=some (x,n+(pat dec x).length)):Good s num dec k x:=
 ⟨h,λe=>by omega,λe=>by omega,λe=>by omega,ha⟩
theorem acn (h: ∃a r,pat dec x=a::r/\a≠41)(hl:2<=lvl x)(ha: ∀(n:Nat) (t:List UInt8),s.drop n=pat dec x++t->stopS t->m6 s (gh s (dh s num (di s num k))) n=some (x,n+(pat dec x).length)):Good s num dec k x:=
 ⟨h,λe=>by omega,λe=>by omega,λ_=>ha,λn t hd ht=>by
  rw[di];exact mI (t:=t) (ha n t hd ht.s) (kI (dG hd) λb e=>(ht b e).2.2.2.2.2)⟩
theorem aco (h: ∃a r,pat dec x=a::r/\a≠41)(hl:1<=lvl x)(ha: ∀(n:Nat) (t:List UInt8),s.drop n=pat dec x++t->stopI t->gh s (dh s num (di s num k)) n=some (x,n+(pat dec x).length)):Good s num dec k x:=by
 have hs: ∀(n:Nat)(t:List UInt8),s.drop n=pat dec x++t->stopS t->m6 s (gh s (dh s num (di s num k))) n=some (x,n+(pat dec x).length):=λn t hd ht=>by
  unfold m6;exact mI (t:=t) (ha n t hd ht.i) (kI (dG hd) λb e=>(ht b e).2.2.2.2)
 exact ⟨h,λe=>by omega,λ_=>ha,λ_=>hs,λn t hd ht=>by
  rw[di];exact mI (t:=t) (hs n t hd ht.s) (kI (dG hd) λb e=>(ht b e).2.2.2.2.2)⟩
theorem vI (h: ∃a r,pat dec x=a::r/\a≠41)(ha: ∀(n:Nat) (t:List UInt8),s.drop n=pat dec x++t->rZ t->dh s num (di s num k) n=some (x,n+(pat dec x).length)):Good s num dec k x:=by
 have hi: ∀(n:Nat)(t:List UInt8),s.drop n=pat dec x++t->stopI t->gh s (dh s num (di s num k)) n=some (x,n+(pat dec x).length):=λn t hd ht=>rf (ha n t hd ht.d) (dG hd) ht
 have hs: ∀(n:Nat)(t:List UInt8),s.drop n=pat dec x++t->stopS t->m6 s (gh s (dh s num (di s num k))) n=some (x,n+(pat dec x).length):=λn t hd ht=>by
  unfold m6;exact mI (t:=t) (hi n t hd ht.i) (kI (dG hd) λb e=>(ht b e).2.2.2.2)
 exact ⟨h,λ_=>ha,λ_=>hi,λ_=>hs,λn t hd ht=>by
  rw[di];exact mI (t:=t) (hs n t hd ht.s) (kI (dG hd) λb e=>(ht b e).2.2.2.2.2)⟩
theorem tR {p:Int}(h:Good s num dec k x)(he:fH p x=true){n:Nat}{t:List UInt8}(hd:s.drop n=fa p x (pat dec x)++t):dh s num (di s num (k+1)) n=some (x,n+(fa p x (pat dec x)).length):=by
 unfold fa at hd⊢;rw[if_pos he] at hd⊢;obtain ⟨a,r,e,ha⟩:=h.hd;rw[List.cons_append,List.append_assoc] at hd;refine U5 (t:=t) (by simpa using hd) (by rw[e];simp) (by rw[e];simpa using ha) ?_
 exact h.al _ (41::t) (by simpa using jk hd) (λc hc=>by simp at hc;subst hc;decide)
theorem DJ {p:Int}(h: ∃a r,pat dec x=a::r/\a≠41): ∃a r,fa p x (pat dec x)=a::r/\a≠41:=by
 unfold fa;split
 ·exact ⟨40,_,rfl,by decide⟩
 ·exact h
end
theorem act {p:Int}{x:Rx}(h:fH p x=false)(hp:5<=p/\p<=7):lvl x=0:=by
 unfold fH at h;unfold lvl;generalize x.kind=k at h⊢;generalize x.kids=l at h⊢
 by_cases h3:k=3
 ·rw[if_pos h3] at h;simp at h;omega
 ·rw[if_neg h3] at h
  by_cases h4:k=4
  ·rw[if_pos h4] at h
   rw[if_neg (by omega),if_neg h3,if_neg (by rintro ⟨_,q⟩;cases l<;>simp_all)]
  ·rw[if_neg h4] at h
   have: ¬(5<=k/\k<=7):=by intro q;simp[q,hp] at h
   rw[if_neg this,if_neg h3,if_neg (λq=>h4 q.1)]
theorem acr {x:Rx}(h:fH 3 x=false):lvl x<=1:=by
 unfold fH at h;unfold lvl;generalize x.kind=k at h⊢;generalize x.kids=l at h⊢
 by_cases h3:k=3
 ·rw[if_pos h3] at h;simp at h
 ·rw[if_neg h3] at h
  by_cases h4:k=4
  ·rw[if_pos h4] at h
   rw[if_neg (by omega),if_neg h3,if_neg (by rintro ⟨_,q⟩;cases l<;>simp_all)];omega
  ·split
   ·omega
   ·rw[if_neg (λq=>h4 q.1)];omega
theorem acq {x:Rx}(h:fH 4 x=false):lvl x<=2:=by
 unfold fH at h;unfold lvl;generalize x.kind=k at h⊢;generalize x.kids=l at h⊢
 by_cases h3:k=3
 ·rw[if_neg (by omega),if_pos h3];omega
 ·rw[if_neg h3] at h
  by_cases h4:k=4
  ·rw[if_pos h4] at h
   rw[if_neg (by omega),if_neg h3,if_neg (by rintro ⟨_,q⟩;cases l<;>simp_all)];omega
  ·split
   ·omega
   ·rw[if_neg (λq=>h4 q.1)];omega
theorem yX {c:UInt8}: ∀ps:List (List UInt8),ps.length<=(dU c ps).length+1
 | []=>by simp
 | [p]=>by simp
 |p::q::qs=>by
  have:=yX (c:=c) (q::qs);rw[j6];simp at*;omega
theorem tD {dec:Int->List UInt8}{p:Int}: ∀xs:List Rx,(bH dec p xs).length=xs.length
 | []=>by rw[bH];rfl
 |x::r=>by rw[bH,List.length_cons,List.length_cons,tD r]
theorem Jz {s t:List UInt8}{n:Nat}{c:UInt8}{dec:Int->List UInt8}{p:Int}{xs:List Rx}(h:s.drop n=dU c (bH dec p xs)++t):xs.length<=s.length+1:=by
 have h1:=yX (c:=c) (bH dec p xs);have h2:(s.drop n).length=(dU c (bH dec p xs)++t).length:=by rw[h]
 rw[tD] at h1;simp at h2;omega
theorem pu {s:List UInt8}{dec:Int->List UInt8}{item:PR}{c:UInt8}{stop:List UInt8->Prop}{p:Int}: ∀{xs:List Rx},(∀x∈xs,Mf item s c stop x (fa p x (pat dec x)))->All2 (Mf item s c stop) xs (bH dec p xs)
 | [],_=>by rw[bH];exact .nil
 |x::r,h=>by rw[bH];exact .cons (h x (by simp)) (pu λy hy=>h y (by simp[hy]))
theorem vu {dec:Int->List UInt8}{c:UInt8}{p:Int}{x:Rx}{r:List Rx}(h: ∃a r,pat dec x=a::r/\a≠41): ∃a q,dU c (bH dec p (x::r))=a::q/\a≠41:=by
 obtain ⟨a,q,e,ha⟩:=DJ (p:=p) h;rw[bH];cases hr:bH dec p r with
 |nil=>exact ⟨a,q,by rw[dU,e],ha⟩
 |cons y ys=>exact ⟨a,q++c::dU c (y::ys),by rw[j6,e];rfl,ha⟩
section
variable {s:List UInt8} {num:NR} {dec:Int->List UInt8} (hnum:Gu s num dec) (hdec:Mi dec)
include hnum hdec
theorem UE {a:Int}(h:0<=a)(h1:a<=4294967295): ∃c r,dec a=c::r/\c≠41:=by
 obtain ⟨c,r,e,hc⟩:=hdec a h h1;refine ⟨c,r,e,?_⟩
 rintro rfl;revert hc;decide
theorem ri {k:Nat}{p:Int}{y:Rx}{b:UInt8}(hp:(p=5/\b=42)∨(p=6/\b=43)∨(p=7/\b=63))(hy:Good s num dec k y)(hy':fH p y=true-> ∃k',k=k'+1/\Good s num dec k' y):Good s num dec k (.mk p 0 0 [y]):=by
 have hp5:5<=p/\p<=7:=by omega
 have hpat:pat dec (.mk p 0 0 [y])=fa p y (pat dec y)++[b]:=by
  rw[pat,bH,bH,gY,if_neg (by omega),if_neg (by omega),if_neg (by omega),if_neg (by omega),if_neg (by omega)]
  rcases hp with ⟨rfl,rfl⟩|⟨rfl,rfl⟩|⟨rfl,rfl⟩<;>simp
 obtain ⟨a,q,e,ha⟩:=DJ (p:=p) hy.hd;refine aco ⟨a,q++[b],by rw[hpat,e];rfl,ha⟩ (by unfold lvl;rw[if_pos (by exact hp5)];omega) λn t hd ht=>?_
 rw[hpat,List.append_assoc] at hd;rw[hpat,List.length_append];refine Ov (t:=t) ?_ (by simpa using dG hd) hp
 cases he:fH p y with
 |true=>
  obtain ⟨k',rfl,hk⟩:=hy' he;exact tR hk he hd
 |false=>
  unfold fa at hd⊢;rw[if_neg (by rw[he];simp)] at hd⊢
  exact hy.at_ (act he hp5) n _ hd (by
   intro c hc;simp at hc;subst hc
   rcases hp with ⟨_,rfl⟩|⟨_,rfl⟩|⟨_,rfl⟩<;>rfl)
theorem SU {k:Nat}{xs:List Rx}(hx:2<=xs.length)(h: ∀y∈xs,Good s num dec k y/\(fH 3 y=true-> ∃k',k=k'+1/\Good s num dec k' y)):Good s num dec k (.mk 3 0 0 xs):=by
 have hpat:pat dec (.mk 3 0 0 xs)=dU 32 (bH dec 3 xs):=by
  rw[pat,gY,if_neg (by omega),if_neg (by omega),if_neg (by omega),if_pos rfl]
 obtain ⟨x,y,r,rfl⟩: ∃x y r,xs=x::y::r:=by
  match xs,hx with
  |x::y::r,_=>exact ⟨x,y,r,rfl⟩
 obtain ⟨a,q,e,ha⟩:=vu (c:=32) (p:=3) (r:=y::r) (h x (by simp)).1.hd
 refine acn ⟨a,q,by rw[hpat,e],ha⟩ (by unfold lvl;simp[Rx.kind]) λn t hd ht=>?_
 rw[hpat] at hd⊢;unfold m6;rw[BX (stop:=stopS) (λt h e=>(h _ e).2.2.2.2 rfl) (x::y::r) (bH dec 3 (x::y::r)) [] n _ t (by simp) ?_ hd ht (Jz hd)]
 ·rfl
 refine pu λz hz n t hd ht=>?_
 have hsi:stopI t:=by
  rcases ht with ht|ht
  ·exact ht.i
  ·intro c hc;rw[ht] at hc;simp at hc;subst hc;decide
 obtain ⟨g,g'⟩:=h z hz;cases he:fH 3 z with
 |true=>
  obtain ⟨k',rfl,hk⟩:=g' he;exact rf (tR hk he hd) (dG hd) hsi
 |false=>
  unfold fa at hd⊢;rw[if_neg (by rw[he];simp)] at hd⊢
  exact g.it (acr he) n t hd hsi
theorem SV {k:Nat}{xs:List Rx}(hx:2<=xs.length)(h: ∀y∈xs,Good s num dec k y/\(fH 4 y=true-> ∃k',k=k'+1/\Good s num dec k' y)):Good s num dec k (.mk 4 0 0 xs):=by
 obtain ⟨x,y,r,rfl⟩: ∃x y r,xs=x::y::r:=by
  match xs,hx with
  |x::y::r,_=>exact ⟨x,y,r,rfl⟩
 have hpat:pat dec (.mk 4 0 0 (x::y::r))=dU 124 (bH dec 4 (x::y::r)):=by
  rw[pat,gY,if_neg (by omega),if_neg (by omega),if_neg (by omega),if_neg (by omega),if_pos rfl,if_neg (by rw[bH];simp)]
 obtain ⟨a,q,e,ha⟩:=vu (c:=124) (p:=4) (r:=y::r) (h x (by simp)).1.hd
 refine acm ⟨a,q,by rw[hpat,e],ha⟩ (by unfold lvl;simp[Rx.kind,Rx.kids]) λn t hd ht=>?_
 rw[hpat] at hd⊢;rw[di];show jH 4 (gF _ _ _ _ _ _)=_
 rw[BX (stop:=stopA) (λt h e=>(h _ e).2.2.2.2.2 rfl) (x::y::r) (bH dec 4 (x::y::r)) [] n _ t (by simp) ?_ hd ht (Jz hd)]
 ·rfl
 refine pu λz hz n t hd ht=>?_
 have hss:stopS t:=by
  rcases ht with ht|ht
  ·exact ht.s
  ·intro c hc;rw[ht] at hc;simp at hc;subst hc;decide
 obtain ⟨g,g'⟩:=h z hz;cases he:fH 4 z with
 |true=>
  obtain ⟨k',rfl,hk⟩:=g' he;have h1:=rf (tR hk he hd) (dG hd) hss.i;unfold m6;exact mI (t:=t) h1 (kI (dG hd) λb e=>(hss b e).2.2.2.2)
 |false=>
  unfold fa at hd⊢;rw[if_neg (by rw[he];simp)] at hd⊢
  exact g.sq (acq he) n t hd hss
end
theorem FC {x:Rx}{lv c c':Nat}(h:chk x lv c=some c'):lv<=16/\c<64:=by
 obtain ⟨k,lo,hi,l⟩:=x;rw[chk] at h;split at h
 ·cases h
 ·split at h
  ·cases h
  ·omega
section
variable {s:List UInt8} {num:NR} {dec:Int->List UInt8} (hnum:Gu s num dec) (hdec:Mi dec)
include hnum hdec
mutual
theorem FE: ∀(x:Rx){lv c c' k:Nat},chk x lv c=some c'->16<=k+lv->Good s num dec k x
 | .mk p lo hi l,lv,c,c',k,h,hk=>by
  have hlv:=(FC h).1;have hlc:=(FC h).2;rw[chk,if_neg (by omega),if_neg (by omega)] at h
  split at h
  ·rename_i hn
   have hl: ∀y∈l,Good s num dec k y/\(fH p y=true-> ∃k',k=k'+1/\Good s num dec k' y):=λy hy=>by
    have h1:=rC l h (k:=k) (by omega) y hy
    refine ⟨h1.1,λ_=>?_⟩
    have:=h1.2;have h2:=rC l h (k:=k-1) (by omega) y hy
    exact ⟨k-1,by omega,h2.1⟩
   unfold dv at hn;split at hn
   ·rename_i hp
    subst hp;have hn:=of_decide_eq_true hn;obtain ⟨q1,q2,q3,q4⟩:=hn;obtain rfl:=List.eq_nil_of_length_eq_zero q4
    by_cases e:lo=hi
    ·subst e
     have hpat:pat dec (.mk 1 lo lo [])=dec lo:=by rw[pat,gY,if_neg (by omega),if_pos rfl,if_pos rfl]
     exact vI (by rw[hpat];exact UE hnum hdec q1 q3) λn t hd ht=>by rw[hpat] at hd⊢;exact U6 hnum hdec q1 q3 hd ht
    ·have hpat:pat dec (.mk 1 lo hi [])=91::(dec lo++45::(dec hi++[93])):=by rw[pat,gY,if_neg (by omega),if_pos rfl,if_neg e]
     exact vI (by rw[hpat];exact ⟨91,_,rfl,by decide⟩) λn t hd ht=>by rw[hpat] at hd⊢;exact UZ hnum hdec q1 (by omega) (by omega) q3 (by simpa using hd)
   ·rename_i hp
    rw[Bool.and_eq_true] at hn;obtain ⟨hn0,hn⟩:=hn;obtain ⟨rfl,rfl⟩:=of_decide_eq_true hn0;split at hn
    ·rename_i hp2
     obtain rfl:=List.eq_nil_of_length_eq_zero (of_decide_eq_true hn);rcases hp2 with rfl|rfl
     ·have hpat:pat dec (.mk 0 0 0 [])= [40,41]:=by rw[pat,gY,if_pos rfl]
      refine vI (by rw[hpat];exact ⟨40,_,rfl,by decide⟩) λn t hd ht=>?_
      rw[hpat] at hd⊢;have c1:chr s n 46=false:=by rw[ci hd];rfl
      have c2:chr s n 33=false:=by rw[ci hd];rfl
      have c3:chr s n 40=true:=by rw[ci hd];rfl
      have c4:chr s (n+1) 41=true:=by rw[ci (jk hd)];rfl
      simp[dh,c1,c2,c3,c4]
     ·have hpat:pat dec (.mk 2 0 0 [])= [46]:=by rw[pat,gY,if_neg (by omega),if_neg (by omega),if_pos rfl]
      refine vI (by rw[hpat];exact ⟨46,_,rfl,by decide⟩) λn t hd ht=>?_
      rw[hpat] at hd⊢;have c1:chr s n 46=true:=by rw[ci hd];rfl
      simp[dh,c1]
    ·split at hn
     ·rename_i hp3
      subst hp3;exact SU hnum hdec (of_decide_eq_true hn) hl
     ·split at hn
      ·rename_i hp4
       subst hp4;have hn:=of_decide_eq_true hn
       by_cases hl0:l= []
       ·subst hl0
        have hpat:pat dec (.mk 4 0 0 [])= [33]:=by rw[pat,gY,if_neg (by omega),if_neg (by omega),if_neg (by omega),if_neg (by omega),if_pos rfl,bH];rfl
        refine vI (by rw[hpat];exact ⟨33,_,rfl,by decide⟩) λn t hd ht=>?_
        rw[hpat] at hd⊢;have c1:chr s n 46=false:=by rw[ci hd];rfl
        have c2:chr s n 33=true:=by rw[ci hd];rfl
        simp[dh,c1,c2]
       ·exact SV hnum hdec (by have:l.length≠0:=λq=>hl0 (List.eq_nil_of_length_eq_zero q);omega) hl
      ·split at hn
       ·rename_i hp5
        have hn:=of_decide_eq_true hn
        obtain ⟨y,rfl⟩: ∃y,l= [y]:=by
         match l,hn with
         | [y],_=>exact ⟨y,rfl⟩
        obtain ⟨g,g'⟩:=hl y (by simp)
        rcases (by omega:p=5∨p=6∨p=7) with rfl|rfl|rfl
        ·exact ri hnum hdec (b:=42) (by simp) g g'
        ·exact ri hnum hdec (b:=43) (by simp) g g'
        ·exact ri hnum hdec (b:=63) (by simp) g g'
       ·cases hn
  ·cases h
theorem rC: ∀(l:List Rx){lv c c' k:Nat},jX l lv c=some c'->16<=k+lv-> ∀y∈l,Good s num dec k y/\lv<=16
 | [],_,_,_,_,_,_,y,hy=>by simp at hy
 |x::r,lv,c,c',k,h,hk,y,hy=>by
  rw[jX] at h;split at h
  ·rename_i c1 h1
   have g:=FE x h1 hk;rcases List.mem_cons.1 hy with hxy|hy
   ·rw[hxy];exact ⟨g,(FC h1).1⟩
   ·exact rC r h hk y hy
  ·cases h
end
theorem Gn {x:Rx}{c' K:Nat}(h:chk x 1 0=some c')(hK:16<=K)(hs:s=pat dec x):di s num K 0=some (x,s.length):=by
 have g:=FE hnum hdec x h (k:=K-1) (by omega)
 have:=g.al 0 [] (by simpa using hs) (λc e=>by simp at e)
 rw[show K-1+1=K by omega] at this
 rw[this,<-hs];simp
end
end Go.AM.IR
namespace Go.AM.IR
mutual
def Rx.enc:Rx->List AV
 | .mk k lo hi l=>[.int .i64 k,.int .i64 lo,.int .i64 hi,.sl 4 (Rx.encL l)]
def Rx.encL:List Rx->List (List AV)
 | []=>[]
 |x::r=>Rx.enc x::Rx.encL r
end
theorem uk: ∀l:List Rx,Rx.encL l=l.map Rx.enc
 | []=>by rw[Rx.encL];rfl
 |x::r=>by rw[Rx.encL,uk r];rfl
theorem bx (k lo hi:Int)(l:List Rx):(Rx.mk k lo hi l).enc= [.int .i64 k,.int .i64 lo,.int .i64 hi,.sl 4 (l.map Rx.enc)]:=by rw[Rx.enc,uk]
mutual
theorem gr: ∀x:Rx,aH x.enc=true
 | .mk k lo hi l=>by rw[Rx.enc];simp[aH,AV.pure,tp l]
theorem tp: ∀l:List Rx,aa (Rx.encL l)=true
 | []=>by rw[Rx.encL];rfl
 |x::r=>by rw[Rx.encL];simp[aa,gr x,tp r]
end
attribute [simp] gr
@[simp] theorem ac0 (l:List Rx):aa (l.map Rx.enc)=true:=by rw[<-uk];exact tp l
def rx0:Rx:=.mk 0 0 0 []
def gp (c:UInt8):Int:=(c.toNat:Int)-48
def dk (a:Int)(l:List UInt8):Int:=l.foldl (λa c=>10*a+gp c) a
def rnL (s:List UInt8)(fr:Nat):Nat->Int->Nat->Option (Int×Nat)
 |0,_,_=>none
 |f+1,a,n=>match s[n]? with
  |some c=>if isD c then (if 4294967295<10*a+gp c then none else rnL s fr f (10*a+gp c) (n+1)) else if fr<n then some (a,n) else none
  |none=>if fr<n then some (a,n) else none
def wQ (s:List UInt8):NR:=λn=>rnL s n (s.length+1) 0 n
def fG (s:List UInt8):NR:=λn=>
 let t:=(s.drop n).takeWhile isD
 if t= [] then none else if 1<t.length/\t.head?=some 48 then none else if 4294967295<dk 0 t then none else some (dk 0 t,n+t.length)
def fu (s:List UInt8):Option Rx:=match di s (wQ s) 32 0 with
 |some (x,m)=>if m=s.length/\(chk x 1 0).isSome=true/\pat aw x=s then some x else none
 |none=>none
def m9 (s:List UInt8):Option Rx:=match di s (fG s) 33 0 with
 |some (x,_)=>if (chk x 1 0).isSome=true/\pat aw x=s then some x else none
 |none=>none
def pf:Option Rx->Ret
 |none=>⟨.tup [.agg rx0.enc,.int .i64 2],[]⟩
 |some x=>⟨.tup [.agg x.enc,.int .i64 0],[]⟩
end Go.AM.IR
namespace Go.AM.IR
set_option linter.unusedVariables false
theorem yc {c:UInt8}(h:isD c=true):0<=gp c/\gp c<=9:=by
 unfold isD at h;have h:=of_decide_eq_true h;unfold gp;omega
theorem DI {u:Nat}(h:u<10):isD (UInt8.ofNat (48+u))=true/\gp (UInt8.ofNat (48+u))=u:=by
 have e:(UInt8.ofNat (48+u)).toNat=48+u:=by rw[UInt8.toNat_ofNat'];omega
 unfold isD gp;rw[e];constructor
 ·simp;omega
 ·omega
theorem Ql (a:Int)(l m:List UInt8):dk a (l++m)=dk (dk a l) m:=by simp[dk]
theorem wG: ∀(l:List UInt8)(a:Int),0<=a->(∀c∈l,isD c=true)->a<=dk a l
 | [],a,_,_=>by simp[dk]
 |c::r,a,h,hd=>by
  have h1:=yc (hd c (by simp))
  have h2:=wG r (10*a+gp c) (by omega) (λx hx=>hd x (by simp[hx]))
  show a<=dk (10*a+gp c) r
  omega
theorem JI: ∀(f u:Nat),u<10^ (f+1)->(∀c∈cu f u,isD c=true)/\dk 0 (cu f u)=u/\(cu f u≠ [])/\(1<=u->(cu f u).head?≠some 48)/\(u<10->(cu f u).length=1)
 |0,u,h=>by
  have hu:u<10:=by simpa using h
  obtain ⟨h1,h2⟩:=DI hu;simp only[cu];generalize UInt8.ofNat (48+u)=b at*;refine ⟨by simp[h1],by simp[dk,h2],by simp,λh1u q=>?_,λ_=>by simp⟩
  simp only[List.head?_cons,Option.some.injEq] at q;rw[q] at h2;have:gp 48=0:=rfl;omega
 |f+1,u,h=>by
  by_cases hu:u<10
  ·obtain ⟨h1,h2⟩:=DI hu
   simp only[cu,hu,if_true];generalize UInt8.ofNat (48+u)=b at*;refine ⟨by simp[h1],by simp[dk,h2],by simp,λh1u q=>?_,λ_=>by simp⟩
   simp only[List.head?_cons,Option.some.injEq] at q;rw[q] at h2;have:gp 48=0:=rfl;omega
  ·obtain ⟨q1,q2,q3,q4,q5⟩:=JI f (u/ 10) (by rw[Nat.pow_succ] at h;omega)
   obtain ⟨h1,h2⟩:=DI (u:=u % 10) (by omega)
   have e:cu (f+1) u=cu f (u/ 10)++[UInt8.ofNat (48+u % 10)]:=by simp[cu,hu]
   refine ⟨?_,?_,by rw[e];simp,λ_=>?_,λh=>absurd h hu⟩
   ·rw[e];intro c hc
    rcases Cb.1 hc with hc|hc
    ·exact q1 c hc
    ·simp only[Cc] at hc;rw[hc];exact h1
   ·rw[e,Ql,q2]
    show 10* ((u/ 10:Nat):Int)+gp _=u
    rw[h2];omega
   ·rw[e]
    have:=q4 (by omega)
    cases hd:cu f (u/ 10) with
    |nil=>exact absurd hd q3
    |cons c r=>rw[hd] at this;simpa using this
theorem xw {a:Int}(h0:0<=a)(h1:a<=4294967295):(∀c∈aw a,isD c=true)/\dk 0 (aw a)=a/\aw a≠ []/\ ¬(1<(aw a).length/\(aw a).head?=some 48):=by
 unfold aw;rw[Ac (by omega)]
 obtain ⟨q1,q2,q3,q4,q5⟩:=JI 19 a.toNat (by omega)
 refine ⟨q1,by rw[q2];omega,q3,?_⟩
 rintro ⟨l,hh⟩
 by_cases hz:1<=a.toNat
 ·exact q4 hz hh
 ·rw[q5 (by omega)] at l;omega
theorem zL:Mi aw:=λa h0 h1=>by
 obtain ⟨q1,_,q3,_⟩:=xw h0 h1;cases hd:aw a with
 |nil=>exact absurd hd q3
 |cons c r=>exact ⟨c,r,rfl,q1 c (by rw[hd];simp)⟩
theorem Vp (s:List UInt8)(fr:Nat): ∀(ds:List UInt8)(f:Nat)(a:Int)(n:Nat)(t:List UInt8),(∀c∈ds,isD c=true)->0<=a->dk a ds<=4294967295->s.drop n=ds++t->rZ t->ds.length<f->fr<n+ds.length->rnL s fr f a n=some (dk a ds,n+ds.length)
 | [],f,a,n,t,hd,h0,hv,e,ht,hf,hfr=>by
  cases f with
  |zero=>simp at hf
  |succ f=>
  have h1:=yb e 0;rw[Nat.add_zero] at h1;rw[rnL,h1];simp only[By];cases hh:t[0]? with
  |none=>simp at hfr;simp[dk,hfr]
  |some c=>
   have:isD c=false:=ht c (by cases t with|nil=>simp at hh|cons a b=>simpa using hh)
   simp at hfr;simp[this,dk,hfr]
 |c::r,f,a,n,t,hd,h0,hv,e,ht,hf,hfr=>by
  cases f with
  |zero=>simp at hf
  |succ f=>
  have h1:=yb e 0;rw[Nat.add_zero] at h1;have hc:=hd c (by simp)
  have h2:=yc hc;have h3:dk a (c::r)=dk (10*a+gp c) r:=rfl;have h4:=wG r (10*a+gp c) (by omega) (λx hx=>hd x (by simp[hx]))
  rw[rnL,h1];simp only[B4,List.getElem?_cons_zero,hc,if_true];rw[Ac (by omega),Vp s fr r f (10*a+gp c) (n+1) t (λx hx=>hd x (by simp[hx])) (by omega) (by omega) (jk (by simpa using e)) ht (by simpa using hf) (by simp at hfr;omega)]
  rw[h3];simp;omega
theorem NW (s:List UInt8):Gu s (wQ s) aw:=λn a t h0 h1 e ht=>by
 obtain ⟨q1,q2,q3,_⟩:=xw h0 h1;have hl:(s.drop n).length=(aw a++t).length:=by rw[e]
 have hp:0<(aw a).length:=List.length_pos_iff.2 q3;simp at hl;unfold wQ;rw[Vp s n (aw a) (s.length+1) 0 n t q1 (by omega) (by rw[q2];exact h1) e ht (by omega) (by omega),q2]
theorem qH {p:UInt8->Bool}: ∀{l t:List UInt8},(∀c∈l,p c=true)->(∀c,t.head?=some c->p c=false)->(l++t).takeWhile p=l
 | [],t,_,ht=>by
  cases t with
  |nil=>rfl
  |cons c r=>simp[ht c rfl]
 |c::r,t,hl,ht=>by
  rw[B4,List.takeWhile_cons,Ad (hl c (by simp)),qH (λx hx=>hl x (by simp[hx])) ht]
theorem NX (s:List UInt8):Gu s (fG s) aw:=λn a t h0 h1 e ht=>by
 obtain ⟨q1,q2,q3,q4⟩:=xw h0 h1;unfold fG;rw[e,qH q1 ht];dsimp only;rw[Ac q3,Ac q4,q2,Ac (by omega)]
theorem Ji (s:List UInt8):m9 s=fu s:=by
 unfold m9 fu;have hb1: ∀x c',chk x 1 0=some c'->s=pat aw x->di s (wQ s) 32 0=some (x,s.length):=λx c' h hs=>Gn (NW s) zL h (by omega) hs
 have hb2: ∀x c',chk x 1 0=some c'->s=pat aw x->di s (fG s) 33 0=some (x,s.length):=λx c' h hs=>Gn (NX s) zL h (by omega) hs
 cases h1:di s (fG s) 33 0 with
 |none=>
  cases h2:di s (wQ s) 32 0 with
  |none=>rfl
  |some y=>
   obtain ⟨y,m⟩:=y;dsimp only;rw[Ac]
   rintro ⟨_,q2,q3⟩
   obtain ⟨c',hc⟩:=Bo.1 q2;rw[hb2 y c' hc q3.symm] at h1;cases h1
 |some x=>
  obtain ⟨x,k⟩:=x;dsimp only
  by_cases hq:(chk x 1 0).isSome=true/\pat aw x=s
  ·rw[Ad hq]
   obtain ⟨c',hc⟩:=Bo.1 hq.1;rw[hb1 x c' hc hq.2.symm];simp[hq.1,hq.2]
  ·rw[Ac hq]
   cases h2:di s (wQ s) 32 0 with
   |none=>rfl
   |some y=>
    obtain ⟨y,m⟩:=y;dsimp only;rw[Ac]
    rintro ⟨_,q2,q3⟩
    obtain ⟨c',hc⟩:=Bo.1 q2;rw[hb2 y c' hc q3.symm] at h1;injection h1 with h1
    injection h1 with h1 _
    subst h1;exact hq ⟨q2,q3⟩
end Go.AM.IR
namespace Go.AM.IR
def Fh (x:Int):List AV:=[.int .i64 x]
def uj (x:Int):List AV:=[.int .u32 x]
structure Seg where
 kind:Int
 as:List Int
def Seg.enc (s:Seg):List AV:=[.int .i64 s.kind,.sl 1 (s.as.map Fh)]
structure TLV where
 kind:Int
 value:List UInt8
def TLV.enc (s:TLV):List AV:=[.int .i64 s.kind,.sl 1 (byteCells s.value)]
structure Attrs where
 origin:Int
 path:List Seg
 nextHop:Int
 hasMED:Bool
 med:Int
 hasPref:Bool
 pref:Int
 atomic:Bool
 hasAggr:Bool
 aggrAS:Int
 aggrAddr:Int
 comms:List Int
 hasOrig:Bool
 orig:Int
 clusters:List Int
 unknown:List TLV
def Attrs.enc (a:Attrs):List AV:=[.int .i64 a.origin,.sl 2 (a.path.map Seg.enc),.int .u32 a.nextHop,.bool a.hasMED,.int .i64 a.med,.bool a.hasPref,.int .i64 a.pref,.bool a.atomic,.bool a.hasAggr,.int .i64 a.aggrAS,.int .u32 a.aggrAddr,
 .sl 1 (a.comms.map uj),.bool a.hasOrig,.int .u32 a.orig,.sl 1 (a.clusters.map uj),.sl 2 (a.unknown.map TLV.enc)]
structure PVRoute where
 paddr:Int
 plen:Int
 attrs:Attrs
 peer:Int
 kind:Int
 router:Int
 stale:Bool
def PVRoute.enc (r:PVRoute):List AV:=[.int .u32 r.paddr,.int .i64 r.plen,
 .int .i64 r.attrs.origin,.sl 2 (r.attrs.path.map Seg.enc),.int .u32 r.attrs.nextHop,.bool r.attrs.hasMED,.int .i64 r.attrs.med,.bool r.attrs.hasPref,.int .i64 r.attrs.pref,.bool r.attrs.atomic,.bool r.attrs.hasAggr,.int .i64 r.attrs.aggrAS,.int .u32 r.attrs.aggrAddr,
 .sl 1 (r.attrs.comms.map uj),.bool r.attrs.hasOrig,.int .u32 r.attrs.orig,.sl 1 (r.attrs.clusters.map uj),.sl 2 (r.attrs.unknown.map TLV.enc),
 .int .i64 r.peer,.int .i64 r.kind,.int .u32 r.router,.bool r.stale]
structure IGP where
 addr:Int
 cost:Int
def IGP.enc (c:IGP):List AV:=[.int .u32 c.addr,.int .i64 c.cost]
theorem dz {α:Type}{f:α->List AV}(h: ∀x,aH (f x)=true): ∀l:List α,aa (l.map f)=true
 | []=>rfl
 |x::r=>by simp only[Ao,aa,h x,dz h r,Bool.and_self]
theorem na: ∀l:List UInt8,aa (byteCells l)=true:=λl=>dz (f:=λb:UInt8=>[AV.int .u8 (b.toNat:Int)]) (λ_=>rfl) l
@[simp] theorem acW (l:List Int):aa (l.map Fh)=true:=dz (λ_=>rfl) l
@[simp] theorem acV (l:List Int):aa (l.map uj)=true:=dz (λ_=>rfl) l
theorem Seg.pure (s:Seg):aH s.enc=true:=by simp[Seg.enc,aH,AV.pure]
@[simp] theorem acR (l:List Seg):aa (l.map Seg.enc)=true:=dz Seg.pure l
theorem TLV.pure (s:TLV):aH s.enc=true:=by simp[TLV.enc,aH,AV.pure,na]
@[simp] theorem acQ (l:List TLV):aa (l.map TLV.enc)=true:=dz TLV.pure l
@[simp] theorem Attrs.pure (s:Attrs):aH s.enc=true:=by simp[Attrs.enc,aH,AV.pure]
@[simp] theorem PVRoute.pure (s:PVRoute):aH s.enc=true:=by simp[PVRoute.enc,aH,AV.pure]
@[simp] theorem abY (l:List PVRoute):aa (l.map PVRoute.enc)=true:=dz PVRoute.pure l
@[simp] theorem acU (l:List IGP):aa (l.map IGP.enc)=true:=dz (λ_=>rfl) l
end Go.AM.IR
namespace Go.AM.IR
def okI (x:Int):Prop:= -9223372036854775808<=x/\x<=9223372036854775807
def okU (x:Int):Prop:=0<=x/\x<=4294967295
structure Seg.ok (s:Seg):Prop where
 kind:okI s.kind
 as: ∀x∈s.as,okI x
structure TLV.ok (s:TLV):Prop where
 kind:okI s.kind
structure IGP.ok (s:IGP):Prop where
 addr:okU s.addr
 cost:okI s.cost
structure Attrs.ok (a:Attrs):Prop where
 origin:okI a.origin
 path: ∀s∈a.path,s.ok
 nextHop:okU a.nextHop
 med:okI a.med
 pref:okI a.pref
 aggrAS:okI a.aggrAS
 aggrAddr:okU a.aggrAddr
 comms: ∀x∈a.comms,okU x
 orig:okU a.orig
 clusters: ∀x∈a.clusters,okU x
 unknown: ∀x∈a.unknown,x.ok
structure PVRoute.ok (r:PVRoute):Prop where
 paddr:okU r.paddr
 plen:okI r.plen
 attrs:r.attrs.ok
 peer:okI r.peer
 kind:okI r.kind
 router:okU r.router
end Go.AM.IR
namespace Go.AM.IR
structure Pfx where
 addr:Int
 len:Int
 deriving DecidableEq
def Pfx.enc (p:Pfx):List AV:=[.int .u32 p.addr,.int .i64 p.len]
structure Cap where
 code:Int
 value:List UInt8
 deriving DecidableEq
def Cap.enc (p:Cap):List AV:=[.int .i64 p.code,.sl 1 (byteCells p.value)]
structure PMsg where
 kind:Int
 version:Int
 as:Int
 hold:Int
 router:Int
 caps:List Cap
 withdrawn:List Pfx
 attrs:Attrs
 reach:List Pfx
 code:Int
 sub:Int
 data:List UInt8
def PMsg.enc (m:PMsg):List AV:=[.int .i64 m.kind,.int .i64 m.version,.int .i64 m.as,.int .i64 m.hold,.int .u32 m.router,.sl 2 (m.caps.map Cap.enc),.sl 2 (m.withdrawn.map Pfx.enc),
 .int .i64 m.attrs.origin,.sl 2 (m.attrs.path.map Seg.enc),.int .u32 m.attrs.nextHop,.bool m.attrs.hasMED,.int .i64 m.attrs.med,.bool m.attrs.hasPref,.int .i64 m.attrs.pref,.bool m.attrs.atomic,.bool m.attrs.hasAggr,.int .i64 m.attrs.aggrAS,.int .u32 m.attrs.aggrAddr,
 .sl 1 (m.attrs.comms.map uj),.bool m.attrs.hasOrig,.int .u32 m.attrs.orig,.sl 1 (m.attrs.clusters.map uj),.sl 2 (m.attrs.unknown.map TLV.enc),
 .sl 2 (m.reach.map Pfx.enc),.int .i64 m.code,.int .i64 m.sub,.sl 1 (byteCells m.data)]
structure Peer where
 kind:Int
 as:Int
 addr:Int
 loc:Int
 client:Bool
 hold:Int
 restart:Int
 imp:List UInt8
 exp:List UInt8
 nextSelf:Bool
 damp:Bool
def Peer.enc (p:Peer):List AV:=[.int .i64 p.kind,.int .i64 p.as,.int .u32 p.addr,.int .u32 p.loc,.bool p.client,.int .i64 p.hold,.int .i64 p.restart,.str p.imp,.str p.exp,.bool p.nextSelf,.bool p.damp]
structure Conf where
 as:Int
 confed:Int
 router:Int
 cluster:Int
 peers:List Peer
 nets:AV
 p1:AV
 p2:AV
 p3:AV
 p4:AV
 d1:Int
 d2:Int
 d3:Int
 d4:Int
 multi:Int
def Conf.enc (c:Conf):List AV:=[.int .i64 c.as,.int .i64 c.confed,.int .u32 c.router,.int .u32 c.cluster,.sl 11 (c.peers.map Peer.enc),c.nets,c.p1,c.p2,c.p3,c.p4,.int .i64 c.d1,.int .i64 c.d2,.int .i64 c.d3,.int .i64 c.d4,.int .i64 c.multi]
structure Ses where
 state:Int
 retry:Int
 hold:Int
 keep:Int
 holdTime:Int
 router:Int
 restart:Int
 refresh:Bool
 untl:Int
def Ses.enc (s:Ses):List AV:=[.int .i64 s.state,.int .i64 s.retry,.int .i64 s.hold,.int .i64 s.keep,.int .i64 s.holdTime,.int .u32 s.router,.int .i64 s.restart,.bool s.refresh,.int .i64 s.untl]
structure Act where
 kind:Int
 msg:PMsg
def Act.enc (a:Act):List AV:=.int .i64 a.kind::a.msg.enc
theorem Pfx.pure (s:Pfx):aH s.enc=true:=rfl
@[simp] theorem acT (l:List Pfx):aa (l.map Pfx.enc)=true:=dz Pfx.pure l
theorem Cap.pure (s:Cap):aH s.enc=true:=by simp[Cap.enc,aH,AV.pure,na]
@[simp] theorem acX (l:List Cap):aa (l.map Cap.enc)=true:=dz Cap.pure l
@[simp] theorem PMsg.pure (s:PMsg):aH s.enc=true:=by simp[PMsg.enc,aH,AV.pure,na]
theorem Peer.pure (s:Peer):aH s.enc=true:=rfl
@[simp] theorem ace (l:List Peer):aa (l.map Peer.enc)=true:=dz Peer.pure l
@[simp] theorem Ses.pure (s:Ses):aH s.enc=true:=rfl
@[simp] theorem Act.pure (s:Act):aH s.enc=true:=by simp[Act.enc,aH,AV.pure]
@[simp] theorem acY (l:List Act):aa (l.map Act.enc)=true:=dz Act.pure l
structure Conf.ok (c:Conf):Prop where
 nets:c.nets.pure=true
 p1:c.p1.pure=true
 p2:c.p2.pure=true
 p3:c.p3.pure=true
 p4:c.p4.pure=true
 as:okI c.as
 confed:okI c.confed
 router:okU c.router
 peers: ∀p∈c.peers,okI p.as/\okI p.hold/\okI p.restart/\okI p.kind
 len:c.peers.length<=maxLen
theorem Conf.pure {c:Conf}(h:c.ok):aH c.enc=true:=by simp[Conf.enc,aH,AV.pure,h.nets,h.p1,h.p2,h.p3,h.p4]
structure Pfx.ok (p:Pfx):Prop where
 addr:okU p.addr
 len:okI p.len
structure PMsg.ok (m:PMsg):Prop where
 kind:okI m.kind
 version:okI m.version
 as:okI m.as
 hold:okI m.hold
 router:okU m.router
 caps: ∀c∈m.caps,okI c.code
 withdrawn: ∀p∈m.withdrawn,p.ok
 attrs:m.attrs.ok
 reach: ∀p∈m.reach,p.ok
 code:okI m.code
 sub:okI m.sub
theorem acM {as:List AV}(h:Ty.T .str as): ∃s,as= [.str s]:=by
 obtain ⟨s,rfl,_⟩:=h;exact ⟨s,rfl⟩
structure Ses.ok (s:Ses):Prop where
 state:okI s.state
 retry:okI s.retry
 hold:okI s.hold
 keep:okI s.keep
 holdTime:okI s.holdTime
 router:okU s.router
 restart:okI s.restart
 untl:okI s.untl
end Go.AM.IR
namespace Go.AM.IR
set_option maxHeartbeats 1000000
@[simp] theorem EW (x:Pfx):aH x.enc=true:=by simp[Pfx.enc,aH,AV.pure]
@[simp] theorem Rm: ∀l:List Int,aa (l.map Fh)=true
 | []=>rfl
 |x::r=>by simp only[Ao,aa,Rm r];simp[Fh,aH,AV.pure]
@[simp] theorem Cr: ∀l:List Pfx,aa (l.map Pfx.enc)=true
 | []=>rfl
 |x::r=>by simp only[Ao,aa,Cr r,EW];rfl
structure Ifc where
 kind:Int
 pfx:Pfx
 addr:Int
 area:Int
 cost:Int
 prio:Int
 hello:Int
 dead:Int
def Ifc.enc (r:Ifc):List AV:=[.int .i64 r.kind,.int .u32 r.pfx.addr,.int .i64 r.pfx.len,.int .u32 r.addr,.int .u32 r.area,.int .i64 r.cost,.int .i64 r.prio,.int .i64 r.hello,.int .i64 r.dead]
def Ifc.ok (r:Ifc):Prop:=okI r.kind/\Pfx.ok r.pfx/\okU r.addr/\okU r.area/\okI r.cost/\okI r.prio/\okI r.hello/\okI r.dead
@[simp] theorem Fg (x:Ifc):aH x.enc=true:=by simp[Ifc.enc,aH,AV.pure]
@[simp] theorem CG: ∀l:List Ifc,aa (l.map Ifc.enc)=true
 | []=>rfl
 |x::r=>by simp only[Ao,aa,CG r,Fg];rfl
structure ARange where
 area:Int
 pfx:Pfx
 adv:Bool
def ARange.enc (r:ARange):List AV:=[.int .u32 r.area,.int .u32 r.pfx.addr,.int .i64 r.pfx.len,.bool r.adv]
def ARange.ok (r:ARange):Prop:=okU r.area/\Pfx.ok r.pfx
@[simp] theorem wa (x:ARange):aH x.enc=true:=by simp[ARange.enc,aH,AV.pure]
@[simp] theorem uR: ∀l:List ARange,aa (l.map ARange.enc)=true
 | []=>rfl
 |x::r=>by simp only[Ao,aa,uR r,wa];rfl
structure LSC where
 router:Int
 ifs:List Ifc
 ranges:List ARange
def LSC.enc (r:LSC):List AV:=[.int .u32 r.router,.sl 9 (r.ifs.map Ifc.enc),.sl 4 (r.ranges.map ARange.enc)]
def LSC.ok (r:LSC):Prop:=okU r.router/\(∀x∈r.ifs,Ifc.ok x)/\(∀x∈r.ranges,ARange.ok x)
@[simp] theorem Ff (x:LSC):aH x.enc=true:=by simp[LSC.enc,aH,AV.pure]
@[simp] theorem Cz: ∀l:List LSC,aa (l.map LSC.enc)=true
 | []=>rfl
 |x::r=>by simp only[Ao,aa,Cz r,Ff];rfl
structure RuleP where
 permit:Bool
 pfx:Pfx
 min:Int
 max:Int
def RuleP.enc (r:RuleP):List AV:=[.bool r.permit,.int .u32 r.pfx.addr,.int .i64 r.pfx.len,.int .i64 r.min,.int .i64 r.max]
def RuleP.ok (r:RuleP):Prop:=Pfx.ok r.pfx/\okI r.min/\okI r.max
@[simp] theorem xZ (x:RuleP):aH x.enc=true:=by simp[RuleP.enc,aH,AV.pure]
@[simp] theorem w9: ∀l:List RuleP,aa (l.map RuleP.enc)=true
 | []=>rfl
 |x::r=>by simp only[Ao,aa,w9 r,xZ];rfl
structure PList where
 name:List UInt8
 rules:List RuleP
def PList.enc (r:PList):List AV:=[.str r.name,.sl 5 (r.rules.map RuleP.enc)]
def PList.ok (r:PList):Prop:=(∀x∈r.rules,RuleP.ok x)
@[simp] theorem x9 (x:PList):aH x.enc=true:=by simp[PList.enc,aH,AV.pure]
@[simp] theorem xf: ∀l:List PList,aa (l.map PList.enc)=true
 | []=>rfl
 |x::r=>by simp only[Ao,aa,xf r,x9];rfl
structure PathR where
 permit:Bool
 pattern:List UInt8
def PathR.enc (r:PathR):List AV:=[.bool r.permit,.str r.pattern]
def PathR.ok (r:PathR):Prop:=True
@[simp] theorem x7 (x:PathR):aH x.enc=true:=by simp[PathR.enc,aH,AV.pure]
@[simp] theorem xc: ∀l:List PathR,aa (l.map PathR.enc)=true
 | []=>rfl
 |x::r=>by simp only[Ao,aa,xc r,x7];rfl
structure PathL where
 name:List UInt8
 rules:List PathR
def PathL.enc (r:PathL):List AV:=[.str r.name,.sl 2 (r.rules.map PathR.enc)]
def PathL.ok (r:PathL):Prop:=(∀x∈r.rules,PathR.ok x)
@[simp] theorem x8 (x:PathL):aH x.enc=true:=by simp[PathL.enc,aH,AV.pure]
@[simp] theorem xd: ∀l:List PathL,aa (l.map PathL.enc)=true
 | []=>rfl
 |x::r=>by simp only[Ao,aa,xd r,x8];rfl
structure ComR where
 permit:Bool
 high:Int
 low:Int
def ComR.enc (r:ComR):List AV:=[.bool r.permit,.int .i64 r.high,.int .i64 r.low]
def ComR.ok (r:ComR):Prop:=okI r.high/\okI r.low
@[simp] theorem Bb (x:ComR):aH x.enc=true:=by simp[ComR.enc,aH,AV.pure]
@[simp] theorem Ay: ∀l:List ComR,aa (l.map ComR.enc)=true
 | []=>rfl
 |x::r=>by simp only[Ao,aa,Ay r,Bb];rfl
structure ComL where
 name:List UInt8
 rules:List ComR
def ComL.enc (r:ComL):List AV:=[.str r.name,.sl 3 (r.rules.map ComR.enc)]
def ComL.ok (r:ComL):Prop:=(∀x∈r.rules,ComR.ok x)
@[simp] theorem Bg (x:ComL):aH x.enc=true:=by simp[ComL.enc,aH,AV.pure]
@[simp] theorem Az: ∀l:List ComL,aa (l.map ComL.enc)=true
 | []=>rfl
 |x::r=>by simp only[Ao,aa,Az r,Bg];rfl
structure Mat where
 kind:Int
 name:List UInt8
 n:Int
 pfx:Pfx
 neg:Bool
def Mat.enc (r:Mat):List AV:=[.int .i64 r.kind,.str r.name,.int .i64 r.n,.int .u32 r.pfx.addr,.int .i64 r.pfx.len,.bool r.neg]
def Mat.ok (r:Mat):Prop:=okI r.kind/\okI r.n/\Pfx.ok r.pfx
@[simp] theorem Fd (x:Mat):aH x.enc=true:=by simp[Mat.enc,aH,AV.pure]
@[simp] theorem Cw: ∀l:List Mat,aa (l.map Mat.enc)=true
 | []=>rfl
 |x::r=>by simp only[Ao,aa,Cw r,Fd];rfl
structure Actn where
 kind:Int
 n:Int
 asn:Int
 com:Int
 addr:Int
def Actn.enc (r:Actn):List AV:=[.int .i64 r.kind,.int .i64 r.n,.int .i64 r.asn,.int .u32 r.com,.int .u32 r.addr]
def Actn.ok (r:Actn):Prop:=okI r.kind/\okI r.n/\okI r.asn/\okU r.com/\okU r.addr
@[simp] theorem Bh (x:Actn):aH x.enc=true:=by simp[Actn.enc,aH,AV.pure]
@[simp] theorem AA: ∀l:List Actn,aa (l.map Actn.enc)=true
 | []=>rfl
 |x::r=>by simp only[Ao,aa,AA r,Bh];rfl
structure Trm where
 name:List UInt8
 mats:List Mat
 acts:List Actn
 verdict:Int
def Trm.enc (r:Trm):List AV:=[.str r.name,.sl 6 (r.mats.map Mat.enc),.sl 5 (r.acts.map Actn.enc),.int .i64 r.verdict]
def Trm.ok (r:Trm):Prop:=(∀x∈r.mats,Mat.ok x)/\(∀x∈r.acts,Actn.ok x)/\okI r.verdict
@[simp] theorem EO (x:Trm):aH x.enc=true:=by simp[Trm.enc,aH,AV.pure]
@[simp] theorem Cm: ∀l:List Trm,aa (l.map Trm.enc)=true
 | []=>rfl
 |x::r=>by simp only[Ao,aa,Cm r,EO];rfl
structure Pol where
 name:List UInt8
 terms:List Trm
 dflt:Int
def Pol.enc (r:Pol):List AV:=[.str r.name,.sl 4 (r.terms.map Trm.enc),.int .i64 r.dflt]
def Pol.ok (r:Pol):Prop:=(∀x∈r.terms,Trm.ok x)/\okI r.dflt
@[simp] theorem EU (x:Pol):aH x.enc=true:=by simp[Pol.enc,aH,AV.pure]
@[simp] theorem Cq: ∀l:List Pol,aa (l.map Pol.enc)=true
 | []=>rfl
 |x::r=>by simp only[Ao,aa,Cq r,EU];rfl
structure PSet where
 prefixes:List PList
 paths:List PathL
 comms:List ComL
 pols:List Pol
def PSet.enc (r:PSet):List AV:=[.sl 2 (r.prefixes.map PList.enc),.sl 2 (r.paths.map PathL.enc),.sl 2 (r.comms.map ComL.enc),.sl 3 (r.pols.map Pol.enc)]
def PSet.ok (r:PSet):Prop:=(∀x∈r.prefixes,PList.ok x)/\(∀x∈r.paths,PathL.ok x)/\(∀x∈r.comms,ComL.ok x)/\(∀x∈r.pols,Pol.ok x)
@[simp] theorem AZ (x:PSet):aH x.enc=true:=by simp[PSet.enc,aH,AV.pure]
@[simp] theorem Aw: ∀l:List PSet,aa (l.map PSet.enc)=true
 | []=>rfl
 |x::r=>by simp only[Ao,aa,Aw r,AZ];rfl
structure PeerC where
 kind:Int
 asn:Int
 addr:Int
 loc:Int
 client:Bool
 hold:Int
 restart:Int
 imp:List UInt8
 exp:List UInt8
 nextSelf:Bool
 damp:Bool
def PeerC.enc (r:PeerC):List AV:=[.int .i64 r.kind,.int .i64 r.asn,.int .u32 r.addr,.int .u32 r.loc,.bool r.client,.int .i64 r.hold,.int .i64 r.restart,.str r.imp,.str r.exp,.bool r.nextSelf,.bool r.damp]
def PeerC.ok (r:PeerC):Prop:=okI r.kind/\okI r.asn/\okU r.addr/\okU r.loc/\okI r.hold/\okI r.restart
@[simp] theorem x6 (x:PeerC):aH x.enc=true:=by simp[PeerC.enc,aH,AV.pure]
@[simp] theorem xb: ∀l:List PeerC,aa (l.map PeerC.enc)=true
 | []=>rfl
 |x::r=>by simp only[Ao,aa,xb r,x6];rfl
structure DampC where
 half:Int
 reuse:Int
 suppress:Int
 maxTime:Int
def DampC.enc (r:DampC):List AV:=[.int .i64 r.half,.int .i64 r.reuse,.int .i64 r.suppress,.int .i64 r.maxTime]
def DampC.ok (r:DampC):Prop:=okI r.half/\okI r.reuse/\okI r.suppress/\okI r.maxTime
@[simp] theorem ya (x:DampC):aH x.enc=true:=by simp[DampC.enc,aH,AV.pure]
@[simp] theorem xg: ∀l:List DampC,aa (l.map DampC.enc)=true
 | []=>rfl
 |x::r=>by simp only[Ao,aa,xg r,ya];rfl
structure PVC where
 asn:Int
 confed:Int
 router:Int
 cluster:Int
 peers:List PeerC
 nets:List Pfx
 pols:PSet
 damp:DampC
 multi:Int
def PVC.enc (r:PVC):List AV:=[.int .i64 r.asn,.int .i64 r.confed,.int .u32 r.router,.int .u32 r.cluster,.sl 11 (r.peers.map PeerC.enc),.sl 2 (r.nets.map Pfx.enc),.sl 2 (r.pols.prefixes.map PList.enc),.sl 2 (r.pols.paths.map PathL.enc),.sl 2 (r.pols.comms.map ComL.enc),.sl 3 (r.pols.pols.map Pol.enc),.int .i64 r.damp.half,.int .i64 r.damp.reuse,.int .i64 r.damp.suppress,.int .i64 r.damp.maxTime,.int .i64 r.multi]
def PVC.ok (r:PVC):Prop:=okI r.asn/\okI r.confed/\okU r.router/\okU r.cluster/\(∀x∈r.peers,PeerC.ok x)/\(∀x∈r.nets,Pfx.ok x)/\PSet.ok r.pols/\DampC.ok r.damp/\okI r.multi
@[simp] theorem Fc (x:PVC):aH x.enc=true:=by simp[PVC.enc,aH,AV.pure]
@[simp] theorem Cu: ∀l:List PVC,aa (l.map PVC.enc)=true
 | []=>rfl
 |x::r=>by simp only[Ao,aa,Cu r,Fc];rfl
structure Red where
 src:Int
 dst:Int
 pol:List UInt8
 metric:Int
 second:Bool
def Red.enc (r:Red):List AV:=[.int .i64 r.src,.int .i64 r.dst,.str r.pol,.int .i64 r.metric,.bool r.second]
def Red.ok (r:Red):Prop:=okI r.src/\okI r.dst/\okI r.metric
@[simp] theorem ET (x:Red):aH x.enc=true:=by simp[Red.enc,aH,AV.pure]
@[simp] theorem Cp: ∀l:List Red,aa (l.map Red.enc)=true
 | []=>rfl
 |x::r=>by simp only[Ao,aa,Cp r,ET];rfl
structure Stat where
 pfx:Pfx
 hop:Int
 dist:Int
def Stat.enc (r:Stat):List AV:=[.int .u32 r.pfx.addr,.int .i64 r.pfx.len,.int .u32 r.hop,.int .i64 r.dist]
def Stat.ok (r:Stat):Prop:=Pfx.ok r.pfx/\okU r.hop/\okI r.dist
@[simp] theorem AY (x:Stat):aH x.enc=true:=by simp[Stat.enc,aH,AV.pure]
@[simp] theorem Au: ∀l:List Stat,aa (l.map Stat.enc)=true
 | []=>rfl
 |x::r=>by simp only[Ao,aa,Au r,AY];rfl
structure RConf where
 name:List UInt8
 ls:LSC
 hasPV:Bool
 pv:PVC
 labels:Bool
 reroute:Bool
 redist:List Red
 stat:List Stat
 dists:List Int
def RConf.enc (r:RConf):List AV:=[.str r.name,.int .u32 r.ls.router,.sl 9 (r.ls.ifs.map Ifc.enc),.sl 4 (r.ls.ranges.map ARange.enc),.bool r.hasPV,.int .i64 r.pv.asn,.int .i64 r.pv.confed,.int .u32 r.pv.router,.int .u32 r.pv.cluster,.sl 11 (r.pv.peers.map PeerC.enc),.sl 2 (r.pv.nets.map Pfx.enc),.sl 2 (r.pv.pols.prefixes.map PList.enc),.sl 2 (r.pv.pols.paths.map PathL.enc),.sl 2 (r.pv.pols.comms.map ComL.enc),.sl 3 (r.pv.pols.pols.map Pol.enc),.int .i64 r.pv.damp.half,.int .i64 r.pv.damp.reuse,.int .i64 r.pv.damp.suppress,.int .i64 r.pv.damp.maxTime,.int .i64 r.pv.multi,.bool r.labels,.bool r.reroute,.sl 5 (r.redist.map Red.enc),.sl 4 (r.stat.map Stat.enc),.sl 1 (r.dists.map Fh)]
def RConf.ok (r:RConf):Prop:=LSC.ok r.ls/\PVC.ok r.pv/\(∀x∈r.redist,Red.ok x)/\(∀x∈r.stat,Stat.ok x)/\(∀x∈r.dists,okI x)
@[simp] theorem x5 (x:RConf):aH x.enc=true:=by simp[RConf.enc,aH,AV.pure]
@[simp] theorem xa: ∀l:List RConf,aa (l.map RConf.enc)=true
 | []=>rfl
 |x::r=>by simp only[Ao,aa,xa r,x5];rfl
structure LEnd where
 router:Int
 ifc:Int
def LEnd.enc (r:LEnd):List AV:=[.int .i64 r.router,.int .i64 r.ifc]
def LEnd.ok (r:LEnd):Prop:=okI r.router/\okI r.ifc
@[simp] theorem Ba (x:LEnd):aH x.enc=true:=by simp[LEnd.enc,aH,AV.pure]
@[simp] theorem Ax: ∀l:List LEnd,aa (l.map LEnd.enc)=true
 | []=>rfl
 |x::r=>by simp only[Ao,aa,Ax r,Ba];rfl
structure Lnk where
 ends:List LEnd
 delay:Int
def Lnk.enc (r:Lnk):List AV:=[.sl 2 (r.ends.map LEnd.enc),.int .i64 r.delay]
def Lnk.ok (r:Lnk):Prop:=(∀x∈r.ends,LEnd.ok x)/\okI r.delay
@[simp] theorem Fe (x:Lnk):aH x.enc=true:=by simp[Lnk.enc,aH,AV.pure]
@[simp] theorem Cy: ∀l:List Lnk,aa (l.map Lnk.enc)=true
 | []=>rfl
 |x::r=>by simp only[Ao,aa,Cy r,Fe];rfl
structure Topo where
 routers:List RConf
 links:List Lnk
def Topo.enc (r:Topo):List AV:=[.sl 25 (r.routers.map RConf.enc),.sl 2 (r.links.map Lnk.enc)]
def Topo.ok (r:Topo):Prop:=(∀x∈r.routers,RConf.ok x)/\(∀x∈r.links,Lnk.ok x)
@[simp] theorem AX (x:Topo):aH x.enc=true:=by simp[Topo.enc,aH,AV.pure]
@[simp] theorem Aq: ∀l:List Topo,aa (l.map Topo.enc)=true
 | []=>rfl
 |x::r=>by simp only[Ao,aa,Aq r,AX];rfl
end Go.AM.IR
