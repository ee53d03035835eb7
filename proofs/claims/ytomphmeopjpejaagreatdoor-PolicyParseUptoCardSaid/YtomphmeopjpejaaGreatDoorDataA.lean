/- What functions of this program give. -/
import Derived.Test.YtomphmeopjpejaaGreatDoorLibraryA
import Derived.Test.YtomphmeopjpejaaGreatDoorMachineC
set_option linter.unusedVariables false
set_option linter.unusedSimpArgs false
namespace Go.AM.IR
set_option linter.unusedSectionVars false
set_option linter.unusedVariables false
inductive Rx where
 |mk (kind lo hi:Int) (kids:List Rx)
abbrev DD:=Option (Rx×Nat)
abbrev C7:=List Rx
namespace Rx
def kind:Rx->Int| .mk k _ _ _=>k
def kids:Rx->C7| .mk _ _ _ l=>l
end Rx
def bq (k lo hi:Int)(n:Nat):Bool:=
 if k=1 then decide (0<=lo/\lo<=hi/\hi<=4294967295/\n=0)
 else (decide (lo=0/\hi=0))&&(if k=0∨k=2 then decide (n=0) else if k=3 then decide (2<=n) else if k=4 then decide (n≠1) else if 5<=k/\k<=7 then decide (n=1) else false)
mutual
def chk:Rx->Nat->Nat->Option Nat
 | .mk k lo hi kids,lv,c=>if 16<lv then none else if 64<=c then none else if bq k lo hi kids.length then i6 kids (lv+1) (c+1) else none
def i6:C7->Nat->Nat->Option Nat
 | [],_,c=>some c
 |x::r,lv,c=>match chk x lv c with
  |some c'=>i6 r lv c'
  |none=>none
end
def fx (k:Int)(x:Rx):Bool:=
 if x.kind=3 then decide (k≠4) else if x.kind=4 then !x.kids.isEmpty else decide (5<=x.kind/\x.kind<=7)&&decide (5<=k/\k<=7)
def dz (k:Int)(x:Rx)(p:List UInt8):List UInt8:=if fx k x then 40::(p++[41]) else p
def dl (c:UInt8):List (List UInt8)->List UInt8
 | []=>[]
 | [x]=>x
 |x::r=>x++c::dl c r
def dL (dec:Int->List UInt8)(k lo hi:Int)(ps:List (List UInt8)):List UInt8:=
 if k=0 then [40,41] else if k=1 then (if lo=hi then dec lo else 91::(dec lo++45::(dec hi++[93]))) else if k=2 then [46] else if k=3 then dl 32 ps else
 if k=4 then (if ps.isEmpty then [33] else dl 124 ps) else if k=5 then ps.headD []++[42] else if k=6 then ps.headD []++[43] else ps.headD []++[63]
mutual
def pat (dec:Int->List UInt8):Rx->List UInt8
 | .mk k lo hi kids=>dL dec k lo hi (bw dec k kids)
def bw (dec:Int->List UInt8)(k:Int):C7->List (List UInt8)
 | []=>[]
 |x::r=>dz k x (pat dec x)::bw dec k r
end
abbrev PR:=Nat->DD
abbrev NR:=Nat->Option (Int×Nat)
def chr (s:List UInt8)(n:Nat)(c:UInt8):Bool:=s[n]? ==some c
section
variable (s:List UInt8) (num:NR)
def di (alt:PR):PR:=λn=>
 if chr s n 46 then some (.mk 2 0 0 [],n+1) else
 if chr s n 33 then some (.mk 4 0 0 [],n+1) else
 if chr s n 40 then (if chr s (n+1) 41 then some (.mk 0 0 0 [],n+2) else match alt (n+1) with
  |some (x,m)=>if chr s m 41 then some (x,m+1) else none
  |none=>none) else
 if chr s n 91 then match num (n+1) with
  |some (a,m)=>if chr s m 45 then (match num (m+1) with
   |some (b,k)=>if chr s k 93 then some (.mk 1 a b [],k+1) else none
   |none=>none) else none
  |none=>none else
 match num n with
 |some (a,m)=>some (.mk 1 a a [],m)
 |none=>none
def eO (atom:PR):PR:=λn=>match atom n with
 |some (x,m)=>if chr s m 42 then some (.mk 5 0 0 [x],m+1) else if chr s m 43 then some (.mk 6 0 0 [x],m+1) else if chr s m 63 then some (.mk 7 0 0 [x],m+1) else some (x,m)
 |none=>none
def fe (item:PR)(c:UInt8):Nat->C7->Nat->Option (C7×Nat)
 |0,_,_=>none
 |f+1,acc,n=>match item n with
  |some (x,m)=>if chr s m c then fe item c f (acc++[x]) (m+1) else some (acc++[x],m)
  |none=>none
def ix (k:Int):Option (C7×Nat)->DD
 |some ([x],m)=>some (x,m)
 |some (l,m)=>some (.mk k 0 0 l,m)
 |none=>none
def kH (item:PR):PR:=λn=>ix 3 (fe s item 32 (s.length+1) [] n)
def dj:Nat->PR
 |0=>λ_=>none
 |k+1=>λn=>ix 4 (fe s (kH s (eO s (di s num (dj k)))) 124 (s.length+1) [] n)
end
def isD (c:UInt8):Bool:=decide (48<=c.toNat/\c.toNat<=57)
section
variable (t:List UInt8)
def vj:Prop:= ∀c,t.head?=some c->isD c=false
def stopI:Prop:= ∀c,t.head?=some c->isD c=false/\c≠42/\c≠43/\c≠63
def stopS:Prop:= ∀c,t.head?=some c->isD c=false/\c≠42/\c≠43/\c≠63/\c≠32
def stopA:Prop:= ∀c,t.head?=some c->isD c=false/\c≠42/\c≠43/\c≠63/\c≠32/\c≠124
end
theorem stopI.d {t}(h:stopI t):vj t:=λc e=>(h c e).1
theorem stopS.i {t}(h:stopS t):stopI t:=λc e=>⟨(h c e).1,(h c e).2.1,(h c e).2.2.1,(h c e).2.2.2.1⟩
theorem stopA.s {t}(h:stopA t):stopS t:=λc e=>⟨(h c e).1,(h c e).2.1,(h c e).2.2.1,(h c e).2.2.2.1,(h c e).2.2.2.2.1⟩
section
variable {s t:List UInt8}{n:Nat}
theorem Cj (h:s.drop n=t)(i:Nat):s[n+i]? =t[i]? :=by rw[<-h,List.getElem?_drop]
theorem cQ (h:s.drop n=t)(c:UInt8):chr s n c=(t.head?==some c):=by
 have:=Cj h 0;unfold chr;rw[Nat.add_zero] at this;rw[this];cases t<;>rfl
theorem ez {s a t:List UInt8}{n:Nat}(h:s.drop n=a++t):s.drop (n+a.length)=t:=by
 rw[<-List.drop_drop,h,List.drop_left]
theorem jO {c:UInt8}(h:s.drop n=c::t):s.drop (n+1)=t:=by
 rw[<-List.drop_drop,h];rfl
end
section
variable (s:List UInt8)(num:NR)(dec:Int->List UInt8)
def Ly:Prop:= ∀(n:Nat)(a:Int)(t:List UInt8),0<=a->a<=4294967295->s.drop n=dec a++t->vj t->num n=some (a,n+(dec a).length)
def SD:Prop:= ∀a:Int,0<=a->a<=4294967295-> ∃c r,dec a=c::r/\isD c=true
end
theorem afd {c:UInt8}(h:isD c=true){d:UInt8}(hd:isD d=false):(c==d)=false:=by
 rw[beq_eq_false_iff_ne];rintro rfl;rw[h] at hd;cases hd
section
variable {s:List UInt8} {num:NR} {dec:Int->List UInt8} (hnum:Ly s num dec) (hdec:SD dec)
include hnum hdec
theorem aa4 {alt:PR}{n:Nat}{a:Int}{t:List UInt8}(h0:0<=a)(h1:a<=4294967295)(h:s.drop n=dec a++t)(ht:vj t):di s num alt n=some (.mk 1 a a [],n+(dec a).length):=by
 obtain ⟨c,r,e,hc⟩:=hdec a h0 h1
 have hh: ∀d,isD d=false->chr s n d=false:=λd hd=>by
  rw[cQ h,e];simpa using afd hc hd
 unfold di;rw[hh 46 rfl,hh 33 rfl,hh 40 rfl,hh 91 rfl,hnum n a t h0 h1 h ht];simp
theorem aa2 {alt:PR}{n:Nat}{a b:Int}{t:List UInt8}(h0:0<=a)(h1:a<=4294967295)(h2:0<=b)(h3:b<=4294967295)(h:s.drop n=91::(dec a++45::(dec b++93::t))):di s num alt n=some (.mk 1 a b [],n+(91::(dec a++45::(dec b++[93]))).length):=by
 have e1:=jO h;have e2:=ez e1;have e3:=jO e2;have e4:=ez e3;have c1:chr s n 46=false:=by rw[cQ h];rfl
 have c2:chr s n 33=false:=by rw[cQ h];rfl
 have c3:chr s n 40=false:=by rw[cQ h];rfl
 have c4:chr s n 91=true:=by rw[cQ h];rfl
 have c5:chr s (n+1+(dec a).length) 45=true:=by rw[cQ e2];rfl
 have c6:chr s (n+1+(dec a).length+1+(dec b).length) 93=true:=by rw[cQ e4];rfl
 have n1:=hnum _ _ _ h0 h1 e1 (by intro c hc;simp at hc;subst hc;rfl)
 have n2:=hnum _ _ _ h2 h3 e3 (by intro c hc;simp at hc;subst hc;rfl)
 simp[di,c1,c2,c3,c4,c5,c6,n1,n2];omega
end
theorem aa3 {s:List UInt8}{num:NR}{alt:PR}{n:Nat}{x:Rx}{p t:List UInt8}(h:s.drop n=40::(p++41::t))(hp:p≠ [])(hp1:p.head?≠some 41)(ha:alt (n+1)=some (x,n+1+p.length)):di s num alt n=some (x,n+(40::(p++[41])).length):=by
 have e1:=jO h;have e2:=ez e1;have c1:chr s n 46=false:=by rw[cQ h];rfl
 have c2:chr s n 33=false:=by rw[cQ h];rfl
 have c3:chr s n 40=true:=by rw[cQ h];rfl
 have c4:chr s (n+1) 41=false:=by
  rw[cQ e1];have:(p++41::t).head?=p.head?:=by cases p with|nil=>exact absurd rfl hp|cons a b=>rfl
  rw[this];simpa using hp1
 have c5:chr s (n+1+p.length) 41=true:=by rw[cQ e2];rfl
 simp[di,c1,c2,c3,c4,c5,ha];omega
section
variable {s:List UInt8}{atom:PR}{n m:Nat}{x:Rx}{t:List UInt8}{k:Int}{c:UInt8}(h:atom n=some (x,m))
include h
theorem uq (hd:s.drop m=t)(ht:stopI t):eO s atom n=some (x,m):=by
 unfold eO;rw[h];simp only[];rw[cQ hd,cQ hd,cQ hd];cases hh:t.head? with
 |none=>simp
 |some c=>obtain ⟨_,h1,h2,h3⟩:=ht c hh;simp[h1,h2,h3]
theorem UB (hd:s.drop m=c::t)(hk:(k=5/\c=42)∨(k=6/\c=43)∨(k=7/\c=63)):eO s atom n=some (.mk k 0 0 [x],m+1):=by
 unfold eO;rw[h];simp only[];rw[cQ hd,cQ hd,cQ hd];rcases hk with ⟨rfl,rfl⟩|⟨rfl,rfl⟩|⟨rfl,rfl⟩<;>rfl
end
inductive All2 {α β:Type}(R:α->β->Prop):List α->List β->Prop
 |nil:All2 R [] []
 |cons {a b l m}:R a b->All2 R l m->All2 R (a::l) (b::m)
def SA (item:PR)(s:List UInt8)(c:UInt8)(stop:List UInt8->Prop)(x:Rx)(p:List UInt8):Prop:= ∀(n:Nat)(t:List UInt8),s.drop n=p++t->stop t∨t.head?=some c->item n=some (x,n+p.length)
theorem lk (c:UInt8)(p q:List UInt8)(qs:List (List UInt8)):dl c (p::q::qs)=p++c::dl c (q::qs):=rfl
theorem GJ {s:List UInt8}{item:PR}{c:UInt8}{stop:List UInt8->Prop}(hst: ∀t,stop t->t.head?≠some c):
  ∀(xs:C7)(ps:List (List UInt8))(acc:C7)(n f:Nat)(t:List UInt8),xs≠ []->All2 (SA item s c stop) xs ps->s.drop n=dl c ps++t->stop t->xs.length<=f->fe s item c f acc n=some (acc++xs,n+(dl c ps).length)
 | [],_,_,_,_,_,h,_,_,_,_=>absurd rfl h
 | [x],ps,acc,n,f,t,_,hP,hd,ht,hf=>by
  cases hP with
  |cons h1 h2=>
  rename_i p ps;cases h2;cases f with
  |zero=>simp at hf
  |succ f=>
  rw[dl] at hd⊢;rw[fe,h1 n t hd (.inl ht)];simp only[];rw[cQ (ez hd),if_neg (by simpa using hst t ht)]
 |x::y::r,ps,acc,n,f,t,_,hP,hd,ht,hf=>by
  cases hP with
  |cons h1 h2=>
  rename_i p ps;cases f with
  |zero=>simp at hf
  |succ f=>
  cases ps with
  |nil=>cases h2
  |cons q qs=>
  rw[lk,List.append_assoc,List.cons_append] at hd;rw[fe,h1 n _ hd (.inr rfl)];simp only[];have hd2:=ez hd;rw[cQ hd2,if_pos (by simp)]
  rw[GJ hst (y::r) (q::qs) (acc++[x]) _ f t (by simp) h2 (jO hd2) ht (by simpa using hf)]
  rw[lk,List.length_append,List.length_cons,List.append_assoc]
  congr 2;omega
def lvl (x:Rx):Nat:=if 5<=x.kind/\x.kind<=7 then 1 else if x.kind=3 then 2 else if x.kind=4/\x.kids≠ [] then 3 else 0
structure Good (s:List UInt8)(num:NR)(dec:Int->List UInt8)(k:Nat)(x:Rx):Prop where
 hd: ∃a r,pat dec x=a::r/\a≠41
 at_:lvl x=0-> ∀(n:Nat)(t:List UInt8),s.drop n=pat dec x++t->vj t->di s num (dj s num k) n=some (x,n+(pat dec x).length)
 it:lvl x<=1-> ∀(n:Nat)(t:List UInt8),s.drop n=pat dec x++t->stopI t->eO s (di s num (dj s num k)) n=some (x,n+(pat dec x).length)
 sq:lvl x<=2-> ∀(n:Nat)(t:List UInt8),s.drop n=pat dec x++t->stopS t->kH s (eO s (di s num (dj s num k))) n=some (x,n+(pat dec x).length)
 al: ∀(n:Nat)(t:List UInt8),s.drop n=pat dec x++t->stopA t->dj s num (k+1) n=some (x,n+(pat dec x).length)
theorem mw {s t:List UInt8}{m:Nat}{c:UInt8}(hd:s.drop m=t)(h: ∀b,t.head?=some b->b≠c):chr s m c=false:=by
 rw[cQ hd];cases hh:t.head? with
 |none=>rfl
 |some b=>simpa using h b hh
theorem oH {s:List UInt8}{item:PR}{c:UInt8}{n m:Nat}{x:Rx}{t:List UInt8}{k:Int}(h:item n=some (x,m))(hc:chr s m c=false):ix k (fe s item c (s.length+1) [] n)=some (x,m):=by
 rw[fe,h];simp[hc,ix]
section
variable {s:List UInt8} {num:NR} {dec:Int->List UInt8} {k:Nat} {x:Rx}
section
variable (h: ∃a r,pat dec x=a::r/\a≠41)
include h
theorem ahe (hl:lvl x=3)(ha: ∀(n:Nat) (t:List UInt8),s.drop n=pat dec x++t->stopA t->dj s num (k+1) n=some (x,n+(pat dec x).length)):Good s num dec k x:=
 ⟨h,λe=>by omega,λe=>by omega,λe=>by omega,ha⟩
theorem ahf (hl:2<=lvl x)(ha: ∀(n:Nat) (t:List UInt8),s.drop n=pat dec x++t->stopS t->kH s (eO s (di s num (dj s num k))) n=some (x,n+(pat dec x).length)):Good s num dec k x:=
 ⟨h,λe=>by omega,λe=>by omega,λ_=>ha,λn t hd ht=>by
  rw[dj];exact oH (t:=t) (ha n t hd ht.s) (mw (ez hd) λb e=>(ht b e).2.2.2.2.2)⟩
theorem ahg (hl:1<=lvl x)(ha: ∀(n:Nat) (t:List UInt8),s.drop n=pat dec x++t->stopI t->eO s (di s num (dj s num k)) n=some (x,n+(pat dec x).length)):Good s num dec k x:=by
 have hs: ∀(n:Nat)(t:List UInt8),s.drop n=pat dec x++t->stopS t->kH s (eO s (di s num (dj s num k))) n=some (x,n+(pat dec x).length):=λn t hd ht=>by
  unfold kH;exact oH (t:=t) (ha n t hd ht.i) (mw (ez hd) λb e=>(ht b e).2.2.2.2)
 exact ⟨h,λe=>by omega,λ_=>ha,λ_=>hs,λn t hd ht=>by
  rw[dj];exact oH (t:=t) (hs n t hd ht.s) (mw (ez hd) λb e=>(ht b e).2.2.2.2.2)⟩
theorem yU (ha: ∀(n:Nat) (t:List UInt8),s.drop n=pat dec x++t->vj t->di s num (dj s num k) n=some (x,n+(pat dec x).length)):Good s num dec k x:=by
 have hi: ∀(n:Nat)(t:List UInt8),s.drop n=pat dec x++t->stopI t->eO s (di s num (dj s num k)) n=some (x,n+(pat dec x).length):=λn t hd ht=>uq (ha n t hd ht.d) (ez hd) ht
 have hs: ∀(n:Nat)(t:List UInt8),s.drop n=pat dec x++t->stopS t->kH s (eO s (di s num (dj s num k))) n=some (x,n+(pat dec x).length):=λn t hd ht=>by
  unfold kH;exact oH (t:=t) (hi n t hd ht.i) (mw (ez hd) λb e=>(ht b e).2.2.2.2)
 exact ⟨h,λ_=>ha,λ_=>hi,λ_=>hs,λn t hd ht=>by
  rw[dj];exact oH (t:=t) (hs n t hd ht.s) (mw (ez hd) λb e=>(ht b e).2.2.2.2.2)⟩
end
theorem xb {p:Int}(h:Good s num dec k x)(he:fx p x=true){n:Nat}{t:List UInt8}(hd:s.drop n=dz p x (pat dec x)++t):di s num (dj s num (k+1)) n=some (x,n+(dz p x (pat dec x)).length):=by
 unfold dz at hd⊢;rw[if_pos he] at hd⊢;obtain ⟨a,r,e,ha⟩:=h.hd;rw[List.cons_append,List.append_assoc] at hd;refine aa3 (t:=t) (by simpa using hd) (by rw[e];simp) (by rw[e];simpa using ha) ?_
 exact h.al _ (41::t) (by simpa using jO hd) (λc hc=>by simp at hc;subst hc;decide)
theorem Jk {p:Int}(h: ∃a r,pat dec x=a::r/\a≠41): ∃a r,dz p x (pat dec x)=a::r/\a≠41:=by
 unfold dz;split
 ·exact ⟨40,_,rfl,by decide⟩
 ·exact h
end
theorem ahn {p:Int}{x:Rx}(h:fx p x=false)(hp:5<=p/\p<=7):lvl x=0:=by
 unfold fx at h;unfold lvl;generalize x.kind=k at h⊢;generalize x.kids=l at h⊢
 by_cases h3:k=3
 ·rw[if_pos h3] at h;simp at h;omega
 ·rw[if_neg h3] at h
  by_cases h4:k=4
  ·rw[if_pos h4] at h
   rw[if_neg (by omega),if_neg h3,if_neg (by rintro ⟨_,q⟩;cases l<;>simp_all)]
  ·rw[if_neg h4] at h
   have: ¬(5<=k/\k<=7):=by intro q;simp[q,hp] at h
   rw[if_neg this,if_neg h3,if_neg (λq=>h4 q.1)]
theorem ahm {x:Rx}(h:fx 3 x=false):lvl x<=1:=by
 unfold fx at h;unfold lvl;generalize x.kind=k at h⊢;generalize x.kids=l at h⊢
 by_cases h3:k=3
 ·rw[if_pos h3] at h;simp at h
 ·rw[if_neg h3] at h
  by_cases h4:k=4
  ·rw[if_pos h4] at h
   rw[if_neg (by omega),if_neg h3,if_neg (by rintro ⟨_,q⟩;cases l<;>simp_all)];omega
  ·split
   ·omega
   ·rw[if_neg (λq=>h4 q.1)];omega
theorem ahl {x:Rx}(h:fx 4 x=false):lvl x<=2:=by
 unfold fx at h;unfold lvl;generalize x.kind=k at h⊢;generalize x.kids=l at h⊢
 by_cases h3:k=3
 ·rw[if_neg (by omega),if_pos h3];omega
 ·rw[if_neg h3] at h
  by_cases h4:k=4
  ·rw[if_pos h4] at h
   rw[if_neg (by omega),if_neg h3,if_neg (by rintro ⟨_,q⟩;cases l<;>simp_all)];omega
  ·split
   ·omega
   ·rw[if_neg (λq=>h4 q.1)];omega
theorem Dj {c:UInt8}: ∀ps:List (List UInt8),ps.length<=(dl c ps).length+1
 | []=>by simp
 | [p]=>by simp
 |p::q::qs=>by
  have:=Dj (c:=c) (q::qs);rw[lk];simp at*;omega
theorem o4 {dec:Int->List UInt8}{p:Int}: ∀xs:C7,(bw dec p xs).length=xs.length
 | []=>by rw[bw];rfl
 |x::r=>by rw[bw,List.length_cons,List.length_cons,o4 r]
section
variable {s t:List UInt8}{n:Nat}{c:UInt8}{dec:Int->List UInt8}
theorem Oc {p:Int}{xs:C7}(h:s.drop n=dl c (bw dec p xs)++t):xs.length<=s.length+1:=by
 have h1:=Dj (c:=c) (bw dec p xs);have h2:(s.drop n).length=(dl c (bw dec p xs)++t).length:=by rw[h]
 rw[o4] at h1;simp at h2;omega
theorem sc {s:List UInt8}{dec:Int->List UInt8}{item:PR}{c:UInt8}{stop:List UInt8->Prop}{p:Int}: ∀{xs:C7},(∀x∈xs,SA item s c stop x (dz p x (pat dec x)))->All2 (SA item s c stop) xs (bw dec p xs)
 | [],_=>by rw[bw];exact .nil
 |x::r,h=>by rw[bw];exact .cons (h x (by simp)) (sc λy hy=>h y (by simp[hy]))
theorem yM {c:UInt8}{p:Int}{x:Rx}{r:C7}(h: ∃a r,pat dec x=a::r/\a≠41): ∃a q,dl c (bw dec p (x::r))=a::q/\a≠41:=by
 obtain ⟨a,q,e,ha⟩:=Jk (p:=p) h;rw[bw];cases hr:bw dec p r with
 |nil=>exact ⟨a,q,by rw[dl,e],ha⟩
 |cons y ys=>exact ⟨a,q++c::dl c (y::ys),by rw[lk,e];rfl,ha⟩
end
section
variable {s:List UInt8} {num:NR} {dec:Int->List UInt8} (hnum:Ly s num dec) (hdec:SD dec)
include hnum hdec
theorem aaM {a:Int}(h:0<=a)(h1:a<=4294967295): ∃c r,dec a=c::r/\c≠41:=by
 obtain ⟨c,r,e,hc⟩:=hdec a h h1;refine ⟨c,r,e,?_⟩
 rintro rfl;revert hc;decide
theorem ut {k:Nat}{p:Int}{y:Rx}{b:UInt8}(hp:(p=5/\b=42)∨(p=6/\b=43)∨(p=7/\b=63))(hy:Good s num dec k y)(hy':fx p y=true-> ∃k',k=k'+1/\Good s num dec k' y):Good s num dec k (.mk p 0 0 [y]):=by
 have hp5:5<=p/\p<=7:=by omega
 have hpat:pat dec (.mk p 0 0 [y])=dz p y (pat dec y)++[b]:=by
  rw[pat,bw,bw,dL,if_neg (by omega),if_neg (by omega),if_neg (by omega),if_neg (by omega),if_neg (by omega)]
  rcases hp with ⟨rfl,rfl⟩|⟨rfl,rfl⟩|⟨rfl,rfl⟩<;>simp
 obtain ⟨a,q,e,ha⟩:=Jk (p:=p) hy.hd;refine ahg ⟨a,q++[b],by rw[hpat,e];rfl,ha⟩ (by unfold lvl;rw[if_pos (by exact hp5)];omega) λn t hd ht=>?_
 rw[hpat,List.append_assoc] at hd;rw[hpat,List.length_append];refine UB (t:=t) ?_ (by simpa using ez hd) hp
 cases he:fx p y with
 |true=>
  obtain ⟨k',rfl,hk⟩:=hy' he;exact xb hk he hd
 |false=>
  unfold dz at hd⊢;rw[if_neg (by rw[he];simp)] at hd⊢
  exact hy.at_ (ahn he hp5) n _ hd (by
   intro c hc;simp at hc;subst hc
   rcases hp with ⟨_,rfl⟩|⟨_,rfl⟩|⟨_,rfl⟩<;>rfl)
section
variable {k:Nat}{xs:C7}(hx:2<=xs.length)
include hx
theorem YO (h: ∀y∈xs,Good s num dec k y/\(fx 3 y=true-> ∃k',k=k'+1/\Good s num dec k' y)):Good s num dec k (.mk 3 0 0 xs):=by
 have hpat:pat dec (.mk 3 0 0 xs)=dl 32 (bw dec 3 xs):=by
  rw[pat,dL,if_neg (by omega),if_neg (by omega),if_neg (by omega),if_pos rfl]
 obtain ⟨x,y,r,rfl⟩: ∃x y r,xs=x::y::r:=by
  match xs,hx with
  |x::y::r,_=>exact ⟨x,y,r,rfl⟩
 obtain ⟨a,q,e,ha⟩:=yM (c:=32) (p:=3) (r:=y::r) (h x (by simp)).1.hd
 refine ahf ⟨a,q,by rw[hpat,e],ha⟩ (by unfold lvl;simp[Rx.kind]) λn t hd ht=>?_
 rw[hpat] at hd⊢;unfold kH;rw[GJ (stop:=stopS) (λt h e=>(h _ e).2.2.2.2 rfl) (x::y::r) (bw dec 3 (x::y::r)) [] n _ t (by simp) ?_ hd ht (Oc hd)]
 ·rfl
 refine sc λz hz n t hd ht=>?_
 have hsi:stopI t:=by
  rcases ht with ht|ht
  ·exact ht.i
  ·intro c hc;rw[ht] at hc;simp at hc;subst hc;decide
 obtain ⟨g,g'⟩:=h z hz;cases he:fx 3 z with
 |true=>
  obtain ⟨k',rfl,hk⟩:=g' he;exact uq (xb hk he hd) (ez hd) hsi
 |false=>
  unfold dz at hd⊢;rw[if_neg (by rw[he];simp)] at hd⊢
  exact g.it (ahm he) n t hd hsi
theorem YP (h: ∀y∈xs,Good s num dec k y/\(fx 4 y=true-> ∃k',k=k'+1/\Good s num dec k' y)):Good s num dec k (.mk 4 0 0 xs):=by
 obtain ⟨x,y,r,rfl⟩: ∃x y r,xs=x::y::r:=by
  match xs,hx with
  |x::y::r,_=>exact ⟨x,y,r,rfl⟩
 have hpat:pat dec (.mk 4 0 0 (x::y::r))=dl 124 (bw dec 4 (x::y::r)):=by
  rw[pat,dL,if_neg (by omega),if_neg (by omega),if_neg (by omega),if_neg (by omega),if_pos rfl,if_neg (by rw[bw];simp)]
 obtain ⟨a,q,e,ha⟩:=yM (c:=124) (p:=4) (r:=y::r) (h x (by simp)).1.hd
 refine ahe ⟨a,q,by rw[hpat,e],ha⟩ (by unfold lvl;simp[Rx.kind,Rx.kids]) λn t hd ht=>?_
 rw[hpat] at hd⊢;rw[dj];show ix 4 (fe _ _ _ _ _ _)=_
 rw[GJ (stop:=stopA) (λt h e=>(h _ e).2.2.2.2.2 rfl) (x::y::r) (bw dec 4 (x::y::r)) [] n _ t (by simp) ?_ hd ht (Oc hd)]
 ·rfl
 refine sc λz hz n t hd ht=>?_
 have hss:stopS t:=by
  rcases ht with ht|ht
  ·exact ht.s
  ·intro c hc;rw[ht] at hc;simp at hc;subst hc;decide
 obtain ⟨g,g'⟩:=h z hz;cases he:fx 4 z with
 |true=>
  obtain ⟨k',rfl,hk⟩:=g' he;have h1:=uq (xb hk he hd) (ez hd) hss.i;unfold kH;exact oH (t:=t) h1 (mw (ez hd) λb e=>(hss b e).2.2.2.2)
 |false=>
  unfold dz at hd⊢;rw[if_neg (by rw[he];simp)] at hd⊢
  exact g.sq (ahl he) n t hd hss
end
end
theorem KC {x:Rx}{lv c c':Nat}(h:chk x lv c=some c'):lv<=16/\c<64:=by
 obtain ⟨k,lo,hi,l⟩:=x;rw[chk] at h;split at h
 ·cases h
 ·split at h
  ·cases h
  ·omega
section
variable {s:List UInt8} {num:NR} {dec:Int->List UInt8} (hnum:Ly s num dec) (hdec:SD dec)
include hnum hdec
mutual
theorem KG: ∀(x:Rx){lv c c' k:Nat},chk x lv c=some c'->16<=k+lv->Good s num dec k x
 | .mk p lo hi l,lv,c,c',k,h,hk=>by
  have hlv:=(KC h).1;have hlc:=(KC h).2;rw[chk,if_neg (by omega),if_neg (by omega)] at h
  split at h
  ·rename_i hn
   have hl: ∀y∈l,Good s num dec k y/\(fx p y=true-> ∃k',k=k'+1/\Good s num dec k' y):=λy hy=>by
    have h1:=uQ l h (k:=k) (by omega) y hy
    refine ⟨h1.1,λ_=>?_⟩
    have:=h1.2;have h2:=uQ l h (k:=k-1) (by omega) y hy
    exact ⟨k-1,by omega,h2.1⟩
   unfold bq at hn;split at hn
   ·rename_i hp
    subst hp;have hn:=of_decide_eq_true hn;obtain ⟨q1,q2,q3,q4⟩:=hn;obtain rfl:=List.eq_nil_of_length_eq_zero q4
    by_cases e:lo=hi
    ·subst e
     have hpat:pat dec (.mk 1 lo lo [])=dec lo:=by rw[pat,dL,if_neg (by omega),if_pos rfl,if_pos rfl]
     exact yU (by rw[hpat];exact aaM hnum hdec q1 q3) λn t hd ht=>by rw[hpat] at hd⊢;exact aa4 hnum hdec q1 q3 hd ht
    ·have hpat:pat dec (.mk 1 lo hi [])=91::(dec lo++45::(dec hi++[93])):=by rw[pat,dL,if_neg (by omega),if_pos rfl,if_neg e]
     exact yU (by rw[hpat];exact ⟨91,_,rfl,by decide⟩) λn t hd ht=>by rw[hpat] at hd⊢;exact aa2 hnum hdec q1 (by omega) (by omega) q3 (by simpa using hd)
   ·rename_i hp
    rw[Bool.and_eq_true] at hn;obtain ⟨hn0,hn⟩:=hn;obtain ⟨rfl,rfl⟩:=of_decide_eq_true hn0;split at hn
    ·rename_i hp2
     obtain rfl:=List.eq_nil_of_length_eq_zero (of_decide_eq_true hn);rcases hp2 with rfl|rfl
     ·have hpat:pat dec (.mk 0 0 0 [])= [40,41]:=by rw[pat,dL,if_pos rfl]
      refine yU (by rw[hpat];exact ⟨40,_,rfl,by decide⟩) λn t hd ht=>?_
      rw[hpat] at hd⊢;have c1:chr s n 46=false:=by rw[cQ hd];rfl
      have c2:chr s n 33=false:=by rw[cQ hd];rfl
      have c3:chr s n 40=true:=by rw[cQ hd];rfl
      have c4:chr s (n+1) 41=true:=by rw[cQ (jO hd)];rfl
      simp[di,c1,c2,c3,c4]
     ·have hpat:pat dec (.mk 2 0 0 [])= [46]:=by rw[pat,dL,if_neg (by omega),if_neg (by omega),if_pos rfl]
      refine yU (by rw[hpat];exact ⟨46,_,rfl,by decide⟩) λn t hd ht=>?_
      rw[hpat] at hd⊢;have c1:chr s n 46=true:=by rw[cQ hd];rfl
      simp[di,c1]
    ·split at hn
     ·rename_i hp3
      subst hp3;exact YO hnum hdec (of_decide_eq_true hn) hl
     ·split at hn
      ·rename_i hp4
       subst hp4;have hn:=of_decide_eq_true hn
       by_cases hl0:l= []
       ·subst hl0
        have hpat:pat dec (.mk 4 0 0 [])= [33]:=by rw[pat,dL,if_neg (by omega),if_neg (by omega),if_neg (by omega),if_neg (by omega),if_pos rfl,bw];rfl
        refine yU (by rw[hpat];exact ⟨33,_,rfl,by decide⟩) λn t hd ht=>?_
        rw[hpat] at hd⊢;have c1:chr s n 46=false:=by rw[cQ hd];rfl
        have c2:chr s n 33=true:=by rw[cQ hd];rfl
        simp[di,c1,c2]
       ·exact YP hnum hdec (by have:l.length≠0:=λq=>hl0 (List.eq_nil_of_length_eq_zero q);omega) hl
      ·split at hn
       ·rename_i hp5
        have hn:=of_decide_eq_true hn
        obtain ⟨y,rfl⟩: ∃y,l= [y]:=by
         match l,hn with
         | [y],_=>exact ⟨y,rfl⟩
        obtain ⟨g,g'⟩:=hl y (by simp)
        rcases (by omega:p=5∨p=6∨p=7) with rfl|rfl|rfl
        ·exact ut hnum hdec (b:=42) (by simp) g g'
        ·exact ut hnum hdec (b:=43) (by simp) g g'
        ·exact ut hnum hdec (b:=63) (by simp) g g'
       ·cases hn
  ·cases h
theorem uQ: ∀(l:C7){lv c c' k:Nat},i6 l lv c=some c'->16<=k+lv-> ∀y∈l,Good s num dec k y/\lv<=16
 | [],_,_,_,_,_,_,y,hy=>by simp at hy
 |x::r,lv,c,c',k,h,hk,y,hy=>by
  rw[i6] at h;split at h
  ·rename_i c1 h1
   have g:=KG x h1 hk;rcases List.mem_cons.1 hy with hxy|hy
   ·rw[hxy];exact ⟨g,(KC h1).1⟩
   ·exact uQ r h hk y hy
  ·cases h
end
theorem Lu {x:Rx}{c' K:Nat}(h:chk x 1 0=some c')(hK:16<=K)(hs:s=pat dec x):dj s num K 0=some (x,s.length):=by
 have g:=KG hnum hdec x h (k:=K-1) (by omega)
 have:=g.al 0 [] (by simpa using hs) (λc e=>by simp at e)
 rw[show K-1+1=K by omega] at this
 rw[this,<-hs];simp
end
mutual
def Rx.enc:Rx->B7
 | .mk k lo hi l=>[.int .i64 k,.int .i64 lo,.int .i64 hi,.sl 4 (Rx.encL l)]
def Rx.encL:C7->B6
 | []=>[]
 |x::r=>Rx.enc x::Rx.encL r
end
theorem xB: ∀l:C7,Rx.encL l=l.map Rx.enc
 | []=>by rw[Rx.encL];rfl
 |x::r=>by rw[Rx.encL,xB r];rfl
theorem bl (k lo hi:Int)(l:C7):(Rx.mk k lo hi l).enc= [.int .i64 k,.int .i64 lo,.int .i64 hi,.sl 4 (l.map Rx.enc)]:=by rw[Rx.enc,xB]
mutual
theorem cM: ∀x:Rx,aM x.enc=true
 | .mk k lo hi l=>by rw[Rx.enc];simp[aM,AV.pure,wH l]
theorem wH: ∀l:C7,ab (Rx.encL l)=true
 | []=>by rw[Rx.encL];rfl
 |x::r=>by rw[Rx.encL];simp[ab,cM x,wH r]
end
attribute [simp] cM
@[simp] theorem ahV (l:C7):ab (l.map Rx.enc)=true:=by rw[<-xB];exact wH l
def rx0:Rx:=.mk 0 0 0 []
def gN (c:UInt8):Int:=(c.toNat:Int)-48
def dW (a:Int)(l:B5):Int:=l.foldl (λa c=>10*a+gN c) a
def rnL (s:B5)(fr:Nat):Nat->Int->Nat->Option (Int×Nat)
 |0,_,_=>none
 |f+1,a,n=>match s[n]? with
  |some c=>if isD c then (if 4294967295<10*a+gN c then none else rnL s fr f (10*a+gN c) (n+1)) else if fr<n then some (a,n) else none
  |none=>if fr<n then some (a,n) else none
section
variable (s:B5)
def js:NR:=λn=>rnL s n (s.length+1) 0 n
def gH:NR:=λn=>
 let t:=(s.drop n).takeWhile isD
 if t= [] then none else if 1<t.length/\t.head?=some 48 then none else if 4294967295<dW 0 t then none else some (dW 0 t,n+t.length)
def ff:Option Rx:=match dj s (js s) 32 0 with
 |some (x,m)=>if m=s.length/\(chk x 1 0).isSome=true/\pat am x=s then some x else none
 |none=>none
def rf:Option Rx:=match dj s (gH s) 33 0 with
 |some (x,_)=>if (chk x 1 0).isSome=true/\pat am x=s then some x else none
 |none=>none
def rQ:Option Rx->Ret
 |none=>⟨.tup [.agg rx0.enc,.int .i64 2],[]⟩
 |some x=>⟨.tup [.agg x.enc,.int .i64 0],[]⟩
set_option linter.unusedVariables false
theorem vI {c:UInt8}(h:isD c=true):0<=gN c/\gN c<=9:=by
 unfold isD at h;have h:=of_decide_eq_true h;unfold gN;omega
theorem Jj {u:Nat}(h:u<10):isD (UInt8.ofNat (48+u))=true/\gN (UInt8.ofNat (48+u))=u:=by
 have e:(UInt8.ofNat (48+u)).toNat=48+u:=by rw[UInt8.toNat_ofNat'];omega
 unfold isD gN;rw[e];constructor
 ·simp;omega
 ·omega
theorem Wt (a:Int)(l m:B5):dW a (l++m)=dW (dW a l) m:=by simp[dW]
theorem zU: ∀(l:B5)(a:Int),0<=a->(∀c∈l,isD c=true)->a<=dW a l
 | [],a,_,_=>by simp[dW]
 |c::r,a,h,hd=>by
  have h1:=vI (hd c (by simp))
  have h2:=zU r (10*a+gN c) (by omega) (λx hx=>hd x (by simp[hx]))
  show a<=dW (10*a+gN c) r
  omega
theorem Ou: ∀(f u:Nat),u<10^ (f+1)->(∀c∈bT f u,isD c=true)/\dW 0 (bT f u)=u/\(bT f u≠ [])/\(1<=u->(bT f u).head?≠some 48)/\(u<10->(bT f u).length=1)
 |0,u,h=>by
  have hu:u<10:=by simpa using h
  obtain ⟨h1,h2⟩:=Jj hu;simp only[bT];generalize UInt8.ofNat (48+u)=b at*;refine ⟨by simp[h1],by simp[dW,h2],by simp,λh1u q=>?_,λ_=>by simp⟩
  simp only[List.head?_cons,Option.some.injEq] at q;rw[q] at h2;have:gN 48=0:=rfl;omega
 |f+1,u,h=>by
  by_cases hu:u<10
  ·obtain ⟨h1,h2⟩:=Jj hu
   simp only[bT,hu,if_true];generalize UInt8.ofNat (48+u)=b at*;refine ⟨by simp[h1],by simp[dW,h2],by simp,λh1u q=>?_,λ_=>by simp⟩
   simp only[List.head?_cons,Option.some.injEq] at q;rw[q] at h2;have:gN 48=0:=rfl;omega
  ·obtain ⟨q1,q2,q3,q4,q5⟩:=Ou f (u/ 10) (by rw[Nat.pow_succ] at h;omega)
   obtain ⟨h1,h2⟩:=Jj (u:=u % 10) (by omega)
   have e:bT (f+1) u=bT f (u/ 10)++[UInt8.ofNat (48+u % 10)]:=by simp[bT,hu]
   refine ⟨?_,?_,by rw[e];simp,λ_=>?_,λh=>absurd h hu⟩
   ·rw[e];intro c hc
    rcases BE.1 hc with hc|hc
    ·exact q1 c hc
    ·simp only[BO] at hc;rw[hc];exact h1
   ·rw[e,Wt,q2]
    show 10* ((u/ 10:Nat):Int)+gN _=u
    rw[h2];omega
   ·rw[e]
    have:=q4 (by omega)
    cases hd:bT f (u/ 10) with
    |nil=>exact absurd hd q3
    |cons c r=>rw[hd] at this;simpa using this
theorem Bq {a:Int}(h0:0<=a)(h1:a<=4294967295):(∀c∈am a,isD c=true)/\dW 0 (am a)=a/\am a≠ []/\ ¬(1<(am a).length/\(am a).head?=some 48):=by
 unfold am;rw[Aa (by omega)]
 obtain ⟨q1,q2,q3,q4,q5⟩:=Ou 19 a.toNat (by omega)
 refine ⟨q1,by rw[q2];omega,q3,?_⟩
 rintro ⟨l,hh⟩
 by_cases hz:1<=a.toNat
 ·exact q4 hz hh
 ·rw[q5 (by omega)] at l;omega
theorem DT:SD am:=λa h0 h1=>by
 obtain ⟨q1,_,q3,_⟩:=Bq h0 h1;cases hd:am a with
 |nil=>exact absurd hd q3
 |cons c r=>exact ⟨c,r,rfl,q1 c (by rw[hd];simp)⟩
theorem abg (s:B5)(fr:Nat): ∀(ds:B5)(f:Nat)(a:Int)(n:Nat)(t:B5),(∀c∈ds,isD c=true)->0<=a->dW a ds<=4294967295->s.drop n=ds++t->vj t->ds.length<f->fr<n+ds.length->rnL s fr f a n=some (dW a ds,n+ds.length)
 | [],f,a,n,t,hd,h0,hv,e,ht,hf,hfr=>by
  cases f with
  |zero=>simp at hf
  |succ f=>
  have h1:=Cj e 0;rw[Nat.add_zero] at h1;rw[rnL,h1];simp only[A9];cases hh:t[0]? with
  |none=>simp at hfr;simp[dW,hfr]
  |some c=>
   have:isD c=false:=ht c (by cases t with|nil=>simp at hh|cons a b=>simpa using hh)
   simp at hfr;simp[this,dW,hfr]
 |c::r,f,a,n,t,hd,h0,hv,e,ht,hf,hfr=>by
  cases f with
  |zero=>simp at hf
  |succ f=>
  have h1:=Cj e 0;rw[Nat.add_zero] at h1;have hc:=hd c (by simp)
  have h2:=vI hc;have h3:dW a (c::r)=dW (10*a+gN c) r:=rfl;have h4:=zU r (10*a+gN c) (by omega) (λx hx=>hd x (by simp[hx]))
  rw[rnL,h1];simp only[BD,List.getElem?_cons_zero,hc,if_true];rw[Aa (by omega),abg s fr r f (10*a+gN c) (n+1) t (λx hx=>hd x (by simp[hx])) (by omega) (by omega) (jO (by simpa using e)) ht (by simpa using hf) (by simp at hfr;omega)]
  rw[h3];simp;omega
theorem Uf:Ly s (js s) am:=λn a t h0 h1 e ht=>by
 obtain ⟨q1,q2,q3,_⟩:=Bq h0 h1;have hl:(s.drop n).length=(am a++t).length:=by rw[e]
 have hp:0<(am a).length:=List.length_pos_iff.2 q3;simp at hl;unfold js;rw[abg s n (am a) (s.length+1) 0 n t q1 (by omega) (by rw[q2];exact h1) e ht (by omega) (by omega),q2]
theorem tu {p:UInt8->Bool}: ∀{l t:B5},(∀c∈l,p c=true)->(∀c,t.head?=some c->p c=false)->(l++t).takeWhile p=l
 | [],t,_,ht=>by
  cases t with
  |nil=>rfl
  |cons c r=>simp[ht c rfl]
 |c::r,t,hl,ht=>by
  rw[BD,List.takeWhile_cons,Ac (hl c (by simp)),tu (λx hx=>hl x (by simp[hx])) ht]
theorem Ug:Ly s (gH s) am:=λn a t h0 h1 e ht=>by
 obtain ⟨q1,q2,q3,q4⟩:=Bq h0 h1;unfold gH;rw[e,tu q1 ht];dsimp only;rw[Aa q3,Aa q4,q2,Aa (by omega)]
theorem ab7:rf s=ff s:=by
 unfold rf ff;have hb1: ∀x c',chk x 1 0=some c'->s=pat am x->dj s (js s) 32 0=some (x,s.length):=λx c' h hs=>Lu (Uf s) DT h (by omega) hs
 have hb2: ∀x c',chk x 1 0=some c'->s=pat am x->dj s (gH s) 33 0=some (x,s.length):=λx c' h hs=>Lu (Ug s) DT h (by omega) hs
 cases h1:dj s (gH s) 33 0 with
 |none=>
  cases h2:dj s (js s) 32 0 with
  |none=>rfl
  |some y=>
   obtain ⟨y,m⟩:=y;dsimp only;rw[Aa]
   rintro ⟨_,q2,q3⟩
   obtain ⟨c',hc⟩:=A8.1 q2;rw[hb2 y c' hc q3.symm] at h1;cases h1
 |some x=>
  obtain ⟨x,k⟩:=x;dsimp only
  by_cases hq:(chk x 1 0).isSome=true/\pat am x=s
  ·rw[Ac hq]
   obtain ⟨c',hc⟩:=A8.1 hq.1;rw[hb1 x c' hc hq.2.symm];simp[hq.1,hq.2]
  ·rw[Aa hq]
   cases h2:dj s (js s) 32 0 with
   |none=>rfl
   |some y=>
    obtain ⟨y,m⟩:=y;dsimp only;rw[Aa]
    rintro ⟨_,q2,q3⟩
    obtain ⟨c',hc⟩:=A8.1 q2;rw[hb2 y c' hc q3.symm] at h1;injection h1 with h1
    injection h1 with h1 _
    subst h1;exact hq ⟨q2,q3⟩
end
def Kg (x:Int):B7:=[.int .i64 x]
def xA (x:Int):B7:=[.int .u32 x]
structure Seg where
 kind:Int
 as:D4
def Seg.enc (s:Seg):B7:=[.int .i64 s.kind,.sl 1 (s.as.map Kg)]
structure TLV where
 kind:Int
 value:B5
def TLV.enc (s:TLV):B7:=[.int .i64 s.kind,.sl 1 (byteCells s.value)]
structure Attrs where
 origin:Int
 path:List Seg
 nextHop:Int
 hasMED:Bool
 med:Int
 hasPref:Bool
 pref:Int
 atomic:Bool
 hasAggr:Bool
 aggrAS:Int
 aggrAddr:Int
 comms:D4
 hasOrig:Bool
 orig:Int
 clusters:D4
 unknown:List TLV
def Attrs.enc (a:Attrs):B7:=[.int .i64 a.origin,.sl 2 (a.path.map Seg.enc),.int .u32 a.nextHop,.bool a.hasMED,.int .i64 a.med,.bool a.hasPref,.int .i64 a.pref,.bool a.atomic,.bool a.hasAggr,.int .i64 a.aggrAS,.int .u32 a.aggrAddr,
 .sl 1 (a.comms.map xA),.bool a.hasOrig,.int .u32 a.orig,.sl 1 (a.clusters.map xA),.sl 2 (a.unknown.map TLV.enc)]
structure PVRoute where
 paddr:Int
 plen:Int
 attrs:Attrs
 peer:Int
 kind:Int
 router:Int
 stale:Bool
def PVRoute.enc (r:PVRoute):B7:=[.int .u32 r.paddr,.int .i64 r.plen,
 .int .i64 r.attrs.origin,.sl 2 (r.attrs.path.map Seg.enc),.int .u32 r.attrs.nextHop,.bool r.attrs.hasMED,.int .i64 r.attrs.med,.bool r.attrs.hasPref,.int .i64 r.attrs.pref,.bool r.attrs.atomic,.bool r.attrs.hasAggr,.int .i64 r.attrs.aggrAS,.int .u32 r.attrs.aggrAddr,
 .sl 1 (r.attrs.comms.map xA),.bool r.attrs.hasOrig,.int .u32 r.attrs.orig,.sl 1 (r.attrs.clusters.map xA),.sl 2 (r.attrs.unknown.map TLV.enc),
 .int .i64 r.peer,.int .i64 r.kind,.int .u32 r.router,.bool r.stale]
structure IGP where
 addr:Int
 cost:Int
def IGP.enc (c:IGP):B7:=[.int .u32 c.addr,.int .i64 c.cost]
theorem eo {α:Type}{f:α->B7}(h: ∀x,aM (f x)=true): ∀l:List α,ab (l.map f)=true
 | []=>rfl
 |x::r=>by simp only[An,ab,h x,eo h r,Bool.and_self]
theorem o0: ∀l:B5,ab (byteCells l)=true:=λl=>eo (f:=λb:UInt8=>[AV.int .u8 (b.toNat:Int)]) (λ_=>rfl) l
@[simp] theorem ahS (l:D4):ab (l.map Kg)=true:=eo (λ_=>rfl) l
@[simp] theorem ahR (l:D4):ab (l.map xA)=true:=eo (λ_=>rfl) l
theorem Seg.pure (s:Seg):aM s.enc=true:=by simp[Seg.enc,aM,AV.pure]
@[simp] theorem ahO (l:List Seg):ab (l.map Seg.enc)=true:=eo Seg.pure l
theorem TLV.pure (s:TLV):aM s.enc=true:=by simp[TLV.enc,aM,AV.pure,o0]
@[simp] theorem ahN (l:List TLV):ab (l.map TLV.enc)=true:=eo TLV.pure l
@[simp] theorem Attrs.pure (s:Attrs):aM s.enc=true:=by simp[Attrs.enc,aM,AV.pure]
@[simp] theorem PVRoute.pure (s:PVRoute):aM s.enc=true:=by simp[PVRoute.enc,aM,AV.pure]
@[simp] theorem agu (l:List PVRoute):ab (l.map PVRoute.enc)=true:=eo PVRoute.pure l
@[simp] theorem ahQ (l:List IGP):ab (l.map IGP.enc)=true:=eo (λ_=>rfl) l
def okI (x:Int):Prop:= -9223372036854775808<=x/\x<=9223372036854775807
def okU (x:Int):Prop:=0<=x/\x<=4294967295
structure Seg.ok (s:Seg):Prop where
 kind:okI s.kind
 as: ∀x∈s.as,okI x
structure TLV.ok (s:TLV):Prop where
 kind:okI s.kind
structure IGP.ok (s:IGP):Prop where
 addr:okU s.addr
 cost:okI s.cost
structure Attrs.ok (a:Attrs):Prop where
 origin:okI a.origin
 path: ∀s∈a.path,s.ok
 nextHop:okU a.nextHop
 med:okI a.med
 pref:okI a.pref
 aggrAS:okI a.aggrAS
 aggrAddr:okU a.aggrAddr
 comms: ∀x∈a.comms,okU x
 orig:okU a.orig
 clusters: ∀x∈a.clusters,okU x
 unknown: ∀x∈a.unknown,x.ok
structure PVRoute.ok (r:PVRoute):Prop where
 paddr:okU r.paddr
 plen:okI r.plen
 attrs:r.attrs.ok
 peer:okI r.peer
 kind:okI r.kind
 router:okU r.router
structure Pfx where
 addr:Int
 len:Int
 deriving DecidableEq
def Pfx.enc (p:Pfx):B7:=[.int .u32 p.addr,.int .i64 p.len]
structure Cap where
 code:Int
 value:B5
 deriving DecidableEq
def Cap.enc (p:Cap):B7:=[.int .i64 p.code,.sl 1 (byteCells p.value)]
structure PMsg where
 kind:Int
 version:Int
 as:Int
 hold:Int
 router:Int
 caps:List Cap
 withdrawn:List Pfx
 attrs:Attrs
 reach:List Pfx
 code:Int
 sub:Int
 data:B5
def PMsg.enc (m:PMsg):B7:=[.int .i64 m.kind,.int .i64 m.version,.int .i64 m.as,.int .i64 m.hold,.int .u32 m.router,.sl 2 (m.caps.map Cap.enc),.sl 2 (m.withdrawn.map Pfx.enc),
 .int .i64 m.attrs.origin,.sl 2 (m.attrs.path.map Seg.enc),.int .u32 m.attrs.nextHop,.bool m.attrs.hasMED,.int .i64 m.attrs.med,.bool m.attrs.hasPref,.int .i64 m.attrs.pref,.bool m.attrs.atomic,.bool m.attrs.hasAggr,.int .i64 m.attrs.aggrAS,.int .u32 m.attrs.aggrAddr,
 .sl 1 (m.attrs.comms.map xA),.bool m.attrs.hasOrig,.int .u32 m.attrs.orig,.sl 1 (m.attrs.clusters.map xA),.sl 2 (m.attrs.unknown.map TLV.enc),
 .sl 2 (m.reach.map Pfx.enc),.int .i64 m.code,.int .i64 m.sub,.sl 1 (byteCells m.data)]
structure Peer where
 kind:Int
 as:Int
 addr:Int
 loc:Int
 client:Bool
 hold:Int
 restart:Int
 imp:B5
 exp:B5
 nextSelf:Bool
 damp:Bool
def Peer.enc (p:Peer):B7:=[.int .i64 p.kind,.int .i64 p.as,.int .u32 p.addr,.int .u32 p.loc,.bool p.client,.int .i64 p.hold,.int .i64 p.restart,.str p.imp,.str p.exp,.bool p.nextSelf,.bool p.damp]
structure Conf where
 as:Int
 confed:Int
 router:Int
 cluster:Int
 peers:List Peer
 nets:AV
 p1:AV
 p2:AV
 p3:AV
 p4:AV
 d1:Int
 d2:Int
 d3:Int
 d4:Int
 multi:Int
def Conf.enc (c:Conf):B7:=[.int .i64 c.as,.int .i64 c.confed,.int .u32 c.router,.int .u32 c.cluster,.sl 11 (c.peers.map Peer.enc),c.nets,c.p1,c.p2,c.p3,c.p4,.int .i64 c.d1,.int .i64 c.d2,.int .i64 c.d3,.int .i64 c.d4,.int .i64 c.multi]
structure Ses where
 state:Int
 retry:Int
 hold:Int
 keep:Int
 holdTime:Int
 router:Int
 restart:Int
 refresh:Bool
 untl:Int
def Ses.enc (s:Ses):B7:=[.int .i64 s.state,.int .i64 s.retry,.int .i64 s.hold,.int .i64 s.keep,.int .i64 s.holdTime,.int .u32 s.router,.int .i64 s.restart,.bool s.refresh,.int .i64 s.untl]
structure Act where
 kind:Int
 msg:PMsg
def Act.enc (a:Act):B7:=.int .i64 a.kind::a.msg.enc
theorem Pfx.pure (s:Pfx):aM s.enc=true:=rfl
@[simp] theorem ahP (l:List Pfx):ab (l.map Pfx.enc)=true:=eo Pfx.pure l
theorem Cap.pure (s:Cap):aM s.enc=true:=by simp[Cap.enc,aM,AV.pure,o0]
@[simp] theorem ahT (l:List Cap):ab (l.map Cap.enc)=true:=eo Cap.pure l
@[simp] theorem PMsg.pure (s:PMsg):aM s.enc=true:=by simp[PMsg.enc,aM,AV.pure,o0]
theorem Peer.pure (s:Peer):aM s.enc=true:=rfl
@[simp] theorem agM (l:List Peer):ab (l.map Peer.enc)=true:=eo Peer.pure l
@[simp] theorem Ses.pure (s:Ses):aM s.enc=true:=rfl
@[simp] theorem Act.pure (s:Act):aM s.enc=true:=by simp[Act.enc,aM,AV.pure]
@[simp] theorem ahU (l:List Act):ab (l.map Act.enc)=true:=eo Act.pure l
structure Conf.ok (c:Conf):Prop where
 nets:c.nets.pure=true
 p1:c.p1.pure=true
 p2:c.p2.pure=true
 p3:c.p3.pure=true
 p4:c.p4.pure=true
 as:okI c.as
 confed:okI c.confed
 router:okU c.router
 peers: ∀p∈c.peers,okI p.as/\okI p.hold/\okI p.restart/\okI p.kind
 len:c.peers.length<=maxLen
theorem Conf.pure {c:Conf}(h:c.ok):aM c.enc=true:=by simp[Conf.enc,aM,AV.pure,h.nets,h.p1,h.p2,h.p3,h.p4]
structure Pfx.ok (p:Pfx):Prop where
 addr:okU p.addr
 len:okI p.len
structure PMsg.ok (m:PMsg):Prop where
 kind:okI m.kind
 version:okI m.version
 as:okI m.as
 hold:okI m.hold
 router:okU m.router
 caps: ∀c∈m.caps,okI c.code
 withdrawn: ∀p∈m.withdrawn,p.ok
 attrs:m.attrs.ok
 reach: ∀p∈m.reach,p.ok
 code:okI m.code
 sub:okI m.sub
theorem ahK {as:B7}(h:Ty.T .str as): ∃s,as= [.str s]:=by
 obtain ⟨s,rfl,_⟩:=h;exact ⟨s,rfl⟩
structure Ses.ok (s:Ses):Prop where
 state:okI s.state
 retry:okI s.retry
 hold:okI s.hold
 keep:okI s.keep
 holdTime:okI s.holdTime
 router:okU s.router
 restart:okI s.restart
 untl:okI s.untl
set_option maxHeartbeats 1000000
@[simp] theorem J5 (x:Pfx):aM x.enc=true:=by simp[Pfx.enc,aM,AV.pure]
@[simp] theorem W8: ∀l:D4,ab (l.map Kg)=true
 | []=>rfl
 |x::r=>by simp only[An,ab,W8 r];simp[Kg,aM,AV.pure]
@[simp] theorem Io: ∀l:List Pfx,ab (l.map Pfx.enc)=true
 | []=>rfl
 |x::r=>by simp only[An,ab,Io r,J5];rfl
structure Ifc where
 kind:Int
 pfx:Pfx
 addr:Int
 area:Int
 cost:Int
 prio:Int
 hello:Int
 dead:Int
def Ifc.enc (r:Ifc):B7:=[.int .i64 r.kind,.int .u32 r.pfx.addr,.int .i64 r.pfx.len,.int .u32 r.addr,.int .u32 r.area,.int .i64 r.cost,.int .i64 r.prio,.int .i64 r.hello,.int .i64 r.dead]
def Ifc.ok (r:Ifc):Prop:=okI r.kind/\Pfx.ok r.pfx/\okU r.addr/\okU r.area/\okI r.cost/\okI r.prio/\okI r.hello/\okI r.dead
@[simp] theorem Kc (x:Ifc):aM x.enc=true:=by simp[Ifc.enc,aM,AV.pure]
@[simp] theorem Iv: ∀l:List Ifc,ab (l.map Ifc.enc)=true
 | []=>rfl
 |x::r=>by simp only[An,ab,Iv r,Kc];rfl
structure ARange where
 area:Int
 pfx:Pfx
 adv:Bool
def ARange.enc (r:ARange):B7:=[.int .u32 r.area,.int .u32 r.pfx.addr,.int .i64 r.pfx.len,.bool r.adv]
def ARange.ok (r:ARange):Prop:=okU r.area/\Pfx.ok r.pfx
@[simp] theorem zn (x:ARange):aM x.enc=true:=by simp[ARange.enc,aM,AV.pure]
@[simp] theorem yu: ∀l:List ARange,ab (l.map ARange.enc)=true
 | []=>rfl
 |x::r=>by simp only[An,ab,yu r,zn];rfl
structure LSC where
 router:Int
 ifs:List Ifc
 ranges:List ARange
def LSC.enc (r:LSC):B7:=[.int .u32 r.router,.sl 9 (r.ifs.map Ifc.enc),.sl 4 (r.ranges.map ARange.enc)]
def LSC.ok (r:LSC):Prop:=okU r.router/\(∀x∈r.ifs,Ifc.ok x)/\(∀x∈r.ranges,ARange.ok x)
@[simp] theorem J9 (x:LSC):aM x.enc=true:=by simp[LSC.enc,aM,AV.pure]
@[simp] theorem Iu: ∀l:List LSC,ab (l.map LSC.enc)=true
 | []=>rfl
 |x::r=>by simp only[An,ab,Iu r,J9];rfl
structure RuleP where
 permit:Bool
 pfx:Pfx
 min:Int
 max:Int
abbrev DN:=List RuleP
def RuleP.enc (r:RuleP):B7:=[.bool r.permit,.int .u32 r.pfx.addr,.int .i64 r.pfx.len,.int .i64 r.min,.int .i64 r.max]
def RuleP.ok (r:RuleP):Prop:=Pfx.ok r.pfx/\okI r.min/\okI r.max
@[simp] theorem BX (x:RuleP):aM x.enc=true:=by simp[RuleP.enc,aM,AV.pure]
@[simp] theorem Ay: ∀l:DN,ab (l.map RuleP.enc)=true
 | []=>rfl
 |x::r=>by simp only[An,ab,Ay r,BX];rfl
structure PList where
 name:B5
 rules:DN
abbrev CL:=List PList
def PList.enc (r:PList):B7:=[.str r.name,.sl 5 (r.rules.map RuleP.enc)]
def PList.ok (r:PList):Prop:=(∀x∈r.rules,RuleP.ok x)
@[simp] theorem Ce (x:PList):aM x.enc=true:=by simp[PList.enc,aM,AV.pure]
@[simp] theorem AH: ∀l:CL,ab (l.map PList.enc)=true
 | []=>rfl
 |x::r=>by simp only[An,ab,AH r,Ce];rfl
structure PathR where
 permit:Bool
 pattern:B5
abbrev DO:=List PathR
def PathR.enc (r:PathR):B7:=[.bool r.permit,.str r.pattern]
def PathR.ok (r:PathR):Prop:=True
@[simp] theorem B9 (x:PathR):aM x.enc=true:=by simp[PathR.enc,aM,AV.pure]
@[simp] theorem AE: ∀l:DO,ab (l.map PathR.enc)=true
 | []=>rfl
 |x::r=>by simp only[An,ab,AE r,B9];rfl
structure PathL where
 name:B5
 rules:DO
abbrev CO:=List PathL
def PathL.enc (r:PathL):B7:=[.str r.name,.sl 2 (r.rules.map PathR.enc)]
def PathL.ok (r:PathL):Prop:=(∀x∈r.rules,PathR.ok x)
@[simp] theorem Cd (x:PathL):aM x.enc=true:=by simp[PathL.enc,aM,AV.pure]
@[simp] theorem AG: ∀l:CO,ab (l.map PathL.enc)=true
 | []=>rfl
 |x::r=>by simp only[An,ab,AG r,Cd];rfl
structure ComR where
 permit:Bool
 high:Int
 low:Int
abbrev DR:=List ComR
def ComR.enc (r:ComR):B7:=[.bool r.permit,.int .i64 r.high,.int .i64 r.low]
def ComR.ok (r:ComR):Prop:=okI r.high/\okI r.low
@[simp] theorem Fw (x:ComR):aM x.enc=true:=by simp[ComR.enc,aM,AV.pure]
@[simp] theorem EN: ∀l:DR,ab (l.map ComR.enc)=true
 | []=>rfl
 |x::r=>by simp only[An,ab,EN r,Fw];rfl
structure ComL where
 name:B5
 rules:DR
abbrev CS:=List ComL
def ComL.enc (r:ComL):B7:=[.str r.name,.sl 3 (r.rules.map ComR.enc)]
def ComL.ok (r:ComL):Prop:=(∀x∈r.rules,ComR.ok x)
@[simp] theorem Fx (x:ComL):aM x.enc=true:=by simp[ComL.enc,aM,AV.pure]
@[simp] theorem EO: ∀l:CS,ab (l.map ComL.enc)=true
 | []=>rfl
 |x::r=>by simp only[An,ab,EO r,Fx];rfl
structure Mat where
 kind:Int
 name:B5
 n:Int
 pfx:Pfx
 neg:Bool
abbrev C9:=List Mat
def Mat.enc (r:Mat):B7:=[.int .i64 r.kind,.str r.name,.int .i64 r.n,.int .u32 r.pfx.addr,.int .i64 r.pfx.len,.bool r.neg]
def Mat.ok (r:Mat):Prop:=okI r.kind/\okI r.n/\Pfx.ok r.pfx
@[simp] theorem J7 (x:Mat):aM x.enc=true:=by simp[Mat.enc,aM,AV.pure]
@[simp] theorem Iq: ∀l:C9,ab (l.map Mat.enc)=true
 | []=>rfl
 |x::r=>by simp only[An,ab,Iq r,J7];rfl
structure Actn where
 kind:Int
 n:Int
 asn:Int
 com:Int
 addr:Int
abbrev D3:=Option Actn
abbrev C8:=List Actn
def Actn.enc (r:Actn):B7:=[.int .i64 r.kind,.int .i64 r.n,.int .i64 r.asn,.int .u32 r.com,.int .u32 r.addr]
def Actn.ok (r:Actn):Prop:=okI r.kind/\okI r.n/\okI r.asn/\okU r.com/\okU r.addr
@[simp] theorem Fy (x:Actn):aM x.enc=true:=by simp[Actn.enc,aM,AV.pure]
@[simp] theorem EU: ∀l:C8,ab (l.map Actn.enc)=true
 | []=>rfl
 |x::r=>by simp only[An,ab,EU r,Fy];rfl
structure Trm where
 name:B5
 mats:C9
 acts:C8
 verdict:Int
abbrev C4:=List Trm
def Trm.enc (r:Trm):B7:=[.str r.name,.sl 6 (r.mats.map Mat.enc),.sl 5 (r.acts.map Actn.enc),.int .i64 r.verdict]
def Trm.ok (r:Trm):Prop:=(∀x∈r.mats,Mat.ok x)/\(∀x∈r.acts,Actn.ok x)/\okI r.verdict
@[simp] theorem JZ (x:Trm):aM x.enc=true:=by simp[Trm.enc,aM,AV.pure]
@[simp] theorem Ik: ∀l:C4,ab (l.map Trm.enc)=true
 | []=>rfl
 |x::r=>by simp only[An,ab,Ik r,JZ];rfl
structure Pol where
 name:B5
 terms:C4
 dflt:Int
abbrev C0:=List Pol
def Pol.enc (r:Pol):B7:=[.str r.name,.sl 4 (r.terms.map Trm.enc),.int .i64 r.dflt]
def Pol.ok (r:Pol):Prop:=(∀x∈r.terms,Trm.ok x)/\okI r.dflt
@[simp] theorem J4 (x:Pol):aM x.enc=true:=by simp[Pol.enc,aM,AV.pure]
@[simp] theorem Im: ∀l:C0,ab (l.map Pol.enc)=true
 | []=>rfl
 |x::r=>by simp only[An,ab,Im r,J4];rfl
structure PSet where
 prefixes:CL
 paths:CO
 comms:CS
 pols:C0
def PSet.enc (r:PSet):B7:=[.sl 2 (r.prefixes.map PList.enc),.sl 2 (r.paths.map PathL.enc),.sl 2 (r.comms.map ComL.enc),.sl 3 (r.pols.map Pol.enc)]
def PSet.ok (r:PSet):Prop:=(∀x∈r.prefixes,PList.ok x)/\(∀x∈r.paths,PathL.ok x)/\(∀x∈r.comms,ComL.ok x)/\(∀x∈r.pols,Pol.ok x)
@[simp] theorem Ft (x:PSet):aM x.enc=true:=by simp[PSet.enc,aM,AV.pure]
@[simp] theorem EC: ∀l:List PSet,ab (l.map PSet.enc)=true
 | []=>rfl
 |x::r=>by simp only[An,ab,EC r,Ft];rfl
structure PeerC where
 kind:Int
 asn:Int
 addr:Int
 loc:Int
 client:Bool
 hold:Int
 restart:Int
 imp:B5
 exp:B5
 nextSelf:Bool
 damp:Bool
def PeerC.enc (r:PeerC):B7:=[.int .i64 r.kind,.int .i64 r.asn,.int .u32 r.addr,.int .u32 r.loc,.bool r.client,.int .i64 r.hold,.int .i64 r.restart,.str r.imp,.str r.exp,.bool r.nextSelf,.bool r.damp]
def PeerC.ok (r:PeerC):Prop:=okI r.kind/\okI r.asn/\okU r.addr/\okU r.loc/\okI r.hold/\okI r.restart
@[simp] theorem B8 (x:PeerC):aM x.enc=true:=by simp[PeerC.enc,aM,AV.pure]
@[simp] theorem AB: ∀l:List PeerC,ab (l.map PeerC.enc)=true
 | []=>rfl
 |x::r=>by simp only[An,ab,AB r,B8];rfl
structure DampC where
 half:Int
 reuse:Int
 suppress:Int
 maxTime:Int
def DampC.enc (r:DampC):B7:=[.int .i64 r.half,.int .i64 r.reuse,.int .i64 r.suppress,.int .i64 r.maxTime]
def DampC.ok (r:DampC):Prop:=okI r.half/\okI r.reuse/\okI r.suppress/\okI r.maxTime
@[simp] theorem Cg (x:DampC):aM x.enc=true:=by simp[DampC.enc,aM,AV.pure]
@[simp] theorem AP: ∀l:List DampC,ab (l.map DampC.enc)=true
 | []=>rfl
 |x::r=>by simp only[An,ab,AP r,Cg];rfl
structure PVC where
 asn:Int
 confed:Int
 router:Int
 cluster:Int
 peers:List PeerC
 nets:List Pfx
 pols:PSet
 damp:DampC
 multi:Int
def PVC.enc (r:PVC):B7:=[.int .i64 r.asn,.int .i64 r.confed,.int .u32 r.router,.int .u32 r.cluster,.sl 11 (r.peers.map PeerC.enc),.sl 2 (r.nets.map Pfx.enc),.sl 2 (r.pols.prefixes.map PList.enc),.sl 2 (r.pols.paths.map PathL.enc),.sl 2 (r.pols.comms.map ComL.enc),.sl 3 (r.pols.pols.map Pol.enc),.int .i64 r.damp.half,.int .i64 r.damp.reuse,.int .i64 r.damp.suppress,.int .i64 r.damp.maxTime,.int .i64 r.multi]
def PVC.ok (r:PVC):Prop:=okI r.asn/\okI r.confed/\okU r.router/\okU r.cluster/\(∀x∈r.peers,PeerC.ok x)/\(∀x∈r.nets,Pfx.ok x)/\PSet.ok r.pols/\DampC.ok r.damp/\okI r.multi
@[simp] theorem J6 (x:PVC):aM x.enc=true:=by simp[PVC.enc,aM,AV.pure]
@[simp] theorem Ip: ∀l:List PVC,ab (l.map PVC.enc)=true
 | []=>rfl
 |x::r=>by simp only[An,ab,Ip r,J6];rfl
structure Red where
 src:Int
 dst:Int
 pol:B5
 metric:Int
 second:Bool
def Red.enc (r:Red):B7:=[.int .i64 r.src,.int .i64 r.dst,.str r.pol,.int .i64 r.metric,.bool r.second]
def Red.ok (r:Red):Prop:=okI r.src/\okI r.dst/\okI r.metric
@[simp] theorem J3 (x:Red):aM x.enc=true:=by simp[Red.enc,aM,AV.pure]
@[simp] theorem Il: ∀l:List Red,ab (l.map Red.enc)=true
 | []=>rfl
 |x::r=>by simp only[An,ab,Il r,J3];rfl
structure Stat where
 pfx:Pfx
 hop:Int
 dist:Int
def Stat.enc (r:Stat):B7:=[.int .u32 r.pfx.addr,.int .i64 r.pfx.len,.int .u32 r.hop,.int .i64 r.dist]
def Stat.ok (r:Stat):Prop:=Pfx.ok r.pfx/\okU r.hop/\okI r.dist
@[simp] theorem Fq (x:Stat):aM x.enc=true:=by simp[Stat.enc,aM,AV.pure]
@[simp] theorem Ey: ∀l:List Stat,ab (l.map Stat.enc)=true
 | []=>rfl
 |x::r=>by simp only[An,ab,Ey r,Fq];rfl
structure RConf where
 name:B5
 ls:LSC
 hasPV:Bool
 pv:PVC
 labels:Bool
 reroute:Bool
 redist:List Red
 stat:List Stat
 dists:D4
def RConf.enc (r:RConf):B7:=[.str r.name,.int .u32 r.ls.router,.sl 9 (r.ls.ifs.map Ifc.enc),.sl 4 (r.ls.ranges.map ARange.enc),.bool r.hasPV,.int .i64 r.pv.asn,.int .i64 r.pv.confed,.int .u32 r.pv.router,.int .u32 r.pv.cluster,.sl 11 (r.pv.peers.map PeerC.enc),.sl 2 (r.pv.nets.map Pfx.enc),.sl 2 (r.pv.pols.prefixes.map PList.enc),.sl 2 (r.pv.pols.paths.map PathL.enc),.sl 2 (r.pv.pols.comms.map ComL.enc),.sl 3 (r.pv.pols.pols.map Pol.enc),.int .i64 r.pv.damp.half,.int .i64 r.pv.damp.reuse,.int .i64 r.pv.damp.suppress,.int .i64 r.pv.damp.maxTime,.int .i64 r.pv.multi,.bool r.labels,.bool r.reroute,.sl 5 (r.redist.map Red.enc),.sl 4 (r.stat.map Stat.enc),.sl 1 (r.dists.map Kg)]
def RConf.ok (r:RConf):Prop:=LSC.ok r.ls/\PVC.ok r.pv/\(∀x∈r.redist,Red.ok x)/\(∀x∈r.stat,Stat.ok x)/\(∀x∈r.dists,okI x)
@[simp] theorem BZ (x:RConf):aM x.enc=true:=by simp[RConf.enc,aM,AV.pure]
@[simp] theorem Az: ∀l:List RConf,ab (l.map RConf.enc)=true
 | []=>rfl
 |x::r=>by simp only[An,ab,Az r,BZ];rfl
structure LEnd where
 router:Int
 ifc:Int
def LEnd.enc (r:LEnd):B7:=[.int .i64 r.router,.int .i64 r.ifc]
def LEnd.ok (r:LEnd):Prop:=okI r.router/\okI r.ifc
@[simp] theorem Fu (x:LEnd):aM x.enc=true:=by simp[LEnd.enc,aM,AV.pure]
@[simp] theorem EF: ∀l:List LEnd,ab (l.map LEnd.enc)=true
 | []=>rfl
 |x::r=>by simp only[An,ab,EF r,Fu];rfl
structure Lnk where
 ends:List LEnd
 delay:Int
def Lnk.enc (r:Lnk):B7:=[.sl 2 (r.ends.map LEnd.enc),.int .i64 r.delay]
def Lnk.ok (r:Lnk):Prop:=(∀x∈r.ends,LEnd.ok x)/\okI r.delay
@[simp] theorem J8 (x:Lnk):aM x.enc=true:=by simp[Lnk.enc,aM,AV.pure]
@[simp] theorem Ir: ∀l:List Lnk,ab (l.map Lnk.enc)=true
 | []=>rfl
 |x::r=>by simp only[An,ab,Ir r,J8];rfl
structure Topo where
 routers:List RConf
 links:List Lnk
def Topo.enc (r:Topo):B7:=[.sl 25 (r.routers.map RConf.enc),.sl 2 (r.links.map Lnk.enc)]
def Topo.ok (r:Topo):Prop:=(∀x∈r.routers,RConf.ok x)/\(∀x∈r.links,Lnk.ok x)
@[simp] theorem Fp (x:Topo):aM x.enc=true:=by simp[Topo.enc,aM,AV.pure]
@[simp] theorem Ew: ∀l:List Topo,ab (l.map Topo.enc)=true
 | []=>rfl
 |x::r=>by simp only[An,ab,Ew r,Fp];rfl
end Go.AM.IR
