/- What functions of this program give. -/
import Derived.Test.YtomphmeopjpejaaGreatDoorLibraryA
import Derived.Test.YtomphmeopjpejaaGreatDoorMachineC
set_option linter.unusedVariables false
set_option linter.unusedSimpArgs false
namespace Go.AM.IR
set_option linter.unusedSectionVars false
set_option linter.unusedVariables false
inductive Rx where
 |mk (kind lo hi:Int) (kids:List Rx)
abbrev D1:=Option (Rx×Nat)
abbrev Do:=List Rx
namespace Rx
def kind:Rx->Int| .mk k _ _ _=>k
def kids:Rx->Do| .mk _ _ _ l=>l
end Rx
def bm (k lo hi:Int)(n:Nat):Bool:=
 if k=1 then decide (0<=lo/\lo<=hi/\hi<=4294967295/\n=0)
 else (decide (lo=0/\hi=0))&&(if k=0∨k=2 then decide (n=0) else if k=3 then decide (2<=n) else if k=4 then decide (n≠1) else if 5<=k/\k<=7 then decide (n=1) else false)
mutual
def chk:Rx->Nat->Nat->Option Nat
 | .mk k lo hi kids,lv,c=>if 16<lv then none else if 64<=c then none else if bm k lo hi kids.length then ij kids (lv+1) (c+1) else none
def ij:Do->Nat->Nat->Option Nat
 | [],_,c=>some c
 |x::r,lv,c=>match chk x lv c with
  |some c'=>ij r lv c'
  |none=>none
end
def fC (k:Int)(x:Rx):Bool:=
 if x.kind=3 then decide (k≠4) else if x.kind=4 then !x.kids.isEmpty else decide (5<=x.kind/\x.kind<=7)&&decide (5<=k/\k<=7)
def dq (k:Int)(x:Rx)(p:List UInt8):List UInt8:=if fC k x then 40::(p++[41]) else p
def cz (c:UInt8):List (List UInt8)->List UInt8
 | []=>[]
 | [x]=>x
 |x::r=>x++c::cz c r
def dy (dec:Int->List UInt8)(k lo hi:Int)(ps:List (List UInt8)):List UInt8:=
 if k=0 then [40,41] else if k=1 then (if lo=hi then dec lo else 91::(dec lo++45::(dec hi++[93]))) else if k=2 then [46] else if k=3 then cz 32 ps else
 if k=4 then (if ps.isEmpty then [33] else cz 124 ps) else if k=5 then ps.headD []++[42] else if k=6 then ps.headD []++[43] else ps.headD []++[63]
mutual
def pat (dec:Int->List UInt8):Rx->List UInt8
 | .mk k lo hi kids=>dy dec k lo hi (br dec k kids)
def br (dec:Int->List UInt8)(k:Int):Do->List (List UInt8)
 | []=>[]
 |x::r=>dq k x (pat dec x)::br dec k r
end
abbrev PR:=Nat->D1
abbrev NR:=Nat->Option (Int×Nat)
def chr (s:List UInt8)(n:Nat)(c:UInt8):Bool:=s[n]? ==some c
section
variable (s:List UInt8) (num:NR)
def dc (alt:PR):PR:=λn=>
 if chr s n 46 then some (.mk 2 0 0 [],n+1) else
 if chr s n 33 then some (.mk 4 0 0 [],n+1) else
 if chr s n 40 then (if chr s (n+1) 41 then some (.mk 0 0 0 [],n+2) else match alt (n+1) with
  |some (x,m)=>if chr s m 41 then some (x,m+1) else none
  |none=>none) else
 if chr s n 91 then match num (n+1) with
  |some (a,m)=>if chr s m 45 then (match num (m+1) with
   |some (b,k)=>if chr s k 93 then some (.mk 1 a b [],k+1) else none
   |none=>none) else none
  |none=>none else
 match num n with
 |some (a,m)=>some (.mk 1 a a [],m)
 |none=>none
def fc (atom:PR):PR:=λn=>match atom n with
 |some (x,m)=>if chr s m 42 then some (.mk 5 0 0 [x],m+1) else if chr s m 43 then some (.mk 6 0 0 [x],m+1) else if chr s m 63 then some (.mk 7 0 0 [x],m+1) else some (x,m)
 |none=>none
def fk (item:PR)(c:UInt8):Nat->Do->Nat->Option (Do×Nat)
 |0,_,_=>none
 |f+1,acc,n=>match item n with
  |some (x,m)=>if chr s m c then fk item c f (acc++[x]) (m+1) else some (acc++[x],m)
  |none=>none
def iu (k:Int):Option (Do×Nat)->D1
 |some ([x],m)=>some (x,m)
 |some (l,m)=>some (.mk k 0 0 l,m)
 |none=>none
def kC (item:PR):PR:=λn=>iu 3 (fk s item 32 (s.length+1) [] n)
def de:Nat->PR
 |0=>λ_=>none
 |k+1=>λn=>iu 4 (fk s (kC s (fc s (dc s num (de k)))) 124 (s.length+1) [] n)
end
def isD (c:UInt8):Bool:=decide (48<=c.toNat/\c.toNat<=57)
section
variable (t:List UInt8)
def uj:Prop:= ∀c,t.head?=some c->isD c=false
def stopI:Prop:= ∀c,t.head?=some c->isD c=false/\c≠42/\c≠43/\c≠63
def stopS:Prop:= ∀c,t.head?=some c->isD c=false/\c≠42/\c≠43/\c≠63/\c≠32
def stopA:Prop:= ∀c,t.head?=some c->isD c=false/\c≠42/\c≠43/\c≠63/\c≠32/\c≠124
end
theorem stopI.d {t}(h:stopI t):uj t:=λc e=>(h c e).1
theorem stopS.i {t}(h:stopS t):stopI t:=λc e=>⟨(h c e).1,(h c e).2.1,(h c e).2.2.1,(h c e).2.2.2.1⟩
theorem stopA.s {t}(h:stopA t):stopS t:=λc e=>⟨(h c e).1,(h c e).2.1,(h c e).2.2.1,(h c e).2.2.2.1,(h c e).2.2.2.2.1⟩
section
variable {s t:List UInt8}{n:Nat}
theorem BH (h:s.drop n=t)(i:Nat):s[n+i]? =t[i]? :=by rw[<-h,List.getElem?_drop]
theorem cA (h:s.drop n=t)(c:UInt8):chr s n c=(t.head?==some c):=by
 have:=BH h 0;unfold chr;rw[Nat.add_zero] at this;rw[this];cases t<;>rfl
theorem eN {s a t:List UInt8}{n:Nat}(h:s.drop n=a++t):s.drop (n+a.length)=t:=by
 rw[<-List.drop_drop,h,List.drop_left]
theorem jP {c:UInt8}(h:s.drop n=c::t):s.drop (n+1)=t:=by
 rw[<-List.drop_drop,h];rfl
end
section
variable (s:List UInt8)(num:NR)(dec:Int->List UInt8)
def L6:Prop:= ∀(n:Nat)(a:Int)(t:List UInt8),0<=a->a<=4294967295->s.drop n=dec a++t->uj t->num n=some (a,n+(dec a).length)
def T6:Prop:= ∀a:Int,0<=a->a<=4294967295-> ∃c r,dec a=c::r/\isD c=true
end
theorem ae2 {c:UInt8}(h:isD c=true){d:UInt8}(hd:isD d=false):(c==d)=false:=by
 rw[beq_eq_false_iff_ne];rintro rfl;rw[h] at hd;cases hd
section
variable {s:List UInt8} {num:NR} {dec:Int->List UInt8} (hnum:L6 s num dec) (hdec:T6 dec)
include hnum hdec
theorem abw {alt:PR}{n:Nat}{a:Int}{t:List UInt8}(h0:0<=a)(h1:a<=4294967295)(h:s.drop n=dec a++t)(ht:uj t):dc s num alt n=some (.mk 1 a a [],n+(dec a).length):=by
 obtain ⟨c,r,e,hc⟩:=hdec a h0 h1
 have hh: ∀d,isD d=false->chr s n d=false:=λd hd=>by
  rw[cA h,e];simpa using ae2 hc hd
 unfold dc;rw[hh 46 rfl,hh 33 rfl,hh 40 rfl,hh 91 rfl,hnum n a t h0 h1 h ht];simp
theorem abu {alt:PR}{n:Nat}{a b:Int}{t:List UInt8}(h0:0<=a)(h1:a<=4294967295)(h2:0<=b)(h3:b<=4294967295)(h:s.drop n=91::(dec a++45::(dec b++93::t))):dc s num alt n=some (.mk 1 a b [],n+(91::(dec a++45::(dec b++[93]))).length):=by
 have e1:=jP h;have e2:=eN e1;have e3:=jP e2;have e4:=eN e3;have c1:chr s n 46=false:=by rw[cA h];rfl
 have c2:chr s n 33=false:=by rw[cA h];rfl
 have c3:chr s n 40=false:=by rw[cA h];rfl
 have c4:chr s n 91=true:=by rw[cA h];rfl
 have c5:chr s (n+1+(dec a).length) 45=true:=by rw[cA e2];rfl
 have c6:chr s (n+1+(dec a).length+1+(dec b).length) 93=true:=by rw[cA e4];rfl
 have n1:=hnum _ _ _ h0 h1 e1 (by intro c hc;simp at hc;subst hc;rfl)
 have n2:=hnum _ _ _ h2 h3 e3 (by intro c hc;simp at hc;subst hc;rfl)
 simp[dc,c1,c2,c3,c4,c5,c6,n1,n2];omega
end
theorem abv {s:List UInt8}{num:NR}{alt:PR}{n:Nat}{x:Rx}{p t:List UInt8}(h:s.drop n=40::(p++41::t))(hp:p≠ [])(hp1:p.head?≠some 41)(ha:alt (n+1)=some (x,n+1+p.length)):dc s num alt n=some (x,n+(40::(p++[41])).length):=by
 have e1:=jP h;have e2:=eN e1;have c1:chr s n 46=false:=by rw[cA h];rfl
 have c2:chr s n 33=false:=by rw[cA h];rfl
 have c3:chr s n 40=true:=by rw[cA h];rfl
 have c4:chr s (n+1) 41=false:=by
  rw[cA e1];have:(p++41::t).head?=p.head?:=by cases p with|nil=>exact absurd rfl hp|cons a b=>rfl
  rw[this];simpa using hp1
 have c5:chr s (n+1+p.length) 41=true:=by rw[cA e2];rfl
 simp[dc,c1,c2,c3,c4,c5,ha];omega
section
variable {s:List UInt8}{atom:PR}{n m:Nat}{x:Rx}{t:List UInt8}{k:Int}{c:UInt8}(h:atom n=some (x,m))
include h
theorem sW (hd:s.drop m=t)(ht:stopI t):fc s atom n=some (x,m):=by
 unfold fc;rw[h];simp only[];rw[cA hd,cA hd,cA hd];cases hh:t.head? with
 |none=>simp
 |some c=>obtain ⟨_,h1,h2,h3⟩:=ht c hh;simp[h1,h2,h3]
theorem Vh (hd:s.drop m=c::t)(hk:(k=5/\c=42)∨(k=6/\c=43)∨(k=7/\c=63)):fc s atom n=some (.mk k 0 0 [x],m+1):=by
 unfold fc;rw[h];simp only[];rw[cA hd,cA hd,cA hd];rcases hk with ⟨rfl,rfl⟩|⟨rfl,rfl⟩|⟨rfl,rfl⟩<;>rfl
end
inductive All2 {α β:Type}(R:α->β->Prop):List α->List β->Prop
 |nil:All2 R [] []
 |cons {a b l m}:R a b->All2 R l m->All2 R (a::l) (b::m)
def TU (item:PR)(s:List UInt8)(c:UInt8)(stop:List UInt8->Prop)(x:Rx)(p:List UInt8):Prop:= ∀(n:Nat)(t:List UInt8),s.drop n=p++t->stop t∨t.head?=some c->item n=some (x,n+p.length)
theorem lg (c:UInt8)(p q:List UInt8)(qs:List (List UInt8)):cz c (p::q::qs)=p++c::cz c (q::qs):=rfl
theorem Gy {s:List UInt8}{item:PR}{c:UInt8}{stop:List UInt8->Prop}(hst: ∀t,stop t->t.head?≠some c):
  ∀(xs:Do)(ps:List (List UInt8))(acc:Do)(n f:Nat)(t:List UInt8),xs≠ []->All2 (TU item s c stop) xs ps->s.drop n=cz c ps++t->stop t->xs.length<=f->fk s item c f acc n=some (acc++xs,n+(cz c ps).length)
 | [],_,_,_,_,_,h,_,_,_,_=>absurd rfl h
 | [x],ps,acc,n,f,t,_,hP,hd,ht,hf=>by
  cases hP with
  |cons h1 h2=>
  rename_i p ps;cases h2;cases f with
  |zero=>simp at hf
  |succ f=>
  rw[cz] at hd⊢;rw[fk,h1 n t hd (.inl ht)];simp only[];rw[cA (eN hd),if_neg (by simpa using hst t ht)]
 |x::y::r,ps,acc,n,f,t,_,hP,hd,ht,hf=>by
  cases hP with
  |cons h1 h2=>
  rename_i p ps;cases f with
  |zero=>simp at hf
  |succ f=>
  cases ps with
  |nil=>cases h2
  |cons q qs=>
  rw[lg,List.append_assoc,List.cons_append] at hd;rw[fk,h1 n _ hd (.inr rfl)];simp only[];have hd2:=eN hd;rw[cA hd2,if_pos (by simp)]
  rw[Gy hst (y::r) (q::qs) (acc++[x]) _ f t (by simp) h2 (jP hd2) ht (by simpa using hf)]
  rw[lg,List.length_append,List.length_cons,List.append_assoc]
  congr 2;omega
def lvl (x:Rx):Nat:=if 5<=x.kind/\x.kind<=7 then 1 else if x.kind=3 then 2 else if x.kind=4/\x.kids≠ [] then 3 else 0
structure Good (s:List UInt8)(num:NR)(dec:Int->List UInt8)(k:Nat)(x:Rx):Prop where
 hd: ∃a r,pat dec x=a::r/\a≠41
 at_:lvl x=0-> ∀(n:Nat)(t:List UInt8),s.drop n=pat dec x++t->uj t->dc s num (de s num k) n=some (x,n+(pat dec x).length)
 it:lvl x<=1-> ∀(n:Nat)(t:List UInt8),s.drop n=pat dec x++t->stopI t->fc s (dc s num (de s num k)) n=some (x,n+(pat dec x).length)
 sq:lvl x<=2-> ∀(n:Nat)(t:List UInt8),s.drop n=pat dec x++t->stopS t->kC s (fc s (dc s num (de s num k))) n=some (x,n+(pat dec x).length)
 al: ∀(n:Nat)(t:List UInt8),s.drop n=pat dec x++t->stopA t->de s num (k+1) n=some (x,n+(pat dec x).length)
theorem l8 {s t:List UInt8}{m:Nat}{c:UInt8}(hd:s.drop m=t)(h: ∀b,t.head?=some b->b≠c):chr s m c=false:=by
 rw[cA hd];cases hh:t.head? with
 |none=>rfl
 |some b=>simpa using h b hh
theorem nV {s:List UInt8}{item:PR}{c:UInt8}{n m:Nat}{x:Rx}{t:List UInt8}{k:Int}(h:item n=some (x,m))(hc:chr s m c=false):iu k (fk s item c (s.length+1) [] n)=some (x,m):=by
 rw[fk,h];simp[hc,iu]
section
variable {s:List UInt8} {num:NR} {dec:Int->List UInt8} {k:Nat} {x:Rx}
section
variable (h: ∃a r,pat dec x=a::r/\a≠41)
include h
theorem agO (hl:lvl x=3)(ha: ∀(n:Nat) (t:List UInt8),s.drop n=pat dec x++t->stopA t->de s num (k+1) n=some (x,n+(pat dec x).length)):Good s num dec k x:=
 ⟨h,λe=>by omega,λe=>by omega,λe=>by omega,ha⟩
theorem agP (hl:2<=lvl x)(ha: ∀(n:Nat) (t:List UInt8),s.drop n=pat dec x++t->stopS t->kC s (fc s (dc s num (de s num k))) n=some (x,n+(pat dec x).length)):Good s num dec k x:=
 ⟨h,λe=>by omega,λe=>by omega,λ_=>ha,λn t hd ht=>by
  rw[de];exact nV (t:=t) (ha n t hd ht.s) (l8 (eN hd) λb e=>(ht b e).2.2.2.2.2)⟩
theorem agQ (hl:1<=lvl x)(ha: ∀(n:Nat) (t:List UInt8),s.drop n=pat dec x++t->stopI t->fc s (dc s num (de s num k)) n=some (x,n+(pat dec x).length)):Good s num dec k x:=by
 have hs: ∀(n:Nat)(t:List UInt8),s.drop n=pat dec x++t->stopS t->kC s (fc s (dc s num (de s num k))) n=some (x,n+(pat dec x).length):=λn t hd ht=>by
  unfold kC;exact nV (t:=t) (ha n t hd ht.i) (l8 (eN hd) λb e=>(ht b e).2.2.2.2)
 exact ⟨h,λe=>by omega,λ_=>ha,λ_=>hs,λn t hd ht=>by
  rw[de];exact nV (t:=t) (hs n t hd ht.s) (l8 (eN hd) λb e=>(ht b e).2.2.2.2.2)⟩
theorem yo (ha: ∀(n:Nat) (t:List UInt8),s.drop n=pat dec x++t->uj t->dc s num (de s num k) n=some (x,n+(pat dec x).length)):Good s num dec k x:=by
 have hi: ∀(n:Nat)(t:List UInt8),s.drop n=pat dec x++t->stopI t->fc s (dc s num (de s num k)) n=some (x,n+(pat dec x).length):=λn t hd ht=>sW (ha n t hd ht.d) (eN hd) ht
 have hs: ∀(n:Nat)(t:List UInt8),s.drop n=pat dec x++t->stopS t->kC s (fc s (dc s num (de s num k))) n=some (x,n+(pat dec x).length):=λn t hd ht=>by
  unfold kC;exact nV (t:=t) (hi n t hd ht.i) (l8 (eN hd) λb e=>(ht b e).2.2.2.2)
 exact ⟨h,λ_=>ha,λ_=>hi,λ_=>hs,λn t hd ht=>by
  rw[de];exact nV (t:=t) (hs n t hd ht.s) (l8 (eN hd) λb e=>(ht b e).2.2.2.2.2)⟩
end
theorem wh {p:Int}(h:Good s num dec k x)(he:fC p x=true){n:Nat}{t:List UInt8}(hd:s.drop n=dq p x (pat dec x)++t):dc s num (de s num (k+1)) n=some (x,n+(dq p x (pat dec x)).length):=by
 unfold dq at hd⊢;rw[if_pos he] at hd⊢;obtain ⟨a,r,e,ha⟩:=h.hd;rw[List.cons_append,List.append_assoc] at hd;refine abv (t:=t) (by simpa using hd) (by rw[e];simp) (by rw[e];simpa using ha) ?_
 exact h.al _ (41::t) (by simpa using jP hd) (λc hc=>by simp at hc;subst hc;decide)
theorem JB {p:Int}(h: ∃a r,pat dec x=a::r/\a≠41): ∃a r,dq p x (pat dec x)=a::r/\a≠41:=by
 unfold dq;split
 ·exact ⟨40,_,rfl,by decide⟩
 ·exact h
end
theorem agU {p:Int}{x:Rx}(h:fC p x=false)(hp:5<=p/\p<=7):lvl x=0:=by
 unfold fC at h;unfold lvl;generalize x.kind=k at h⊢;generalize x.kids=l at h⊢
 by_cases h3:k=3
 ·rw[if_pos h3] at h;simp at h;omega
 ·rw[if_neg h3] at h
  by_cases h4:k=4
  ·rw[if_pos h4] at h
   rw[if_neg (by omega),if_neg h3,if_neg (by rintro ⟨_,q⟩;cases l<;>simp_all)]
  ·rw[if_neg h4] at h
   have: ¬(5<=k/\k<=7):=by intro q;simp[q,hp] at h
   rw[if_neg this,if_neg h3,if_neg (λq=>h4 q.1)]
theorem agT {x:Rx}(h:fC 3 x=false):lvl x<=1:=by
 unfold fC at h;unfold lvl;generalize x.kind=k at h⊢;generalize x.kids=l at h⊢
 by_cases h3:k=3
 ·rw[if_pos h3] at h;simp at h
 ·rw[if_neg h3] at h
  by_cases h4:k=4
  ·rw[if_pos h4] at h
   rw[if_neg (by omega),if_neg h3,if_neg (by rintro ⟨_,q⟩;cases l<;>simp_all)];omega
  ·split
   ·omega
   ·rw[if_neg (λq=>h4 q.1)];omega
theorem agS {x:Rx}(h:fC 4 x=false):lvl x<=2:=by
 unfold fC at h;unfold lvl;generalize x.kind=k at h⊢;generalize x.kids=l at h⊢
 by_cases h3:k=3
 ·rw[if_neg (by omega),if_pos h3];omega
 ·rw[if_neg h3] at h
  by_cases h4:k=4
  ·rw[if_pos h4] at h
   rw[if_neg (by omega),if_neg h3,if_neg (by rintro ⟨_,q⟩;cases l<;>simp_all)];omega
  ·split
   ·omega
   ·rw[if_neg (λq=>h4 q.1)];omega
theorem CQ {c:UInt8}: ∀ps:List (List UInt8),ps.length<=(cz c ps).length+1
 | []=>by simp
 | [p]=>by simp
 |p::q::qs=>by
  have:=CQ (c:=c) (q::qs);rw[lg];simp at*;omega
theorem oq {dec:Int->List UInt8}{p:Int}: ∀xs:Do,(br dec p xs).length=xs.length
 | []=>by rw[br];rfl
 |x::r=>by rw[br,List.length_cons,List.length_cons,oq r]
section
variable {s t:List UInt8}{n:Nat}{c:UInt8}{dec:Int->List UInt8}
theorem O6 {p:Int}{xs:Do}(h:s.drop n=cz c (br dec p xs)++t):xs.length<=s.length+1:=by
 have h1:=CQ (c:=c) (br dec p xs);have h2:(s.drop n).length=(cz c (br dec p xs)++t).length:=by rw[h]
 rw[oq] at h1;simp at h2;omega
theorem qW {s:List UInt8}{dec:Int->List UInt8}{item:PR}{c:UInt8}{stop:List UInt8->Prop}{p:Int}: ∀{xs:Do},(∀x∈xs,TU item s c stop x (dq p x (pat dec x)))->All2 (TU item s c stop) xs (br dec p xs)
 | [],_=>by rw[br];exact .nil
 |x::r,h=>by rw[br];exact .cons (h x (by simp)) (qW λy hy=>h y (by simp[hy]))
theorem yl {c:UInt8}{p:Int}{x:Rx}{r:Do}(h: ∃a r,pat dec x=a::r/\a≠41): ∃a q,cz c (br dec p (x::r))=a::q/\a≠41:=by
 obtain ⟨a,q,e,ha⟩:=JB (p:=p) h;rw[br];cases hr:br dec p r with
 |nil=>exact ⟨a,q,by rw[cz,e],ha⟩
 |cons y ys=>exact ⟨a,q++c::cz c (y::ys),by rw[lg,e];rfl,ha⟩
end
section
variable {s:List UInt8} {num:NR} {dec:Int->List UInt8} (hnum:L6 s num dec) (hdec:T6 dec)
include hnum hdec
theorem aba {a:Int}(h:0<=a)(h1:a<=4294967295): ∃c r,dec a=c::r/\c≠41:=by
 obtain ⟨c,r,e,hc⟩:=hdec a h h1;refine ⟨c,r,e,?_⟩
 rintro rfl;revert hc;decide
theorem tf {k:Nat}{p:Int}{y:Rx}{b:UInt8}(hp:(p=5/\b=42)∨(p=6/\b=43)∨(p=7/\b=63))(hy:Good s num dec k y)(hy':fC p y=true-> ∃k',k=k'+1/\Good s num dec k' y):Good s num dec k (.mk p 0 0 [y]):=by
 have hp5:5<=p/\p<=7:=by omega
 have hpat:pat dec (.mk p 0 0 [y])=dq p y (pat dec y)++[b]:=by
  rw[pat,br,br,dy,if_neg (by omega),if_neg (by omega),if_neg (by omega),if_neg (by omega),if_neg (by omega)]
  rcases hp with ⟨rfl,rfl⟩|⟨rfl,rfl⟩|⟨rfl,rfl⟩<;>simp
 obtain ⟨a,q,e,ha⟩:=JB (p:=p) hy.hd;refine agQ ⟨a,q++[b],by rw[hpat,e];rfl,ha⟩ (by unfold lvl;rw[if_pos (by exact hp5)];omega) λn t hd ht=>?_
 rw[hpat,List.append_assoc] at hd;rw[hpat,List.length_append];refine Vh (t:=t) ?_ (by simpa using eN hd) hp
 cases he:fC p y with
 |true=>
  obtain ⟨k',rfl,hk⟩:=hy' he;exact wh hk he hd
 |false=>
  unfold dq at hd⊢;rw[if_neg (by rw[he];simp)] at hd⊢
  exact hy.at_ (agU he hp5) n _ hd (by
   intro c hc;simp at hc;subst hc
   rcases hp with ⟨_,rfl⟩|⟨_,rfl⟩|⟨_,rfl⟩<;>rfl)
section
variable {k:Nat}{xs:Do}(hx:2<=xs.length)
include hx
theorem ZM (h: ∀y∈xs,Good s num dec k y/\(fC 3 y=true-> ∃k',k=k'+1/\Good s num dec k' y)):Good s num dec k (.mk 3 0 0 xs):=by
 have hpat:pat dec (.mk 3 0 0 xs)=cz 32 (br dec 3 xs):=by
  rw[pat,dy,if_neg (by omega),if_neg (by omega),if_neg (by omega),if_pos rfl]
 obtain ⟨x,y,r,rfl⟩: ∃x y r,xs=x::y::r:=by
  match xs,hx with
  |x::y::r,_=>exact ⟨x,y,r,rfl⟩
 obtain ⟨a,q,e,ha⟩:=yl (c:=32) (p:=3) (r:=y::r) (h x (by simp)).1.hd
 refine agP ⟨a,q,by rw[hpat,e],ha⟩ (by unfold lvl;simp[Rx.kind]) λn t hd ht=>?_
 rw[hpat] at hd⊢;unfold kC;rw[Gy (stop:=stopS) (λt h e=>(h _ e).2.2.2.2 rfl) (x::y::r) (br dec 3 (x::y::r)) [] n _ t (by simp) ?_ hd ht (O6 hd)]
 ·rfl
 refine qW λz hz n t hd ht=>?_
 have hsi:stopI t:=by
  rcases ht with ht|ht
  ·exact ht.i
  ·intro c hc;rw[ht] at hc;simp at hc;subst hc;decide
 obtain ⟨g,g'⟩:=h z hz;cases he:fC 3 z with
 |true=>
  obtain ⟨k',rfl,hk⟩:=g' he;exact sW (wh hk he hd) (eN hd) hsi
 |false=>
  unfold dq at hd⊢;rw[if_neg (by rw[he];simp)] at hd⊢
  exact g.it (agT he) n t hd hsi
theorem ZN (h: ∀y∈xs,Good s num dec k y/\(fC 4 y=true-> ∃k',k=k'+1/\Good s num dec k' y)):Good s num dec k (.mk 4 0 0 xs):=by
 obtain ⟨x,y,r,rfl⟩: ∃x y r,xs=x::y::r:=by
  match xs,hx with
  |x::y::r,_=>exact ⟨x,y,r,rfl⟩
 have hpat:pat dec (.mk 4 0 0 (x::y::r))=cz 124 (br dec 4 (x::y::r)):=by
  rw[pat,dy,if_neg (by omega),if_neg (by omega),if_neg (by omega),if_neg (by omega),if_pos rfl,if_neg (by rw[br];simp)]
 obtain ⟨a,q,e,ha⟩:=yl (c:=124) (p:=4) (r:=y::r) (h x (by simp)).1.hd
 refine agO ⟨a,q,by rw[hpat,e],ha⟩ (by unfold lvl;simp[Rx.kind,Rx.kids]) λn t hd ht=>?_
 rw[hpat] at hd⊢;rw[de];show iu 4 (fk _ _ _ _ _ _)=_
 rw[Gy (stop:=stopA) (λt h e=>(h _ e).2.2.2.2.2 rfl) (x::y::r) (br dec 4 (x::y::r)) [] n _ t (by simp) ?_ hd ht (O6 hd)]
 ·rfl
 refine qW λz hz n t hd ht=>?_
 have hss:stopS t:=by
  rcases ht with ht|ht
  ·exact ht.s
  ·intro c hc;rw[ht] at hc;simp at hc;subst hc;decide
 obtain ⟨g,g'⟩:=h z hz;cases he:fC 4 z with
 |true=>
  obtain ⟨k',rfl,hk⟩:=g' he;have h1:=sW (wh hk he hd) (eN hd) hss.i;unfold kC;exact nV (t:=t) h1 (l8 (eN hd) λb e=>(hss b e).2.2.2.2)
 |false=>
  unfold dq at hd⊢;rw[if_neg (by rw[he];simp)] at hd⊢
  exact g.sq (agS he) n t hd hss
end
end
theorem KX {x:Rx}{lv c c':Nat}(h:chk x lv c=some c'):lv<=16/\c<64:=by
 obtain ⟨k,lo,hi,l⟩:=x;rw[chk] at h;split at h
 ·cases h
 ·split at h
  ·cases h
  ·omega
section
variable {s:List UInt8} {num:NR} {dec:Int->List UInt8} (hnum:L6 s num dec) (hdec:T6 dec)
include hnum hdec
mutual
theorem KY: ∀(x:Rx){lv c c' k:Nat},chk x lv c=some c'->16<=k+lv->Good s num dec k x
 | .mk p lo hi l,lv,c,c',k,h,hk=>by
  have hlv:=(KX h).1;have hlc:=(KX h).2;rw[chk,if_neg (by omega),if_neg (by omega)] at h
  split at h
  ·rename_i hn
   have hl: ∀y∈l,Good s num dec k y/\(fC p y=true-> ∃k',k=k'+1/\Good s num dec k' y):=λy hy=>by
    have h1:=tV l h (k:=k) (by omega) y hy
    refine ⟨h1.1,λ_=>?_⟩
    have:=h1.2;have h2:=tV l h (k:=k-1) (by omega) y hy
    exact ⟨k-1,by omega,h2.1⟩
   unfold bm at hn;split at hn
   ·rename_i hp
    subst hp;have hn:=of_decide_eq_true hn;obtain ⟨q1,q2,q3,q4⟩:=hn;obtain rfl:=List.eq_nil_of_length_eq_zero q4
    by_cases e:lo=hi
    ·subst e
     have hpat:pat dec (.mk 1 lo lo [])=dec lo:=by rw[pat,dy,if_neg (by omega),if_pos rfl,if_pos rfl]
     exact yo (by rw[hpat];exact aba hnum hdec q1 q3) λn t hd ht=>by rw[hpat] at hd⊢;exact abw hnum hdec q1 q3 hd ht
    ·have hpat:pat dec (.mk 1 lo hi [])=91::(dec lo++45::(dec hi++[93])):=by rw[pat,dy,if_neg (by omega),if_pos rfl,if_neg e]
     exact yo (by rw[hpat];exact ⟨91,_,rfl,by decide⟩) λn t hd ht=>by rw[hpat] at hd⊢;exact abu hnum hdec q1 (by omega) (by omega) q3 (by simpa using hd)
   ·rename_i hp
    rw[Bool.and_eq_true] at hn;obtain ⟨hn0,hn⟩:=hn;obtain ⟨rfl,rfl⟩:=of_decide_eq_true hn0;split at hn
    ·rename_i hp2
     obtain rfl:=List.eq_nil_of_length_eq_zero (of_decide_eq_true hn);rcases hp2 with rfl|rfl
     ·have hpat:pat dec (.mk 0 0 0 [])= [40,41]:=by rw[pat,dy,if_pos rfl]
      refine yo (by rw[hpat];exact ⟨40,_,rfl,by decide⟩) λn t hd ht=>?_
      rw[hpat] at hd⊢;have c1:chr s n 46=false:=by rw[cA hd];rfl
      have c2:chr s n 33=false:=by rw[cA hd];rfl
      have c3:chr s n 40=true:=by rw[cA hd];rfl
      have c4:chr s (n+1) 41=true:=by rw[cA (jP hd)];rfl
      simp[dc,c1,c2,c3,c4]
     ·have hpat:pat dec (.mk 2 0 0 [])= [46]:=by rw[pat,dy,if_neg (by omega),if_neg (by omega),if_pos rfl]
      refine yo (by rw[hpat];exact ⟨46,_,rfl,by decide⟩) λn t hd ht=>?_
      rw[hpat] at hd⊢;have c1:chr s n 46=true:=by rw[cA hd];rfl
      simp[dc,c1]
    ·split at hn
     ·rename_i hp3
      subst hp3;exact ZM hnum hdec (of_decide_eq_true hn) hl
     ·split at hn
      ·rename_i hp4
       subst hp4;have hn:=of_decide_eq_true hn
       by_cases hl0:l= []
       ·subst hl0
        have hpat:pat dec (.mk 4 0 0 [])= [33]:=by rw[pat,dy,if_neg (by omega),if_neg (by omega),if_neg (by omega),if_neg (by omega),if_pos rfl,br];rfl
        refine yo (by rw[hpat];exact ⟨33,_,rfl,by decide⟩) λn t hd ht=>?_
        rw[hpat] at hd⊢;have c1:chr s n 46=false:=by rw[cA hd];rfl
        have c2:chr s n 33=true:=by rw[cA hd];rfl
        simp[dc,c1,c2]
       ·exact ZN hnum hdec (by have:l.length≠0:=λq=>hl0 (List.eq_nil_of_length_eq_zero q);omega) hl
      ·split at hn
       ·rename_i hp5
        have hn:=of_decide_eq_true hn
        obtain ⟨y,rfl⟩: ∃y,l= [y]:=by
         match l,hn with
         | [y],_=>exact ⟨y,rfl⟩
        obtain ⟨g,g'⟩:=hl y (by simp)
        rcases (by omega:p=5∨p=6∨p=7) with rfl|rfl|rfl
        ·exact tf hnum hdec (b:=42) (by simp) g g'
        ·exact tf hnum hdec (b:=43) (by simp) g g'
        ·exact tf hnum hdec (b:=63) (by simp) g g'
       ·cases hn
  ·cases h
theorem tV: ∀(l:Do){lv c c' k:Nat},ij l lv c=some c'->16<=k+lv-> ∀y∈l,Good s num dec k y/\lv<=16
 | [],_,_,_,_,_,_,y,hy=>by simp at hy
 |x::r,lv,c,c',k,h,hk,y,hy=>by
  rw[ij] at h;split at h
  ·rename_i c1 h1
   have g:=KY x h1 hk;rcases List.mem_cons.1 hy with hxy|hy
   ·rw[hxy];exact ⟨g,(KX h1).1⟩
   ·exact tV r h hk y hy
  ·cases h
end
theorem LU {x:Rx}{c' K:Nat}(h:chk x 1 0=some c')(hK:16<=K)(hs:s=pat dec x):de s num K 0=some (x,s.length):=by
 have g:=KY hnum hdec x h (k:=K-1) (by omega)
 have:=g.al 0 [] (by simpa using hs) (λc e=>by simp at e)
 rw[show K-1+1=K by omega] at this
 rw[this,<-hs];simp
end
mutual
def Rx.enc:Rx->CL
 | .mk k lo hi l=>[.int .i64 k,.int .i64 lo,.int .i64 hi,.sl 4 (Rx.encL l)]
def Rx.encL:Do->CS
 | []=>[]
 |x::r=>Rx.enc x::Rx.encL r
end
theorem wQ: ∀l:Do,Rx.encL l=l.map Rx.enc
 | []=>by rw[Rx.encL];rfl
 |x::r=>by rw[Rx.encL,wQ r];rfl
theorem bi (k lo hi:Int)(l:Do):(Rx.mk k lo hi l).enc= [.int .i64 k,.int .i64 lo,.int .i64 hi,.sl 4 (l.map Rx.enc)]:=by rw[Rx.enc,wQ]
mutual
theorem cy: ∀x:Rx,aP x.enc=true
 | .mk k lo hi l=>by rw[Rx.enc];simp[aP,AV.pure,vL l]
theorem vL: ∀l:Do,aa (Rx.encL l)=true
 | []=>by rw[Rx.encL];rfl
 |x::r=>by rw[Rx.encL];simp[aa,cy x,vL r]
end
attribute [simp] cy
@[simp] theorem ahp (l:Do):aa (l.map Rx.enc)=true:=by rw[<-wQ];exact vL l
def rx0:Rx:=.mk 0 0 0 []
def gN (c:UInt8):Int:=(c.toNat:Int)-48
def dY (a:Int)(l:CF):Int:=l.foldl (λa c=>10*a+gN c) a
def rnL (s:CF)(fr:Nat):Nat->Int->Nat->Option (Int×Nat)
 |0,_,_=>none
 |f+1,a,n=>match s[n]? with
  |some c=>if isD c then (if 4294967295<10*a+gN c then none else rnL s fr f (10*a+gN c) (n+1)) else if fr<n then some (a,n) else none
  |none=>if fr<n then some (a,n) else none
section
variable (s:CF)
def jv:NR:=λn=>rnL s n (s.length+1) 0 n
def gM:NR:=λn=>
 let t:=(s.drop n).takeWhile isD
 if t= [] then none else if 1<t.length/\t.head?=some 48 then none else if 4294967295<dY 0 t then none else some (dY 0 t,n+t.length)
def fx:Option Rx:=match de s (jv s) 32 0 with
 |some (x,m)=>if m=s.length/\(chk x 1 0).isSome=true/\pat ah x=s then some x else none
 |none=>none
def og:Option Rx:=match de s (gM s) 33 0 with
 |some (x,_)=>if (chk x 1 0).isSome=true/\pat ah x=s then some x else none
 |none=>none
def o8:Option Rx->Ret
 |none=>⟨.tup [.agg rx0.enc,.int .i64 2],[]⟩
 |some x=>⟨.tup [.agg x.enc,.int .i64 0],[]⟩
set_option linter.unusedVariables false
theorem uG {c:UInt8}(h:isD c=true):0<=gN c/\gN c<=9:=by
 unfold isD at h;have h:=of_decide_eq_true h;unfold gN;omega
theorem JA {u:Nat}(h:u<10):isD (UInt8.ofNat (48+u))=true/\gN (UInt8.ofNat (48+u))=u:=by
 have e:(UInt8.ofNat (48+u)).toNat=48+u:=by rw[UInt8.toNat_ofNat'];omega
 unfold isD gN;rw[e];constructor
 ·simp;omega
 ·omega
theorem Xw (a:Int)(l m:CF):dY a (l++m)=dY (dY a l) m:=by simp[dY]
theorem zl: ∀(l:CF)(a:Int),0<=a->(∀c∈l,isD c=true)->a<=dY a l
 | [],a,_,_=>by simp[dY]
 |c::r,a,h,hd=>by
  have h1:=uG (hd c (by simp))
  have h2:=zl r (10*a+gN c) (by omega) (λx hx=>hd x (by simp[hx]))
  show a<=dY (10*a+gN c) r
  omega
theorem Ph: ∀(f u:Nat),u<10^ (f+1)->(∀c∈ca f u,isD c=true)/\dY 0 (ca f u)=u/\(ca f u≠ [])/\(1<=u->(ca f u).head?≠some 48)/\(u<10->(ca f u).length=1)
 |0,u,h=>by
  have hu:u<10:=by simpa using h
  obtain ⟨h1,h2⟩:=JA hu;simp only[ca];generalize UInt8.ofNat (48+u)=b at*;refine ⟨by simp[h1],by simp[dY,h2],by simp,λh1u q=>?_,λ_=>by simp⟩
  simp only[List.head?_cons,Option.some.injEq] at q;rw[q] at h2;have:gN 48=0:=rfl;omega
 |f+1,u,h=>by
  by_cases hu:u<10
  ·obtain ⟨h1,h2⟩:=JA hu
   simp only[ca,hu,if_true];generalize UInt8.ofNat (48+u)=b at*;refine ⟨by simp[h1],by simp[dY,h2],by simp,λh1u q=>?_,λ_=>by simp⟩
   simp only[List.head?_cons,Option.some.injEq] at q;rw[q] at h2;have:gN 48=0:=rfl;omega
  ·obtain ⟨q1,q2,q3,q4,q5⟩:=Ph f (u/ 10) (by rw[Nat.pow_succ] at h;omega)
   obtain ⟨h1,h2⟩:=JA (u:=u % 10) (by omega)
   have e:ca (f+1) u=ca f (u/ 10)++[UInt8.ofNat (48+u % 10)]:=by simp[ca,hu]
   refine ⟨?_,?_,by rw[e];simp,λ_=>?_,λh=>absurd h hu⟩
   ·rw[e];intro c hc
    rcases B5.1 hc with hc|hc
    ·exact q1 c hc
    ·simp only[B6] at hc;rw[hc];exact h1
   ·rw[e,Xw,q2]
    show 10* ((u/ 10:Nat):Int)+gN _=u
    rw[h2];omega
   ·rw[e]
    have:=q4 (by omega)
    cases hd:ca f (u/ 10) with
    |nil=>exact absurd hd q3
    |cons c r=>rw[hd] at this;simpa using this
theorem Ay {a:Int}(h0:0<=a)(h1:a<=4294967295):(∀c∈ah a,isD c=true)/\dY 0 (ah a)=a/\ah a≠ []/\ ¬(1<(ah a).length/\(ah a).head?=some 48):=by
 unfold ah;rw[Ac (by omega)]
 obtain ⟨q1,q2,q3,q4,q5⟩:=Ph 19 a.toNat (by omega)
 refine ⟨q1,by rw[q2];omega,q3,?_⟩
 rintro ⟨l,hh⟩
 by_cases hz:1<=a.toNat
 ·exact q4 hz hh
 ·rw[q5 (by omega)] at l;omega
theorem DK:T6 ah:=λa h0 h1=>by
 obtain ⟨q1,_,q3,_⟩:=Ay h0 h1;cases hd:ah a with
 |nil=>exact absurd hd q3
 |cons c r=>exact ⟨c,r,rfl,q1 c (by rw[hd];simp)⟩
theorem abK (s:CF)(fr:Nat): ∀(ds:CF)(f:Nat)(a:Int)(n:Nat)(t:CF),(∀c∈ds,isD c=true)->0<=a->dY a ds<=4294967295->s.drop n=ds++t->uj t->ds.length<f->fr<n+ds.length->rnL s fr f a n=some (dY a ds,n+ds.length)
 | [],f,a,n,t,hd,h0,hv,e,ht,hf,hfr=>by
  cases f with
  |zero=>simp at hf
  |succ f=>
  have h1:=BH e 0;rw[Nat.add_zero] at h1;rw[rnL,h1];simp only[By];cases hh:t[0]? with
  |none=>simp at hfr;simp[dY,hfr]
  |some c=>
   have:isD c=false:=ht c (by cases t with|nil=>simp at hh|cons a b=>simpa using hh)
   simp at hfr;simp[this,dY,hfr]
 |c::r,f,a,n,t,hd,h0,hv,e,ht,hf,hfr=>by
  cases f with
  |zero=>simp at hf
  |succ f=>
  have h1:=BH e 0;rw[Nat.add_zero] at h1;have hc:=hd c (by simp)
  have h2:=uG hc;have h3:dY a (c::r)=dY (10*a+gN c) r:=rfl;have h4:=zl r (10*a+gN c) (by omega) (λx hx=>hd x (by simp[hx]))
  rw[rnL,h1];simp only[B4,List.getElem?_cons_zero,hc,if_true];rw[Ac (by omega),abK s fr r f (10*a+gN c) (n+1) t (λx hx=>hd x (by simp[hx])) (by omega) (by omega) (jP (by simpa using e)) ht (by simpa using hf) (by simp at hfr;omega)]
  rw[h3];simp;omega
theorem UO:L6 s (jv s) ah:=λn a t h0 h1 e ht=>by
 obtain ⟨q1,q2,q3,_⟩:=Ay h0 h1;have hl:(s.drop n).length=(ah a++t).length:=by rw[e]
 have hp:0<(ah a).length:=List.length_pos_iff.2 q3;simp at hl;unfold jv;rw[abK s n (ah a) (s.length+1) 0 n t q1 (by omega) (by rw[q2];exact h1) e ht (by omega) (by omega),q2]
theorem sg {p:UInt8->Bool}: ∀{l t:CF},(∀c∈l,p c=true)->(∀c,t.head?=some c->p c=false)->(l++t).takeWhile p=l
 | [],t,_,ht=>by
  cases t with
  |nil=>rfl
  |cons c r=>simp[ht c rfl]
 |c::r,t,hl,ht=>by
  rw[B4,List.takeWhile_cons,Ad (hl c (by simp)),sg (λx hx=>hl x (by simp[hx])) ht]
theorem UQ:L6 s (gM s) ah:=λn a t h0 h1 e ht=>by
 obtain ⟨q1,q2,q3,q4⟩:=Ay h0 h1;unfold gM;rw[e,sg q1 ht];dsimp only;rw[Ac q3,Ac q4,q2,Ac (by omega)]
theorem Ow:og s=fx s:=by
 unfold og fx;have hb1: ∀x c',chk x 1 0=some c'->s=pat ah x->de s (jv s) 32 0=some (x,s.length):=λx c' h hs=>LU (UO s) DK h (by omega) hs
 have hb2: ∀x c',chk x 1 0=some c'->s=pat ah x->de s (gM s) 33 0=some (x,s.length):=λx c' h hs=>LU (UQ s) DK h (by omega) hs
 cases h1:de s (gM s) 33 0 with
 |none=>
  cases h2:de s (jv s) 32 0 with
  |none=>rfl
  |some y=>
   obtain ⟨y,m⟩:=y;dsimp only;rw[Ac]
   rintro ⟨_,q2,q3⟩
   obtain ⟨c',hc⟩:=Bo.1 q2;rw[hb2 y c' hc q3.symm] at h1;cases h1
 |some x=>
  obtain ⟨x,k⟩:=x;dsimp only
  by_cases hq:(chk x 1 0).isSome=true/\pat ah x=s
  ·rw[Ad hq]
   obtain ⟨c',hc⟩:=Bo.1 hq.1;rw[hb1 x c' hc hq.2.symm];simp[hq.1,hq.2]
  ·rw[Ac hq]
   cases h2:de s (jv s) 32 0 with
   |none=>rfl
   |some y=>
    obtain ⟨y,m⟩:=y;dsimp only;rw[Ac]
    rintro ⟨_,q2,q3⟩
    obtain ⟨c',hc⟩:=Bo.1 q2;rw[hb2 y c' hc q3.symm] at h1;injection h1 with h1
    injection h1 with h1 _
    subst h1;exact hq ⟨q2,q3⟩
end
def BG (x:Int):CL:=[.int .i64 x]
def tD (x:Int):CL:=[.int .u32 x]
structure Seg where
 kind:Int
 as:Ee
def Seg.enc (s:Seg):CL:=[.int .i64 s.kind,.sl 1 (s.as.map BG)]
structure TLV where
 kind:Int
 value:CF
def TLV.enc (s:TLV):CL:=[.int .i64 s.kind,.sl 1 (byteCells s.value)]
structure Attrs where
 origin:Int
 path:List Seg
 nextHop:Int
 hasMED:Bool
 med:Int
 hasPref:Bool
 pref:Int
 atomic:Bool
 hasAggr:Bool
 aggrAS:Int
 aggrAddr:Int
 comms:Ee
 hasOrig:Bool
 orig:Int
 clusters:Ee
 unknown:List TLV
def Attrs.enc (a:Attrs):CL:=[.int .i64 a.origin,.sl 2 (a.path.map Seg.enc),.int .u32 a.nextHop,.bool a.hasMED,.int .i64 a.med,.bool a.hasPref,.int .i64 a.pref,.bool a.atomic,.bool a.hasAggr,.int .i64 a.aggrAS,.int .u32 a.aggrAddr,
 .sl 1 (a.comms.map tD),.bool a.hasOrig,.int .u32 a.orig,.sl 1 (a.clusters.map tD),.sl 2 (a.unknown.map TLV.enc)]
structure PVRoute where
 paddr:Int
 plen:Int
 attrs:Attrs
 peer:Int
 kind:Int
 router:Int
 stale:Bool
def PVRoute.enc (r:PVRoute):CL:=[.int .u32 r.paddr,.int .i64 r.plen,
 .int .i64 r.attrs.origin,.sl 2 (r.attrs.path.map Seg.enc),.int .u32 r.attrs.nextHop,.bool r.attrs.hasMED,.int .i64 r.attrs.med,.bool r.attrs.hasPref,.int .i64 r.attrs.pref,.bool r.attrs.atomic,.bool r.attrs.hasAggr,.int .i64 r.attrs.aggrAS,.int .u32 r.attrs.aggrAddr,
 .sl 1 (r.attrs.comms.map tD),.bool r.attrs.hasOrig,.int .u32 r.attrs.orig,.sl 1 (r.attrs.clusters.map tD),.sl 2 (r.attrs.unknown.map TLV.enc),
 .int .i64 r.peer,.int .i64 r.kind,.int .u32 r.router,.bool r.stale]
structure IGP where
 addr:Int
 cost:Int
def IGP.enc (c:IGP):CL:=[.int .u32 c.addr,.int .i64 c.cost]
theorem eu {α:Type}{f:α->CL}(h: ∀x,aP (f x)=true): ∀l:List α,aa (l.map f)=true
 | []=>rfl
 |x::r=>by simp only[Ao,aa,h x,eu h r,Bool.and_self]
theorem oh: ∀l:CF,aa (byteCells l)=true:=λl=>eu (f:=λb:UInt8=>[AV.int .u8 (b.toNat:Int)]) (λ_=>rfl) l
@[simp] theorem ahm (l:Ee):aa (l.map BG)=true:=eu (λ_=>rfl) l
@[simp] theorem ahl (l:Ee):aa (l.map tD)=true:=eu (λ_=>rfl) l
theorem Seg.pure (s:Seg):aP s.enc=true:=by simp[Seg.enc,aP,AV.pure]
@[simp] theorem ahh (l:List Seg):aa (l.map Seg.enc)=true:=eu Seg.pure l
theorem TLV.pure (s:TLV):aP s.enc=true:=by simp[TLV.enc,aP,AV.pure,oh]
@[simp] theorem ahg (l:List TLV):aa (l.map TLV.enc)=true:=eu TLV.pure l
@[simp] theorem Attrs.pure (s:Attrs):aP s.enc=true:=by simp[Attrs.enc,aP,AV.pure]
@[simp] theorem PVRoute.pure (s:PVRoute):aP s.enc=true:=by simp[PVRoute.enc,aP,AV.pure]
@[simp] theorem agc (l:List PVRoute):aa (l.map PVRoute.enc)=true:=eu PVRoute.pure l
@[simp] theorem ahk (l:List IGP):aa (l.map IGP.enc)=true:=eu (λ_=>rfl) l
theorem Jt {α:Type}{e:CL->Prop}{enc:α->CL}{Q:α->Prop}(h: ∀x,e x-> ∃a,x=enc a/\Q a): ∀es:CS,(∀x∈es,e x)-> ∃l:List α,es=l.map enc/\ ∀a∈l,Q a
 | [],_=>⟨[],rfl,by simp⟩
 |x::r,hx=>by
  obtain ⟨a,rfl,ha⟩:=h x (hx x (by simp))
  obtain ⟨l,rfl,hl⟩:=Jt h r λy hy=>hx y (by simp[hy])
  exact ⟨a::l,rfl,by simpa using ⟨ha,hl⟩⟩
def okI (x:Int):Prop:= -9223372036854775808<=x/\x<=9223372036854775807
def okU (x:Int):Prop:=0<=x/\x<=4294967295
theorem kw {as:CL}(h:Ty.T (.int .i64) as): ∃x,as=BG x/\okI x:=by
 obtain ⟨n,rfl,h1,h2⟩:=h;exact ⟨n,rfl,by simpa[IntKind.min,IntKind.max,IntKind.signed,IntKind.bits,okI] using And.intro h1 h2⟩
theorem TD {as:CL}(h:Ty.T (.int .u32) as): ∃x,as=tD x/\okU x:=by
 obtain ⟨n,rfl,h1,h2⟩:=h;exact ⟨n,rfl,by simpa[IntKind.min,IntKind.max,IntKind.signed,IntKind.bits,okU] using And.intro h1 h2⟩
theorem qh {α:Type}{τ:Ty}{enc:α->CL}{Q:α->Prop}(h: ∀x,τ.T x-> ∃a,x=enc a/\Q a){as:CL}(hs:Ty.T (.sl τ) as): ∃l:List α,as= [.sl τ.cells (l.map enc)]/\ ∀a∈l,Q a:=by
 obtain ⟨es,rfl,h1,_⟩:=hs;obtain ⟨l,rfl,h2⟩:=Jt h es h1;exact ⟨l,rfl,h2⟩
structure Seg.ok (s:Seg):Prop where
 kind:okI s.kind
 as: ∀x∈s.as,okI x
structure TLV.ok (s:TLV):Prop where
 kind:okI s.kind
structure IGP.ok (s:IGP):Prop where
 addr:okU s.addr
 cost:okI s.cost
structure Attrs.ok (a:Attrs):Prop where
 origin:okI a.origin
 path: ∀s∈a.path,s.ok
 nextHop:okU a.nextHop
 med:okI a.med
 pref:okI a.pref
 aggrAS:okI a.aggrAS
 aggrAddr:okU a.aggrAddr
 comms: ∀x∈a.comms,okU x
 orig:okU a.orig
 clusters: ∀x∈a.clusters,okU x
 unknown: ∀x∈a.unknown,x.ok
structure PVRoute.ok (r:PVRoute):Prop where
 paddr:okU r.paddr
 plen:okI r.plen
 attrs:r.attrs.ok
 peer:okI r.peer
 kind:okI r.kind
 router:okU r.router
structure Pfx where
 addr:Int
 len:Int
 deriving DecidableEq
def Pfx.enc (p:Pfx):CL:=[.int .u32 p.addr,.int .i64 p.len]
structure Cap where
 code:Int
 value:CF
 deriving DecidableEq
def Cap.enc (p:Cap):CL:=[.int .i64 p.code,.sl 1 (byteCells p.value)]
structure PMsg where
 kind:Int
 version:Int
 as:Int
 hold:Int
 router:Int
 caps:List Cap
 withdrawn:List Pfx
 attrs:Attrs
 reach:List Pfx
 code:Int
 sub:Int
 data:CF
def PMsg.enc (m:PMsg):CL:=[.int .i64 m.kind,.int .i64 m.version,.int .i64 m.as,.int .i64 m.hold,.int .u32 m.router,.sl 2 (m.caps.map Cap.enc),.sl 2 (m.withdrawn.map Pfx.enc),
 .int .i64 m.attrs.origin,.sl 2 (m.attrs.path.map Seg.enc),.int .u32 m.attrs.nextHop,.bool m.attrs.hasMED,.int .i64 m.attrs.med,.bool m.attrs.hasPref,.int .i64 m.attrs.pref,.bool m.attrs.atomic,.bool m.attrs.hasAggr,.int .i64 m.attrs.aggrAS,.int .u32 m.attrs.aggrAddr,
 .sl 1 (m.attrs.comms.map tD),.bool m.attrs.hasOrig,.int .u32 m.attrs.orig,.sl 1 (m.attrs.clusters.map tD),.sl 2 (m.attrs.unknown.map TLV.enc),
 .sl 2 (m.reach.map Pfx.enc),.int .i64 m.code,.int .i64 m.sub,.sl 1 (byteCells m.data)]
structure Peer where
 kind:Int
 as:Int
 addr:Int
 loc:Int
 client:Bool
 hold:Int
 restart:Int
 imp:CF
 exp:CF
 nextSelf:Bool
 damp:Bool
def Peer.enc (p:Peer):CL:=[.int .i64 p.kind,.int .i64 p.as,.int .u32 p.addr,.int .u32 p.loc,.bool p.client,.int .i64 p.hold,.int .i64 p.restart,.str p.imp,.str p.exp,.bool p.nextSelf,.bool p.damp]
structure Conf where
 as:Int
 confed:Int
 router:Int
 cluster:Int
 peers:List Peer
 nets:AV
 p1:AV
 p2:AV
 p3:AV
 p4:AV
 d1:Int
 d2:Int
 d3:Int
 d4:Int
 multi:Int
def Conf.enc (c:Conf):CL:=[.int .i64 c.as,.int .i64 c.confed,.int .u32 c.router,.int .u32 c.cluster,.sl 11 (c.peers.map Peer.enc),c.nets,c.p1,c.p2,c.p3,c.p4,.int .i64 c.d1,.int .i64 c.d2,.int .i64 c.d3,.int .i64 c.d4,.int .i64 c.multi]
structure Ses where
 state:Int
 retry:Int
 hold:Int
 keep:Int
 holdTime:Int
 router:Int
 restart:Int
 refresh:Bool
 untl:Int
def Ses.enc (s:Ses):CL:=[.int .i64 s.state,.int .i64 s.retry,.int .i64 s.hold,.int .i64 s.keep,.int .i64 s.holdTime,.int .u32 s.router,.int .i64 s.restart,.bool s.refresh,.int .i64 s.untl]
structure Act where
 kind:Int
 msg:PMsg
def Act.enc (a:Act):CL:=.int .i64 a.kind::a.msg.enc
theorem Pfx.pure (s:Pfx):aP s.enc=true:=rfl
@[simp] theorem ahj (l:List Pfx):aa (l.map Pfx.enc)=true:=eu Pfx.pure l
theorem Cap.pure (s:Cap):aP s.enc=true:=by simp[Cap.enc,aP,AV.pure,oh]
@[simp] theorem ahn (l:List Cap):aa (l.map Cap.enc)=true:=eu Cap.pure l
@[simp] theorem PMsg.pure (s:PMsg):aP s.enc=true:=by simp[PMsg.enc,aP,AV.pure,oh]
theorem Peer.pure (s:Peer):aP s.enc=true:=rfl
@[simp] theorem agv (l:List Peer):aa (l.map Peer.enc)=true:=eu Peer.pure l
@[simp] theorem Ses.pure (s:Ses):aP s.enc=true:=rfl
@[simp] theorem Act.pure (s:Act):aP s.enc=true:=by simp[Act.enc,aP,AV.pure]
@[simp] theorem aho (l:List Act):aa (l.map Act.enc)=true:=eu Act.pure l
structure Conf.ok (c:Conf):Prop where
 nets:c.nets.pure=true
 p1:c.p1.pure=true
 p2:c.p2.pure=true
 p3:c.p3.pure=true
 p4:c.p4.pure=true
 as:okI c.as
 confed:okI c.confed
 router:okU c.router
 peers: ∀p∈c.peers,okI p.as/\okI p.hold/\okI p.restart/\okI p.kind
 len:c.peers.length<=maxLen
theorem Conf.pure {c:Conf}(h:c.ok):aP c.enc=true:=by simp[Conf.enc,aP,AV.pure,h.nets,h.p1,h.p2,h.p3,h.p4]
def Qk:Ty:=.st [.int .u32,.int .i64]
structure Pfx.ok (p:Pfx):Prop where
 addr:okU p.addr
 len:okI p.len
theorem ab7 {as:CL}(h:Qk.T as): ∃s:Pfx,as=s.enc/\s.ok:=by
 simp only[Qk,Ty.T.eq_5,TT] at h;obtain ⟨a1,b1,rfl,h1,a2,b2,rfl,h2,rfl⟩:=h;obtain ⟨x1,rfl,k1⟩:=TD h1;obtain ⟨x2,rfl,k2⟩:=kw h2;exact ⟨⟨x1,x2⟩,rfl,k1,k2⟩
structure PMsg.ok (m:PMsg):Prop where
 kind:okI m.kind
 version:okI m.version
 as:okI m.as
 hold:okI m.hold
 router:okU m.router
 caps: ∀c∈m.caps,okI c.code
 withdrawn: ∀p∈m.withdrawn,p.ok
 attrs:m.attrs.ok
 reach: ∀p∈m.reach,p.ok
 code:okI m.code
 sub:okI m.sub
theorem rB {as:CL}(h:Ty.T .str as): ∃s,as= [.str s]:=by
 obtain ⟨s,rfl,_⟩:=h;exact ⟨s,rfl⟩
structure Ses.ok (s:Ses):Prop where
 state:okI s.state
 retry:okI s.retry
 hold:okI s.hold
 keep:okI s.keep
 holdTime:okI s.holdTime
 router:okU s.router
 restart:okI s.restart
 untl:okI s.untl
set_option maxHeartbeats 1000000
@[simp] theorem Ko (x:Pfx):aP x.enc=true:=by simp[Pfx.enc,aP,AV.pure]
@[simp] theorem Ye: ∀l:Ee,aa (l.map BG)=true
 | []=>rfl
 |x::r=>by simp only[Ao,aa,Ye r];simp[BG,aP,AV.pure]
@[simp] theorem Io: ∀l:List Pfx,aa (l.map Pfx.enc)=true
 | []=>rfl
 |x::r=>by simp only[Ao,aa,Io r,Ko];rfl
structure Ifc where
 kind:Int
 pfx:Pfx
 addr:Int
 area:Int
 cost:Int
 prio:Int
 hello:Int
 dead:Int
def Ifc.enc (r:Ifc):CL:=[.int .i64 r.kind,.int .u32 r.pfx.addr,.int .i64 r.pfx.len,.int .u32 r.addr,.int .u32 r.area,.int .i64 r.cost,.int .i64 r.prio,.int .i64 r.hello,.int .i64 r.dead]
def Ifc.ok (r:Ifc):Prop:=okI r.kind/\Pfx.ok r.pfx/\okU r.addr/\okU r.area/\okI r.cost/\okI r.prio/\okI r.hello/\okI r.dead
@[simp] theorem Ky (x:Ifc):aP x.enc=true:=by simp[Ifc.enc,aP,AV.pure]
@[simp] theorem Iv: ∀l:List Ifc,aa (l.map Ifc.enc)=true
 | []=>rfl
 |x::r=>by simp only[Ao,aa,Iv r,Ky];rfl
structure ARange where
 area:Int
 pfx:Pfx
 adv:Bool
def ARange.enc (r:ARange):CL:=[.int .u32 r.area,.int .u32 r.pfx.addr,.int .i64 r.pfx.len,.bool r.adv]
def ARange.ok (r:ARange):Prop:=okU r.area/\Pfx.ok r.pfx
@[simp] theorem yI (x:ARange):aP x.enc=true:=by simp[ARange.enc,aP,AV.pure]
@[simp] theorem xN: ∀l:List ARange,aa (l.map ARange.enc)=true
 | []=>rfl
 |x::r=>by simp only[Ao,aa,xN r,yI];rfl
structure LSC where
 router:Int
 ifs:List Ifc
 ranges:List ARange
def LSC.enc (r:LSC):CL:=[.int .u32 r.router,.sl 9 (r.ifs.map Ifc.enc),.sl 4 (r.ranges.map ARange.enc)]
def LSC.ok (r:LSC):Prop:=okU r.router/\(∀x∈r.ifs,Ifc.ok x)/\(∀x∈r.ranges,ARange.ok x)
@[simp] theorem Kx (x:LSC):aP x.enc=true:=by simp[LSC.enc,aP,AV.pure]
@[simp] theorem Iu: ∀l:List LSC,aa (l.map LSC.enc)=true
 | []=>rfl
 |x::r=>by simp only[Ao,aa,Iu r,Kx];rfl
structure RuleP where
 permit:Bool
 pfx:Pfx
 min:Int
 max:Int
abbrev DF:=List RuleP
def RuleP.enc (r:RuleP):CL:=[.bool r.permit,.int .u32 r.pfx.addr,.int .i64 r.pfx.len,.int .i64 r.min,.int .i64 r.max]
def RuleP.ok (r:RuleP):Prop:=Pfx.ok r.pfx/\okI r.min/\okI r.max
def zn:Ty:=.st [.bool,Qk,.int .i64,.int .i64]
theorem adU {as:CL}(h:zn.T as): ∃s:RuleP,as=s.enc/\s.ok:=by
 simp only[zn,Ty.T.eq_5,TT] at h;obtain ⟨a0,b0,rfl,h0,a1,b1,rfl,h1,a2,b2,rfl,h2,a3,b3,rfl,h3,rfl⟩:=h;obtain ⟨x0,rfl⟩:=h0;obtain ⟨x1,rfl,k1⟩:=ab7 h1;obtain ⟨x2,rfl,k2⟩:=kw h2;obtain ⟨x3,rfl,k3⟩:=kw h3;exact ⟨⟨x0,x1,x2,x3⟩,rfl,⟨k1,k2,k3⟩⟩
@[simp] theorem Bu (x:RuleP):aP x.enc=true:=by simp[RuleP.enc,aP,AV.pure]
@[simp] theorem zL: ∀l:DF,aa (l.map RuleP.enc)=true
 | []=>rfl
 |x::r=>by simp only[Ao,aa,zL r,Bu];rfl
structure PList where
 name:CF
 rules:DF
abbrev C3:=List PList
def PList.enc (r:PList):CL:=[.str r.name,.sl 5 (r.rules.map RuleP.enc)]
def PList.ok (r:PList):Prop:=(∀x∈r.rules,RuleP.ok x)
def zq:Ty:=.st [.str,.sl zn]
theorem adY {as:CL}(h:zq.T as): ∃s:PList,as=s.enc/\s.ok:=by
 simp only[zq,Ty.T.eq_5,TT] at h;obtain ⟨a0,b0,rfl,h0,a1,b1,rfl,h1,rfl⟩:=h;obtain ⟨x0,rfl⟩:=rB h0;obtain ⟨x1,rfl,k1⟩:=qh (λ_=>adU) h1
 exact ⟨⟨x0,x1⟩,rfl,k1⟩
@[simp] theorem BA (x:PList):aP x.enc=true:=by simp[PList.enc,aP,AV.pure]
@[simp] theorem zX: ∀l:C3,aa (l.map PList.enc)=true
 | []=>rfl
 |x::r=>by simp only[Ao,aa,zX r,BA];rfl
structure PathR where
 permit:Bool
 pattern:CF
abbrev DG:=List PathR
def PathR.enc (r:PathR):CL:=[.bool r.permit,.str r.pattern]
def PathR.ok (r:PathR):Prop:=True
def zo:Ty:=.st [.bool,.str]
theorem adW {as:CL}(h:zo.T as): ∃s:PathR,as=s.enc/\s.ok:=by
 simp only[zo,Ty.T.eq_5,TT] at h;obtain ⟨a0,b0,rfl,h0,a1,b1,rfl,h1,rfl⟩:=h;obtain ⟨x0,rfl⟩:=h0;obtain ⟨x1,rfl⟩:=rB h1;exact ⟨⟨x0,x1⟩,rfl,trivial⟩
@[simp] theorem Bx (x:PathR):aP x.enc=true:=by simp[PathR.enc,aP,AV.pure]
@[simp] theorem zU: ∀l:DG,aa (l.map PathR.enc)=true
 | []=>rfl
 |x::r=>by simp only[Ao,aa,zU r,Bx];rfl
structure PathL where
 name:CF
 rules:DG
abbrev C4:=List PathL
def PathL.enc (r:PathL):CL:=[.str r.name,.sl 2 (r.rules.map PathR.enc)]
def PathL.ok (r:PathL):Prop:=(∀x∈r.rules,PathR.ok x)
def zp:Ty:=.st [.str,.sl zo]
theorem adX {as:CL}(h:zp.T as): ∃s:PathL,as=s.enc/\s.ok:=by
 simp only[zp,Ty.T.eq_5,TT] at h;obtain ⟨a0,b0,rfl,h0,a1,b1,rfl,h1,rfl⟩:=h;obtain ⟨x0,rfl⟩:=rB h0;obtain ⟨x1,rfl,k1⟩:=qh (λ_=>adW) h1
 exact ⟨⟨x0,x1⟩,rfl,k1⟩
@[simp] theorem Bz (x:PathL):aP x.enc=true:=by simp[PathL.enc,aP,AV.pure]
@[simp] theorem zW: ∀l:C4,aa (l.map PathL.enc)=true
 | []=>rfl
 |x::r=>by simp only[Ao,aa,zW r,Bz];rfl
structure ComR where
 permit:Bool
 high:Int
 low:Int
abbrev DR:=List ComR
def ComR.enc (r:ComR):CL:=[.bool r.permit,.int .i64 r.high,.int .i64 r.low]
def ComR.ok (r:ComR):Prop:=okI r.high/\okI r.low
def Gq:Ty:=.st [.bool,.int .i64,.int .i64]
theorem af9 {as:CL}(h:Gq.T as): ∃s:ComR,as=s.enc/\s.ok:=by
 simp only[Gq,Ty.T.eq_5,TT] at h;obtain ⟨a0,b0,rfl,h0,a1,b1,rfl,h1,a2,b2,rfl,h2,rfl⟩:=h;obtain ⟨x0,rfl⟩:=h0;obtain ⟨x1,rfl,k1⟩:=kw h1;obtain ⟨x2,rfl,k2⟩:=kw h2;exact ⟨⟨x0,x1,x2⟩,rfl,⟨k1,k2⟩⟩
@[simp] theorem Fp (x:ComR):aP x.enc=true:=by simp[ComR.enc,aP,AV.pure]
@[simp] theorem EF: ∀l:DR,aa (l.map ComR.enc)=true
 | []=>rfl
 |x::r=>by simp only[Ao,aa,EF r,Fp];rfl
structure ComL where
 name:CF
 rules:DR
abbrev C6:=List ComL
def ComL.enc (r:ComL):CL:=[.str r.name,.sl 3 (r.rules.map ComR.enc)]
def ComL.ok (r:ComL):Prop:=(∀x∈r.rules,ComR.ok x)
def Gr:Ty:=.st [.str,.sl Gq]
theorem aga {as:CL}(h:Gr.T as): ∃s:ComL,as=s.enc/\s.ok:=by
 simp only[Gr,Ty.T.eq_5,TT] at h;obtain ⟨a0,b0,rfl,h0,a1,b1,rfl,h1,rfl⟩:=h;obtain ⟨x0,rfl⟩:=rB h0;obtain ⟨x1,rfl,k1⟩:=qh (λ_=>af9) h1
 exact ⟨⟨x0,x1⟩,rfl,k1⟩
@[simp] theorem Fq (x:ComL):aP x.enc=true:=by simp[ComL.enc,aP,AV.pure]
@[simp] theorem EN: ∀l:C6,aa (l.map ComL.enc)=true
 | []=>rfl
 |x::r=>by simp only[Ao,aa,EN r,Fq];rfl
structure Mat where
 kind:Int
 name:CF
 n:Int
 pfx:Pfx
 neg:Bool
abbrev Ds:=List Mat
def Mat.enc (r:Mat):CL:=[.int .i64 r.kind,.str r.name,.int .i64 r.n,.int .u32 r.pfx.addr,.int .i64 r.pfx.len,.bool r.neg]
def Mat.ok (r:Mat):Prop:=okI r.kind/\okI r.n/\Pfx.ok r.pfx
def Ql:Ty:=.st [.int .i64,.str,.int .i64,Qk,.bool]
theorem ahd {as:CL}(h:Ql.T as): ∃s:Mat,as=s.enc/\s.ok:=by
 simp only[Ql,Ty.T.eq_5,TT] at h;obtain ⟨a0,b0,rfl,h0,a1,b1,rfl,h1,a2,b2,rfl,h2,a3,b3,rfl,h3,a4,b4,rfl,h4,rfl⟩:=h;obtain ⟨x0,rfl,k0⟩:=kw h0;obtain ⟨x1,rfl⟩:=rB h1;obtain ⟨x2,rfl,k2⟩:=kw h2;obtain ⟨x3,rfl,k3⟩:=ab7 h3;obtain ⟨x4,rfl⟩:=h4;exact ⟨⟨x0,x1,x2,x3,x4⟩,rfl,⟨k0,k2,k3⟩⟩
@[simp] theorem Ku (x:Mat):aP x.enc=true:=by simp[Mat.enc,aP,AV.pure]
@[simp] theorem Iq: ∀l:Ds,aa (l.map Mat.enc)=true
 | []=>rfl
 |x::r=>by simp only[Ao,aa,Iq r,Ku];rfl
structure Actn where
 kind:Int
 n:Int
 asn:Int
 com:Int
 addr:Int
abbrev Dr:=List Actn
def Actn.enc (r:Actn):CL:=[.int .i64 r.kind,.int .i64 r.n,.int .i64 r.asn,.int .u32 r.com,.int .u32 r.addr]
def Actn.ok (r:Actn):Prop:=okI r.kind/\okI r.n/\okI r.asn/\okU r.com/\okU r.addr
def Gu:Ty:=.st [.int .i64,.int .i64,.int .i64,.int .u32,.int .u32]
theorem agb {as:CL}(h:Gu.T as): ∃s:Actn,as=s.enc/\s.ok:=by
 simp only[Gu,Ty.T.eq_5,TT] at h;obtain ⟨a0,b0,rfl,h0,a1,b1,rfl,h1,a2,b2,rfl,h2,a3,b3,rfl,h3,a4,b4,rfl,h4,rfl⟩:=h;obtain ⟨x0,rfl,k0⟩:=kw h0;obtain ⟨x1,rfl,k1⟩:=kw h1;obtain ⟨x2,rfl,k2⟩:=kw h2;obtain ⟨x3,rfl,k3⟩:=TD h3;obtain ⟨x4,rfl,k4⟩:=TD h4;exact ⟨⟨x0,x1,x2,x3,x4⟩,rfl,⟨k0,k1,k2,k3,k4⟩⟩
@[simp] theorem Ft (x:Actn):aP x.enc=true:=by simp[Actn.enc,aP,AV.pure]
@[simp] theorem EO: ∀l:Dr,aa (l.map Actn.enc)=true
 | []=>rfl
 |x::r=>by simp only[Ao,aa,EO r,Ft];rfl
structure Trm where
 name:CF
 mats:Ds
 acts:Dr
 verdict:Int
abbrev Da:=List Trm
def Trm.enc (r:Trm):CL:=[.str r.name,.sl 6 (r.mats.map Mat.enc),.sl 5 (r.acts.map Actn.enc),.int .i64 r.verdict]
def Trm.ok (r:Trm):Prop:=(∀x∈r.mats,Mat.ok x)/\(∀x∈r.acts,Actn.ok x)/\okI r.verdict
def Qi:Ty:=.st [.str,.sl Ql,.sl Gu,.int .i64]
theorem ahb {as:CL}(h:Qi.T as): ∃s:Trm,as=s.enc/\s.ok:=by
 simp only[Qi,Ty.T.eq_5,TT] at h;obtain ⟨a0,b0,rfl,h0,a1,b1,rfl,h1,a2,b2,rfl,h2,a3,b3,rfl,h3,rfl⟩:=h;obtain ⟨x0,rfl⟩:=rB h0;obtain ⟨x1,rfl,k1⟩:=qh (λ_=>ahd) h1
 obtain ⟨x2,rfl,k2⟩:=qh (λ_=>agb) h2
 obtain ⟨x3,rfl,k3⟩:=kw h3;exact ⟨⟨x0,x1,x2,x3⟩,rfl,⟨k1,k2,k3⟩⟩
@[simp] theorem Kj (x:Trm):aP x.enc=true:=by simp[Trm.enc,aP,AV.pure]
@[simp] theorem Ik: ∀l:Da,aa (l.map Trm.enc)=true
 | []=>rfl
 |x::r=>by simp only[Ao,aa,Ik r,Kj];rfl
structure Pol where
 name:CF
 terms:Da
 dflt:Int
abbrev C9:=List Pol
def Pol.enc (r:Pol):CL:=[.str r.name,.sl 4 (r.terms.map Trm.enc),.int .i64 r.dflt]
def Pol.ok (r:Pol):Prop:=(∀x∈r.terms,Trm.ok x)/\okI r.dflt
def Qj:Ty:=.st [.str,.sl Qi,.int .i64]
theorem ahc {as:CL}(h:Qj.T as): ∃s:Pol,as=s.enc/\s.ok:=by
 simp only[Qj,Ty.T.eq_5,TT] at h;obtain ⟨a0,b0,rfl,h0,a1,b1,rfl,h1,a2,b2,rfl,h2,rfl⟩:=h;obtain ⟨x0,rfl⟩:=rB h0;obtain ⟨x1,rfl,k1⟩:=qh (λ_=>ahb) h1
 obtain ⟨x2,rfl,k2⟩:=kw h2;exact ⟨⟨x0,x1,x2⟩,rfl,⟨k1,k2⟩⟩
@[simp] theorem Km (x:Pol):aP x.enc=true:=by simp[Pol.enc,aP,AV.pure]
@[simp] theorem Im: ∀l:C9,aa (l.map Pol.enc)=true
 | []=>rfl
 |x::r=>by simp only[Ao,aa,Im r,Km];rfl
structure PSet where
 prefixes:C3
 paths:C4
 comms:C6
 pols:C9
def PSet.enc (r:PSet):CL:=[.sl 2 (r.prefixes.map PList.enc),.sl 2 (r.paths.map PathL.enc),.sl 2 (r.comms.map ComL.enc),.sl 3 (r.pols.map Pol.enc)]
def PSet.ok (r:PSet):Prop:=(∀x∈r.prefixes,PList.ok x)/\(∀x∈r.paths,PathL.ok x)/\(∀x∈r.comms,ComL.ok x)/\(∀x∈r.pols,Pol.ok x)
def xq:Ty:=.st [.sl zq,.sl zp,.sl Gr,.sl Qj]
theorem af8 {as:CL}(h:xq.T as): ∃s:PSet,as=s.enc/\s.ok:=by
 simp only[xq,Ty.T.eq_5,TT] at h;obtain ⟨a0,b0,rfl,h0,a1,b1,rfl,h1,a2,b2,rfl,h2,a3,b3,rfl,h3,rfl⟩:=h;obtain ⟨x0,rfl,k0⟩:=qh (λ_=>adY) h0
 obtain ⟨x1,rfl,k1⟩:=qh (λ_=>adX) h1
 obtain ⟨x2,rfl,k2⟩:=qh (λ_=>aga) h2
 obtain ⟨x3,rfl,k3⟩:=qh (λ_=>ahc) h3
 exact ⟨⟨x0,x1,x2,x3⟩,rfl,⟨k0,k1,k2,k3⟩⟩
@[simp] theorem Fk (x:PSet):aP x.enc=true:=by simp[PSet.enc,aP,AV.pure]
@[simp] theorem Ew: ∀l:List PSet,aa (l.map PSet.enc)=true
 | []=>rfl
 |x::r=>by simp only[Ao,aa,Ew r,Fk];rfl
structure PeerC where
 kind:Int
 asn:Int
 addr:Int
 loc:Int
 client:Bool
 hold:Int
 restart:Int
 imp:CF
 exp:CF
 nextSelf:Bool
 damp:Bool
def PeerC.enc (r:PeerC):CL:=[.int .i64 r.kind,.int .i64 r.asn,.int .u32 r.addr,.int .u32 r.loc,.bool r.client,.int .i64 r.hold,.int .i64 r.restart,.str r.imp,.str r.exp,.bool r.nextSelf,.bool r.damp]
def PeerC.ok (r:PeerC):Prop:=okI r.kind/\okI r.asn/\okU r.addr/\okU r.loc/\okI r.hold/\okI r.restart
@[simp] theorem Bw (x:PeerC):aP x.enc=true:=by simp[PeerC.enc,aP,AV.pure]
@[simp] theorem zT: ∀l:List PeerC,aa (l.map PeerC.enc)=true
 | []=>rfl
 |x::r=>by simp only[Ao,aa,zT r,Bw];rfl
structure DampC where
 half:Int
 reuse:Int
 suppress:Int
 maxTime:Int
def DampC.enc (r:DampC):CL:=[.int .i64 r.half,.int .i64 r.reuse,.int .i64 r.suppress,.int .i64 r.maxTime]
def DampC.ok (r:DampC):Prop:=okI r.half/\okI r.reuse/\okI r.suppress/\okI r.maxTime
@[simp] theorem BC (x:DampC):aP x.enc=true:=by simp[DampC.enc,aP,AV.pure]
@[simp] theorem zY: ∀l:List DampC,aa (l.map DampC.enc)=true
 | []=>rfl
 |x::r=>by simp only[Ao,aa,zY r,BC];rfl
structure PVC where
 asn:Int
 confed:Int
 router:Int
 cluster:Int
 peers:List PeerC
 nets:List Pfx
 pols:PSet
 damp:DampC
 multi:Int
def PVC.enc (r:PVC):CL:=[.int .i64 r.asn,.int .i64 r.confed,.int .u32 r.router,.int .u32 r.cluster,.sl 11 (r.peers.map PeerC.enc),.sl 2 (r.nets.map Pfx.enc),.sl 2 (r.pols.prefixes.map PList.enc),.sl 2 (r.pols.paths.map PathL.enc),.sl 2 (r.pols.comms.map ComL.enc),.sl 3 (r.pols.pols.map Pol.enc),.int .i64 r.damp.half,.int .i64 r.damp.reuse,.int .i64 r.damp.suppress,.int .i64 r.damp.maxTime,.int .i64 r.multi]
def PVC.ok (r:PVC):Prop:=okI r.asn/\okI r.confed/\okU r.router/\okU r.cluster/\(∀x∈r.peers,PeerC.ok x)/\(∀x∈r.nets,Pfx.ok x)/\PSet.ok r.pols/\DampC.ok r.damp/\okI r.multi
@[simp] theorem Kr (x:PVC):aP x.enc=true:=by simp[PVC.enc,aP,AV.pure]
@[simp] theorem Ip: ∀l:List PVC,aa (l.map PVC.enc)=true
 | []=>rfl
 |x::r=>by simp only[Ao,aa,Ip r,Kr];rfl
structure Red where
 src:Int
 dst:Int
 pol:CF
 metric:Int
 second:Bool
def Red.enc (r:Red):CL:=[.int .i64 r.src,.int .i64 r.dst,.str r.pol,.int .i64 r.metric,.bool r.second]
def Red.ok (r:Red):Prop:=okI r.src/\okI r.dst/\okI r.metric
@[simp] theorem Kl (x:Red):aP x.enc=true:=by simp[Red.enc,aP,AV.pure]
@[simp] theorem Il: ∀l:List Red,aa (l.map Red.enc)=true
 | []=>rfl
 |x::r=>by simp only[Ao,aa,Il r,Kl];rfl
structure Stat where
 pfx:Pfx
 hop:Int
 dist:Int
def Stat.enc (r:Stat):CL:=[.int .u32 r.pfx.addr,.int .i64 r.pfx.len,.int .u32 r.hop,.int .i64 r.dist]
def Stat.ok (r:Stat):Prop:=Pfx.ok r.pfx/\okU r.hop/\okI r.dist
@[simp] theorem Fj (x:Stat):aP x.enc=true:=by simp[Stat.enc,aP,AV.pure]
@[simp] theorem Eu: ∀l:List Stat,aa (l.map Stat.enc)=true
 | []=>rfl
 |x::r=>by simp only[Ao,aa,Eu r,Fj];rfl
structure RConf where
 name:CF
 ls:LSC
 hasPV:Bool
 pv:PVC
 labels:Bool
 reroute:Bool
 redist:List Red
 stat:List Stat
 dists:Ee
def RConf.enc (r:RConf):CL:=[.str r.name,.int .u32 r.ls.router,.sl 9 (r.ls.ifs.map Ifc.enc),.sl 4 (r.ls.ranges.map ARange.enc),.bool r.hasPV,.int .i64 r.pv.asn,.int .i64 r.pv.confed,.int .u32 r.pv.router,.int .u32 r.pv.cluster,.sl 11 (r.pv.peers.map PeerC.enc),.sl 2 (r.pv.nets.map Pfx.enc),.sl 2 (r.pv.pols.prefixes.map PList.enc),.sl 2 (r.pv.pols.paths.map PathL.enc),.sl 2 (r.pv.pols.comms.map ComL.enc),.sl 3 (r.pv.pols.pols.map Pol.enc),.int .i64 r.pv.damp.half,.int .i64 r.pv.damp.reuse,.int .i64 r.pv.damp.suppress,.int .i64 r.pv.damp.maxTime,.int .i64 r.pv.multi,.bool r.labels,.bool r.reroute,.sl 5 (r.redist.map Red.enc),.sl 4 (r.stat.map Stat.enc),.sl 1 (r.dists.map BG)]
def RConf.ok (r:RConf):Prop:=LSC.ok r.ls/\PVC.ok r.pv/\(∀x∈r.redist,Red.ok x)/\(∀x∈r.stat,Stat.ok x)/\(∀x∈r.dists,okI x)
@[simp] theorem Bv (x:RConf):aP x.enc=true:=by simp[RConf.enc,aP,AV.pure]
@[simp] theorem zO: ∀l:List RConf,aa (l.map RConf.enc)=true
 | []=>rfl
 |x::r=>by simp only[Ao,aa,zO r,Bv];rfl
structure LEnd where
 router:Int
 ifc:Int
def LEnd.enc (r:LEnd):CL:=[.int .i64 r.router,.int .i64 r.ifc]
def LEnd.ok (r:LEnd):Prop:=okI r.router/\okI r.ifc
@[simp] theorem Fm (x:LEnd):aP x.enc=true:=by simp[LEnd.enc,aP,AV.pure]
@[simp] theorem Ey: ∀l:List LEnd,aa (l.map LEnd.enc)=true
 | []=>rfl
 |x::r=>by simp only[Ao,aa,Ey r,Fm];rfl
structure Lnk where
 ends:List LEnd
 delay:Int
def Lnk.enc (r:Lnk):CL:=[.sl 2 (r.ends.map LEnd.enc),.int .i64 r.delay]
def Lnk.ok (r:Lnk):Prop:=(∀x∈r.ends,LEnd.ok x)/\okI r.delay
@[simp] theorem Kw (x:Lnk):aP x.enc=true:=by simp[Lnk.enc,aP,AV.pure]
@[simp] theorem Ir: ∀l:List Lnk,aa (l.map Lnk.enc)=true
 | []=>rfl
 |x::r=>by simp only[Ao,aa,Ir r,Kw];rfl
structure Topo where
 routers:List RConf
 links:List Lnk
def Topo.enc (r:Topo):CL:=[.sl 25 (r.routers.map RConf.enc),.sl 2 (r.links.map Lnk.enc)]
def Topo.ok (r:Topo):Prop:=(∀x∈r.routers,RConf.ok x)/\(∀x∈r.links,Lnk.ok x)
@[simp] theorem Fh (x:Topo):aP x.enc=true:=by simp[Topo.enc,aP,AV.pure]
@[simp] theorem Et: ∀l:List Topo,aa (l.map Topo.enc)=true
 | []=>rfl
 |x::r=>by simp only[Ao,aa,Et r,Fh];rfl
end Go.AM.IR
