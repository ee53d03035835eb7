/- What the functions of this program give, on the abstract machine. -/
import Derived.Test.YtekpmkbdjkoooaaGreatDoorLibraryA
import Derived.Test.YtekpmkbdjkoooaaGreatDoorMachineB
import Derived.Test.YtekpmkbdjkoooaaGreatDoorMachineC
set_option linter.unusedVariables false
set_option linter.unusedSimpArgs false
namespace Go.AM.IR
set_option linter.unusedSectionVars false
set_option linter.unusedVariables false
inductive Rx where
 |mk (kind lo hi:Int) (kids:List Rx)
namespace Rx
def kind:Rx→Int| .mk k _ _ _=>k
def kids:Rx→List Rx| .mk _ _ _ l=>l
end Rx
def bm (k lo hi:Int)(n:Nat):Bool:=
 if k=1 then decide (0≤lo∧lo≤hi∧hi≤4294967295∧n=0)
 else (decide (lo=0∧hi=0))&&(if k=0∨k=2 then decide (n=0) else if k=3 then decide (2≤n) else if k=4 then decide (n≠1) else if 5≤k∧k≤7 then decide (n=1) else false)
mutual
def chk:Rx→Nat→Nat→Option Nat
 | .mk k lo hi kids,lv,c=>if 16<lv then none else if 64≤c then none else if bm k lo hi kids.length then ir kids (lv+1) (c+1) else none
def ir:List Rx→Nat→Nat→Option Nat
 | [],_,c=>some c
 |x::r,lv,c=>match chk x lv c with
  |some c'=>ir r lv c'
  |none=>none
end
def ff (k:Int)(x:Rx):Bool:=
 if x.kind=3 then decide (k≠4) else if x.kind=4 then !x.kids.isEmpty else decide (5≤x.kind∧x.kind≤7)&&decide (5≤k∧k≤7)
def dh (k:Int)(x:Rx)(p:List UInt8):List UInt8:=if ff k x then 40::(p++[41]) else p
def cR (c:UInt8):List (List UInt8)→List UInt8
 | []=>[]
 | [x]=>x
 |x::r=>x++c::cR c r
def dk (dec:Int→List UInt8)(k lo hi:Int)(ps:List (List UInt8)):List UInt8:=
 if k=0 then [40,41] else if k=1 then (if lo=hi then dec lo else 91::(dec lo++45::(dec hi++[93]))) else if k=2 then [46] else if k=3 then cR 32 ps else
 if k=4 then (if ps.isEmpty then [33] else cR 124 ps) else if k=5 then ps.headD []++[42] else if k=6 then ps.headD []++[43] else ps.headD []++[63]
mutual
def pat (dec:Int→List UInt8):Rx→List UInt8
 | .mk k lo hi kids=>dk dec k lo hi (bw dec k kids)
def bw (dec:Int→List UInt8)(k:Int):List Rx→List (List UInt8)
 | []=>[]
 |x::r=>dh k x (pat dec x)::bw dec k r
end
abbrev PR:=Nat→Option (Rx×Nat)
abbrev NR:=Nat→Option (Int×Nat)
def chr (s:List UInt8)(n:Nat)(c:UInt8):Bool:=s[n]? ==some c
section
variable (s:List UInt8) (num:NR)
def cK (alt:PR):PR:=fun n=>
 if chr s n 46 then some (.mk 2 0 0 [],n+1) else
 if chr s n 33 then some (.mk 4 0 0 [],n+1) else
 if chr s n 40 then (if chr s (n+1) 41 then some (.mk 0 0 0 [],n+2) else match alt (n+1) with
  |some (x,m)=>if chr s m 41 then some (x,m+1) else none
  |none=>none) else
 if chr s n 91 then match num (n+1) with
  |some (a,m)=>if chr s m 45 then (match num (m+1) with
   |some (b,k)=>if chr s k 93 then some (.mk 1 a b [],k+1) else none
   |none=>none) else none
  |none=>none else
 match num n with
 |some (a,m)=>some (.mk 1 a a [],m)
 |none=>none
def en (atom:PR):PR:=fun n=>match atom n with
 |some (x,m)=>if chr s m 42 then some (.mk 5 0 0 [x],m+1) else if chr s m 43 then some (.mk 6 0 0 [x],m+1) else if chr s m 63 then some (.mk 7 0 0 [x],m+1) else some (x,m)
 |none=>none
def eF (item:PR)(c:UInt8):Nat→List Rx→Nat→Option (List Rx×Nat)
 |0,_,_=>none
 |f+1,acc,n=>match item n with
  |some (x,m)=>if chr s m c then eF item c f (acc++[x]) (m+1) else some (acc++[x],m)
  |none=>none
def gv (k:Int):Option (List Rx×Nat)→Option (Rx×Nat)
 |some ([x],m)=>some (x,m)
 |some (l,m)=>some (.mk k 0 0 l,m)
 |none=>none
def kc (item:PR):PR:=fun n=>gv 3 (eF s item 32 (s.length+1) [] n)
def cM:Nat→PR
 |0=>fun _=>none
 |k+1=>fun n=>gv 4 (eF s (kc s (en s (cK s num (cM k)))) 124 (s.length+1) [] n)
end
def isD (c:UInt8):Bool:=decide (48≤c.toNat∧c.toNat≤57)
def uK (t:List UInt8):Prop:= ∀c,t.head?=some c→isD c=false
def stopI (t:List UInt8):Prop:= ∀c,t.head?=some c→isD c=false∧c≠42∧c≠43∧c≠63
def stopS (t:List UInt8):Prop:= ∀c,t.head?=some c→isD c=false∧c≠42∧c≠43∧c≠63∧c≠32
def stopA (t:List UInt8):Prop:= ∀c,t.head?=some c→isD c=false∧c≠42∧c≠43∧c≠63∧c≠32∧c≠124
theorem stopI.d {t} (h:stopI t):uK t:=fun c e=>(h c e).1
theorem stopS.i {t} (h:stopS t):stopI t:=fun c e=>⟨(h c e).1,(h c e).2.1,(h c e).2.2.1,(h c e).2.2.2.1⟩
theorem stopA.s {t} (h:stopA t):stopS t:=fun c e=>⟨(h c e).1,(h c e).2.1,(h c e).2.2.1,(h c e).2.2.2.1,(h c e).2.2.2.2.1⟩
theorem DJ {s t:List UInt8}{n:Nat}(h:s.drop n=t)(i:Nat):s[n+i]? =t[i]? :=by rw[←h,List.getElem?_drop]
theorem cr {s t:List UInt8}{n:Nat}(h:s.drop n=t)(c:UInt8):chr s n c=(t.head?==some c):=by
 have:=DJ h 0;unfold chr;rw[Nat.add_zero] at this;rw[this];cases t<;>rfl
theorem dY {s a t:List UInt8}{n:Nat}(h:s.drop n=a++t):s.drop (n+a.length)=t:=by
 rw[←List.drop_drop,h,List.drop_left]
theorem ju {s t:List UInt8}{n:Nat}{c:UInt8}(h:s.drop n=c::t):s.drop (n+1)=t:=by
 rw[←List.drop_drop,h];rfl
def PW (s:List UInt8)(num:NR)(dec:Int→List UInt8):Prop:= ∀(n:Nat)(a:Int)(t:List UInt8),0≤a→a≤4294967295→s.drop n=dec a++t→uK t→num n=some (a,n+(dec a).length)
def Xn (dec:Int→List UInt8):Prop:= ∀a:Int,0≤a→a≤4294967295→ ∃c r,dec a=c::r∧isD c=true
theorem agj {c:UInt8}(h:isD c=true){d:UInt8}(hd:isD d=false):(c==d)=false:=by
 rw[beq_eq_false_iff_ne];rintro rfl;rw[h] at hd;cases hd
section
variable {s:List UInt8} {num:NR} {dec:Int→List UInt8} (hnum:PW s num dec) (hdec:Xn dec)
include hnum hdec
theorem adY {alt:PR}{n:Nat}{a:Int}{t:List UInt8}(h0:0≤a)(h1:a≤4294967295)(h:s.drop n=dec a++t)(ht:uK t):cK s num alt n=some (.mk 1 a a [],n+(dec a).length):=by
 obtain ⟨c,r,e,hc⟩:=hdec a h0 h1
 have hh: ∀d,isD d=false→chr s n d=false:=fun d hd=>by
  rw[cr h,e];simpa using agj hc hd
 unfold cK;rw[hh 46 rfl,hh 33 rfl,hh 40 rfl,hh 91 rfl,hnum n a t h0 h1 h ht];simp
theorem adW {alt:PR}{n:Nat}{a b:Int}{t:List UInt8}(h0:0≤a)(h1:a≤4294967295)(h2:0≤b)(h3:b≤4294967295)(h:s.drop n=91::(dec a++45::(dec b++93::t))):cK s num alt n=some (.mk 1 a b [],n+(91::(dec a++45::(dec b++[93]))).length):=by
 have e1:=ju h;have e2:=dY e1;have e3:=ju e2;have e4:=dY e3;have c1:chr s n 46=false:=by rw[cr h];rfl
 have c2:chr s n 33=false:=by rw[cr h];rfl
 have c3:chr s n 40=false:=by rw[cr h];rfl
 have c4:chr s n 91=true:=by rw[cr h];rfl
 have c5:chr s (n+1+(dec a).length) 45=true:=by rw[cr e2];rfl
 have c6:chr s (n+1+(dec a).length+1+(dec b).length) 93=true:=by rw[cr e4];rfl
 have n1:=hnum _ _ _ h0 h1 e1 (by intro c hc;simp at hc;subst hc;rfl)
 have n2:=hnum _ _ _ h2 h3 e3 (by intro c hc;simp at hc;subst hc;rfl)
 simp[cK,c1,c2,c3,c4,c5,c6,n1,n2];omega
end
theorem adX {s:List UInt8}{num:NR}{alt:PR}{n:Nat}{x:Rx}{p t:List UInt8}(h:s.drop n=40::(p++41::t))(hp:p≠ [])(hp1:p.head?≠some 41)(ha:alt (n+1)=some (x,n+1+p.length)):cK s num alt n=some (x,n+(40::(p++[41])).length):=by
 have e1:=ju h;have e2:=dY e1;have c1:chr s n 46=false:=by rw[cr h];rfl
 have c2:chr s n 33=false:=by rw[cr h];rfl
 have c3:chr s n 40=true:=by rw[cr h];rfl
 have c4:chr s (n+1) 41=false:=by
  rw[cr e1];have:(p++41::t).head?=p.head?:=by cases p with|nil=>exact absurd rfl hp|cons a b=>rfl
  rw[this];simpa using hp1
 have c5:chr s (n+1+p.length) 41=true:=by rw[cr e2];rfl
 simp[cK,c1,c2,c3,c4,c5,ha];omega
theorem tP {s:List UInt8}{atom:PR}{n m:Nat}{x:Rx}{t:List UInt8}(h:atom n=some (x,m))(hd:s.drop m=t)(ht:stopI t):en s atom n=some (x,m):=by
 unfold en;rw[h];simp only[];rw[cr hd,cr hd,cr hd];cases hh:t.head? with
 |none=>simp
 |some c=>obtain ⟨_,h1,h2,h3⟩:=ht c hh;simp[h1,h2,h3]
theorem Yp {s:List UInt8}{atom:PR}{n m:Nat}{x:Rx}{t:List UInt8}{k:Int}{c:UInt8}(h:atom n=some (x,m))(hd:s.drop m=c::t)(hk:(k=5∧c=42)∨(k=6∧c=43)∨(k=7∧c=63)):en s atom n=some (.mk k 0 0 [x],m+1):=by
 unfold en;rw[h];simp only[];rw[cr hd,cr hd,cr hd];rcases hk with ⟨rfl,rfl⟩|⟨rfl,rfl⟩|⟨rfl,rfl⟩<;>rfl
inductive All2 {α β:Type}(R:α→β→Prop):List α→List β→Prop
 |nil:All2 R [] []
 |cons {a b l m}:R a b→All2 R l m→All2 R (a::l) (b::m)
def Xk (item:PR)(s:List UInt8)(c:UInt8)(stop:List UInt8→Prop)(x:Rx)(p:List UInt8):Prop:= ∀(n:Nat)(t:List UInt8),s.drop n=p++t→stop t∨t.head?=some c→item n=some (x,n+p.length)
theorem kl (c:UInt8)(p q:List UInt8)(qs:List (List UInt8)):cR c (p::q::qs)=p++c::cR c (q::qs):=rfl
theorem Kp {s:List UInt8}{item:PR}{c:UInt8}{stop:List UInt8→Prop}(hst: ∀t,stop t→t.head?≠some c):
  ∀(xs:List Rx)(ps:List (List UInt8))(acc:List Rx)(n f:Nat)(t:List UInt8),xs≠ []→All2 (Xk item s c stop) xs ps→s.drop n=cR c ps++t→stop t→xs.length≤f→eF s item c f acc n=some (acc++xs,n+(cR c ps).length)
 | [],_,_,_,_,_,h,_,_,_,_=>absurd rfl h
 | [x],ps,acc,n,f,t,_,hP,hd,ht,hf=>by
  cases hP with
  |cons h1 h2=>
  rename_i p ps;cases h2;cases f with
  |zero=>simp at hf
  |succ f=>
  rw[cR] at hd⊢;rw[eF,h1 n t hd (.inl ht)];simp only[];rw[cr (dY hd),if_neg (by simpa using hst t ht)]
 |x::y::r,ps,acc,n,f,t,_,hP,hd,ht,hf=>by
  cases hP with
  |cons h1 h2=>
  rename_i p ps;cases f with
  |zero=>simp at hf
  |succ f=>
  cases ps with
  |nil=>cases h2
  |cons q qs=>
  rw[kl,List.append_assoc,List.cons_append] at hd;rw[eF,h1 n _ hd (.inr rfl)];simp only[];have hd2:=dY hd;rw[cr hd2,if_pos (by simp)]
  rw[Kp hst (y::r) (q::qs) (acc++[x]) _ f t (by simp) h2 (ju hd2) ht (by simpa using hf)]
  rw[kl,List.length_append,List.length_cons,List.append_assoc]
  congr 2;omega
def lvl (x:Rx):Nat:=if 5≤x.kind∧x.kind≤7 then 1 else if x.kind=3 then 2 else if x.kind=4∧x.kids≠ [] then 3 else 0
structure Good (s:List UInt8)(num:NR)(dec:Int→List UInt8)(k:Nat)(x:Rx):Prop where
 hd: ∃a r,pat dec x=a::r∧a≠41
 at_:lvl x=0→ ∀(n:Nat)(t:List UInt8),s.drop n=pat dec x++t→uK t→cK s num (cM s num k) n=some (x,n+(pat dec x).length)
 it:lvl x≤1→ ∀(n:Nat)(t:List UInt8),s.drop n=pat dec x++t→stopI t→en s (cK s num (cM s num k)) n=some (x,n+(pat dec x).length)
 sq:lvl x≤2→ ∀(n:Nat)(t:List UInt8),s.drop n=pat dec x++t→stopS t→kc s (en s (cK s num (cM s num k))) n=some (x,n+(pat dec x).length)
 al: ∀(n:Nat)(t:List UInt8),s.drop n=pat dec x++t→stopA t→cM s num (k+1) n=some (x,n+(pat dec x).length)
theorem lC {s t:List UInt8}{m:Nat}{c:UInt8}(hd:s.drop m=t)(h: ∀b,t.head?=some b→b≠c):chr s m c=false:=by
 rw[cr hd];cases hh:t.head? with
 |none=>rfl
 |some b=>simpa using h b hh
theorem oa {s:List UInt8}{item:PR}{c:UInt8}{n m:Nat}{x:Rx}{t:List UInt8}{k:Int}(h:item n=some (x,m))(hc:chr s m c=false):gv k (eF s item c (s.length+1) [] n)=some (x,m):=by
 rw[eF,h];simp[hc,gv]
section
variable {s:List UInt8} {num:NR} {dec:Int→List UInt8} {k:Nat} {x:Rx}
theorem ahZ (h: ∃a r,pat dec x=a::r∧a≠41)(hl:lvl x=3)(ha: ∀(n:Nat) (t:List UInt8),s.drop n=pat dec x++t→stopA t→cM s num (k+1) n=some (x,n+(pat dec x).length)):Good s num dec k x:=
 ⟨h,fun e=>by omega,fun e=>by omega,fun e=>by omega,ha⟩
theorem ah0 (h: ∃a r,pat dec x=a::r∧a≠41)(hl:2≤lvl x)(ha: ∀(n:Nat) (t:List UInt8),s.drop n=pat dec x++t→stopS t→kc s (en s (cK s num (cM s num k))) n=some (x,n+(pat dec x).length)):Good s num dec k x:=
 ⟨h,fun e=>by omega,fun e=>by omega,fun _=>ha,fun n t hd ht=>by
  rw[cM];exact oa (t:=t) (ha n t hd ht.s) (lC (dY hd) fun b e=>(ht b e).2.2.2.2.2)⟩
theorem ah1 (h: ∃a r,pat dec x=a::r∧a≠41)(hl:1≤lvl x)(ha: ∀(n:Nat) (t:List UInt8),s.drop n=pat dec x++t→stopI t→en s (cK s num (cM s num k)) n=some (x,n+(pat dec x).length)):Good s num dec k x:=by
 have hs: ∀(n:Nat)(t:List UInt8),s.drop n=pat dec x++t→stopS t→kc s (en s (cK s num (cM s num k))) n=some (x,n+(pat dec x).length):=fun n t hd ht=>by
  unfold kc;exact oa (t:=t) (ha n t hd ht.i) (lC (dY hd) fun b e=>(ht b e).2.2.2.2)
 exact ⟨h,fun e=>by omega,fun _=>ha,fun _=>hs,fun n t hd ht=>by
  rw[cM];exact oa (t:=t) (hs n t hd ht.s) (lC (dY hd) fun b e=>(ht b e).2.2.2.2.2)⟩
theorem zx (h: ∃a r,pat dec x=a::r∧a≠41)(ha: ∀(n:Nat) (t:List UInt8),s.drop n=pat dec x++t→uK t→cK s num (cM s num k) n=some (x,n+(pat dec x).length)):Good s num dec k x:=by
 have hi: ∀(n:Nat)(t:List UInt8),s.drop n=pat dec x++t→stopI t→en s (cK s num (cM s num k)) n=some (x,n+(pat dec x).length):=fun n t hd ht=>tP (ha n t hd ht.d) (dY hd) ht
 have hs: ∀(n:Nat)(t:List UInt8),s.drop n=pat dec x++t→stopS t→kc s (en s (cK s num (cM s num k))) n=some (x,n+(pat dec x).length):=fun n t hd ht=>by
  unfold kc;exact oa (t:=t) (hi n t hd ht.i) (lC (dY hd) fun b e=>(ht b e).2.2.2.2)
 exact ⟨h,fun _=>ha,fun _=>hi,fun _=>hs,fun n t hd ht=>by
  rw[cM];exact oa (t:=t) (hs n t hd ht.s) (lC (dY hd) fun b e=>(ht b e).2.2.2.2.2)⟩
theorem wM {p:Int}(h:Good s num dec k x)(he:ff p x=true){n:Nat}{t:List UInt8}(hd:s.drop n=dh p x (pat dec x)++t):cK s num (cM s num (k+1)) n=some (x,n+(dh p x (pat dec x)).length):=by
 unfold dh at hd⊢;rw[if_pos he] at hd⊢;obtain ⟨a,r,e,ha⟩:=h.hd;rw[List.cons_append,List.append_assoc] at hd;refine adX (t:=t) (by simpa using hd) (by rw[e];simp) (by rw[e];simpa using ha) ?_
 exact h.al _ (41::t) (by simpa using ju hd) (fun c hc=>by simp at hc;subst hc;decide)
theorem MO {p:Int}(h: ∃a r,pat dec x=a::r∧a≠41): ∃a r,dh p x (pat dec x)=a::r∧a≠41:=by
 unfold dh;split
 ·exact ⟨40,_,rfl,by decide⟩
 ·exact h
end
theorem ah5 {p:Int}{x:Rx}(h:ff p x=false)(hp:5≤p∧p≤7):lvl x=0:=by
 unfold ff at h;unfold lvl;generalize x.kind=k at h⊢;generalize x.kids=l at h⊢
 by_cases h3:k=3
 ·rw[if_pos h3] at h;simp at h;omega
 ·rw[if_neg h3] at h
  by_cases h4:k=4
  ·rw[if_pos h4] at h
   rw[if_neg (by omega),if_neg h3,if_neg (by rintro ⟨_,q⟩;cases l<;>simp_all)]
  ·rw[if_neg h4] at h
   have: ¬(5≤k∧k≤7):=by intro q;simp[q,hp] at h
   rw[if_neg this,if_neg h3,if_neg (fun q=>h4 q.1)]
theorem ah4 {x:Rx}(h:ff 3 x=false):lvl x≤1:=by
 unfold ff at h;unfold lvl;generalize x.kind=k at h⊢;generalize x.kids=l at h⊢
 by_cases h3:k=3
 ·rw[if_pos h3] at h;simp at h
 ·rw[if_neg h3] at h
  by_cases h4:k=4
  ·rw[if_pos h4] at h
   rw[if_neg (by omega),if_neg h3,if_neg (by rintro ⟨_,q⟩;cases l<;>simp_all)];omega
  ·split
   ·omega
   ·rw[if_neg (fun q=>h4 q.1)];omega
theorem ah3 {x:Rx}(h:ff 4 x=false):lvl x≤2:=by
 unfold ff at h;unfold lvl;generalize x.kind=k at h⊢;generalize x.kids=l at h⊢
 by_cases h3:k=3
 ·rw[if_neg (by omega),if_pos h3];omega
 ·rw[if_neg h3] at h
  by_cases h4:k=4
  ·rw[if_pos h4] at h
   rw[if_neg (by omega),if_neg h3,if_neg (by rintro ⟨_,q⟩;cases l<;>simp_all)];omega
  ·split
   ·omega
   ·rw[if_neg (fun q=>h4 q.1)];omega
theorem FJ {c:UInt8}: ∀ps:List (List UInt8),ps.length≤(cR c ps).length+1
 | []=>by simp
 | [p]=>by simp
 |p::q::qs=>by
  have:=FJ (c:=c) (q::qs);rw[kl];simp at*;omega
theorem oA {dec:Int→List UInt8}{p:Int}: ∀xs:List Rx,(bw dec p xs).length=xs.length
 | []=>by rw[bw];rfl
 |x::r=>by rw[bw,List.length_cons,List.length_cons,oA r]
theorem SO {s t:List UInt8}{n:Nat}{c:UInt8}{dec:Int→List UInt8}{p:Int}{xs:List Rx}(h:s.drop n=cR c (bw dec p xs)++t):xs.length≤s.length+1:=by
 have h1:=FJ (c:=c) (bw dec p xs);have h2:(s.drop n).length=(cR c (bw dec p xs)++t).length:=by rw[h]
 rw[oA] at h1;simp at h2;omega
theorem rC {s:List UInt8}{dec:Int→List UInt8}{item:PR}{c:UInt8}{stop:List UInt8→Prop}{p:Int}: ∀{xs:List Rx},(∀x∈xs,Xk item s c stop x (dh p x (pat dec x)))→All2 (Xk item s c stop) xs (bw dec p xs)
 | [],_=>by rw[bw];exact .nil
 |x::r,h=>by rw[bw];exact .cons (h x (by simp)) (rC fun y hy=>h y (by simp[hy]))
theorem zt {dec:Int→List UInt8}{c:UInt8}{p:Int}{x:Rx}{r:List Rx}(h: ∃a r,pat dec x=a::r∧a≠41): ∃a q,cR c (bw dec p (x::r))=a::q∧a≠41:=by
 obtain ⟨a,q,e,ha⟩:=MO (p:=p) h;rw[bw];cases hr:bw dec p r with
 |nil=>exact ⟨a,q,by rw[cR,e],ha⟩
 |cons y ys=>exact ⟨a,q++c::cR c (y::ys),by rw[kl,e];rfl,ha⟩
section
variable {s:List UInt8} {num:NR} {dec:Int→List UInt8} (hnum:PW s num dec) (hdec:Xn dec)
include hnum hdec
theorem adH {a:Int}(h:0≤a)(h1:a≤4294967295): ∃c r,dec a=c::r∧c≠41:=by
 obtain ⟨c,r,e,hc⟩:=hdec a h h1;refine ⟨c,r,e,?_⟩
 rintro rfl;revert hc;decide
theorem tV {k:Nat}{p:Int}{y:Rx}{b:UInt8}(hp:(p=5∧b=42)∨(p=6∧b=43)∨(p=7∧b=63))(hy:Good s num dec k y)(hy':ff p y=true→ ∃k',k=k'+1∧Good s num dec k' y):Good s num dec k (.mk p 0 0 [y]):=by
 have hp5:5≤p∧p≤7:=by omega
 have hpat:pat dec (.mk p 0 0 [y])=dh p y (pat dec y)++[b]:=by
  rw[pat,bw,bw,dk,if_neg (by omega),if_neg (by omega),if_neg (by omega),if_neg (by omega),if_neg (by omega)]
  rcases hp with ⟨rfl,rfl⟩|⟨rfl,rfl⟩|⟨rfl,rfl⟩<;>simp
 obtain ⟨a,q,e,ha⟩:=MO (p:=p) hy.hd;refine ah1 ⟨a,q++[b],by rw[hpat,e];rfl,ha⟩ (by unfold lvl;rw[if_pos (by exact hp5)];omega) fun n t hd ht=>?_
 rw[hpat,List.append_assoc] at hd;rw[hpat,List.length_append];refine Yp (t:=t) ?_ (by simpa using dY hd) hp
 cases he:ff p y with
 |true=>
  obtain ⟨k',rfl,hk⟩:=hy' he;exact wM hk he hd
 |false=>
  unfold dh at hd⊢;rw[if_neg (by rw[he];simp)] at hd⊢
  exact hy.at_ (ah5 he hp5) n _ hd (by
   intro c hc;simp at hc;subst hc
   rcases hp with ⟨_,rfl⟩|⟨_,rfl⟩|⟨_,rfl⟩<;>rfl)
theorem ab1 {k:Nat}{xs:List Rx}(hx:2≤xs.length)(h: ∀y∈xs,Good s num dec k y∧(ff 3 y=true→ ∃k',k=k'+1∧Good s num dec k' y)):Good s num dec k (.mk 3 0 0 xs):=by
 have hpat:pat dec (.mk 3 0 0 xs)=cR 32 (bw dec 3 xs):=by
  rw[pat,dk,if_neg (by omega),if_neg (by omega),if_neg (by omega),if_pos rfl]
 obtain ⟨x,y,r,rfl⟩: ∃x y r,xs=x::y::r:=by
  match xs,hx with
  |x::y::r,_=>exact ⟨x,y,r,rfl⟩
 obtain ⟨a,q,e,ha⟩:=zt (c:=32) (p:=3) (r:=y::r) (h x (by simp)).1.hd
 refine ah0 ⟨a,q,by rw[hpat,e],ha⟩ (by unfold lvl;simp[Rx.kind]) fun n t hd ht=>?_
 rw[hpat] at hd⊢;unfold kc;rw[Kp (stop:=stopS) (fun t h e=>(h _ e).2.2.2.2 rfl) (x::y::r) (bw dec 3 (x::y::r)) [] n _ t (by simp) ?_ hd ht (SO hd)]
 ·rfl
 refine rC fun z hz n t hd ht=>?_
 have hsi:stopI t:=by
  rcases ht with ht|ht
  ·exact ht.i
  ·intro c hc;rw[ht] at hc;simp at hc;subst hc;decide
 obtain ⟨g,g'⟩:=h z hz;cases he:ff 3 z with
 |true=>
  obtain ⟨k',rfl,hk⟩:=g' he;exact tP (wM hk he hd) (dY hd) hsi
 |false=>
  unfold dh at hd⊢;rw[if_neg (by rw[he];simp)] at hd⊢
  exact g.it (ah4 he) n t hd hsi
theorem ab2 {k:Nat}{xs:List Rx}(hx:2≤xs.length)(h: ∀y∈xs,Good s num dec k y∧(ff 4 y=true→ ∃k',k=k'+1∧Good s num dec k' y)):Good s num dec k (.mk 4 0 0 xs):=by
 obtain ⟨x,y,r,rfl⟩: ∃x y r,xs=x::y::r:=by
  match xs,hx with
  |x::y::r,_=>exact ⟨x,y,r,rfl⟩
 have hpat:pat dec (.mk 4 0 0 (x::y::r))=cR 124 (bw dec 4 (x::y::r)):=by
  rw[pat,dk,if_neg (by omega),if_neg (by omega),if_neg (by omega),if_neg (by omega),if_pos rfl,if_neg (by rw[bw];simp)]
 obtain ⟨a,q,e,ha⟩:=zt (c:=124) (p:=4) (r:=y::r) (h x (by simp)).1.hd
 refine ahZ ⟨a,q,by rw[hpat,e],ha⟩ (by unfold lvl;simp[Rx.kind,Rx.kids]) fun n t hd ht=>?_
 rw[hpat] at hd⊢;rw[cM];show gv 4 (eF _ _ _ _ _ _)=_
 rw[Kp (stop:=stopA) (fun t h e=>(h _ e).2.2.2.2.2 rfl) (x::y::r) (bw dec 4 (x::y::r)) [] n _ t (by simp) ?_ hd ht (SO hd)]
 ·rfl
 refine rC fun z hz n t hd ht=>?_
 have hss:stopS t:=by
  rcases ht with ht|ht
  ·exact ht.s
  ·intro c hc;rw[ht] at hc;simp at hc;subst hc;decide
 obtain ⟨g,g'⟩:=h z hz;cases he:ff 4 z with
 |true=>
  obtain ⟨k',rfl,hk⟩:=g' he;have h1:=tP (wM hk he hd) (dY hd) hss.i;unfold kc;exact oa (t:=t) h1 (lC (dY hd) fun b e=>(hss b e).2.2.2.2)
 |false=>
  unfold dh at hd⊢;rw[if_neg (by rw[he];simp)] at hd⊢
  exact g.sq (ah3 he) n t hd hss
end
theorem OG {x:Rx}{lv c c':Nat}(h:chk x lv c=some c'):lv≤16∧c<64:=by
 obtain ⟨k,lo,hi,l⟩:=x;rw[chk] at h;split at h
 ·cases h
 ·split at h
  ·cases h
  ·omega
section
variable {s:List UInt8} {num:NR} {dec:Int→List UInt8} (hnum:PW s num dec) (hdec:Xn dec)
include hnum hdec
mutual
theorem OH: ∀(x:Rx){lv c c' k:Nat},chk x lv c=some c'→16≤k+lv→Good s num dec k x
 | .mk p lo hi l,lv,c,c',k,h,hk=>by
  have hlv:=(OG h).1;have hlc:=(OG h).2;rw[chk,if_neg (by omega),if_neg (by omega)] at h
  split at h
  ·rename_i hn
   have hl: ∀y∈l,Good s num dec k y∧(ff p y=true→ ∃k',k=k'+1∧Good s num dec k' y):=fun y hy=>by
    have h1:=uw l h (k:=k) (by omega) y hy
    refine ⟨h1.1,fun _=>?_⟩
    have:=h1.2;have h2:=uw l h (k:=k-1) (by omega) y hy
    exact ⟨k-1,by omega,h2.1⟩
   unfold bm at hn;split at hn
   ·rename_i hp
    subst hp;have hn:=of_decide_eq_true hn;obtain ⟨q1,q2,q3,q4⟩:=hn;obtain rfl:=List.eq_nil_of_length_eq_zero q4
    by_cases e:lo=hi
    ·subst e
     have hpat:pat dec (.mk 1 lo lo [])=dec lo:=by rw[pat,dk,if_neg (by omega),if_pos rfl,if_pos rfl]
     exact zx (by rw[hpat];exact adH hnum hdec q1 q3) fun n t hd ht=>by rw[hpat] at hd⊢;exact adY hnum hdec q1 q3 hd ht
    ·have hpat:pat dec (.mk 1 lo hi [])=91::(dec lo++45::(dec hi++[93])):=by rw[pat,dk,if_neg (by omega),if_pos rfl,if_neg e]
     exact zx (by rw[hpat];exact ⟨91,_,rfl,by decide⟩) fun n t hd ht=>by rw[hpat] at hd⊢;exact adW hnum hdec q1 (by omega) (by omega) q3 (by simpa using hd)
   ·rename_i hp
    rw[Bool.and_eq_true] at hn;obtain ⟨hn0,hn⟩:=hn;obtain ⟨rfl,rfl⟩:=of_decide_eq_true hn0;split at hn
    ·rename_i hp2
     obtain rfl:=List.eq_nil_of_length_eq_zero (of_decide_eq_true hn);rcases hp2 with rfl|rfl
     ·have hpat:pat dec (.mk 0 0 0 [])= [40,41]:=by rw[pat,dk,if_pos rfl]
      refine zx (by rw[hpat];exact ⟨40,_,rfl,by decide⟩) fun n t hd ht=>?_
      rw[hpat] at hd⊢;have c1:chr s n 46=false:=by rw[cr hd];rfl
      have c2:chr s n 33=false:=by rw[cr hd];rfl
      have c3:chr s n 40=true:=by rw[cr hd];rfl
      have c4:chr s (n+1) 41=true:=by rw[cr (ju hd)];rfl
      simp[cK,c1,c2,c3,c4]
     ·have hpat:pat dec (.mk 2 0 0 [])= [46]:=by rw[pat,dk,if_neg (by omega),if_neg (by omega),if_pos rfl]
      refine zx (by rw[hpat];exact ⟨46,_,rfl,by decide⟩) fun n t hd ht=>?_
      rw[hpat] at hd⊢;have c1:chr s n 46=true:=by rw[cr hd];rfl
      simp[cK,c1]
    ·split at hn
     ·rename_i hp3
      subst hp3;exact ab1 hnum hdec (of_decide_eq_true hn) hl
     ·split at hn
      ·rename_i hp4
       subst hp4;have hn:=of_decide_eq_true hn
       by_cases hl0:l= []
       ·subst hl0
        have hpat:pat dec (.mk 4 0 0 [])= [33]:=by rw[pat,dk,if_neg (by omega),if_neg (by omega),if_neg (by omega),if_neg (by omega),if_pos rfl,bw];rfl
        refine zx (by rw[hpat];exact ⟨33,_,rfl,by decide⟩) fun n t hd ht=>?_
        rw[hpat] at hd⊢;have c1:chr s n 46=false:=by rw[cr hd];rfl
        have c2:chr s n 33=true:=by rw[cr hd];rfl
        simp[cK,c1,c2]
       ·exact ab2 hnum hdec (by have:l.length≠0:=fun q=>hl0 (List.eq_nil_of_length_eq_zero q);omega) hl
      ·split at hn
       ·rename_i hp5
        have hn:=of_decide_eq_true hn
        obtain ⟨y,rfl⟩: ∃y,l= [y]:=by
         match l,hn with
         | [y],_=>exact ⟨y,rfl⟩
        obtain ⟨g,g'⟩:=hl y (by simp)
        rcases (by omega:p=5∨p=6∨p=7) with rfl|rfl|rfl
        ·exact tV hnum hdec (b:=42) (by simp) g g'
        ·exact tV hnum hdec (b:=43) (by simp) g g'
        ·exact tV hnum hdec (b:=63) (by simp) g g'
       ·cases hn
  ·cases h
theorem uw: ∀(l:List Rx){lv c c' k:Nat},ir l lv c=some c'→16≤k+lv→ ∀y∈l,Good s num dec k y∧lv≤16
 | [],_,_,_,_,_,_,y,hy=>by simp at hy
 |x::r,lv,c,c',k,h,hk,y,hy=>by
  rw[ir] at h;split at h
  ·rename_i c1 h1
   have g:=OH x h1 hk;rcases List.mem_cons.1 hy with hxy|hy
   ·rw[hxy];exact ⟨g,(OG h1).1⟩
   ·exact uw r h hk y hy
  ·cases h
end
theorem Pu {x:Rx}{c' K:Nat}(h:chk x 1 0=some c')(hK:16≤K)(hs:s=pat dec x):cM s num K 0=some (x,s.length):=by
 have g:=OH hnum hdec x h (k:=K-1) (by omega)
 have:=g.al 0 [] (by simpa using hs) (fun c e=>by simp at e)
 rw[show K-1+1=K by omega] at this
 rw[this,←hs];simp
end
end Go.AM.IR
namespace Go.AM.IR
mutual
def Rx.enc:Rx→List AV
 | .mk k lo hi l=>[.int .i64 k,.int .i64 lo,.int .i64 hi,.sl 4 (Rx.encL l)]
def Rx.encL:List Rx→List (List AV)
 | []=>[]
 |x::r=>Rx.enc x::Rx.encL r
end
theorem xB: ∀l:List Rx,Rx.encL l=l.map Rx.enc
 | []=>by rw[Rx.encL];rfl
 |x::r=>by rw[Rx.encL,xB r];rfl
theorem bi (k lo hi:Int)(l:List Rx):(Rx.mk k lo hi l).enc= [.int .i64 k,.int .i64 lo,.int .i64 hi,.sl 4 (l.map Rx.enc)]:=by rw[Rx.enc,xB]
mutual
theorem cq: ∀x:Rx,aU x.enc=true
 | .mk k lo hi l=>by rw[Rx.enc];simp[aU,AV.pure,wm l]
theorem wm: ∀l:List Rx,aG (Rx.encL l)=true
 | []=>by rw[Rx.encL];rfl
 |x::r=>by rw[Rx.encL];simp[aG,cq x,wm r]
end
attribute [simp] cq
@[simp] theorem aiv (l:List Rx):aG (l.map Rx.enc)=true:=by rw[←xB];exact wm l
def rx0:Rx:=.mk 0 0 0 []
def f7 (c:UInt8):Int:=(c.toNat:Int)-48
def dJ (a:Int)(l:List UInt8):Int:=l.foldl (fun a c=>10*a+f7 c) a
def rnL (s:List UInt8)(fr:Nat):Nat→Int→Nat→Option (Int×Nat)
 |0,_,_=>none
 |f+1,a,n=>match s[n]? with
  |some c=>if isD c then (if 4294967295<10*a+f7 c then none else rnL s fr f (10*a+f7 c) (n+1)) else if fr<n then some (a,n) else none
  |none=>if fr<n then some (a,n) else none
def iP (s:List UInt8):NR:=fun n=>rnL s n (s.length+1) 0 n
def fX (s:List UInt8):NR:=fun n=>
 let t:=(s.drop n).takeWhile isD
 if t= [] then none else if 1<t.length∧t.head?=some 48 then none else if 4294967295<dJ 0 t then none else some (dJ 0 t,n+t.length)
def nH (s:List UInt8):Option Rx:=match cM s (iP s) 32 0 with
 |some (x,m)=>if m=s.length∧(chk x 1 0).isSome=true∧pat aa x=s then some x else none
 |none=>none
def qP (s:List UInt8):Option Rx:=match cM s (fX s) 33 0 with
 |some (x,_)=>if (chk x 1 0).isSome=true∧pat aa x=s then some x else none
 |none=>none
def uO:Option Rx→Ret
 |none=>⟨.tup [.agg rx0.enc,.int .i64 2],[]⟩
 |some x=>⟨.tup [.agg x.enc,.int .i64 0],[]⟩
end Go.AM.IR
namespace Go.AM.IR
set_option linter.unusedVariables false
theorem u6 {c:UInt8}(h:isD c=true):0≤f7 c∧f7 c≤9:=by
 unfold isD at h;have h:=of_decide_eq_true h;unfold f7;omega
theorem MJ {u:Nat}(h:u<10):isD (UInt8.ofNat (48+u))=true∧f7 (UInt8.ofNat (48+u))=u:=by
 have e:(UInt8.ofNat (48+u)).toNat=48+u:=by rw[UInt8.toNat_ofNat'];omega
 unfold isD f7;rw[e];constructor
 ·simp;omega
 ·omega
theorem aa1 (a:Int)(l m:List UInt8):dJ a (l++m)=dJ (dJ a l) m:=by simp[dJ]
theorem Bu: ∀(l:List UInt8)(a:Int),0≤a→(∀c∈l,isD c=true)→a≤dJ a l
 | [],a,_,_=>by simp[dJ]
 |c::r,a,h,hd=>by
  have h1:=u6 (hd c (by simp))
  have h2:=Bu r (10*a+f7 c) (by omega) (fun x hx=>hd x (by simp[hx]))
  show a≤dJ (10*a+f7 c) r
  omega
theorem S5: ∀(f u:Nat),u<10^ (f+1)→(∀c∈cz f u,isD c=true)∧dJ 0 (cz f u)=u∧(cz f u≠ [])∧(1≤u→(cz f u).head?≠some 48)∧(u<10→(cz f u).length=1)
 |0,u,h=>by
  have hu:u<10:=by simpa using h
  obtain ⟨h1,h2⟩:=MJ hu;simp only[cz];generalize UInt8.ofNat (48+u)=b at*;refine ⟨by simp[h1],by simp[dJ,h2],by simp,fun h1u q=>?_,fun _=>by simp⟩
  simp only[List.head?_cons,Option.some.injEq] at q;rw[q] at h2;have:f7 48=0:=rfl;omega
 |f+1,u,h=>by
  by_cases hu:u<10
  ·obtain ⟨h1,h2⟩:=MJ hu
   simp only[cz,hu,if_true];generalize UInt8.ofNat (48+u)=b at*;refine ⟨by simp[h1],by simp[dJ,h2],by simp,fun h1u q=>?_,fun _=>by simp⟩
   simp only[List.head?_cons,Option.some.injEq] at q;rw[q] at h2;have:f7 48=0:=rfl;omega
  ·obtain ⟨q1,q2,q3,q4,q5⟩:=S5 f (u/ 10) (by rw[Nat.pow_succ] at h;omega)
   obtain ⟨h1,h2⟩:=MJ (u:=u % 10) (by omega)
   have e:cz (f+1) u=cz f (u/ 10)++[UInt8.ofNat (48+u % 10)]:=by simp[cz,hu]
   refine ⟨?_,?_,by rw[e];simp,fun _=>?_,fun h=>absurd h hu⟩
   ·rw[e];intro c hc
    rcases B4.1 hc with hc|hc
    ·exact q1 c hc
    ·simp only[B5] at hc;rw[hc];exact h1
   ·rw[e,aa1,q2]
    show 10* ((u/ 10:Nat):Int)+f7 _=u
    rw[h2];omega
   ·rw[e]
    have:=q4 (by omega)
    cases hd:cz f (u/ 10) with
    |nil=>exact absurd hd q3
    |cons c r=>rw[hd] at this;simpa using this
theorem Cu {a:Int}(h0:0≤a)(h1:a≤4294967295):(∀c∈aa a,isD c=true)∧dJ 0 (aa a)=a∧aa a≠ []∧ ¬(1<(aa a).length∧(aa a).head?=some 48):=by
 unfold aa;rw[Ac (by omega)]
 obtain ⟨q1,q2,q3,q4,q5⟩:=S5 19 a.toNat (by omega)
 refine ⟨q1,by rw[q2];omega,q3,?_⟩
 rintro ⟨l,hh⟩
 by_cases hz:1≤a.toNat
 ·exact q4 hz hh
 ·rw[q5 (by omega)] at l;omega
theorem GW:Xn aa:=fun a h0 h1=>by
 obtain ⟨q1,_,q3,_⟩:=Cu h0 h1;cases hd:aa a with
 |nil=>exact absurd hd q3
 |cons c r=>exact ⟨c,r,rfl,q1 c (by rw[hd];simp)⟩
theorem aeg (s:List UInt8)(fr:Nat): ∀(ds:List UInt8)(f:Nat)(a:Int)(n:Nat)(t:List UInt8),(∀c∈ds,isD c=true)→0≤a→dJ a ds≤4294967295→s.drop n=ds++t→uK t→ds.length<f→fr<n+ds.length→rnL s fr f a n=some (dJ a ds,n+ds.length)
 | [],f,a,n,t,hd,h0,hv,e,ht,hf,hfr=>by
  cases f with
  |zero=>simp at hf
  |succ f=>
  have h1:=DJ e 0;rw[Nat.add_zero] at h1;rw[rnL,h1];simp only[Bo];cases hh:t[0]? with
  |none=>simp at hfr;simp[dJ,hfr]
  |some c=>
   have:isD c=false:=ht c (by cases t with|nil=>simp at hh|cons a b=>simpa using hh)
   simp at hfr;simp[this,dJ,hfr]
 |c::r,f,a,n,t,hd,h0,hv,e,ht,hf,hfr=>by
  cases f with
  |zero=>simp at hf
  |succ f=>
  have h1:=DJ e 0;rw[Nat.add_zero] at h1;have hc:=hd c (by simp)
  have h2:=u6 hc;have h3:dJ a (c::r)=dJ (10*a+f7 c) r:=rfl;have h4:=Bu r (10*a+f7 c) (by omega) (fun x hx=>hd x (by simp[hx]))
  rw[rnL,h1];simp only[BY,List.getElem?_cons_zero,hc,if_true];rw[Ac (by omega),aeg s fr r f (10*a+f7 c) (n+1) t (fun x hx=>hd x (by simp[hx])) (by omega) (by omega) (ju (by simpa using e)) ht (by simpa using hf) (by simp at hfr;omega)]
  rw[h3];simp;omega
theorem Yg (s:List UInt8):PW s (iP s) aa:=fun n a t h0 h1 e ht=>by
 obtain ⟨q1,q2,q3,_⟩:=Cu h0 h1;have hl:(s.drop n).length=(aa a++t).length:=by rw[e]
 have hp:0<(aa a).length:=List.length_pos_iff.2 q3;simp at hl;unfold iP;rw[aeg s n (aa a) (s.length+1) 0 n t q1 (by omega) (by rw[q2];exact h1) e ht (by omega) (by omega),q2]
theorem s5 {p:UInt8→Bool}: ∀{l t:List UInt8},(∀c∈l,p c=true)→(∀c,t.head?=some c→p c=false)→(l++t).takeWhile p=l
 | [],t,_,ht=>by
  cases t with
  |nil=>rfl
  |cons c r=>simp[ht c rfl]
 |c::r,t,hl,ht=>by
  rw[BY,List.takeWhile_cons,Ad (hl c (by simp)),s5 (fun x hx=>hl x (by simp[hx])) ht]
theorem Yh (s:List UInt8):PW s (fX s) aa:=fun n a t h0 h1 e ht=>by
 obtain ⟨q1,q2,q3,q4⟩:=Cu h0 h1;unfold fX;rw[e,s5 q1 ht];dsimp only;rw[Ac q3,Ac q4,q2,Ac (by omega)]
theorem aeD (s:List UInt8):qP s=nH s:=by
 unfold qP nH;have hb1: ∀x c',chk x 1 0=some c'→s=pat aa x→cM s (iP s) 32 0=some (x,s.length):=fun x c' h hs=>Pu (Yg s) GW h (by omega) hs
 have hb2: ∀x c',chk x 1 0=some c'→s=pat aa x→cM s (fX s) 33 0=some (x,s.length):=fun x c' h hs=>Pu (Yh s) GW h (by omega) hs
 cases h1:cM s (fX s) 33 0 with
 |none=>
  cases h2:cM s (iP s) 32 0 with
  |none=>rfl
  |some y=>
   obtain ⟨y,m⟩:=y;dsimp only;rw[Ac]
   rintro ⟨_,q2,q3⟩
   obtain ⟨c',hc⟩:=Be.1 q2;rw[hb2 y c' hc q3.symm] at h1;cases h1
 |some x=>
  obtain ⟨x,k⟩:=x;dsimp only
  by_cases hq:(chk x 1 0).isSome=true∧pat aa x=s
  ·rw[Ad hq]
   obtain ⟨c',hc⟩:=Be.1 hq.1;rw[hb1 x c' hc hq.2.symm];simp[hq.1,hq.2]
  ·rw[Ac hq]
   cases h2:cM s (iP s) 32 0 with
   |none=>rfl
   |some y=>
    obtain ⟨y,m⟩:=y;dsimp only;rw[Ac]
    rintro ⟨_,q2,q3⟩
    obtain ⟨c',hc⟩:=Be.1 q2;rw[hb2 y c' hc q3.symm] at h1;injection h1 with h1
    injection h1 with h1 _
    subst h1;exact hq ⟨q2,q3⟩
end Go.AM.IR
namespace Go.AM.IR
def bT (x:Int):List AV:=[.int .i64 x]
def ew (x:Int):List AV:=[.int .u32 x]
structure Seg where
 kind:Int
 as:List Int
def Seg.enc (s:Seg):List AV:=[.int .i64 s.kind,.sl 1 (s.as.map bT)]
structure TLV where
 kind:Int
 value:List UInt8
def TLV.enc (s:TLV):List AV:=[.int .i64 s.kind,.sl 1 (byteCells s.value)]
structure Attrs where
 origin:Int
 path:List Seg
 nextHop:Int
 hasMED:Bool
 med:Int
 hasPref:Bool
 pref:Int
 atomic:Bool
 hasAggr:Bool
 aggrAS:Int
 aggrAddr:Int
 comms:List Int
 hasOrig:Bool
 orig:Int
 clusters:List Int
 unknown:List TLV
def Attrs.enc (a:Attrs):List AV:=[.int .i64 a.origin,.sl 2 (a.path.map Seg.enc),.int .u32 a.nextHop,.bool a.hasMED,.int .i64 a.med,.bool a.hasPref,.int .i64 a.pref,.bool a.atomic,.bool a.hasAggr,.int .i64 a.aggrAS,.int .u32 a.aggrAddr,
 .sl 1 (a.comms.map ew),.bool a.hasOrig,.int .u32 a.orig,.sl 1 (a.clusters.map ew),.sl 2 (a.unknown.map TLV.enc)]
structure PVRoute where
 paddr:Int
 plen:Int
 attrs:Attrs
 peer:Int
 kind:Int
 router:Int
 stale:Bool
def PVRoute.enc (r:PVRoute):List AV:=[.int .u32 r.paddr,.int .i64 r.plen,
 .int .i64 r.attrs.origin,.sl 2 (r.attrs.path.map Seg.enc),.int .u32 r.attrs.nextHop,.bool r.attrs.hasMED,.int .i64 r.attrs.med,.bool r.attrs.hasPref,.int .i64 r.attrs.pref,.bool r.attrs.atomic,.bool r.attrs.hasAggr,.int .i64 r.attrs.aggrAS,.int .u32 r.attrs.aggrAddr,
 .sl 1 (r.attrs.comms.map ew),.bool r.attrs.hasOrig,.int .u32 r.attrs.orig,.sl 1 (r.attrs.clusters.map ew),.sl 2 (r.attrs.unknown.map TLV.enc),
 .int .i64 r.peer,.int .i64 r.kind,.int .u32 r.router,.bool r.stale]
structure IGP where
 addr:Int
 cost:Int
def IGP.enc (c:IGP):List AV:=[.int .u32 c.addr,.int .i64 c.cost]
theorem dQ {α:Type}{f:α→List AV}(h: ∀x,aU (f x)=true): ∀l:List α,aG (l.map f)=true
 | []=>rfl
 |x::r=>by simp only[Ao,aG,h x,dQ h r,Bool.and_self]
theorem ox: ∀l:List UInt8,aG (byteCells l)=true:=fun l=>dQ (f:=fun b:UInt8=>[AV.int .u8 (b.toNat:Int)]) (fun _=>rfl) l
@[simp] theorem ais (l:List Int):aG (l.map bT)=true:=dQ (fun _=>rfl) l
@[simp] theorem air (l:List Int):aG (l.map ew)=true:=dQ (fun _=>rfl) l
theorem Seg.pure (s:Seg):aU s.enc=true:=by simp[Seg.enc,aU,AV.pure]
@[simp] theorem aio (l:List Seg):aG (l.map Seg.enc)=true:=dQ Seg.pure l
theorem TLV.pure (s:TLV):aU s.enc=true:=by simp[TLV.enc,aU,AV.pure,ox]
@[simp] theorem ain (l:List TLV):aG (l.map TLV.enc)=true:=dQ TLV.pure l
@[simp] theorem Attrs.pure (s:Attrs):aU s.enc=true:=by simp[Attrs.enc,aU,AV.pure]
@[simp] theorem PVRoute.pure (s:PVRoute):aU s.enc=true:=by simp[PVRoute.enc,aU,AV.pure]
@[simp] theorem ahr (l:List PVRoute):aG (l.map PVRoute.enc)=true:=dQ PVRoute.pure l
@[simp] theorem aiq (l:List IGP):aG (l.map IGP.enc)=true:=dQ (fun _=>rfl) l
end Go.AM.IR
namespace Go.AM.IR
theorem MF {α:Type}{e:List AV→Prop}{enc:α→List AV}{Q:α→Prop}(h: ∀x,e x→ ∃a,x=enc a∧Q a): ∀es:List (List AV),(∀x∈es,e x)→ ∃l:List α,es=l.map enc∧ ∀a∈l,Q a
 | [],_=>⟨[],rfl,by simp⟩
 |x::r,hx=>by
  obtain ⟨a,rfl,ha⟩:=h x (hx x (by simp))
  obtain ⟨l,rfl,hl⟩:=MF h r fun y hy=>hx y (by simp[hy])
  exact ⟨a::l,rfl,by simpa using ⟨ha,hl⟩⟩
def okI (x:Int):Prop:= -9223372036854775808≤x∧x≤9223372036854775807
def okU (x:Int):Prop:=0≤x∧x≤4294967295
theorem cn {as:List AV}(h:Ty.T (.int .i64) as): ∃x,as=bT x∧okI x:=by
 obtain ⟨n,rfl,h1,h2⟩:=h;exact ⟨n,rfl,by simpa[IntKind.min,IntKind.max,IntKind.signed,IntKind.bits,okI] using And.intro h1 h2⟩
theorem j8 {as:List AV}(h:Ty.T (.int .u32) as): ∃x,as=ew x∧okU x:=by
 obtain ⟨n,rfl,h1,h2⟩:=h;exact ⟨n,rfl,by simpa[IntKind.min,IntKind.max,IntKind.signed,IntKind.bits,okU] using And.intro h1 h2⟩
theorem iu {α:Type}{τ:Ty}{enc:α→List AV}{Q:α→Prop}(h: ∀x,τ.T x→ ∃a,x=enc a∧Q a){as:List AV}(hs:Ty.T (.sl τ) as): ∃l:List α,as= [.sl τ.cells (l.map enc)]∧ ∀a∈l,Q a:=by
 obtain ⟨es,rfl,h1,_⟩:=hs;obtain ⟨l,rfl,h2⟩:=MF h es h1;exact ⟨l,rfl,h2⟩
structure Seg.ok (s:Seg):Prop where
 kind:okI s.kind
 as: ∀x∈s.as,okI x
structure TLV.ok (s:TLV):Prop where
 kind:okI s.kind
structure IGP.ok (s:IGP):Prop where
 addr:okU s.addr
 cost:okI s.cost
structure Attrs.ok (a:Attrs):Prop where
 origin:okI a.origin
 path: ∀s∈a.path,s.ok
 nextHop:okU a.nextHop
 med:okI a.med
 pref:okI a.pref
 aggrAS:okI a.aggrAS
 aggrAddr:okU a.aggrAddr
 comms: ∀x∈a.comms,okU x
 orig:okU a.orig
 clusters: ∀x∈a.clusters,okU x
 unknown: ∀x∈a.unknown,x.ok
structure PVRoute.ok (r:PVRoute):Prop where
 paddr:okU r.paddr
 plen:okI r.plen
 attrs:r.attrs.ok
 peer:okI r.peer
 kind:okI r.kind
 router:okU r.router
end Go.AM.IR
namespace Go.AM.IR
structure Pfx where
 addr:Int
 len:Int
 deriving DecidableEq
def Pfx.enc (p:Pfx):List AV:=[.int .u32 p.addr,.int .i64 p.len]
structure Cap where
 code:Int
 value:List UInt8
 deriving DecidableEq
def Cap.enc (p:Cap):List AV:=[.int .i64 p.code,.sl 1 (byteCells p.value)]
structure PMsg where
 kind:Int
 version:Int
 as:Int
 hold:Int
 router:Int
 caps:List Cap
 withdrawn:List Pfx
 attrs:Attrs
 reach:List Pfx
 code:Int
 sub:Int
 data:List UInt8
def PMsg.enc (m:PMsg):List AV:=[.int .i64 m.kind,.int .i64 m.version,.int .i64 m.as,.int .i64 m.hold,.int .u32 m.router,.sl 2 (m.caps.map Cap.enc),.sl 2 (m.withdrawn.map Pfx.enc),
 .int .i64 m.attrs.origin,.sl 2 (m.attrs.path.map Seg.enc),.int .u32 m.attrs.nextHop,.bool m.attrs.hasMED,.int .i64 m.attrs.med,.bool m.attrs.hasPref,.int .i64 m.attrs.pref,.bool m.attrs.atomic,.bool m.attrs.hasAggr,.int .i64 m.attrs.aggrAS,.int .u32 m.attrs.aggrAddr,
 .sl 1 (m.attrs.comms.map ew),.bool m.attrs.hasOrig,.int .u32 m.attrs.orig,.sl 1 (m.attrs.clusters.map ew),.sl 2 (m.attrs.unknown.map TLV.enc),
 .sl 2 (m.reach.map Pfx.enc),.int .i64 m.code,.int .i64 m.sub,.sl 1 (byteCells m.data)]
structure Peer where
 kind:Int
 as:Int
 addr:Int
 loc:Int
 client:Bool
 hold:Int
 restart:Int
 imp:List UInt8
 exp:List UInt8
 nextSelf:Bool
 damp:Bool
def Peer.enc (p:Peer):List AV:=[.int .i64 p.kind,.int .i64 p.as,.int .u32 p.addr,.int .u32 p.loc,.bool p.client,.int .i64 p.hold,.int .i64 p.restart,.str p.imp,.str p.exp,.bool p.nextSelf,.bool p.damp]
structure Conf where
 as:Int
 confed:Int
 router:Int
 cluster:Int
 peers:List Peer
 nets:AV
 p1:AV
 p2:AV
 p3:AV
 p4:AV
 d1:Int
 d2:Int
 d3:Int
 d4:Int
 multi:Int
def Conf.enc (c:Conf):List AV:=[.int .i64 c.as,.int .i64 c.confed,.int .u32 c.router,.int .u32 c.cluster,.sl 11 (c.peers.map Peer.enc),c.nets,c.p1,c.p2,c.p3,c.p4,.int .i64 c.d1,.int .i64 c.d2,.int .i64 c.d3,.int .i64 c.d4,.int .i64 c.multi]
structure Ses where
 state:Int
 retry:Int
 hold:Int
 keep:Int
 holdTime:Int
 router:Int
 restart:Int
 refresh:Bool
 untl:Int
def Ses.enc (s:Ses):List AV:=[.int .i64 s.state,.int .i64 s.retry,.int .i64 s.hold,.int .i64 s.keep,.int .i64 s.holdTime,.int .u32 s.router,.int .i64 s.restart,.bool s.refresh,.int .i64 s.untl]
structure Act where
 kind:Int
 msg:PMsg
def Act.enc (a:Act):List AV:=.int .i64 a.kind::a.msg.enc
theorem Pfx.pure (s:Pfx):aU s.enc=true:=rfl
@[simp] theorem aip (l:List Pfx):aG (l.map Pfx.enc)=true:=dQ Pfx.pure l
theorem Cap.pure (s:Cap):aU s.enc=true:=by simp[Cap.enc,aU,AV.pure,ox]
@[simp] theorem ait (l:List Cap):aG (l.map Cap.enc)=true:=dQ Cap.pure l
@[simp] theorem PMsg.pure (s:PMsg):aU s.enc=true:=by simp[PMsg.enc,aU,AV.pure,ox]
theorem Peer.pure (s:Peer):aU s.enc=true:=rfl
@[simp] theorem ahJ (l:List Peer):aG (l.map Peer.enc)=true:=dQ Peer.pure l
@[simp] theorem Ses.pure (s:Ses):aU s.enc=true:=rfl
@[simp] theorem Act.pure (s:Act):aU s.enc=true:=by simp[Act.enc,aU,AV.pure]
@[simp] theorem aiu (l:List Act):aG (l.map Act.enc)=true:=dQ Act.pure l
structure Conf.ok (c:Conf):Prop where
 nets:c.nets.pure=true
 p1:c.p1.pure=true
 p2:c.p2.pure=true
 p3:c.p3.pure=true
 p4:c.p4.pure=true
 as:okI c.as
 confed:okI c.confed
 router:okU c.router
 peers: ∀p∈c.peers,okI p.as∧okI p.hold∧okI p.restart∧okI p.kind
 len:c.peers.length≤maxLen
theorem Conf.pure {c:Conf}(h:c.ok):aU c.enc=true:=by simp[Conf.enc,aU,AV.pure,h.nets,h.p1,h.p2,h.p3,h.p4]
def s6:Ty:=.st [.int .u32,.int .i64]
structure Pfx.ok (p:Pfx):Prop where
 addr:okU p.addr
 len:okI p.len
theorem vc {as:List AV}(h:s6.T as): ∃s:Pfx,as=s.enc∧s.ok:=by
 simp only[s6,Ty.T.eq_5,TT] at h;obtain ⟨a1,b1,rfl,h1,a2,b2,rfl,h2,rfl⟩:=h;obtain ⟨x1,rfl,k1⟩:=j8 h1;obtain ⟨x2,rfl,k2⟩:=cn h2;exact ⟨⟨x1,x2⟩,rfl,k1,k2⟩
structure PMsg.ok (m:PMsg):Prop where
 kind:okI m.kind
 version:okI m.version
 as:okI m.as
 hold:okI m.hold
 router:okU m.router
 caps: ∀c∈m.caps,okI c.code
 withdrawn: ∀p∈m.withdrawn,p.ok
 attrs:m.attrs.ok
 reach: ∀p∈m.reach,p.ok
 code:okI m.code
 sub:okI m.sub
theorem lx {as:List AV}(h:Ty.T .str as): ∃s,as= [.str s]:=by
 obtain ⟨s,rfl,_⟩:=h;exact ⟨s,rfl⟩
structure Ses.ok (s:Ses):Prop where
 state:okI s.state
 retry:okI s.retry
 hold:okI s.hold
 keep:okI s.keep
 holdTime:okI s.holdTime
 router:okU s.router
 restart:okI s.restart
 untl:okI s.untl
end Go.AM.IR
namespace Go.AM.IR
set_option maxHeartbeats 1000000
@[simp] theorem N9 (x:Pfx):aU x.enc=true:=by simp[Pfx.enc,aU,AV.pure]
@[simp] theorem abk: ∀l:List Int,aG (l.map bT)=true
 | []=>rfl
 |x::r=>by simp only[Ao,aG,abk r];simp[bT,aU,AV.pure]
@[simp] theorem KL: ∀l:List Pfx,aG (l.map Pfx.enc)=true
 | []=>rfl
 |x::r=>by simp only[Ao,aG,KL r,N9];rfl
theorem aia {as:List AV}(h:Ty.T (.sl (.int .i64)) as): ∃l:List Int,as= [.sl 1 (l.map bT)]∧ ∀x∈l,okI x:=iu (fun _=>cn) h
structure Ifc where
 kind:Int
 pfx:Pfx
 addr:Int
 area:Int
 cost:Int
 prio:Int
 hello:Int
 dead:Int
def Ifc.enc (r:Ifc):List AV:=[.int .i64 r.kind,.int .u32 r.pfx.addr,.int .i64 r.pfx.len,.int .u32 r.addr,.int .u32 r.area,.int .i64 r.cost,.int .i64 r.prio,.int .i64 r.hello,.int .i64 r.dead]
def Ifc.ok (r:Ifc):Prop:=okI r.kind∧Pfx.ok r.pfx∧okU r.addr∧okU r.area∧okI r.cost∧okI r.prio∧okI r.hello∧okI r.dead
def T7:Ty:=.st [.int .i64,s6,.int .u32,.int .u32,.int .i64,.int .i64,.int .i64,.int .i64]
theorem aii {as:List AV}(h:T7.T as): ∃s:Ifc,as=s.enc∧s.ok:=by
 simp only[T7,Ty.T.eq_5,TT] at h;obtain ⟨a0,b0,rfl,h0,a1,b1,rfl,h1,a2,b2,rfl,h2,a3,b3,rfl,h3,a4,b4,rfl,h4,a5,b5,rfl,h5,a6,b6,rfl,h6,a7,b7,rfl,h7,rfl⟩:=h;obtain ⟨x0,rfl,k0⟩:=cn h0;obtain ⟨x1,rfl,k1⟩:=vc h1;obtain ⟨x2,rfl,k2⟩:=j8 h2;obtain ⟨x3,rfl,k3⟩:=j8 h3;obtain ⟨x4,rfl,k4⟩:=cn h4;obtain ⟨x5,rfl,k5⟩:=cn h5;obtain ⟨x6,rfl,k6⟩:=cn h6;obtain ⟨x7,rfl,k7⟩:=cn h7;exact ⟨⟨x0,x1,x2,x3,x4,x5,x6,x7⟩,rfl,⟨k0,k1,k2,k3,k4,k5,k6,k7⟩⟩
@[simp] theorem Oe (x:Ifc):aU x.enc=true:=by simp[Ifc.enc,aU,AV.pure]
@[simp] theorem KR: ∀l:List Ifc,aG (l.map Ifc.enc)=true
 | []=>rfl
 |x::r=>by simp only[Ao,aG,KR r,Oe];rfl
structure ARange where
 area:Int
 pfx:Pfx
 adv:Bool
def ARange.enc (r:ARange):List AV:=[.int .u32 r.area,.int .u32 r.pfx.addr,.int .i64 r.pfx.len,.bool r.adv]
def ARange.ok (r:ARange):Prop:=okU r.area∧Pfx.ok r.pfx
def wd:Ty:=.st [.int .u32,s6,.bool]
theorem ad6 {as:List AV}(h:wd.T as): ∃s:ARange,as=s.enc∧s.ok:=by
 simp only[wd,Ty.T.eq_5,TT] at h;obtain ⟨a0,b0,rfl,h0,a1,b1,rfl,h1,a2,b2,rfl,h2,rfl⟩:=h;obtain ⟨x0,rfl,k0⟩:=j8 h0;obtain ⟨x1,rfl,k1⟩:=vc h1;obtain ⟨x2,rfl⟩:=h2;exact ⟨⟨x0,x1,x2⟩,rfl,⟨k0,k1⟩⟩
@[simp] theorem Ae (x:ARange):aU x.enc=true:=by simp[ARange.enc,aU,AV.pure]
@[simp] theorem yI: ∀l:List ARange,aG (l.map ARange.enc)=true
 | []=>rfl
 |x::r=>by simp only[Ao,aG,yI r,Ae];rfl
structure LSC where
 router:Int
 ifs:List Ifc
 ranges:List ARange
def LSC.enc (r:LSC):List AV:=[.int .u32 r.router,.sl 9 (r.ifs.map Ifc.enc),.sl 4 (r.ranges.map ARange.enc)]
def LSC.ok (r:LSC):Prop:=okU r.router∧(∀x∈r.ifs,Ifc.ok x)∧(∀x∈r.ranges,ARange.ok x)
def T6:Ty:=.st [.int .u32,.sl T7,.sl wd]
theorem aih {as:List AV}(h:T6.T as): ∃s:LSC,as=s.enc∧s.ok:=by
 simp only[T6,Ty.T.eq_5,TT] at h;obtain ⟨a0,b0,rfl,h0,a1,b1,rfl,h1,a2,b2,rfl,h2,rfl⟩:=h;obtain ⟨x0,rfl,k0⟩:=j8 h0;obtain ⟨x1,rfl,k1⟩:=iu (fun _=>aii) h1
 obtain ⟨x2,rfl,k2⟩:=iu (fun _=>ad6) h2
 exact ⟨⟨x0,x1,x2⟩,rfl,⟨k0,k1,k2⟩⟩
@[simp] theorem Od (x:LSC):aU x.enc=true:=by simp[LSC.enc,aU,AV.pure]
@[simp] theorem KP: ∀l:List LSC,aG (l.map LSC.enc)=true
 | []=>rfl
 |x::r=>by simp only[Ao,aG,KP r,Od];rfl
structure RuleP where
 permit:Bool
 pfx:Pfx
 min:Int
 max:Int
def RuleP.enc (r:RuleP):List AV:=[.bool r.permit,.int .u32 r.pfx.addr,.int .i64 r.pfx.len,.int .i64 r.min,.int .i64 r.max]
def RuleP.ok (r:RuleP):Prop:=Pfx.ok r.pfx∧okI r.min∧okI r.max
def Bw:Ty:=.st [.bool,s6,.int .i64,.int .i64]
theorem afz {as:List AV}(h:Bw.T as): ∃s:RuleP,as=s.enc∧s.ok:=by
 simp only[Bw,Ty.T.eq_5,TT] at h;obtain ⟨a0,b0,rfl,h0,a1,b1,rfl,h1,a2,b2,rfl,h2,a3,b3,rfl,h3,rfl⟩:=h;obtain ⟨x0,rfl⟩:=h0;obtain ⟨x1,rfl,k1⟩:=vc h1;obtain ⟨x2,rfl,k2⟩:=cn h2;obtain ⟨x3,rfl,k3⟩:=cn h3;exact ⟨⟨x0,x1,x2,x3⟩,rfl,⟨k1,k2,k3⟩⟩
@[simp] theorem Dy (x:RuleP):aU x.enc=true:=by simp[RuleP.enc,aU,AV.pure]
@[simp] theorem BQ: ∀l:List RuleP,aG (l.map RuleP.enc)=true
 | []=>rfl
 |x::r=>by simp only[Ao,aG,BQ r,Dy];rfl
structure PList where
 name:List UInt8
 rules:List RuleP
def PList.enc (r:PList):List AV:=[.str r.name,.sl 5 (r.rules.map RuleP.enc)]
def PList.ok (r:PList):Prop:=(∀x∈r.rules,RuleP.ok x)
def BG:Ty:=.st [.str,.sl Bw]
theorem afE {as:List AV}(h:BG.T as): ∃s:PList,as=s.enc∧s.ok:=by
 simp only[BG,Ty.T.eq_5,TT] at h;obtain ⟨a0,b0,rfl,h0,a1,b1,rfl,h1,rfl⟩:=h;obtain ⟨x0,rfl⟩:=lx h0;obtain ⟨x1,rfl,k1⟩:=iu (fun _=>afz) h1
 exact ⟨⟨x0,x1⟩,rfl,k1⟩
@[simp] theorem DH (x:PList):aU x.enc=true:=by simp[PList.enc,aU,AV.pure]
@[simp] theorem BW: ∀l:List PList,aG (l.map PList.enc)=true
 | []=>rfl
 |x::r=>by simp only[Ao,aG,BW r,DH];rfl
structure PathR where
 permit:Bool
 pattern:List UInt8
def PathR.enc (r:PathR):List AV:=[.bool r.permit,.str r.pattern]
def PathR.ok (r:PathR):Prop:=True
def BA:Ty:=.st [.bool,.str]
theorem afC {as:List AV}(h:BA.T as): ∃s:PathR,as=s.enc∧s.ok:=by
 simp only[BA,Ty.T.eq_5,TT] at h;obtain ⟨a0,b0,rfl,h0,a1,b1,rfl,h1,rfl⟩:=h;obtain ⟨x0,rfl⟩:=h0;obtain ⟨x1,rfl⟩:=lx h1;exact ⟨⟨x0,x1⟩,rfl,trivial⟩
@[simp] theorem DF (x:PathR):aU x.enc=true:=by simp[PathR.enc,aU,AV.pure]
@[simp] theorem BU: ∀l:List PathR,aG (l.map PathR.enc)=true
 | []=>rfl
 |x::r=>by simp only[Ao,aG,BU r,DF];rfl
structure PathL where
 name:List UInt8
 rules:List PathR
def PathL.enc (r:PathL):List AV:=[.str r.name,.sl 2 (r.rules.map PathR.enc)]
def PathL.ok (r:PathL):Prop:=(∀x∈r.rules,PathR.ok x)
def BC:Ty:=.st [.str,.sl BA]
theorem afD {as:List AV}(h:BC.T as): ∃s:PathL,as=s.enc∧s.ok:=by
 simp only[BC,Ty.T.eq_5,TT] at h;obtain ⟨a0,b0,rfl,h0,a1,b1,rfl,h1,rfl⟩:=h;obtain ⟨x0,rfl⟩:=lx h0;obtain ⟨x1,rfl,k1⟩:=iu (fun _=>afC) h1
 exact ⟨⟨x0,x1⟩,rfl,k1⟩
@[simp] theorem DG (x:PathL):aU x.enc=true:=by simp[PathL.enc,aU,AV.pure]
@[simp] theorem BV: ∀l:List PathL,aG (l.map PathL.enc)=true
 | []=>rfl
 |x::r=>by simp only[Ao,aG,BV r,DG];rfl
structure ComR where
 permit:Bool
 high:Int
 low:Int
def ComR.enc (r:ComR):List AV:=[.bool r.permit,.int .i64 r.high,.int .i64 r.low]
def ComR.ok (r:ComR):Prop:=okI r.high∧okI r.low
def J9:Ty:=.st [.bool,.int .i64,.int .i64]
theorem aho {as:List AV}(h:J9.T as): ∃s:ComR,as=s.enc∧s.ok:=by
 simp only[J9,Ty.T.eq_5,TT] at h;obtain ⟨a0,b0,rfl,h0,a1,b1,rfl,h1,a2,b2,rfl,h2,rfl⟩:=h;obtain ⟨x0,rfl⟩:=h0;obtain ⟨x1,rfl,k1⟩:=cn h1;obtain ⟨x2,rfl,k2⟩:=cn h2;exact ⟨⟨x0,x1,x2⟩,rfl,⟨k1,k2⟩⟩
@[simp] theorem Jz (x:ComR):aU x.enc=true:=by simp[ComR.enc,aU,AV.pure]
@[simp] theorem I6: ∀l:List ComR,aG (l.map ComR.enc)=true
 | []=>rfl
 |x::r=>by simp only[Ao,aG,I6 r,Jz];rfl
structure ComL where
 name:List UInt8
 rules:List ComR
def ComL.enc (r:ComL):List AV:=[.str r.name,.sl 3 (r.rules.map ComR.enc)]
def ComL.ok (r:ComL):Prop:=(∀x∈r.rules,ComR.ok x)
def Ka:Ty:=.st [.str,.sl J9]
theorem ahp {as:List AV}(h:Ka.T as): ∃s:ComL,as=s.enc∧s.ok:=by
 simp only[Ka,Ty.T.eq_5,TT] at h;obtain ⟨a0,b0,rfl,h0,a1,b1,rfl,h1,rfl⟩:=h;obtain ⟨x0,rfl⟩:=lx h0;obtain ⟨x1,rfl,k1⟩:=iu (fun _=>aho) h1
 exact ⟨⟨x0,x1⟩,rfl,k1⟩
@[simp] theorem JA (x:ComL):aU x.enc=true:=by simp[ComL.enc,aU,AV.pure]
@[simp] theorem I7: ∀l:List ComL,aG (l.map ComL.enc)=true
 | []=>rfl
 |x::r=>by simp only[Ao,aG,I7 r,JA];rfl
structure Mat where
 kind:Int
 name:List UInt8
 n:Int
 pfx:Pfx
 neg:Bool
def Mat.enc (r:Mat):List AV:=[.int .i64 r.kind,.str r.name,.int .i64 r.n,.int .u32 r.pfx.addr,.int .i64 r.pfx.len,.bool r.neg]
def Mat.ok (r:Mat):Prop:=okI r.kind∧okI r.n∧Pfx.ok r.pfx
def TW:Ty:=.st [.int .i64,.str,.int .i64,s6,.bool]
theorem aif {as:List AV}(h:TW.T as): ∃s:Mat,as=s.enc∧s.ok:=by
 simp only[TW,Ty.T.eq_5,TT] at h;obtain ⟨a0,b0,rfl,h0,a1,b1,rfl,h1,a2,b2,rfl,h2,a3,b3,rfl,h3,a4,b4,rfl,h4,rfl⟩:=h;obtain ⟨x0,rfl,k0⟩:=cn h0;obtain ⟨x1,rfl⟩:=lx h1;obtain ⟨x2,rfl,k2⟩:=cn h2;obtain ⟨x3,rfl,k3⟩:=vc h3;obtain ⟨x4,rfl⟩:=h4;exact ⟨⟨x0,x1,x2,x3,x4⟩,rfl,⟨k0,k2,k3⟩⟩
@[simp] theorem Ob (x:Mat):aU x.enc=true:=by simp[Mat.enc,aU,AV.pure]
@[simp] theorem KN: ∀l:List Mat,aG (l.map Mat.enc)=true
 | []=>rfl
 |x::r=>by simp only[Ao,aG,KN r,Ob];rfl
structure Actn where
 kind:Int
 n:Int
 asn:Int
 com:Int
 addr:Int
def Actn.enc (r:Actn):List AV:=[.int .i64 r.kind,.int .i64 r.n,.int .i64 r.asn,.int .u32 r.com,.int .u32 r.addr]
def Actn.ok (r:Actn):Prop:=okI r.kind∧okI r.n∧okI r.asn∧okU r.com∧okU r.addr
def Kc:Ty:=.st [.int .i64,.int .i64,.int .i64,.int .u32,.int .u32]
theorem ahq {as:List AV}(h:Kc.T as): ∃s:Actn,as=s.enc∧s.ok:=by
 simp only[Kc,Ty.T.eq_5,TT] at h;obtain ⟨a0,b0,rfl,h0,a1,b1,rfl,h1,a2,b2,rfl,h2,a3,b3,rfl,h3,a4,b4,rfl,h4,rfl⟩:=h;obtain ⟨x0,rfl,k0⟩:=cn h0;obtain ⟨x1,rfl,k1⟩:=cn h1;obtain ⟨x2,rfl,k2⟩:=cn h2;obtain ⟨x3,rfl,k3⟩:=j8 h3;obtain ⟨x4,rfl,k4⟩:=j8 h4;exact ⟨⟨x0,x1,x2,x3,x4⟩,rfl,⟨k0,k1,k2,k3,k4⟩⟩
@[simp] theorem JB (x:Actn):aU x.enc=true:=by simp[Actn.enc,aU,AV.pure]
@[simp] theorem I8: ∀l:List Actn,aG (l.map Actn.enc)=true
 | []=>rfl
 |x::r=>by simp only[Ao,aG,I8 r,JB];rfl
structure Trm where
 name:List UInt8
 mats:List Mat
 acts:List Actn
 verdict:Int
def Trm.enc (r:Trm):List AV:=[.str r.name,.sl 6 (r.mats.map Mat.enc),.sl 5 (r.acts.map Actn.enc),.int .i64 r.verdict]
def Trm.ok (r:Trm):Prop:=(∀x∈r.mats,Mat.ok x)∧(∀x∈r.acts,Actn.ok x)∧okI r.verdict
def TJ:Ty:=.st [.str,.sl TW,.sl Kc,.int .i64]
theorem aib {as:List AV}(h:TJ.T as): ∃s:Trm,as=s.enc∧s.ok:=by
 simp only[TJ,Ty.T.eq_5,TT] at h;obtain ⟨a0,b0,rfl,h0,a1,b1,rfl,h1,a2,b2,rfl,h2,a3,b3,rfl,h3,rfl⟩:=h;obtain ⟨x0,rfl⟩:=lx h0;obtain ⟨x1,rfl,k1⟩:=iu (fun _=>aif) h1
 obtain ⟨x2,rfl,k2⟩:=iu (fun _=>ahq) h2
 obtain ⟨x3,rfl,k3⟩:=cn h3;exact ⟨⟨x0,x1,x2,x3⟩,rfl,⟨k1,k2,k3⟩⟩
@[simp] theorem N7 (x:Trm):aU x.enc=true:=by simp[Trm.enc,aU,AV.pure]
@[simp] theorem KG: ∀l:List Trm,aG (l.map Trm.enc)=true
 | []=>rfl
 |x::r=>by simp only[Ao,aG,KG r,N7];rfl
structure Pol where
 name:List UInt8
 terms:List Trm
 dflt:Int
def Pol.enc (r:Pol):List AV:=[.str r.name,.sl 4 (r.terms.map Trm.enc),.int .i64 r.dflt]
def Pol.ok (r:Pol):Prop:=(∀x∈r.terms,Trm.ok x)∧okI r.dflt
def TR:Ty:=.st [.str,.sl TJ,.int .i64]
theorem aid {as:List AV}(h:TR.T as): ∃s:Pol,as=s.enc∧s.ok:=by
 simp only[TR,Ty.T.eq_5,TT] at h;obtain ⟨a0,b0,rfl,h0,a1,b1,rfl,h1,a2,b2,rfl,h2,rfl⟩:=h;obtain ⟨x0,rfl⟩:=lx h0;obtain ⟨x1,rfl,k1⟩:=iu (fun _=>aib) h1
 obtain ⟨x2,rfl,k2⟩:=cn h2;exact ⟨⟨x0,x1,x2⟩,rfl,⟨k1,k2⟩⟩
@[simp] theorem pf (x:Pol):aU x.enc=true:=by simp[Pol.enc,aU,AV.pure]
@[simp] theorem KJ: ∀l:List Pol,aG (l.map Pol.enc)=true
 | []=>rfl
 |x::r=>by simp only[Ao,aG,KJ r,pf];rfl
structure PSet where
 prefixes:List PList
 paths:List PathL
 comms:List ComL
 pols:List Pol
def PSet.enc (r:PSet):List AV:=[.sl 2 (r.prefixes.map PList.enc),.sl 2 (r.paths.map PathL.enc),.sl 2 (r.comms.map ComL.enc),.sl 3 (r.pols.map Pol.enc)]
def PSet.ok (r:PSet):Prop:=(∀x∈r.prefixes,PList.ok x)∧(∀x∈r.paths,PathL.ok x)∧(∀x∈r.comms,ComL.ok x)∧(∀x∈r.pols,Pol.ok x)
def J7:Ty:=.st [.sl BG,.sl BC,.sl Ka,.sl TR]
theorem ahm {as:List AV}(h:J7.T as): ∃s:PSet,as=s.enc∧s.ok:=by
 simp only[J7,Ty.T.eq_5,TT] at h;obtain ⟨a0,b0,rfl,h0,a1,b1,rfl,h1,a2,b2,rfl,h2,a3,b3,rfl,h3,rfl⟩:=h;obtain ⟨x0,rfl,k0⟩:=iu (fun _=>afE) h0
 obtain ⟨x1,rfl,k1⟩:=iu (fun _=>afD) h1
 obtain ⟨x2,rfl,k2⟩:=iu (fun _=>ahp) h2
 obtain ⟨x3,rfl,k3⟩:=iu (fun _=>aid) h3
 exact ⟨⟨x0,x1,x2,x3⟩,rfl,⟨k0,k1,k2,k3⟩⟩
@[simp] theorem Jx (x:PSet):aU x.enc=true:=by simp[PSet.enc,aU,AV.pure]
@[simp] theorem IW: ∀l:List PSet,aG (l.map PSet.enc)=true
 | []=>rfl
 |x::r=>by simp only[Ao,aG,IW r,Jx];rfl
structure PeerC where
 kind:Int
 asn:Int
 addr:Int
 loc:Int
 client:Bool
 hold:Int
 restart:Int
 imp:List UInt8
 exp:List UInt8
 nextSelf:Bool
 damp:Bool
def PeerC.enc (r:PeerC):List AV:=[.int .i64 r.kind,.int .i64 r.asn,.int .u32 r.addr,.int .u32 r.loc,.bool r.client,.int .i64 r.hold,.int .i64 r.restart,.str r.imp,.str r.exp,.bool r.nextSelf,.bool r.damp]
def PeerC.ok (r:PeerC):Prop:=okI r.kind∧okI r.asn∧okU r.addr∧okU r.loc∧okI r.hold∧okI r.restart
def Bz:Ty:=.st [.int .i64,.int .i64,.int .u32,.int .u32,.bool,.int .i64,.int .i64,.str,.str,.bool,.bool]
theorem afB {as:List AV}(h:Bz.T as): ∃s:PeerC,as=s.enc∧s.ok:=by
 simp only[Bz,Ty.T.eq_5,TT] at h;obtain ⟨a0,b0,rfl,h0,a1,b1,rfl,h1,a2,b2,rfl,h2,a3,b3,rfl,h3,a4,b4,rfl,h4,a5,b5,rfl,h5,a6,b6,rfl,h6,a7,b7,rfl,h7,a8,b8,rfl,h8,a9,b9,rfl,h9,a10,b10,rfl,h10,rfl⟩:=h;obtain ⟨x0,rfl,k0⟩:=cn h0;obtain ⟨x1,rfl,k1⟩:=cn h1;obtain ⟨x2,rfl,k2⟩:=j8 h2;obtain ⟨x3,rfl,k3⟩:=j8 h3;obtain ⟨x4,rfl⟩:=h4;obtain ⟨x5,rfl,k5⟩:=cn h5;obtain ⟨x6,rfl,k6⟩:=cn h6;obtain ⟨x7,rfl⟩:=lx h7;obtain ⟨x8,rfl⟩:=lx h8;obtain ⟨x9,rfl⟩:=h9;obtain ⟨x10,rfl⟩:=h10;exact ⟨⟨x0,x1,x2,x3,x4,x5,x6,x7,x8,x9,x10⟩,rfl,⟨k0,k1,k2,k3,k5,k6⟩⟩
@[simp] theorem DC (x:PeerC):aU x.enc=true:=by simp[PeerC.enc,aU,AV.pure]
@[simp] theorem BT: ∀l:List PeerC,aG (l.map PeerC.enc)=true
 | []=>rfl
 |x::r=>by simp only[Ao,aG,BT r,DC];rfl
structure DampC where
 half:Int
 reuse:Int
 suppress:Int
 maxTime:Int
def DampC.enc (r:DampC):List AV:=[.int .i64 r.half,.int .i64 r.reuse,.int .i64 r.suppress,.int .i64 r.maxTime]
def DampC.ok (r:DampC):Prop:=okI r.half∧okI r.reuse∧okI r.suppress∧okI r.maxTime
def BH:Ty:=.st [.int .i64,.int .i64,.int .i64,.int .i64]
theorem afF {as:List AV}(h:BH.T as): ∃s:DampC,as=s.enc∧s.ok:=by
 simp only[BH,Ty.T.eq_5,TT] at h;obtain ⟨a0,b0,rfl,h0,a1,b1,rfl,h1,a2,b2,rfl,h2,a3,b3,rfl,h3,rfl⟩:=h;obtain ⟨x0,rfl,k0⟩:=cn h0;obtain ⟨x1,rfl,k1⟩:=cn h1;obtain ⟨x2,rfl,k2⟩:=cn h2;obtain ⟨x3,rfl,k3⟩:=cn h3;exact ⟨⟨x0,x1,x2,x3⟩,rfl,⟨k0,k1,k2,k3⟩⟩
@[simp] theorem DI (x:DampC):aU x.enc=true:=by simp[DampC.enc,aU,AV.pure]
@[simp] theorem BX: ∀l:List DampC,aG (l.map DampC.enc)=true
 | []=>rfl
 |x::r=>by simp only[Ao,aG,BX r,DI];rfl
structure PVC where
 asn:Int
 confed:Int
 router:Int
 cluster:Int
 peers:List PeerC
 nets:List Pfx
 pols:PSet
 damp:DampC
 multi:Int
def PVC.enc (r:PVC):List AV:=[.int .i64 r.asn,.int .i64 r.confed,.int .u32 r.router,.int .u32 r.cluster,.sl 11 (r.peers.map PeerC.enc),.sl 2 (r.nets.map Pfx.enc),.sl 2 (r.pols.prefixes.map PList.enc),.sl 2 (r.pols.paths.map PathL.enc),.sl 2 (r.pols.comms.map ComL.enc),.sl 3 (r.pols.pols.map Pol.enc),.int .i64 r.damp.half,.int .i64 r.damp.reuse,.int .i64 r.damp.suppress,.int .i64 r.damp.maxTime,.int .i64 r.multi]
def PVC.ok (r:PVC):Prop:=okI r.asn∧okI r.confed∧okU r.router∧okU r.cluster∧(∀x∈r.peers,PeerC.ok x)∧(∀x∈r.nets,Pfx.ok x)∧PSet.ok r.pols∧DampC.ok r.damp∧okI r.multi
def TU:Ty:=.st [.int .i64,.int .i64,.int .u32,.int .u32,.sl Bz,.sl s6,J7,BH,.int .i64]
theorem aie {as:List AV}(h:TU.T as): ∃s:PVC,as=s.enc∧s.ok:=by
 simp only[TU,Ty.T.eq_5,TT] at h;obtain ⟨a0,b0,rfl,h0,a1,b1,rfl,h1,a2,b2,rfl,h2,a3,b3,rfl,h3,a4,b4,rfl,h4,a5,b5,rfl,h5,a6,b6,rfl,h6,a7,b7,rfl,h7,a8,b8,rfl,h8,rfl⟩:=h;obtain ⟨x0,rfl,k0⟩:=cn h0;obtain ⟨x1,rfl,k1⟩:=cn h1;obtain ⟨x2,rfl,k2⟩:=j8 h2;obtain ⟨x3,rfl,k3⟩:=j8 h3;obtain ⟨x4,rfl,k4⟩:=iu (fun _=>afB) h4
 obtain ⟨x5,rfl,k5⟩:=iu (fun _=>vc) h5
 obtain ⟨x6,rfl,k6⟩:=ahm h6;obtain ⟨x7,rfl,k7⟩:=afF h7;obtain ⟨x8,rfl,k8⟩:=cn h8;exact ⟨⟨x0,x1,x2,x3,x4,x5,x6,x7,x8⟩,rfl,⟨k0,k1,k2,k3,k4,k5,k6,k7,k8⟩⟩
@[simp] theorem Oa (x:PVC):aU x.enc=true:=by simp[PVC.enc,aU,AV.pure]
@[simp] theorem KM: ∀l:List PVC,aG (l.map PVC.enc)=true
 | []=>rfl
 |x::r=>by simp only[Ao,aG,KM r,Oa];rfl
structure Red where
 src:Int
 dst:Int
 pol:List UInt8
 metric:Int
 second:Bool
def Red.enc (r:Red):List AV:=[.int .i64 r.src,.int .i64 r.dst,.str r.pol,.int .i64 r.metric,.bool r.second]
def Red.ok (r:Red):Prop:=okI r.src∧okI r.dst∧okI r.metric
def TK:Ty:=.st [.int .i64,.int .i64,.str,.int .i64,.bool]
theorem aic {as:List AV}(h:TK.T as): ∃s:Red,as=s.enc∧s.ok:=by
 simp only[TK,Ty.T.eq_5,TT] at h;obtain ⟨a0,b0,rfl,h0,a1,b1,rfl,h1,a2,b2,rfl,h2,a3,b3,rfl,h3,a4,b4,rfl,h4,rfl⟩:=h;obtain ⟨x0,rfl,k0⟩:=cn h0;obtain ⟨x1,rfl,k1⟩:=cn h1;obtain ⟨x2,rfl⟩:=lx h2;obtain ⟨x3,rfl,k3⟩:=cn h3;obtain ⟨x4,rfl⟩:=h4;exact ⟨⟨x0,x1,x2,x3,x4⟩,rfl,⟨k0,k1,k3⟩⟩
@[simp] theorem N8 (x:Red):aU x.enc=true:=by simp[Red.enc,aU,AV.pure]
@[simp] theorem KH: ∀l:List Red,aG (l.map Red.enc)=true
 | []=>rfl
 |x::r=>by simp only[Ao,aG,KH r,N8];rfl
structure Stat where
 pfx:Pfx
 hop:Int
 dist:Int
def Stat.enc (r:Stat):List AV:=[.int .u32 r.pfx.addr,.int .i64 r.pfx.len,.int .u32 r.hop,.int .i64 r.dist]
def Stat.ok (r:Stat):Prop:=Pfx.ok r.pfx∧okU r.hop∧okI r.dist
def J6:Ty:=.st [s6,.int .u32,.int .i64]
theorem ahl {as:List AV}(h:J6.T as): ∃s:Stat,as=s.enc∧s.ok:=by
 simp only[J6,Ty.T.eq_5,TT] at h;obtain ⟨a0,b0,rfl,h0,a1,b1,rfl,h1,a2,b2,rfl,h2,rfl⟩:=h;obtain ⟨x0,rfl,k0⟩:=vc h0;obtain ⟨x1,rfl,k1⟩:=j8 h1;obtain ⟨x2,rfl,k2⟩:=cn h2;exact ⟨⟨x0,x1,x2⟩,rfl,⟨k0,k1,k2⟩⟩
@[simp] theorem Jv (x:Stat):aU x.enc=true:=by simp[Stat.enc,aU,AV.pure]
@[simp] theorem IV: ∀l:List Stat,aG (l.map Stat.enc)=true
 | []=>rfl
 |x::r=>by simp only[Ao,aG,IV r,Jv];rfl
structure RConf where
 name:List UInt8
 ls:LSC
 hasPV:Bool
 pv:PVC
 labels:Bool
 reroute:Bool
 redist:List Red
 stat:List Stat
 dists:List Int
def RConf.enc (r:RConf):List AV:=[.str r.name,.int .u32 r.ls.router,.sl 9 (r.ls.ifs.map Ifc.enc),.sl 4 (r.ls.ranges.map ARange.enc),.bool r.hasPV,.int .i64 r.pv.asn,.int .i64 r.pv.confed,.int .u32 r.pv.router,.int .u32 r.pv.cluster,.sl 11 (r.pv.peers.map PeerC.enc),.sl 2 (r.pv.nets.map Pfx.enc),.sl 2 (r.pv.pols.prefixes.map PList.enc),.sl 2 (r.pv.pols.paths.map PathL.enc),.sl 2 (r.pv.pols.comms.map ComL.enc),.sl 3 (r.pv.pols.pols.map Pol.enc),.int .i64 r.pv.damp.half,.int .i64 r.pv.damp.reuse,.int .i64 r.pv.damp.suppress,.int .i64 r.pv.damp.maxTime,.int .i64 r.pv.multi,.bool r.labels,.bool r.reroute,.sl 5 (r.redist.map Red.enc),.sl 4 (r.stat.map Stat.enc),.sl 1 (r.dists.map bT)]
def RConf.ok (r:RConf):Prop:=LSC.ok r.ls∧PVC.ok r.pv∧(∀x∈r.redist,Red.ok x)∧(∀x∈r.stat,Stat.ok x)∧(∀x∈r.dists,okI x)
def Bx:Ty:=.st [.str,T6,.bool,TU,.bool,.bool,.sl TK,.sl J6,.sl (.int .i64)]
theorem afA {as:List AV}(h:Bx.T as): ∃s:RConf,as=s.enc∧s.ok:=by
 simp only[Bx,Ty.T.eq_5,TT] at h;obtain ⟨a0,b0,rfl,h0,a1,b1,rfl,h1,a2,b2,rfl,h2,a3,b3,rfl,h3,a4,b4,rfl,h4,a5,b5,rfl,h5,a6,b6,rfl,h6,a7,b7,rfl,h7,a8,b8,rfl,h8,rfl⟩:=h;obtain ⟨x0,rfl⟩:=lx h0;obtain ⟨x1,rfl,k1⟩:=aih h1;obtain ⟨x2,rfl⟩:=h2;obtain ⟨x3,rfl,k3⟩:=aie h3;obtain ⟨x4,rfl⟩:=h4;obtain ⟨x5,rfl⟩:=h5;obtain ⟨x6,rfl,k6⟩:=iu (fun _=>aic) h6
 obtain ⟨x7,rfl,k7⟩:=iu (fun _=>ahl) h7
 obtain ⟨x8,rfl,k8⟩:=aia h8;exact ⟨⟨x0,x1,x2,x3,x4,x5,x6,x7,x8⟩,rfl,⟨k1,k3,k6,k7,k8⟩⟩
@[simp] theorem DB (x:RConf):aU x.enc=true:=by simp[RConf.enc,aU,AV.pure]
@[simp] theorem BR: ∀l:List RConf,aG (l.map RConf.enc)=true
 | []=>rfl
 |x::r=>by simp only[Ao,aG,BR r,DB];rfl
structure LEnd where
 router:Int
 ifc:Int
def LEnd.enc (r:LEnd):List AV:=[.int .i64 r.router,.int .i64 r.ifc]
def LEnd.ok (r:LEnd):Prop:=okI r.router∧okI r.ifc
def J8:Ty:=.st [.int .i64,.int .i64]
theorem ahn {as:List AV}(h:J8.T as): ∃s:LEnd,as=s.enc∧s.ok:=by
 simp only[J8,Ty.T.eq_5,TT] at h;obtain ⟨a0,b0,rfl,h0,a1,b1,rfl,h1,rfl⟩:=h;obtain ⟨x0,rfl,k0⟩:=cn h0;obtain ⟨x1,rfl,k1⟩:=cn h1;exact ⟨⟨x0,x1⟩,rfl,⟨k0,k1⟩⟩
@[simp] theorem Jy (x:LEnd):aU x.enc=true:=by simp[LEnd.enc,aU,AV.pure]
@[simp] theorem IY: ∀l:List LEnd,aG (l.map LEnd.enc)=true
 | []=>rfl
 |x::r=>by simp only[Ao,aG,IY r,Jy];rfl
structure Lnk where
 ends:List LEnd
 delay:Int
def Lnk.enc (r:Lnk):List AV:=[.sl 2 (r.ends.map LEnd.enc),.int .i64 r.delay]
def Lnk.ok (r:Lnk):Prop:=(∀x∈r.ends,LEnd.ok x)∧okI r.delay
def TZ:Ty:=.st [.sl J8,.int .i64]
theorem aig {as:List AV}(h:TZ.T as): ∃s:Lnk,as=s.enc∧s.ok:=by
 simp only[TZ,Ty.T.eq_5,TT] at h;obtain ⟨a0,b0,rfl,h0,a1,b1,rfl,h1,rfl⟩:=h;obtain ⟨x0,rfl,k0⟩:=iu (fun _=>ahn) h0
 obtain ⟨x1,rfl,k1⟩:=cn h1;exact ⟨⟨x0,x1⟩,rfl,⟨k0,k1⟩⟩
@[simp] theorem Oc (x:Lnk):aU x.enc=true:=by simp[Lnk.enc,aU,AV.pure]
@[simp] theorem KO: ∀l:List Lnk,aG (l.map Lnk.enc)=true
 | []=>rfl
 |x::r=>by simp only[Ao,aG,KO r,Oc];rfl
structure Topo where
 routers:List RConf
 links:List Lnk
def Topo.enc (r:Topo):List AV:=[.sl 25 (r.routers.map RConf.enc),.sl 2 (r.links.map Lnk.enc)]
def Topo.ok (r:Topo):Prop:=(∀x∈r.routers,RConf.ok x)∧(∀x∈r.links,Lnk.ok x)
def yd:Ty:=.st [.sl Bx,.sl TZ]
theorem ahk {as:List AV}(h:yd.T as): ∃s:Topo,as=s.enc∧s.ok:=by
 simp only[yd,Ty.T.eq_5,TT] at h;obtain ⟨a0,b0,rfl,h0,a1,b1,rfl,h1,rfl⟩:=h;obtain ⟨x0,rfl,k0⟩:=iu (fun _=>afA) h0
 obtain ⟨x1,rfl,k1⟩:=iu (fun _=>aig) h1
 exact ⟨⟨x0,x1⟩,rfl,⟨k0,k1⟩⟩
@[simp] theorem Ju (x:Topo):aU x.enc=true:=by simp[Topo.enc,aU,AV.pure]
@[simp] theorem IU: ∀l:List Topo,aG (l.map Topo.enc)=true
 | []=>rfl
 |x::r=>by simp only[Ao,aG,IU r,Ju];rfl
end Go.AM.IR
