/- What functions of this program give. -/
import Derived.Test.YtomphmeopjpejaaGreatDoorDataJ
set_option linter.unusedVariables false
set_option linter.unusedSimpArgs false
set_option maxHeartbeats 4000000
set_option maxRecDepth 20000
namespace Go.AM.IR
theorem qY (a:Actn):ag G 596 [.agg a.enc] [] ⟨.int .i64 (gx a),[]⟩:=by
 have w (n lo hi:Int):=jz n lo hi;obtain ⟨kind,n,asn,com,addr⟩:=a;rw[gx];dsimp only
 by_cases k1:kind=1
 ·subst k1
  rw[Ac rfl,xP];dsimp only;have h0:=w n 0 4294967295;generalize q0:(decide (0<=n)&&decide (n<=4294967295))=B0 at*;cases B0
  ·simp only[Bool.and_eq_false_iff,AL] at q0
   refine gvC (F:=jv) ?_
   repeat' (first|refine aW ?_|apply ae<;>intro h)
   all_goals try (exfalso;first|omega|(simp_all;done))
   all_goals
    refine ap ?_
    (repeat' split)<;>first|rfl|(exfalso;(try simp only[ne_eq,AC] at*);omega)
  ·simp only[At,AK] at q0
   refine gvC (F:=jv) ?_
   repeat' (first|refine aW ?_|apply ae<;>intro h)
   all_goals try (exfalso;first|omega|(simp_all;done))
   all_goals
    refine ap ?_
    (repeat' split)<;>first|rfl|(exfalso;(try simp only[ne_eq,AC] at*);omega)
 rw[Aa k1]
 by_cases k2:kind=2
 ·subst k2
  rw[Ac rfl,xP];dsimp only;have h0:=w n 0 4294967295;generalize q0:(decide (0<=n)&&decide (n<=4294967295))=B0 at*;cases B0
  ·simp only[Bool.and_eq_false_iff,AL] at q0
   refine gvC (F:=jv) ?_
   repeat' (first|refine aW ?_|apply ae<;>intro h)
   all_goals try (exfalso;first|omega|(simp_all;done))
   all_goals
    refine ap ?_
    (repeat' split)<;>first|rfl|(exfalso;(try simp only[ne_eq,AC] at*);omega)
  ·simp only[At,AK] at q0
   refine gvC (F:=jv) ?_
   repeat' (first|refine aW ?_|apply ae<;>intro h)
   all_goals try (exfalso;first|omega|(simp_all;done))
   all_goals
    refine ap ?_
    (repeat' split)<;>first|rfl|(exfalso;(try simp only[ne_eq,AC] at*);omega)
 rw[Aa k2]
 by_cases k4:kind=4
 ·subst k4
  rw[Ac rfl,xP];dsimp only;have h0:=w n 0 4294967295;generalize q0:(decide (0<=n)&&decide (n<=4294967295))=B0 at*;cases B0
  ·simp only[Bool.and_eq_false_iff,AL] at q0
   refine gvC (F:=jv) ?_
   repeat' (first|refine aW ?_|apply ae<;>intro h)
   all_goals try (exfalso;first|omega|(simp_all;done))
   all_goals
    refine ap ?_
    (repeat' split)<;>first|rfl|(exfalso;(try simp only[ne_eq,AC] at*);omega)
  ·simp only[At,AK] at q0
   refine gvC (F:=jv) ?_
   repeat' (first|refine aW ?_|apply ae<;>intro h)
   all_goals try (exfalso;first|omega|(simp_all;done))
   all_goals
    refine ap ?_
    (repeat' split)<;>first|rfl|(exfalso;(try simp only[ne_eq,AC] at*);omega)
 rw[Aa k4]
 by_cases k3:kind=3
 ·subst k3
  rw[Ac rfl,aba];dsimp only;have h0:=w n 0 16777216;generalize q0:(decide (0<=n)&&decide (n<=16777216))=B0 at*;cases B0
  ·simp only[Bool.and_eq_false_iff,AL] at q0
   refine gvC (F:=jv) ?_
   repeat' (first|refine aW ?_|apply ae<;>intro h)
   all_goals try (exfalso;first|omega|(simp_all;done))
   all_goals
    refine ap ?_
    (repeat' split)<;>first|rfl|(exfalso;(try simp only[ne_eq,AC] at*);omega)
  ·simp only[At,AK] at q0
   refine gvC (F:=jv) ?_
   repeat' (first|refine aW ?_|apply ae<;>intro h)
   all_goals try (exfalso;first|omega|(simp_all;done))
   all_goals
    refine ap ?_
    (repeat' split)<;>first|rfl|(exfalso;(try simp only[ne_eq,AC] at*);omega)
 rw[Aa k3]
 by_cases k5:kind=5
 ·subst k5
  rw[Ac rfl,aa9];dsimp only;refine gvC (F:=jv) ?_
  repeat' (first|refine aW ?_|apply ae<;>intro h)
  all_goals try (exfalso;first|omega|(simp_all;done))
  all_goals
   refine ap ?_
   (repeat' split)<;>first|rfl|(exfalso;(try simp only[ne_eq,AC] at*);omega)
 rw[Aa k5]
 by_cases k6:kind=6
 ·subst k6
  rw[Ac rfl,Lw];dsimp only;refine gvC (F:=jv) ?_
  repeat' (first|refine aW ?_|apply ae<;>intro h)
  all_goals try (exfalso;first|omega|(simp_all;done))
  all_goals
   refine ap ?_
   (repeat' split)<;>first|rfl|(exfalso;(try simp only[ne_eq,AC] at*);omega)
 rw[Aa k6]
 by_cases k7:kind=7
 ·subst k7
  rw[Ac rfl,Lw];dsimp only;refine gvC (F:=jv) ?_
  repeat' (first|refine aW ?_|apply ae<;>intro h)
  all_goals try (exfalso;first|omega|(simp_all;done))
  all_goals
   refine ap ?_
   (repeat' split)<;>first|rfl|(exfalso;(try simp only[ne_eq,AC] at*);omega)
 rw[Aa k7]
 by_cases k8:kind=8
 ·subst k8
  rw[Ac rfl,aa8];dsimp only;have h0:=w asn 1 4294967295;generalize q0:(decide (1<=asn)&&decide (asn<=4294967295))=B0 at*;have h1:=w n 1 16;generalize q1:(decide (1<=n)&&decide (n<=16))=B1 at*;cases B0
  ·simp only[Bool.and_eq_false_iff,AL] at q0
   cases B1
   ·simp only[Bool.and_eq_false_iff,AL] at q1
    refine gvC (F:=jv) ?_
    repeat' (first|refine aW ?_|apply ae<;>intro h)
    all_goals try (exfalso;first|omega|(simp_all;done))
    all_goals
     refine ap ?_
     (repeat' split)<;>first|rfl|(exfalso;(try simp only[ne_eq,AC] at*);omega)
   ·simp only[At,AK] at q1
    refine gvC (F:=jv) ?_
    repeat' (first|refine aW ?_|apply ae<;>intro h)
    all_goals try (exfalso;first|omega|(simp_all;done))
    all_goals
     refine ap ?_
     (repeat' split)<;>first|rfl|(exfalso;(try simp only[ne_eq,AC] at*);omega)
  ·simp only[At,AK] at q0
   cases B1
   ·simp only[Bool.and_eq_false_iff,AL] at q1
    refine gvC (F:=jv) ?_
    repeat' (first|refine aW ?_|apply ae<;>intro h)
    all_goals try (exfalso;first|omega|(simp_all;done))
    all_goals
     refine ap ?_
     (repeat' split)<;>first|rfl|(exfalso;(try simp only[ne_eq,AC] at*);omega)
   ·simp only[At,AK] at q1
    refine gvC (F:=jv) ?_
    repeat' (first|refine aW ?_|apply ae<;>intro h)
    all_goals try (exfalso;first|omega|(simp_all;done))
    all_goals
     refine ap ?_
     (repeat' split)<;>first|rfl|(exfalso;(try simp only[ne_eq,AC] at*);omega)
 rw[Aa k8];refine gvC (F:=jv) ?_
 repeat' (first|refine aW ?_|apply ae<;>intro h)
 all_goals (refine ap ?_;rfl)
def vdE (v:Int):Int:=if v≠1/\v≠2/\v≠3 then 15 else 0
def tE3 (t:Trm):Int:=if 64<t.acts.length then 4 else if gC gx t.acts=0 then vdE t.verdict else gC gx t.acts
structure Trm.goodT (t:Trm):Prop where
 nm:t.name.length<2^40
 ms:t.mats.length<2^40
 acz:t.acts.length<2^40
 ok: ∀m∈t.mats,m.pfx.ok
@[simp] theorem Ij: ∀(n:Nat)(l:B6),ab l=true->ab (l.take n)=true
 |0,l,_=>by simp[ab]
 |n+1,[],_=>by simp[ab]
 |n+1,x::r,h=>by
  simp only[ab,At] at h;simp only[List.take_succ_cons,ab,h.1,Ij n r h.2,Bool.and_self]
@[simp] theorem Iw: ∀(n:Nat)(l:B6),ab l=true->ab (l.drop n)=true
 |0,l,h=>h
 |n+1,[],_=>by simp[ab]
 |n+1,x::r,h=>by
  simp only[ab,At] at h;exact Iw n r h.2
section
variable (k:Kn)(before:C4)(t:Trm)
def Wu:Int:=if 64<t.mats.length then 4 else if gC (mtE k) t.mats=0 then tE3 t else gC (mtE k) t.mats
def kG:Int:=if nmB t.name=false then 1 else if before.any (λu=>u.name==t.name) then 7 else Wu k t
theorem Ns (l:C8)(t:Trm)(g5:Nat)(hl:l.length<2^40)(ln:Int)(hln:ln=l.length): ∀(rest done:C8)(T:TV)(H:az)(c:Nat)(n:Int)(e:l=done++rest)(hn:n=done.length),Ev G ⟨UM,⟨(54,.sl 5 (l.map Actn.enc))::(55,.int .i64 ln)::(56,.int .i64 n)::(5,.ref 69 g5 0)::T,(69,some (g5,.cells t.enc))::H,c⟩,[.t 6],0⟩ (⟨.int .i64 (if gC gx rest=0 then vdE t.verdict else gC gx rest),[]⟩)
 | [],done,  T,H,c,n,e,hn=>by
  have hd:=md0 e;have hll:=ml l Actn.enc;have h1:=jz t.verdict 1 3;rw[gC,Ac rfl,vdE];generalize hq:(decide (1<=t.verdict)&&decide (t.verdict<=3))=B at*;cases B
  ·simp only[Bool.and_eq_false_iff,AL] at hq
   rw[Ac (by omega)]
   refine evA ?_;refine ap ?_;rfl
  ·simp only[At,AK] at hq
   rw[Aa (by omega)]
   refine evA ?_;refine ap ?_;rfl
 |x::r,done,  T,H,c,n,e,hn=>by
  have hd:=md e;have hll:=ml l Actn.enc;have hx:=mx Actn.enc e hn;have h1:=qY x;rw[gC];generalize gx x=E at*
  by_cases h0:E=0
  ·subst h0
   rw[Ac rfl];refine evA ?_;refine au [54,55,56,5] [69] ?_;exact Ns l t g5 hl ln hln r (done++[x])  _ _ _ (n+1) (by simp[e]) (by simp[hn]<;>omega)
  ·rw[Aa h0,Aa h0]
   refine evA ?_;refine ap ?_;rfl
theorem Nr (l:C9)(k:Kn)(hf:k.fit)(t:Trm)(g3 g5:Nat)(hk: ∀m∈l,m.pfx.ok)(ha:t.acts.length<2^40)(hl:l.length<2^40)(ln:Int)(hln:ln=l.length): ∀(rest done:C9)(T:TV)(H:az)(c:Nat)(n:Int)(e:l=done++rest)(hn:n=done.length),Ev G ⟨UO,⟨(36,.sl 6 (l.map Mat.enc))::(37,.int .i64 ln)::(38,.int .i64 n)::(3,.ref 67 g3 0)::(5,.ref 69 g5 0)::T,(67,some (g3,.cells k.enc))::(69,some (g5,.cells t.enc))::H,c⟩,[.t 6],0⟩ (⟨.int .i64 (if gC (mtE k) rest=0 then tE3 t else gC (mtE k) rest),[]⟩)
 | [],done,  T,H,c,n,e,hn=>by
  have hd:=md0 e;have hll:=ml l Mat.enc;have m1:=ml t.acts Actn.enc;rw[gC,Ac rfl,tE3]
  by_cases c:64<t.acts.length
  ·rw[Ac c]
   have c':(t.acts.length:Int)>64:=by omega
   refine evA ?_;refine ap ?_;rfl
  ·rw[Aa c]
   refine evA ?_;refine au [54,55,56,5] [69] ?_;rw[m1];exact Ns t.acts t _ ha _ rfl t.acts [] _ _ _ 0 rfl rfl
 |x::r,done,  T,H,c,n,e,hn=>by
  have hd:=md e;have hll:=ml l Mat.enc;have hx:=mx Mat.enc e hn;have h1:=qL k hf x (hk x (by simp[e]))
  rw[gC];generalize mtE k x=E at*
  by_cases h0:E=0
  ·subst h0
   rw[Ac rfl];refine evA ?_;refine au [36,37,38,3,5] [67,69] ?_;exact Nr l k hf t g3 g5 hk ha hl ln hln r (done++[x])  _ _ _ (n+1) (by simp[e]) (by simp[hn]<;>omega)
  ·rw[Aa h0,Aa h0]
   refine evA ?_;refine ap ?_;rfl
theorem Tf (l:C4)(k:Kn)(hf:k.fit)(t:Trm)(g3 g5:Nat)(hk: ∀m∈t.mats,m.pfx.ok)(ha:t.acts.length<2^40)(hm:t.mats.length<2^40)(hl:l.length<2^40)(ln:Int)(hln:ln=l.length): ∀(rest done:C4)(T:TV)(H:az)(c:Nat)(n:Int)(e:l=done++rest)(hn:n=done.length),Ev G ⟨ZW,⟨(19,.sl 4 (l.map Trm.enc))::(20,.int .i64 ln)::(21,.int .i64 n)::(3,.ref 67 g3 0)::(5,.ref 69 g5 0)::T,(67,some (g3,.cells k.enc))::(69,some (g5,.cells t.enc))::H,c⟩,[.t 6],0⟩ (⟨.int .i64 (if rest.any (λu=>u.name==t.name) then 7 else Wu k t),[]⟩)
 | [],done,  T,H,c,n,e,hn=>by
  have hd:=md0 e;have hll:=ml l Trm.enc;have m1:=ml t.mats Mat.enc;rw[List.any_nil,Aa (by simp),Wu]
  by_cases c:64<t.mats.length
  ·rw[Ac c]
   have c':(t.mats.length:Int)>64:=by omega
   refine evA ?_;refine ap ?_;rfl
  ·rw[Aa c]
   refine evA ?_;refine au [36,37,38,3,5] [67,69] ?_;rw[m1];exact Nr t.mats k hf t _ _ hk ha hm _ rfl t.mats [] _ _ _ 0 rfl rfl
 |x::r,done,  T,H,c,n,e,hn=>by
  have hd:=md e;have hll:=ml l Trm.enc;have hx:=mx Trm.enc e hn;rw[List.any_cons]
  by_cases hn:x.name=t.name
  ·rw[show (x.name==t.name)=true from by simp[hn],Bool.true_or,Ac rfl]
   refine evl ?_
   repeat' ((conv=>whnf);first|refine O7 hn ?_|refine aq ?_|apply ae<;>intro h)
   refine ap ?_;rfl
  ·rw[show (x.name==t.name)=false from by simp[hn],Bool.false_or]
   refine evl ?_
   repeat' ((conv=>whnf);first|refine O8 hn ?_|refine aq ?_|apply ae<;>intro h)
   refine au [19,20,21,3,5] [67,69] ?_;exact Tf l k hf t g3 g5 hk ha hm hl ln hln r (done++[x])  _ _ _ (n+1) (by simp[e]) (by simp[hn]<;>omega)
theorem vT (hf:k.fit)(d:C4)(hd:d.length<2^40)(t:Trm)(g:t.goodT):ag G 582 [.agg k.enc,.sl 4 (d.map Trm.enc),.agg t.enc] [] ⟨.int .i64 (kG k d t),[]⟩:=by
 have m1:=ml d Trm.enc;have h1:=wg t.name g.nm;rw[kG];cases hb:nmB t.name with
 |false=>
  rw[hb] at h1;rw[Ac rfl];exact gvA (F:=xq)
 |true=>
  rw[hb] at h1;rw[Aa (by simp)]
  refine gvB (F:=xq) ?_;refine au [19,20,21,3,5] [67,69] ?_;rw[m1];exact Tf d k hf t _ _ g.ok g.acz g.ms hd _ rfl d [] _ _ _ 0 rfl rfl
end
end Go.AM.IR
