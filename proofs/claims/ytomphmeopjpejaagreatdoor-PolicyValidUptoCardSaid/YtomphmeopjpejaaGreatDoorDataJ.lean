/- What the functions of this program give, on the abstract machine. -/
import Derived.Test.YtomphmeopjpejaaGreatDoorDataH
set_option linter.unusedVariables false
set_option linter.unusedSimpArgs false
set_option maxHeartbeats 4000000
set_option maxRecDepth 20000
namespace Go.AM.IR
def fk (l:List (List UInt8))(k:List UInt8):Bool:=l.any λx=>decide (x=k)
abbrev NmL:=List UInt8
theorem sW (l:List NmL)(k:List UInt8)(hl:l.length<2^40)(ln:Int)(hln:ln=l.length): ∀(rest done:List NmL)(T:TV)(H:ap)(c:Nat)(n:Int)(e:l=done++rest)(hn:n=done.length),Ev G ⟨TH,⟨(7,.sl 1 (l.map ah))::(8,.int .i64 ln)::(9,.int .i64 n)::(1,.str k)::T,H,c⟩,[.t 4],0⟩ (⟨.bool (fk rest k),[]⟩)
 | [],done,  T,H,c,n,e,hn=>by
  have hd:=md0 e;have hll:=ml l ah;refine evA ?_;refine ax ?_;rfl
 |x::r,done,  T,H,c,n,e,hn=>by
  have hd:=md e;have hll:=ml l ah;have hx:=mx ah e hn
  by_cases h:x=k
  ·rw[show fk (x::r) k=true from by simp[fk,h]]
   refine evl ?_
   repeat' ((conv=>whnf);first|refine Kd h ?_|refine aq ?_|(refine ae ?_ ?_<;>intro h))
   refine ax ?_;rfl
  ·rw[show fk (x::r) k=fk r k from by simp[fk,h]]
   refine evl ?_
   repeat' ((conv=>whnf);first|refine Kg h ?_|refine aq ?_|(refine ae ?_ ?_<;>intro h))
   refine au [7,8,9,1] [] ?_;exact sW l k hl ln hln r (done++[x])  _ _ _ (n+1) (by simp[e]) (by simp[hn]<;>omega)
theorem nw (l:List (List UInt8))(hl:l.length<2^40)(k:List UInt8):ab G 630 [.sl 1 (l.map ah),.str k] [] ⟨.bool (fk l k),[]⟩:=by
 have m1:=ml l ah;refine gvB (F:=K9) ?_;refine au [7,8,9,1] [] ?_;rw[m1];exact sW l k hl _ rfl l [] _ _ _ 0 rfl rfl
structure Kn where
 a:List (List UInt8)
 b:List (List UInt8)
 c:List (List UInt8)
 d:List (List UInt8)
def Kn.enc (k:Kn):List AV:=[.sl 1 (k.a.map ah),.sl 1 (k.b.map ah),.sl 1 (k.c.map ah),.sl 1 (k.d.map ah)]
structure Kn.fit (k:Kn):Prop where
 a:k.a.length<2^40
 b:k.b.length<2^40
 c:k.c.length<2^40
 d:k.d.length<2^40
def mtN (l:List (List UInt8))(m:Mat):Int:=if m.n=0/\m.pfx.addr=0/\m.pfx.len=0 then (if fk l m.name=true then 0 else 6) else 1
def mtH (m:Mat):Int:=if m.name= []/\m.n=0 then (if bz m.pfx=true then 0 else 1) else 1
def mtR (lo hi:Int)(m:Mat):Int:=if m.name= []/\m.pfx.addr=0/\m.pfx.len=0 then (if lo<=m.n/\m.n<=hi then 0 else 5) else 1
def mtE (k:Kn)(m:Mat):Int:=if m.kind=1 then mtN k.a m else if m.kind=2 then mtN k.b m else if m.kind=3 then mtN k.c m else if m.kind=7 then mtH m else
 if m.kind=4 then mtR 1 7 m else if m.kind=6 then mtR 0 16777216 m else if m.kind=8 then mtR 0 2000 m else if m.kind=5 then mtR 0 4294967295 m else 15
theorem oh (k:Kn)(hk:k.fit)(m:Mat)(hp:m.pfx.ok):ab G 594 [.agg k.enc,.agg m.enc] [] ⟨.int .i64 (mtE k m),[]⟩:=by
 have h1:ab G 178 [.agg [.int .u32 m.pfx.addr,.int .i64 m.pfx.len]] [] ⟨.bool (bz m.pfx),[]⟩:=fM m.pfx hp;have h2:=nw k.a hk.a m.name;have h3:=nw k.b hk.b m.name;have h4:=nw k.c hk.c m.name;have w (lo hi:Int):=i6 m.n lo hi;obtain ⟨kind,name,n,⟨pa,pl⟩,neg⟩:=m;dsimp only at*
 by_cases k1:kind=1
 ·subst k1
  rw[mtE,Ad rfl,mtN];dsimp only;generalize fk k.a name=B at*
  by_cases c1:n=0/\pa=0/\pl=0
  ·obtain ⟨rfl,rfl,rfl⟩:=c1
   rw[Ad ⟨rfl,rfl,rfl⟩];cases B
   ·refine gvC (F:=fd) ?_
    repeat' (first|refine bb ?_|(refine ae ?_ ?_<;>intro h))
    all_goals (refine ax ?_;rfl)
   ·refine gvC (F:=fd) ?_
    repeat' (first|refine bb ?_|(refine ae ?_ ?_<;>intro h))
    all_goals (refine ax ?_;rfl)
  ·rw[Ac c1]
   refine gvC (F:=fd) ?_
   repeat' (first|refine bb ?_|(refine ae ?_ ?_<;>intro h))
   all_goals try (exfalso;first|omega|(simp_all;done))
   all_goals (refine ax ?_;rfl)
 by_cases k2:kind=2
 ·subst k2
  rw[mtE,Ac k1,Ad rfl,mtN];dsimp only;generalize fk k.b name=B at*
  by_cases c1:n=0/\pa=0/\pl=0
  ·obtain ⟨rfl,rfl,rfl⟩:=c1
   rw[Ad ⟨rfl,rfl,rfl⟩];cases B
   ·refine gvC (F:=fd) ?_
    repeat' (first|refine bb ?_|(refine ae ?_ ?_<;>intro h))
    all_goals (refine ax ?_;rfl)
   ·refine gvC (F:=fd) ?_
    repeat' (first|refine bb ?_|(refine ae ?_ ?_<;>intro h))
    all_goals (refine ax ?_;rfl)
  ·rw[Ac c1]
   refine gvC (F:=fd) ?_
   repeat' (first|refine bb ?_|(refine ae ?_ ?_<;>intro h))
   all_goals try (exfalso;first|omega|(simp_all;done))
   all_goals (refine ax ?_;rfl)
 by_cases k3:kind=3
 ·subst k3
  rw[mtE,Ac k1,Ac k2,Ad rfl,mtN];dsimp only;generalize fk k.c name=B at*
  by_cases c1:n=0/\pa=0/\pl=0
  ·obtain ⟨rfl,rfl,rfl⟩:=c1
   rw[Ad ⟨rfl,rfl,rfl⟩];cases B
   ·refine gvC (F:=fd) ?_
    repeat' (first|refine bb ?_|(refine ae ?_ ?_<;>intro h))
    all_goals (refine ax ?_;rfl)
   ·refine gvC (F:=fd) ?_
    repeat' (first|refine bb ?_|(refine ae ?_ ?_<;>intro h))
    all_goals (refine ax ?_;rfl)
  ·rw[Ac c1]
   refine gvC (F:=fd) ?_
   repeat' (first|refine bb ?_|(refine ae ?_ ?_<;>intro h))
   all_goals try (exfalso;first|omega|(simp_all;done))
   all_goals (refine ax ?_;rfl)
 by_cases k7:kind=7
 ·subst k7
  rw[mtE,Ac k1,Ac k2,Ac k3,Ad rfl,mtH];dsimp only
  by_cases c1:name= []/\n=0
  ·obtain ⟨rfl,rfl⟩:=c1
   rw[Ad ⟨rfl,rfl⟩];generalize bz ⟨pa,pl⟩=B at*;cases B
   ·refine gvC (F:=fd) ?_
    repeat' (first|refine bb ?_|(refine ae ?_ ?_<;>intro h))
    all_goals (refine ax ?_;rfl)
   ·refine gvC (F:=fd) ?_
    repeat' (first|refine bb ?_|(refine ae ?_ ?_<;>intro h))
    all_goals (refine ax ?_;rfl)
  ·rw[Ac c1]
   refine gvC (F:=fd) ?_
   repeat' (first|refine bb ?_|(refine ae ?_ ?_<;>intro h))
   all_goals try (exfalso;first|omega|(simp_all;done))
   all_goals (refine ax ?_;rfl)
 by_cases k4:kind=4
 ·subst k4
  have h5:=w 1 7;rw[mtE,Ac k1,Ac k2,Ac k3,Ac k7,Ad rfl,mtR];dsimp only
  by_cases c1:name= []/\pa=0/\pl=0
  ·obtain ⟨rfl,rfl,rfl⟩:=c1
   rw[Ad ⟨rfl,rfl,rfl⟩]
   by_cases c2:1<=n/\n<=7
   ·rw[Al c2.1,Al c2.2] at h5
    rw[Ad c2];refine gvC (F:=fd) ?_
    repeat' (first|refine bb ?_|(refine ae ?_ ?_<;>intro h))
    all_goals (refine ax ?_;rfl)
   ·have e:(decide (1<=n)&&decide (n<=7))=false:=by rw[<-Bool.decide_and,An c2]
    rw[e] at h5;rw[Ac c2];refine gvC (F:=fd) ?_
    repeat' (first|refine bb ?_|(refine ae ?_ ?_<;>intro h))
    all_goals (refine ax ?_;rfl)
  ·rw[Ac c1]
   refine gvC (F:=fd) ?_
   repeat' (first|refine bb ?_|(refine ae ?_ ?_<;>intro h))
   all_goals try (exfalso;first|omega|(simp_all;done))
   all_goals (refine ax ?_;rfl)
 by_cases k6:kind=6
 ·subst k6
  have h5:=w 0 16777216;rw[mtE,Ac k1,Ac k2,Ac k3,Ac k7,Ac k4,Ad rfl,mtR];dsimp only
  by_cases c1:name= []/\pa=0/\pl=0
  ·obtain ⟨rfl,rfl,rfl⟩:=c1
   rw[Ad ⟨rfl,rfl,rfl⟩]
   by_cases c2:0<=n/\n<=16777216
   ·rw[Al c2.1,Al c2.2] at h5
    rw[Ad c2];refine gvC (F:=fd) ?_
    repeat' (first|refine bb ?_|(refine ae ?_ ?_<;>intro h))
    all_goals (refine ax ?_;rfl)
   ·have e:(decide (0<=n)&&decide (n<=16777216))=false:=by rw[<-Bool.decide_and,An c2]
    rw[e] at h5;rw[Ac c2];refine gvC (F:=fd) ?_
    repeat' (first|refine bb ?_|(refine ae ?_ ?_<;>intro h))
    all_goals (refine ax ?_;rfl)
  ·rw[Ac c1]
   refine gvC (F:=fd) ?_
   repeat' (first|refine bb ?_|(refine ae ?_ ?_<;>intro h))
   all_goals try (exfalso;first|omega|(simp_all;done))
   all_goals (refine ax ?_;rfl)
 by_cases k8:kind=8
 ·subst k8
  have h5:=w 0 2000;rw[mtE,Ac k1,Ac k2,Ac k3,Ac k7,Ac k4,Ac k6,Ad rfl,mtR];dsimp only
  by_cases c1:name= []/\pa=0/\pl=0
  ·obtain ⟨rfl,rfl,rfl⟩:=c1
   rw[Ad ⟨rfl,rfl,rfl⟩]
   by_cases c2:0<=n/\n<=2000
   ·rw[Al c2.1,Al c2.2] at h5
    rw[Ad c2];refine gvC (F:=fd) ?_
    repeat' (first|refine bb ?_|(refine ae ?_ ?_<;>intro h))
    all_goals (refine ax ?_;rfl)
   ·have e:(decide (0<=n)&&decide (n<=2000))=false:=by rw[<-Bool.decide_and,An c2]
    rw[e] at h5;rw[Ac c2];refine gvC (F:=fd) ?_
    repeat' (first|refine bb ?_|(refine ae ?_ ?_<;>intro h))
    all_goals (refine ax ?_;rfl)
  ·rw[Ac c1]
   refine gvC (F:=fd) ?_
   repeat' (first|refine bb ?_|(refine ae ?_ ?_<;>intro h))
   all_goals try (exfalso;first|omega|(simp_all;done))
   all_goals (refine ax ?_;rfl)
 by_cases k5:kind=5
 ·subst k5
  have h5:=w 0 4294967295;rw[mtE,Ac k1,Ac k2,Ac k3,Ac k7,Ac k4,Ac k6,Ac k8,Ad rfl,mtR];dsimp only
  by_cases c1:name= []/\pa=0/\pl=0
  ·obtain ⟨rfl,rfl,rfl⟩:=c1
   rw[Ad ⟨rfl,rfl,rfl⟩]
   by_cases c2:0<=n/\n<=4294967295
   ·rw[Al c2.1,Al c2.2] at h5
    rw[Ad c2];refine gvC (F:=fd) ?_
    repeat' (first|refine bb ?_|(refine ae ?_ ?_<;>intro h))
    all_goals (refine ax ?_;rfl)
   ·have e:(decide (0<=n)&&decide (n<=4294967295))=false:=by rw[<-Bool.decide_and,An c2]
    rw[e] at h5;rw[Ac c2];refine gvC (F:=fd) ?_
    repeat' (first|refine bb ?_|(refine ae ?_ ?_<;>intro h))
    all_goals (refine ax ?_;rfl)
  ·rw[Ac c1]
   refine gvC (F:=fd) ?_
   repeat' (first|refine bb ?_|(refine ae ?_ ?_<;>intro h))
   all_goals try (exfalso;first|omega|(simp_all;done))
   all_goals (refine ax ?_;rfl)
 rw[mtE,Ac k1,Ac k2,Ac k3,Ac k7,Ac k4,Ac k6,Ac k8,Ac k5];refine gvC (F:=fd) ?_
 repeat' (first|refine bb ?_|(refine ae ?_ ?_<;>intro h))
 all_goals (refine ax ?_;rfl)
end Go.AM.IR
namespace Go.AM.IR
theorem oy (a:Actn):ab G 596 [.agg a.enc] [] ⟨.int .i64 (il a),[]⟩:=by
 have w (n lo hi:Int):=i6 n lo hi;obtain ⟨kind,n,asn,com,addr⟩:=a;rw[il];dsimp only
 by_cases k1:kind=1
 ·subst k1
  rw[Ad rfl,yp];dsimp only;have h0:=w n 0 4294967295;generalize q0:(decide (0<=n)&&decide (n<=4294967295))=B0 at*;cases B0
  ·simp only[Bool.and_eq_false_iff,AR] at q0
   refine gvC (F:=iO) ?_
   repeat' (first|refine bb ?_|(refine ae ?_ ?_<;>intro h))
   all_goals try (exfalso;first|omega|(simp_all;done))
   all_goals
    refine ax ?_
    (repeat' split)<;>first|rfl|(exfalso;(try simp only[ne_eq,AF] at*);omega)
  ·simp only[Av,AO] at q0
   refine gvC (F:=iO) ?_
   repeat' (first|refine bb ?_|(refine ae ?_ ?_<;>intro h))
   all_goals try (exfalso;first|omega|(simp_all;done))
   all_goals
    refine ax ?_
    (repeat' split)<;>first|rfl|(exfalso;(try simp only[ne_eq,AF] at*);omega)
 rw[Ac k1]
 by_cases k2:kind=2
 ·subst k2
  rw[Ad rfl,yp];dsimp only;have h0:=w n 0 4294967295;generalize q0:(decide (0<=n)&&decide (n<=4294967295))=B0 at*;cases B0
  ·simp only[Bool.and_eq_false_iff,AR] at q0
   refine gvC (F:=iO) ?_
   repeat' (first|refine bb ?_|(refine ae ?_ ?_<;>intro h))
   all_goals try (exfalso;first|omega|(simp_all;done))
   all_goals
    refine ax ?_
    (repeat' split)<;>first|rfl|(exfalso;(try simp only[ne_eq,AF] at*);omega)
  ·simp only[Av,AO] at q0
   refine gvC (F:=iO) ?_
   repeat' (first|refine bb ?_|(refine ae ?_ ?_<;>intro h))
   all_goals try (exfalso;first|omega|(simp_all;done))
   all_goals
    refine ax ?_
    (repeat' split)<;>first|rfl|(exfalso;(try simp only[ne_eq,AF] at*);omega)
 rw[Ac k2]
 by_cases k4:kind=4
 ·subst k4
  rw[Ad rfl,yp];dsimp only;have h0:=w n 0 4294967295;generalize q0:(decide (0<=n)&&decide (n<=4294967295))=B0 at*;cases B0
  ·simp only[Bool.and_eq_false_iff,AR] at q0
   refine gvC (F:=iO) ?_
   repeat' (first|refine bb ?_|(refine ae ?_ ?_<;>intro h))
   all_goals try (exfalso;first|omega|(simp_all;done))
   all_goals
    refine ax ?_
    (repeat' split)<;>first|rfl|(exfalso;(try simp only[ne_eq,AF] at*);omega)
  ·simp only[Av,AO] at q0
   refine gvC (F:=iO) ?_
   repeat' (first|refine bb ?_|(refine ae ?_ ?_<;>intro h))
   all_goals try (exfalso;first|omega|(simp_all;done))
   all_goals
    refine ax ?_
    (repeat' split)<;>first|rfl|(exfalso;(try simp only[ne_eq,AF] at*);omega)
 rw[Ac k4]
 by_cases k3:kind=3
 ·subst k3
  rw[Ad rfl,actB];dsimp only;have h0:=w n 0 16777216;generalize q0:(decide (0<=n)&&decide (n<=16777216))=B0 at*;cases B0
  ·simp only[Bool.and_eq_false_iff,AR] at q0
   refine gvC (F:=iO) ?_
   repeat' (first|refine bb ?_|(refine ae ?_ ?_<;>intro h))
   all_goals try (exfalso;first|omega|(simp_all;done))
   all_goals
    refine ax ?_
    (repeat' split)<;>first|rfl|(exfalso;(try simp only[ne_eq,AF] at*);omega)
  ·simp only[Av,AO] at q0
   refine gvC (F:=iO) ?_
   repeat' (first|refine bb ?_|(refine ae ?_ ?_<;>intro h))
   all_goals try (exfalso;first|omega|(simp_all;done))
   all_goals
    refine ax ?_
    (repeat' split)<;>first|rfl|(exfalso;(try simp only[ne_eq,AF] at*);omega)
 rw[Ac k3]
 by_cases k5:kind=5
 ·subst k5
  rw[Ad rfl,actC];dsimp only;refine gvC (F:=iO) ?_
  repeat' (first|refine bb ?_|(refine ae ?_ ?_<;>intro h))
  all_goals try (exfalso;first|omega|(simp_all;done))
  all_goals
   refine ax ?_
   (repeat' split)<;>first|rfl|(exfalso;(try simp only[ne_eq,AF] at*);omega)
 rw[Ac k5]
 by_cases k6:kind=6
 ·subst k6
  rw[Ad rfl,L8];dsimp only;refine gvC (F:=iO) ?_
  repeat' (first|refine bb ?_|(refine ae ?_ ?_<;>intro h))
  all_goals try (exfalso;first|omega|(simp_all;done))
  all_goals
   refine ax ?_
   (repeat' split)<;>first|rfl|(exfalso;(try simp only[ne_eq,AF] at*);omega)
 rw[Ac k6]
 by_cases k7:kind=7
 ·subst k7
  rw[Ad rfl,L8];dsimp only;refine gvC (F:=iO) ?_
  repeat' (first|refine bb ?_|(refine ae ?_ ?_<;>intro h))
  all_goals try (exfalso;first|omega|(simp_all;done))
  all_goals
   refine ax ?_
   (repeat' split)<;>first|rfl|(exfalso;(try simp only[ne_eq,AF] at*);omega)
 rw[Ac k7]
 by_cases k8:kind=8
 ·subst k8
  rw[Ad rfl,actF];dsimp only;have h0:=w asn 1 4294967295;generalize q0:(decide (1<=asn)&&decide (asn<=4294967295))=B0 at*;have h1:=w n 1 16;generalize q1:(decide (1<=n)&&decide (n<=16))=B1 at*;cases B0
  ·simp only[Bool.and_eq_false_iff,AR] at q0
   cases B1
   ·simp only[Bool.and_eq_false_iff,AR] at q1
    refine gvC (F:=iO) ?_
    repeat' (first|refine bb ?_|(refine ae ?_ ?_<;>intro h))
    all_goals try (exfalso;first|omega|(simp_all;done))
    all_goals
     refine ax ?_
     (repeat' split)<;>first|rfl|(exfalso;(try simp only[ne_eq,AF] at*);omega)
   ·simp only[Av,AO] at q1
    refine gvC (F:=iO) ?_
    repeat' (first|refine bb ?_|(refine ae ?_ ?_<;>intro h))
    all_goals try (exfalso;first|omega|(simp_all;done))
    all_goals
     refine ax ?_
     (repeat' split)<;>first|rfl|(exfalso;(try simp only[ne_eq,AF] at*);omega)
  ·simp only[Av,AO] at q0
   cases B1
   ·simp only[Bool.and_eq_false_iff,AR] at q1
    refine gvC (F:=iO) ?_
    repeat' (first|refine bb ?_|(refine ae ?_ ?_<;>intro h))
    all_goals try (exfalso;first|omega|(simp_all;done))
    all_goals
     refine ax ?_
     (repeat' split)<;>first|rfl|(exfalso;(try simp only[ne_eq,AF] at*);omega)
   ·simp only[Av,AO] at q1
    refine gvC (F:=iO) ?_
    repeat' (first|refine bb ?_|(refine ae ?_ ?_<;>intro h))
    all_goals try (exfalso;first|omega|(simp_all;done))
    all_goals
     refine ax ?_
     (repeat' split)<;>first|rfl|(exfalso;(try simp only[ne_eq,AF] at*);omega)
 rw[Ac k8];refine gvC (F:=iO) ?_
 repeat' (first|refine bb ?_|(refine ae ?_ ?_<;>intro h))
 all_goals (refine ax ?_;rfl)
end Go.AM.IR
namespace Go.AM.IR
def vdE (v:Int):Int:=if v≠1/\v≠2/\v≠3 then 15 else 0
def tE3 (t:Trm):Int:=if 64<t.acts.length then 4 else if bj il t.acts=0 then vdE t.verdict else bj il t.acts
def tE2 (s:PSet)(t:Trm):Int:=if 64<t.mats.length then 4 else if bj (KJ s) t.mats=0 then tE3 t else bj (KJ s) t.mats
def tE1 (s:PSet)(before:List Trm)(t:Trm):Int:=if nmB t.name=false then 1 else if before.any (λu=>u.name==t.name) then 7 else tE2 s t
end Go.AM.IR
namespace Go.AM.IR
def rX (s:PSet):List Trm->List Trm->Int
 |_,[]=>0
 |d,t::r=>if tE1 s d t=0 then rX s (d++[t]) r else tE1 s d t
def dfE (d:Int):Int:=if d≠1/\d≠2 then 15 else 0
def uW (s:PSet):List Pol->List UInt8->Bool->Int
 | [],_,_=>0
 |p::r,b,f=>if pQ p.name b f p.terms.length=0 then (if rX s [] p.terms=0 then (if dfE p.dflt=0 then uW s r p.name false else dfE p.dflt) else rX s [] p.terms) else pQ p.name b f p.terms.length
def iZ (s:PSet):Int:=if lZ s.prefixes=0 then (if ni s.paths=0 then (if lY s.comms=0 then (if 64<s.pols.length then 4 else uW s s.pols [] true) else lY s.comms) else ni s.paths) else lZ s.prefixes
structure Trm.goodT (t:Trm):Prop where
 nm:t.name.length<2^40
 ms:t.mats.length<2^40
 acz:t.acts.length<2^40
 ok: ∀m∈t.mats,m.pfx.ok
structure PSet.good (s:PSet):Prop where
 a:s.prefixes.length<2^40
 b:s.paths.length<2^40
 c:s.comms.length<2^40
 d:s.pols.length<2^40
 pre: ∀x∈s.prefixes,x.name.length<2^40/\x.rules.length<2^40/\ ∀r∈x.rules,r.ok
 pat: ∀x∈s.paths,x.name.length<2^40/\x.rules.length<2^40/\ ∀r∈x.rules,r.pattern.length<2^32
 com: ∀x∈s.comms,x.name.length<2^40/\x.rules.length<2^40/\True
 pol: ∀x∈s.pols,x.name.length<2^40/\x.terms.length<2^40/\ ∀t∈x.terms,t.goodT
end Go.AM.IR
namespace Go.AM.IR
@[simp] theorem Ck: ∀(n:Nat)(l:List (List AV)),aa l=true->aa (l.take n)=true
 |0,l,_=>by simp[aa]
 |n+1,[],_=>by simp[aa]
 |n+1,x::r,h=>by
  simp only[aa,Av] at h;simp only[List.take_succ_cons,aa,h.1,Ck n r h.2,Bool.and_self]
@[simp] theorem CH: ∀(n:Nat)(l:List (List AV)),aa l=true->aa (l.drop n)=true
 |0,l,h=>h
 |n+1,[],_=>by simp[aa]
 |n+1,x::r,h=>by
  simp only[aa,Av] at h;exact CH n r h.2
def BM (k:Kn)(t:Trm):Int:=if 64<t.mats.length then 4 else if bj (mtE k) t.mats=0 then tE3 t else bj (mtE k) t.mats
def eT (k:Kn)(before:List Trm)(t:Trm):Int:=if nmB t.name=false then 1 else if before.any (λu=>u.name==t.name) then 7 else BM k t
theorem Jc (l:List Actn)(t:Trm)(g5:Nat)(hl:l.length<2^40)(ln:Int)(hln:ln=l.length): ∀(rest done:List Actn)(T:TV)(H:ap)(c:Nat)(n:Int)(e:l=done++rest)(hn:n=done.length),Ev G ⟨OB,⟨(54,.sl 5 (l.map Actn.enc))::(55,.int .i64 ln)::(56,.int .i64 n)::(5,.ref 69 g5 0)::T,(69,some (g5,.cells t.enc))::H,c⟩,[.t 6],0⟩ (⟨.int .i64 (if bj il rest=0 then vdE t.verdict else bj il rest),[]⟩)
 | [],done,  T,H,c,n,e,hn=>by
  have hd:=md0 e;have hll:=ml l Actn.enc;have h1:=i6 t.verdict 1 3;rw[bj,Ad rfl,vdE];generalize hq:(decide (1<=t.verdict)&&decide (t.verdict<=3))=B at*;cases B
  ·simp only[Bool.and_eq_false_iff,AR] at hq
   rw[Ad (by omega)]
   refine evA ?_;refine ax ?_;rfl
  ·simp only[Av,AO] at hq
   rw[Ac (by omega)]
   refine evA ?_;refine ax ?_;rfl
 |x::r,done,  T,H,c,n,e,hn=>by
  have hd:=md e;have hll:=ml l Actn.enc;have hx:=mx Actn.enc e hn;have h1:=oy x;rw[bj];generalize il x=E at*
  by_cases h0:E=0
  ·subst h0
   rw[Ad rfl];refine evA ?_;refine au [54,55,56,5] [69] ?_;exact Jc l t g5 hl ln hln r (done++[x])  _ _ _ (n+1) (by simp[e]) (by simp[hn]<;>omega)
  ·rw[Ac h0,Ac h0]
   refine evA ?_;refine ax ?_;rfl
theorem Jb (l:List Mat)(k:Kn)(hf:k.fit)(t:Trm)(g3 g5:Nat)(hk: ∀m∈l,m.pfx.ok)(ha:t.acts.length<2^40)(hl:l.length<2^40)(ln:Int)(hln:ln=l.length): ∀(rest done:List Mat)(T:TV)(H:ap)(c:Nat)(n:Int)(e:l=done++rest)(hn:n=done.length),Ev G ⟨OC,⟨(36,.sl 6 (l.map Mat.enc))::(37,.int .i64 ln)::(38,.int .i64 n)::(3,.ref 67 g3 0)::(5,.ref 69 g5 0)::T,(67,some (g3,.cells k.enc))::(69,some (g5,.cells t.enc))::H,c⟩,[.t 6],0⟩ (⟨.int .i64 (if bj (mtE k) rest=0 then tE3 t else bj (mtE k) rest),[]⟩)
 | [],done,  T,H,c,n,e,hn=>by
  have hd:=md0 e;have hll:=ml l Mat.enc;have m1:=ml t.acts Actn.enc;rw[bj,Ad rfl,tE3]
  by_cases c:64<t.acts.length
  ·rw[Ad c]
   have c':(t.acts.length:Int)>64:=by omega
   refine evA ?_;refine ax ?_;rfl
  ·rw[Ac c]
   refine evA ?_;refine au [54,55,56,5] [69] ?_;rw[m1];exact Jc t.acts t _ ha _ rfl t.acts [] _ _ _ 0 rfl rfl
 |x::r,done,  T,H,c,n,e,hn=>by
  have hd:=md e;have hll:=ml l Mat.enc;have hx:=mx Mat.enc e hn;have h1:=oh k hf x (hk x (by simp[e]))
  rw[bj];generalize mtE k x=E at*
  by_cases h0:E=0
  ·subst h0
   rw[Ad rfl];refine evA ?_;refine au [36,37,38,3,5] [67,69] ?_;exact Jb l k hf t g3 g5 hk ha hl ln hln r (done++[x])  _ _ _ (n+1) (by simp[e]) (by simp[hn]<;>omega)
  ·rw[Ac h0,Ac h0]
   refine evA ?_;refine ax ?_;rfl
theorem M5 (l:List Trm)(k:Kn)(hf:k.fit)(t:Trm)(g3 g5:Nat)(hk: ∀m∈t.mats,m.pfx.ok)(ha:t.acts.length<2^40)(hm:t.mats.length<2^40)(hl:l.length<2^40)(ln:Int)(hln:ln=l.length): ∀(rest done:List Trm)(T:TV)(H:ap)(c:Nat)(n:Int)(e:l=done++rest)(hn:n=done.length),Ev G ⟨TW,⟨(19,.sl 4 (l.map Trm.enc))::(20,.int .i64 ln)::(21,.int .i64 n)::(3,.ref 67 g3 0)::(5,.ref 69 g5 0)::T,(67,some (g3,.cells k.enc))::(69,some (g5,.cells t.enc))::H,c⟩,[.t 6],0⟩ (⟨.int .i64 (if rest.any (λu=>u.name==t.name) then 7 else BM k t),[]⟩)
 | [],done,  T,H,c,n,e,hn=>by
  have hd:=md0 e;have hll:=ml l Trm.enc;have m1:=ml t.mats Mat.enc;rw[List.any_nil,Ac (by simp),BM]
  by_cases c:64<t.mats.length
  ·rw[Ad c]
   have c':(t.mats.length:Int)>64:=by omega
   refine evA ?_;refine ax ?_;rfl
  ·rw[Ac c]
   refine evA ?_;refine au [36,37,38,3,5] [67,69] ?_;rw[m1];exact Jb t.mats k hf t _ _ hk ha hm _ rfl t.mats [] _ _ _ 0 rfl rfl
 |x::r,done,  T,H,c,n,e,hn=>by
  have hd:=md e;have hll:=ml l Trm.enc;have hx:=mx Trm.enc e hn;rw[List.any_cons]
  by_cases hn:x.name=t.name
  ·rw[show (x.name==t.name)=true from by simp[hn],Bool.true_or,Ad rfl]
   refine evl ?_
   repeat' ((conv=>whnf);first|refine Kd hn ?_|refine aq ?_|(refine ae ?_ ?_<;>intro h))
   refine ax ?_;rfl
  ·rw[show (x.name==t.name)=false from by simp[hn],Bool.false_or]
   refine evl ?_
   repeat' ((conv=>whnf);first|refine Kg hn ?_|refine aq ?_|(refine ae ?_ ?_<;>intro h))
   refine au [19,20,21,3,5] [67,69] ?_;exact M5 l k hf t g3 g5 hk ha hm hl ln hln r (done++[x])  _ _ _ (n+1) (by simp[e]) (by simp[hn]<;>omega)
theorem oc (k:Kn)(hf:k.fit)(d:List Trm)(hd:d.length<2^40)(t:Trm)(g:t.goodT):ab G 582 [.agg k.enc,.sl 4 (d.map Trm.enc),.agg t.enc] [] ⟨.int .i64 (eT k d t),[]⟩:=by
 have m1:=ml d Trm.enc;have h1:=sK t.name g.nm;rw[eT];cases hb:nmB t.name with
 |false=>
  rw[hb] at h1;rw[Ad rfl];exact gvA (F:=ud)
 |true=>
  rw[hb] at h1;rw[Ac (by simp)]
  refine gvB (F:=ud) ?_;refine au [19,20,21,3,5] [67,69] ?_;rw[m1];exact M5 d k hf t _ _ g.ok g.acz g.ms hd _ rfl d [] _ _ _ 0 rfl rfl
def ft (k:Kn):List Trm->List Trm->Int
 |_,[]=>0
 |d,t::r=>if eT k d t=0 then ft k (d++[t]) r else eT k d t
def plE (k:Kn)(p:Pol):Int:=if ft k [] p.terms=0 then dfE p.dflt else ft k [] p.terms
theorem uY (l:List Trm)(k:Kn)(hf:k.fit)(p:Pol)(g2 g3:Nat)(hp:p.terms=l)(hk: ∀t∈l,t.goodT)(hl:l.length<2^40)(ln:Int)(hln:ln=l.length): ∀(rest done:List Trm)(T:TV)(H:ap)(c:Nat)(n:Int)(e:l=done++rest)(hn:n=done.length),Ev G ⟨Uc,⟨(9,.sl 4 (l.map Trm.enc))::(10,.int .i64 ln)::(11,.int .i64 n)::(2,.ref 66 g2 0)::(3,.ref 67 g3 0)::T,(66,some (g2,.cells k.enc))::(67,some (g3,.cells p.enc))::H,c⟩,[.t 4],0⟩ (⟨.int .i64 (if ft k done rest=0 then dfE p.dflt else ft k done rest),[]⟩)
 | [],done,  T,H,c,n,e,hn=>by
  have hd:=md0 e;have hll:=ml l Trm.enc;rw[ft,Ad rfl,dfE]
  by_cases c1:p.dflt=1
  ·rw[Ac (λq=>q.1 c1)]
   refine evA ?_;refine ax ?_;rfl
  by_cases c2:p.dflt=2
  ·rw[Ac (λq=>q.2 c2)]
   refine evA ?_;refine ax ?_;rfl
  rw[Ad ⟨c1,c2⟩];refine evA ?_;refine ax ?_;rfl
 |x::r,done,  T,H,c,n,e,hn=>by
  have hd:=md e;have hll:=ml l Trm.enc;have hx:=mx Trm.enc e hn;have m1:=ml p.terms Trm.enc;have hlen:p.terms.length=l.length:=by rw[hp]
  have h1:ab G 582 [.agg k.enc,.sl 4 ((List.take (n.toNat-0) (List.drop 0 (p.terms.map Trm.enc)))),.agg x.enc] [] ⟨.int .i64 (eT k done x),[]⟩:=by
   have h:=oc k hf done (by omega) x (hk x (by simp[e]))
   have q:List.take (n.toNat-0) (List.drop 0 (p.terms.map Trm.enc))=done.map Trm.enc:=by
    rw[hp,e,hn];simp
   rw[q];exact h
  rw[ft];generalize eT k done x=E at*
  by_cases h0:E=0
  ·subst h0
   rw[Ad rfl];refine evA ?_;refine au [9,10,11,2,3] [66,67] ?_;exact uY l k hf p g2 g3 hp hk hl ln hln r (done++[x])  _ _ _ (n+1) (by simp[e]) (by simp[hn]<;>omega)
  ·rw[Ac h0,Ac h0]
   refine evA ?_;refine ax ?_;rfl
theorem Ii (k:Kn)(hf:k.fit)(p:Pol)(hl:p.terms.length<2^40)(hk: ∀t∈p.terms,t.goodT):ab G 523 [.agg k.enc,.agg p.enc] [] ⟨.int .i64 (plE k p),[]⟩:=by
 have m1:=ml p.terms Trm.enc;unfold plE;refine gvB (F:=Lz) ?_;refine au [9,10,11,2,3] [66,67] ?_;rw[m1];exact uY p.terms k hf p _ _ rfl hk hl _ rfl p.terms [] _ _ _ 0 rfl rfl
end Go.AM.IR
