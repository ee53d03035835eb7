/- What functions of this program give. -/
import Derived.Test.YtomphmeopjpejaaGreatDoorDataH
set_option linter.unusedVariables false
set_option linter.unusedSimpArgs false
set_option maxHeartbeats 4000000
set_option maxRecDepth 20000
namespace Go.AM.IR
def fw (l:C5)(k:CF):Bool:=l.any λx=>decide (x=k)
abbrev NmL:=CF
abbrev D5:=List NmL
theorem vo (l:D5)(k:CF)(hl:l.length<2^40)(ln:Int)(hln:ln=l.length): ∀(rest done:D5)(T:TV)(H:aq)(c:Nat)(n:Int)(e:l=done++rest)(hn:n=done.length),Ev G ⟨aal,⟨(7,.sl 1 (l.map am))::(8,.int .i64 ln)::(9,.int .i64 n)::(1,.str k)::T,H,c⟩,[.t 4],0⟩ (⟨.bool (fw rest k),[]⟩)
 | [],done,  T,H,c,n,e,hn=>by
  have hd:=md0 e;have hll:=ml l am;refine evA ?_;refine au ?_;rfl
 |x::r,done,  T,H,c,n,e,hn=>by
  have hd:=md e;have hll:=ml l am;have hx:=mx am e hn
  by_cases h:x=k
  ·rw[show fw (x::r) k=true from by simp[fw,h]]
   refine evl ?_
   repeat' ((conv=>whnf);first|refine Qw h ?_|refine ay ?_|apply ae<;>intro h)
   refine au ?_;rfl
  ·rw[show fw (x::r) k=fw r k from by simp[fw,h]]
   refine evl ?_
   repeat' ((conv=>whnf);first|refine Qx h ?_|refine ay ?_|apply ae<;>intro h)
   refine ag [7,8,9,1] [] ?_;exact vo l k hl ln hln r (done++[x])  _ _ _ (n+1) (by simp[e]) (by simp[hn]<;>omega)
theorem oT (l:C5)(hl:l.length<2^40)(k:CF):ab G 630 [.sl 1 (l.map am),.str k] [] ⟨.bool (fw l k),[]⟩:=by
 have m1:=ml l am;refine gvB (F:=Sa) ?_;refine ag [7,8,9,1] [] ?_;rw[m1];exact vo l k hl _ rfl l [] _ _ _ 0 rfl rfl
structure Kn where
 a:C5
 b:C5
 c:C5
 d:C5
def Kn.enc (k:Kn):CL:=[.sl 1 (k.a.map am),.sl 1 (k.b.map am),.sl 1 (k.c.map am),.sl 1 (k.d.map am)]
structure Kn.fit (k:Kn):Prop where
 a:k.a.length<2^40
 b:k.b.length<2^40
 c:k.c.length<2^40
 d:k.d.length<2^40
def mtN (l:C5)(m:Mat):Int:=if m.n=0/\m.pfx.addr=0/\m.pfx.len=0 then (if fw l m.name=true then 0 else 6) else 1
def mtH (m:Mat):Int:=if m.name= []/\m.n=0 then (if bj m.pfx=true then 0 else 1) else 1
def mtR (lo hi:Int)(m:Mat):Int:=if m.name= []/\m.pfx.addr=0/\m.pfx.len=0 then (if lo<=m.n/\m.n<=hi then 0 else 5) else 1
def mtE (k:Kn)(m:Mat):Int:=if m.kind=1 then mtN k.a m else if m.kind=2 then mtN k.b m else if m.kind=3 then mtN k.c m else if m.kind=7 then mtH m else
 if m.kind=4 then mtR 1 7 m else if m.kind=6 then mtR 0 16777216 m else if m.kind=8 then mtR 0 2000 m else if m.kind=5 then mtR 0 4294967295 m else 15
theorem p7 (k:Kn)(hk:k.fit)(m:Mat)(hp:m.pfx.ok):ab G 594 [.agg k.enc,.agg m.enc] [] ⟨.int .i64 (mtE k m),[]⟩:=by
 have h1:ab G 178 [.agg [.int .u32 m.pfx.addr,.int .i64 m.pfx.len]] [] ⟨.bool (bj m.pfx),[]⟩:=gV m.pfx hp;have h2:=oT k.a hk.a m.name;have h3:=oT k.b hk.b m.name;have h4:=oT k.c hk.c m.name;have w (lo hi:Int):=jB m.n lo hi;obtain ⟨kind,name,n,⟨pa,pl⟩,neg⟩:=m;dsimp only at*
 by_cases k1:kind=1
 ·subst k1
  rw[mtE,Ad rfl,mtN];dsimp only;generalize fw k.a name=B at*
  by_cases c1:n=0/\pa=0/\pl=0
  ·obtain ⟨rfl,rfl,rfl⟩:=c1
   rw[Ad ⟨rfl,rfl,rfl⟩];cases B
   ·refine gvC (F:=fK) ?_
    repeat' (first|refine aQ ?_|apply ae<;>intro h)
    all_goals (refine au ?_;rfl)
   ·refine gvC (F:=fK) ?_
    repeat' (first|refine aQ ?_|apply ae<;>intro h)
    all_goals (refine au ?_;rfl)
  ·rw[Ac c1]
   refine gvC (F:=fK) ?_
   repeat' (first|refine aQ ?_|apply ae<;>intro h)
   all_goals try (exfalso;first|omega|(simp_all;done))
   all_goals (refine au ?_;rfl)
 by_cases k2:kind=2
 ·subst k2
  rw[mtE,Ac k1,Ad rfl,mtN];dsimp only;generalize fw k.b name=B at*
  by_cases c1:n=0/\pa=0/\pl=0
  ·obtain ⟨rfl,rfl,rfl⟩:=c1
   rw[Ad ⟨rfl,rfl,rfl⟩];cases B
   ·refine gvC (F:=fK) ?_
    repeat' (first|refine aQ ?_|apply ae<;>intro h)
    all_goals (refine au ?_;rfl)
   ·refine gvC (F:=fK) ?_
    repeat' (first|refine aQ ?_|apply ae<;>intro h)
    all_goals (refine au ?_;rfl)
  ·rw[Ac c1]
   refine gvC (F:=fK) ?_
   repeat' (first|refine aQ ?_|apply ae<;>intro h)
   all_goals try (exfalso;first|omega|(simp_all;done))
   all_goals (refine au ?_;rfl)
 by_cases k3:kind=3
 ·subst k3
  rw[mtE,Ac k1,Ac k2,Ad rfl,mtN];dsimp only;generalize fw k.c name=B at*
  by_cases c1:n=0/\pa=0/\pl=0
  ·obtain ⟨rfl,rfl,rfl⟩:=c1
   rw[Ad ⟨rfl,rfl,rfl⟩];cases B
   ·refine gvC (F:=fK) ?_
    repeat' (first|refine aQ ?_|apply ae<;>intro h)
    all_goals (refine au ?_;rfl)
   ·refine gvC (F:=fK) ?_
    repeat' (first|refine aQ ?_|apply ae<;>intro h)
    all_goals (refine au ?_;rfl)
  ·rw[Ac c1]
   refine gvC (F:=fK) ?_
   repeat' (first|refine aQ ?_|apply ae<;>intro h)
   all_goals try (exfalso;first|omega|(simp_all;done))
   all_goals (refine au ?_;rfl)
 by_cases k7:kind=7
 ·subst k7
  rw[mtE,Ac k1,Ac k2,Ac k3,Ad rfl,mtH];dsimp only
  by_cases c1:name= []/\n=0
  ·obtain ⟨rfl,rfl⟩:=c1
   rw[Ad ⟨rfl,rfl⟩];generalize bj ⟨pa,pl⟩=B at*;cases B
   ·refine gvC (F:=fK) ?_
    repeat' (first|refine aQ ?_|apply ae<;>intro h)
    all_goals (refine au ?_;rfl)
   ·refine gvC (F:=fK) ?_
    repeat' (first|refine aQ ?_|apply ae<;>intro h)
    all_goals (refine au ?_;rfl)
  ·rw[Ac c1]
   refine gvC (F:=fK) ?_
   repeat' (first|refine aQ ?_|apply ae<;>intro h)
   all_goals try (exfalso;first|omega|(simp_all;done))
   all_goals (refine au ?_;rfl)
 by_cases k4:kind=4
 ·subst k4
  have h5:=w 1 7;rw[mtE,Ac k1,Ac k2,Ac k3,Ac k7,Ad rfl,mtR];dsimp only
  by_cases c1:name= []/\pa=0/\pl=0
  ·obtain ⟨rfl,rfl,rfl⟩:=c1
   rw[Ad ⟨rfl,rfl,rfl⟩]
   by_cases c2:1<=n/\n<=7
   ·rw[Al c2.1,Al c2.2] at h5
    rw[Ad c2];refine gvC (F:=fK) ?_
    repeat' (first|refine aQ ?_|apply ae<;>intro h)
    all_goals (refine au ?_;rfl)
   ·have e:(decide (1<=n)&&decide (n<=7))=false:=by rw[<-Bool.decide_and,An c2]
    rw[e] at h5;rw[Ac c2];refine gvC (F:=fK) ?_
    repeat' (first|refine aQ ?_|apply ae<;>intro h)
    all_goals (refine au ?_;rfl)
  ·rw[Ac c1]
   refine gvC (F:=fK) ?_
   repeat' (first|refine aQ ?_|apply ae<;>intro h)
   all_goals try (exfalso;first|omega|(simp_all;done))
   all_goals (refine au ?_;rfl)
 by_cases k6:kind=6
 ·subst k6
  have h5:=w 0 16777216;rw[mtE,Ac k1,Ac k2,Ac k3,Ac k7,Ac k4,Ad rfl,mtR];dsimp only
  by_cases c1:name= []/\pa=0/\pl=0
  ·obtain ⟨rfl,rfl,rfl⟩:=c1
   rw[Ad ⟨rfl,rfl,rfl⟩]
   by_cases c2:0<=n/\n<=16777216
   ·rw[Al c2.1,Al c2.2] at h5
    rw[Ad c2];refine gvC (F:=fK) ?_
    repeat' (first|refine aQ ?_|apply ae<;>intro h)
    all_goals (refine au ?_;rfl)
   ·have e:(decide (0<=n)&&decide (n<=16777216))=false:=by rw[<-Bool.decide_and,An c2]
    rw[e] at h5;rw[Ac c2];refine gvC (F:=fK) ?_
    repeat' (first|refine aQ ?_|apply ae<;>intro h)
    all_goals (refine au ?_;rfl)
  ·rw[Ac c1]
   refine gvC (F:=fK) ?_
   repeat' (first|refine aQ ?_|apply ae<;>intro h)
   all_goals try (exfalso;first|omega|(simp_all;done))
   all_goals (refine au ?_;rfl)
 by_cases k8:kind=8
 ·subst k8
  have h5:=w 0 2000;rw[mtE,Ac k1,Ac k2,Ac k3,Ac k7,Ac k4,Ac k6,Ad rfl,mtR];dsimp only
  by_cases c1:name= []/\pa=0/\pl=0
  ·obtain ⟨rfl,rfl,rfl⟩:=c1
   rw[Ad ⟨rfl,rfl,rfl⟩]
   by_cases c2:0<=n/\n<=2000
   ·rw[Al c2.1,Al c2.2] at h5
    rw[Ad c2];refine gvC (F:=fK) ?_
    repeat' (first|refine aQ ?_|apply ae<;>intro h)
    all_goals (refine au ?_;rfl)
   ·have e:(decide (0<=n)&&decide (n<=2000))=false:=by rw[<-Bool.decide_and,An c2]
    rw[e] at h5;rw[Ac c2];refine gvC (F:=fK) ?_
    repeat' (first|refine aQ ?_|apply ae<;>intro h)
    all_goals (refine au ?_;rfl)
  ·rw[Ac c1]
   refine gvC (F:=fK) ?_
   repeat' (first|refine aQ ?_|apply ae<;>intro h)
   all_goals try (exfalso;first|omega|(simp_all;done))
   all_goals (refine au ?_;rfl)
 by_cases k5:kind=5
 ·subst k5
  have h5:=w 0 4294967295;rw[mtE,Ac k1,Ac k2,Ac k3,Ac k7,Ac k4,Ac k6,Ac k8,Ad rfl,mtR];dsimp only
  by_cases c1:name= []/\pa=0/\pl=0
  ·obtain ⟨rfl,rfl,rfl⟩:=c1
   rw[Ad ⟨rfl,rfl,rfl⟩]
   by_cases c2:0<=n/\n<=4294967295
   ·rw[Al c2.1,Al c2.2] at h5
    rw[Ad c2];refine gvC (F:=fK) ?_
    repeat' (first|refine aQ ?_|apply ae<;>intro h)
    all_goals (refine au ?_;rfl)
   ·have e:(decide (0<=n)&&decide (n<=4294967295))=false:=by rw[<-Bool.decide_and,An c2]
    rw[e] at h5;rw[Ac c2];refine gvC (F:=fK) ?_
    repeat' (first|refine aQ ?_|apply ae<;>intro h)
    all_goals (refine au ?_;rfl)
  ·rw[Ac c1]
   refine gvC (F:=fK) ?_
   repeat' (first|refine aQ ?_|apply ae<;>intro h)
   all_goals try (exfalso;first|omega|(simp_all;done))
   all_goals (refine au ?_;rfl)
 rw[mtE,Ac k1,Ac k2,Ac k3,Ac k7,Ac k4,Ac k6,Ac k8,Ac k5];refine gvC (F:=fK) ?_
 repeat' (first|refine aQ ?_|apply ae<;>intro h)
 all_goals (refine au ?_;rfl)
end Go.AM.IR
