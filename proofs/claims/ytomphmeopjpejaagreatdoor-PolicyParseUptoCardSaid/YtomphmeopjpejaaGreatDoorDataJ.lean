/- What functions of this program give. -/
import Derived.Test.YtomphmeopjpejaaGreatDoorDataH
set_option linter.unusedVariables false
set_option linter.unusedSimpArgs false
set_option maxHeartbeats 4000000
set_option maxRecDepth 20000
namespace Go.AM.IR
def iX (l:CF)(k:B5):Bool:=l.any λx=>decide (x=k)
abbrev NmL:=B5
theorem ww (l:List NmL)(k:B5)(hl:l.length<2^40)(ln:Int)(hln:ln=l.length): ∀(rest done:List NmL)(T:TV)(H:az)(c:Nat)(n:Int)(e:l=done++rest)(hn:n=done.length),Ev G ⟨ZC,⟨(7,.sl 1 (l.map ah))::(8,.int .i64 ln)::(9,.int .i64 n)::(1,.str k)::T,H,c⟩,[.t 4],0⟩ (⟨.bool (iX rest k),[]⟩)
 | [],done,  T,H,c,n,e,hn=>by
  have hd:=md0 e;have hll:=ml l ah;refine evA ?_;refine ap ?_;rfl
 |x::r,done,  T,H,c,n,e,hn=>by
  have hd:=md e;have hll:=ml l ah;have hx:=mx ah e hn
  by_cases h:x=k
  ·rw[show iX (x::r) k=true from by simp[iX,h]]
   refine evl ?_
   repeat' ((conv=>whnf);first|refine O7 h ?_|refine aq ?_|apply ae<;>intro h)
   refine ap ?_;rfl
  ·rw[show iX (x::r) k=iX r k from by simp[iX,h]]
   refine evl ?_
   repeat' ((conv=>whnf);first|refine O8 h ?_|refine aq ?_|apply ae<;>intro h)
   refine au [7,8,9,1] [] ?_;exact ww l k hl ln hln r (done++[x])  _ _ _ (n+1) (by simp[e]) (by simp[hn]<;>omega)
theorem pG (l:CF)(hl:l.length<2^40)(k:B5):ag G 630 [.sl 1 (l.map ah),.str k] [] ⟨.bool (iX l k),[]⟩:=by
 have m1:=ml l ah;refine gvB (F:=QZ) ?_;refine au [7,8,9,1] [] ?_;rw[m1];exact ww l k hl _ rfl l [] _ _ _ 0 rfl rfl
structure Kn where
 a:CF
 b:CF
 c:CF
 d:CF
def Kn.enc (k:Kn):B7:=[.sl 1 (k.a.map ah),.sl 1 (k.b.map ah),.sl 1 (k.c.map ah),.sl 1 (k.d.map ah)]
structure Kn.fit (k:Kn):Prop where
 a:k.a.length<2^40
 b:k.b.length<2^40
 c:k.c.length<2^40
 d:k.d.length<2^40
def mtN (l:CF)(m:Mat):Int:=if m.n=0/\m.pfx.addr=0/\m.pfx.len=0 then (if iX l m.name=true then 0 else 6) else 1
def mtH (m:Mat):Int:=if m.name= []/\m.n=0 then (if bu m.pfx=true then 0 else 1) else 1
def mtR (lo hi:Int)(m:Mat):Int:=if m.name= []/\m.pfx.addr=0/\m.pfx.len=0 then (if lo<=m.n/\m.n<=hi then 0 else 5) else 1
def mtE (k:Kn)(m:Mat):Int:=if m.kind=1 then mtN k.a m else if m.kind=2 then mtN k.b m else if m.kind=3 then mtN k.c m else if m.kind=7 then mtH m else
 if m.kind=4 then mtR 1 7 m else if m.kind=6 then mtR 0 16777216 m else if m.kind=8 then mtR 0 2000 m else if m.kind=5 then mtR 0 4294967295 m else 15
theorem qL (k:Kn)(hk:k.fit)(m:Mat)(hp:m.pfx.ok):ag G 594 [.agg k.enc,.agg m.enc] [] ⟨.int .i64 (mtE k m),[]⟩:=by
 have h1:ag G 178 [.agg [.int .u32 m.pfx.addr,.int .i64 m.pfx.len]] [] ⟨.bool (bu m.pfx),[]⟩:=jS m.pfx hp;have h2:=pG k.a hk.a m.name;have h3:=pG k.b hk.b m.name;have h4:=pG k.c hk.c m.name;have w (lo hi:Int):=jz m.n lo hi;obtain ⟨kind,name,n,⟨pa,pl⟩,neg⟩:=m;dsimp only at*
 by_cases k1:kind=1
 ·subst k1
  rw[mtE,Ac rfl,mtN];dsimp only;generalize iX k.a name=B at*
  by_cases c1:n=0/\pa=0/\pl=0
  ·obtain ⟨rfl,rfl,rfl⟩:=c1
   rw[Ac ⟨rfl,rfl,rfl⟩];cases B
   ·refine gvC (F:=fJ) ?_
    repeat' (first|refine aW ?_|apply ae<;>intro h)
    all_goals (refine ap ?_;rfl)
   ·refine gvC (F:=fJ) ?_
    repeat' (first|refine aW ?_|apply ae<;>intro h)
    all_goals (refine ap ?_;rfl)
  ·rw[Aa c1]
   refine gvC (F:=fJ) ?_
   repeat' (first|refine aW ?_|apply ae<;>intro h)
   all_goals try (exfalso;first|omega|(simp_all;done))
   all_goals (refine ap ?_;rfl)
 by_cases k2:kind=2
 ·subst k2
  rw[mtE,Aa k1,Ac rfl,mtN];dsimp only;generalize iX k.b name=B at*
  by_cases c1:n=0/\pa=0/\pl=0
  ·obtain ⟨rfl,rfl,rfl⟩:=c1
   rw[Ac ⟨rfl,rfl,rfl⟩];cases B
   ·refine gvC (F:=fJ) ?_
    repeat' (first|refine aW ?_|apply ae<;>intro h)
    all_goals (refine ap ?_;rfl)
   ·refine gvC (F:=fJ) ?_
    repeat' (first|refine aW ?_|apply ae<;>intro h)
    all_goals (refine ap ?_;rfl)
  ·rw[Aa c1]
   refine gvC (F:=fJ) ?_
   repeat' (first|refine aW ?_|apply ae<;>intro h)
   all_goals try (exfalso;first|omega|(simp_all;done))
   all_goals (refine ap ?_;rfl)
 by_cases k3:kind=3
 ·subst k3
  rw[mtE,Aa k1,Aa k2,Ac rfl,mtN];dsimp only;generalize iX k.c name=B at*
  by_cases c1:n=0/\pa=0/\pl=0
  ·obtain ⟨rfl,rfl,rfl⟩:=c1
   rw[Ac ⟨rfl,rfl,rfl⟩];cases B
   ·refine gvC (F:=fJ) ?_
    repeat' (first|refine aW ?_|apply ae<;>intro h)
    all_goals (refine ap ?_;rfl)
   ·refine gvC (F:=fJ) ?_
    repeat' (first|refine aW ?_|apply ae<;>intro h)
    all_goals (refine ap ?_;rfl)
  ·rw[Aa c1]
   refine gvC (F:=fJ) ?_
   repeat' (first|refine aW ?_|apply ae<;>intro h)
   all_goals try (exfalso;first|omega|(simp_all;done))
   all_goals (refine ap ?_;rfl)
 by_cases k7:kind=7
 ·subst k7
  rw[mtE,Aa k1,Aa k2,Aa k3,Ac rfl,mtH];dsimp only
  by_cases c1:name= []/\n=0
  ·obtain ⟨rfl,rfl⟩:=c1
   rw[Ac ⟨rfl,rfl⟩];generalize bu ⟨pa,pl⟩=B at*;cases B
   ·refine gvC (F:=fJ) ?_
    repeat' (first|refine aW ?_|apply ae<;>intro h)
    all_goals (refine ap ?_;rfl)
   ·refine gvC (F:=fJ) ?_
    repeat' (first|refine aW ?_|apply ae<;>intro h)
    all_goals (refine ap ?_;rfl)
  ·rw[Aa c1]
   refine gvC (F:=fJ) ?_
   repeat' (first|refine aW ?_|apply ae<;>intro h)
   all_goals try (exfalso;first|omega|(simp_all;done))
   all_goals (refine ap ?_;rfl)
 by_cases k4:kind=4
 ·subst k4
  have h5:=w 1 7;rw[mtE,Aa k1,Aa k2,Aa k3,Aa k7,Ac rfl,mtR];dsimp only
  by_cases c1:name= []/\pa=0/\pl=0
  ·obtain ⟨rfl,rfl,rfl⟩:=c1
   rw[Ac ⟨rfl,rfl,rfl⟩]
   by_cases c2:1<=n/\n<=7
   ·rw[Ak c2.1,Ak c2.2] at h5
    rw[Ac c2];refine gvC (F:=fJ) ?_
    repeat' (first|refine aW ?_|apply ae<;>intro h)
    all_goals (refine ap ?_;rfl)
   ·have e:(decide (1<=n)&&decide (n<=7))=false:=by rw[<-Bool.decide_and,Al c2]
    rw[e] at h5;rw[Aa c2];refine gvC (F:=fJ) ?_
    repeat' (first|refine aW ?_|apply ae<;>intro h)
    all_goals (refine ap ?_;rfl)
  ·rw[Aa c1]
   refine gvC (F:=fJ) ?_
   repeat' (first|refine aW ?_|apply ae<;>intro h)
   all_goals try (exfalso;first|omega|(simp_all;done))
   all_goals (refine ap ?_;rfl)
 by_cases k6:kind=6
 ·subst k6
  have h5:=w 0 16777216;rw[mtE,Aa k1,Aa k2,Aa k3,Aa k7,Aa k4,Ac rfl,mtR];dsimp only
  by_cases c1:name= []/\pa=0/\pl=0
  ·obtain ⟨rfl,rfl,rfl⟩:=c1
   rw[Ac ⟨rfl,rfl,rfl⟩]
   by_cases c2:0<=n/\n<=16777216
   ·rw[Ak c2.1,Ak c2.2] at h5
    rw[Ac c2];refine gvC (F:=fJ) ?_
    repeat' (first|refine aW ?_|apply ae<;>intro h)
    all_goals (refine ap ?_;rfl)
   ·have e:(decide (0<=n)&&decide (n<=16777216))=false:=by rw[<-Bool.decide_and,Al c2]
    rw[e] at h5;rw[Aa c2];refine gvC (F:=fJ) ?_
    repeat' (first|refine aW ?_|apply ae<;>intro h)
    all_goals (refine ap ?_;rfl)
  ·rw[Aa c1]
   refine gvC (F:=fJ) ?_
   repeat' (first|refine aW ?_|apply ae<;>intro h)
   all_goals try (exfalso;first|omega|(simp_all;done))
   all_goals (refine ap ?_;rfl)
 by_cases k8:kind=8
 ·subst k8
  have h5:=w 0 2000;rw[mtE,Aa k1,Aa k2,Aa k3,Aa k7,Aa k4,Aa k6,Ac rfl,mtR];dsimp only
  by_cases c1:name= []/\pa=0/\pl=0
  ·obtain ⟨rfl,rfl,rfl⟩:=c1
   rw[Ac ⟨rfl,rfl,rfl⟩]
   by_cases c2:0<=n/\n<=2000
   ·rw[Ak c2.1,Ak c2.2] at h5
    rw[Ac c2];refine gvC (F:=fJ) ?_
    repeat' (first|refine aW ?_|apply ae<;>intro h)
    all_goals (refine ap ?_;rfl)
   ·have e:(decide (0<=n)&&decide (n<=2000))=false:=by rw[<-Bool.decide_and,Al c2]
    rw[e] at h5;rw[Aa c2];refine gvC (F:=fJ) ?_
    repeat' (first|refine aW ?_|apply ae<;>intro h)
    all_goals (refine ap ?_;rfl)
  ·rw[Aa c1]
   refine gvC (F:=fJ) ?_
   repeat' (first|refine aW ?_|apply ae<;>intro h)
   all_goals try (exfalso;first|omega|(simp_all;done))
   all_goals (refine ap ?_;rfl)
 by_cases k5:kind=5
 ·subst k5
  have h5:=w 0 4294967295;rw[mtE,Aa k1,Aa k2,Aa k3,Aa k7,Aa k4,Aa k6,Aa k8,Ac rfl,mtR];dsimp only
  by_cases c1:name= []/\pa=0/\pl=0
  ·obtain ⟨rfl,rfl,rfl⟩:=c1
   rw[Ac ⟨rfl,rfl,rfl⟩]
   by_cases c2:0<=n/\n<=4294967295
   ·rw[Ak c2.1,Ak c2.2] at h5
    rw[Ac c2];refine gvC (F:=fJ) ?_
    repeat' (first|refine aW ?_|apply ae<;>intro h)
    all_goals (refine ap ?_;rfl)
   ·have e:(decide (0<=n)&&decide (n<=4294967295))=false:=by rw[<-Bool.decide_and,Al c2]
    rw[e] at h5;rw[Aa c2];refine gvC (F:=fJ) ?_
    repeat' (first|refine aW ?_|apply ae<;>intro h)
    all_goals (refine ap ?_;rfl)
  ·rw[Aa c1]
   refine gvC (F:=fJ) ?_
   repeat' (first|refine aW ?_|apply ae<;>intro h)
   all_goals try (exfalso;first|omega|(simp_all;done))
   all_goals (refine ap ?_;rfl)
 rw[mtE,Aa k1,Aa k2,Aa k3,Aa k7,Aa k4,Aa k6,Aa k8,Aa k5];refine gvC (F:=fJ) ?_
 repeat' (first|refine aW ?_|apply ae<;>intro h)
 all_goals (refine ap ?_;rfl)
end Go.AM.IR
