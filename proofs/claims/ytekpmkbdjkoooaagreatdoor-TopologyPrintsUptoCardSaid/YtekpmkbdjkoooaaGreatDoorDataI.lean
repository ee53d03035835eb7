/- What the functions of this program give, on the abstract machine. -/
import Derived.Test.YtekpmkbdjkoooaaGreatDoorDataG
import Derived.Test.YtekpmkbdjkoooaaGreatDoorDataF
import Derived.Test.YtekpmkbdjkoooaaGreatDoorDataH
set_option linter.unusedVariables false
set_option linter.unusedSimpArgs false
set_option maxHeartbeats 4000000
set_option maxRecDepth 20000
namespace Go.AM.IR
theorem zc (s:List UInt8)(hs:s.length<2^40): ∀(rest done:List UInt8)(T:TV)(H:aw)(c:Nat)(n:Int)(e:s=done++rest)(hn:n=done.length),
  Ev G ⟨ace,⟨(7,.int .i64 n)::(0,.str s)::(6,.int .i64 s.length)::T,H,c⟩,[.t 2],0⟩ ⟨.bool (rest.all nmC&&(decide (1≤s.length)&&decide ((s.length:Int)≤32))),[]⟩
 | [],done,T,H,c,n,e,hn=>by
  have hd:=md0 e
  by_cases h1:1≤s.length
  ·rw[Al h1]
   refine evA ?_;refine ag ?_;rfl
  ·rw[An h1]
   refine evA ?_;refine ag ?_;rfl
 |x::rest,done,T,H,c,n,e,hn=>by
  have hd:=md e;have hb:=idx_at e hn;have ih:=fun T H c=>zc s hs rest (done++[x]) T H c (n+1) (by simp[e]) (by simp[hn])
  rw[List.all_cons]
  by_cases hc:nmC x=true
  ·rw[hc,BK]
   have h:=hc;unfold nmC at h;simp only[BO,Av,beq_iff_eq,AO] at h;refine evl ?_
   repeat' (first|refine cg ?_|(refine ae ?_ ?_<;>intro h))
   all_goals try (exfalso;omega)
   all_goals (refine ab [7,0,6] [] ?_
              exact ih _ _ _)
  ·have h:=hc
   rw[AR] at hc;rw[hc,BF,BF];unfold nmC at h;simp only[BO,Av,beq_iff_eq,AO] at h;refine evl ?_
   repeat' (first|refine cg ?_|(refine ae ?_ ?_<;>intro h))
   all_goals try (exfalso;omega)
   all_goals (refine ag ?_;rfl)
theorem vH (s:List UInt8)(hs:s.length<2^40):ah G 623 [.str s] [] ⟨.bool (nmB s),[]⟩:=by
 refine gvB (F:=Vo) ?_;refine ab [7,0,6] [] ?_;exact zc s hs s [] _ _ _ 0 rfl rfl
theorem jd (n l h:Int):ah G 581 [.int .i64 n,.int .i64 l,.int .i64 h] [] ⟨.bool (decide (l≤n)&&decide (n≤h)),[]⟩:=by
 by_cases a:l≤n
 ·rw[Al a]
  exact gvA (F:=VL)
 ·rw[An a]
  exact gvA (F:=VL)
theorem Ou (r:ComR):ah G 520 [.agg r.enc] [] ⟨.int .i64 (cy r),[]⟩:=by
 have h1:=jd r.high (-1) 65535;have h2:=jd r.low (-1) 65535;unfold cy;generalize hx:(decide (-1≤r.high)&&decide (r.high≤65535))=x at*;generalize hy:(decide (-1≤r.low)&&decide (r.low≤65535))=y at*;cases x
 ·simp only[Bool.and_eq_false_iff,AP] at hx
  refine gvB (F:=Nw) ?_;refine ag ?_
  (repeat' split)<;>first|rfl|(exfalso;omega)
 ·simp only[Av,AO] at hx
  rw[Ac (by omega),Ac (by omega)]
  cases y
  ·simp only[Bool.and_eq_false_iff,AP] at hy
   refine gvB (F:=Nw) ?_;refine ag ?_
   (repeat' split)<;>first|rfl|(exfalso;omega)
  ·simp only[Av,AO] at hy
   rw[Ac (by omega),Ac (by omega)]
   exact gvA (F:=Nw)
def aX (s:List UInt8):List AV:=[.str s]
@[simp] theorem vu: ∀l:List (List UInt8),aG (l.map aX)=true
 | []=>rfl
 |x::r=>by simp only[Ao,aG,vu r];simp[aX,aU,AV.pure]
def jn (before:List (List UInt8))(name:List UInt8):Int:=if nmB name=false then 1 else match before.getLast? with
 |none=>0
 |some b=>if (Op.bytesLess name b||name==b)=true then 16 else 0
theorem kH (before:List (List UInt8))(name:List UInt8)(hn:name.length<2^40)(hb:before.length<2^40):ah G 577 [.sl 1 (before.map aX),.str name] [] ⟨.int .i64 (jn before name),[]⟩:=by
 have h1:=vH name hn;have m1:=ml before aX;unfold jn;cases hq:nmB name
 ·rw[hq] at h1
  rw[Ad rfl];exact gvA (F:=CU)
 rw[hq] at h1;rw[Ac (by simp)]
 cases hl:before.getLast? with
 |none=>
  have h0:before= []:=by simpa using hl
  subst h0;exact gvA (F:=CU)
 |some b=>
  have hne:0<before.length:=by
   cases before with
   |nil=>simp at hl
   |cons x r=>simp
  have hx:(before.map aX)[((before.length:Int)-1).toNat]? =some [.str b]:=by
   rw[List.getLast?_eq_getElem?] at hl;have:((before.length:Int)-1).toNat=before.length-1:=by omega
   rw[this,B7,hl];rfl
  rw[←m1] at hx;dsimp only;rcases hv:(Op.bytesLess name b||name==b) with _|_
  ·refine gvC (F:=CU) ?_
   repeat' ((conv=>whnf);first|refine aaN hv ?_|refine au ?_|(refine ae ?_ ?_<;>intro h))
   refine ag ?_;rfl
  ·refine gvC (F:=CU) ?_
   repeat' ((conv=>whnf);first|refine aaN hv ?_|refine au ?_|(refine ae ?_ ?_<;>intro h))
   refine ag ?_;rfl
end Go.AM.IR
namespace Go.AM.IR
def fE (l:List (List UInt8))(k:List UInt8):Bool:=l.any fun x=>decide (x=k)
abbrev NmL:=List UInt8
theorem vN (l:List NmL)(k:List UInt8)(hl:l.length<2^40)(ln:Int)(hln:ln=l.length): ∀(rest done:List NmL)(T:TV)(H:aw)(c:Nat)(n:Int)(e:l=done++rest)(hn:n=done.length),Ev G ⟨aca,⟨(7,.sl 1 (l.map aX))::(8,.int .i64 ln)::(9,.int .i64 n)::(1,.str k)::T,H,c⟩,[.t 4],0⟩ (⟨.bool (fE rest k),[]⟩)
 | [],done,  T,H,c,n,e,hn=>by
  have hd:=md0 e;have hll:=ml l aX;refine evA ?_;refine ag ?_;rfl
 |x::r,done,  T,H,c,n,e,hn=>by
  have hd:=md e;have hll:=ml l aX;have hx:=mx aX e hn
  by_cases h:x=k
  ·rw[show fE (x::r) k=true from by simp[fE,h]]
   refine evl ?_
   repeat' ((conv=>whnf);first|refine Ud h ?_|refine au ?_|(refine ae ?_ ?_<;>intro h))
   refine ag ?_;rfl
  ·rw[show fE (x::r) k=fE r k from by simp[fE,h]]
   refine evl ?_
   repeat' ((conv=>whnf);first|refine wl h ?_|refine au ?_|(refine ae ?_ ?_<;>intro h))
   refine ab [7,8,9,1] [] ?_;exact vN l k hl ln hln r (done++[x])  _ _ _ (n+1) (by simp[e]) (by simp[hn]<;>omega)
theorem pu (l:List (List UInt8))(hl:l.length<2^40)(k:List UInt8):ah G 630 [.sl 1 (l.map aX),.str k] [] ⟨.bool (fE l k),[]⟩:=by
 have m1:=ml l aX;refine gvB (F:=Vm) ?_;refine ab [7,8,9,1] [] ?_;rw[m1];exact vN l k hl _ rfl l [] _ _ _ 0 rfl rfl
structure Kn where
 a:List (List UInt8)
 b:List (List UInt8)
 c:List (List UInt8)
 d:List (List UInt8)
def Kn.enc (k:Kn):List AV:=[.sl 1 (k.a.map aX),.sl 1 (k.b.map aX),.sl 1 (k.c.map aX),.sl 1 (k.d.map aX)]
structure Kn.fit (k:Kn):Prop where
 a:k.a.length<2^40
 b:k.b.length<2^40
 c:k.c.length<2^40
 d:k.d.length<2^40
def mtN (l:List (List UInt8))(m:Mat):Int:=if m.n=0∧m.pfx.addr=0∧m.pfx.len=0 then (if fE l m.name=true then 0 else 6) else 1
def mtH (m:Mat):Int:=if m.name= []∧m.n=0 then (if aW m.pfx=true then 0 else 1) else 1
def mtR (lo hi:Int)(m:Mat):Int:=if m.name= []∧m.pfx.addr=0∧m.pfx.len=0 then (if lo≤m.n∧m.n≤hi then 0 else 5) else 1
def mtE (k:Kn)(m:Mat):Int:=if m.kind=1 then mtN k.a m else if m.kind=2 then mtN k.b m else if m.kind=3 then mtN k.c m else if m.kind=7 then mtH m else
 if m.kind=4 then mtR 1 7 m else if m.kind=6 then mtR 0 16777216 m else if m.kind=8 then mtR 0 2000 m else if m.kind=5 then mtR 0 4294967295 m else 15
theorem QN (k:Kn)(hk:k.fit)(m:Mat)(hp:m.pfx.ok):ah G 594 [.agg k.enc,.agg m.enc] [] ⟨.int .i64 (mtE k m),[]⟩:=by
 have h1:ah G 178 [.agg [.int .u32 m.pfx.addr,.int .i64 m.pfx.len]] [] ⟨.bool (aW m.pfx),[]⟩:=dZ m.pfx hp;have h2:=pu k.a hk.a m.name;have h3:=pu k.b hk.b m.name;have h4:=pu k.c hk.c m.name;have w (lo hi:Int):=jd m.n lo hi;obtain ⟨kind,name,n,⟨pa,pl⟩,neg⟩:=m;dsimp only at*
 by_cases k1:kind=1
 ·subst k1
  rw[mtE,Ad rfl,mtN];dsimp only;generalize fE k.a name=B at*
  by_cases c1:n=0∧pa=0∧pl=0
  ·obtain ⟨rfl,rfl,rfl⟩:=c1
   rw[Ad ⟨rfl,rfl,rfl⟩];cases B
   ·refine gvC (F:=fm) ?_
    repeat' (first|refine bc ?_|(refine ae ?_ ?_<;>intro h))
    all_goals (refine ag ?_;rfl)
   ·refine gvC (F:=fm) ?_
    repeat' (first|refine bc ?_|(refine ae ?_ ?_<;>intro h))
    all_goals (refine ag ?_;rfl)
  ·rw[Ac c1]
   refine gvC (F:=fm) ?_
   repeat' (first|refine bc ?_|(refine ae ?_ ?_<;>intro h))
   all_goals try (exfalso;first|omega|(simp_all;done))
   all_goals (refine ag ?_;rfl)
 by_cases k2:kind=2
 ·subst k2
  rw[mtE,Ac k1,Ad rfl,mtN];dsimp only;generalize fE k.b name=B at*
  by_cases c1:n=0∧pa=0∧pl=0
  ·obtain ⟨rfl,rfl,rfl⟩:=c1
   rw[Ad ⟨rfl,rfl,rfl⟩];cases B
   ·refine gvC (F:=fm) ?_
    repeat' (first|refine bc ?_|(refine ae ?_ ?_<;>intro h))
    all_goals (refine ag ?_;rfl)
   ·refine gvC (F:=fm) ?_
    repeat' (first|refine bc ?_|(refine ae ?_ ?_<;>intro h))
    all_goals (refine ag ?_;rfl)
  ·rw[Ac c1]
   refine gvC (F:=fm) ?_
   repeat' (first|refine bc ?_|(refine ae ?_ ?_<;>intro h))
   all_goals try (exfalso;first|omega|(simp_all;done))
   all_goals (refine ag ?_;rfl)
 by_cases k3:kind=3
 ·subst k3
  rw[mtE,Ac k1,Ac k2,Ad rfl,mtN];dsimp only;generalize fE k.c name=B at*
  by_cases c1:n=0∧pa=0∧pl=0
  ·obtain ⟨rfl,rfl,rfl⟩:=c1
   rw[Ad ⟨rfl,rfl,rfl⟩];cases B
   ·refine gvC (F:=fm) ?_
    repeat' (first|refine bc ?_|(refine ae ?_ ?_<;>intro h))
    all_goals (refine ag ?_;rfl)
   ·refine gvC (F:=fm) ?_
    repeat' (first|refine bc ?_|(refine ae ?_ ?_<;>intro h))
    all_goals (refine ag ?_;rfl)
  ·rw[Ac c1]
   refine gvC (F:=fm) ?_
   repeat' (first|refine bc ?_|(refine ae ?_ ?_<;>intro h))
   all_goals try (exfalso;first|omega|(simp_all;done))
   all_goals (refine ag ?_;rfl)
 by_cases k7:kind=7
 ·subst k7
  rw[mtE,Ac k1,Ac k2,Ac k3,Ad rfl,mtH];dsimp only
  by_cases c1:name= []∧n=0
  ·obtain ⟨rfl,rfl⟩:=c1
   rw[Ad ⟨rfl,rfl⟩];generalize aW ⟨pa,pl⟩=B at*;cases B
   ·refine gvC (F:=fm) ?_
    repeat' (first|refine bc ?_|(refine ae ?_ ?_<;>intro h))
    all_goals (refine ag ?_;rfl)
   ·refine gvC (F:=fm) ?_
    repeat' (first|refine bc ?_|(refine ae ?_ ?_<;>intro h))
    all_goals (refine ag ?_;rfl)
  ·rw[Ac c1]
   refine gvC (F:=fm) ?_
   repeat' (first|refine bc ?_|(refine ae ?_ ?_<;>intro h))
   all_goals try (exfalso;first|omega|(simp_all;done))
   all_goals (refine ag ?_;rfl)
 by_cases k4:kind=4
 ·subst k4
  have h5:=w 1 7;rw[mtE,Ac k1,Ac k2,Ac k3,Ac k7,Ad rfl,mtR];dsimp only
  by_cases c1:name= []∧pa=0∧pl=0
  ·obtain ⟨rfl,rfl,rfl⟩:=c1
   rw[Ad ⟨rfl,rfl,rfl⟩]
   by_cases c2:1≤n∧n≤7
   ·rw[Al c2.1,Al c2.2] at h5
    rw[Ad c2];refine gvC (F:=fm) ?_
    repeat' (first|refine bc ?_|(refine ae ?_ ?_<;>intro h))
    all_goals (refine ag ?_;rfl)
   ·have e:(decide (1≤n)&&decide (n≤7))=false:=by rw[←Bool.decide_and,An c2]
    rw[e] at h5;rw[Ac c2];refine gvC (F:=fm) ?_
    repeat' (first|refine bc ?_|(refine ae ?_ ?_<;>intro h))
    all_goals (refine ag ?_;rfl)
  ·rw[Ac c1]
   refine gvC (F:=fm) ?_
   repeat' (first|refine bc ?_|(refine ae ?_ ?_<;>intro h))
   all_goals try (exfalso;first|omega|(simp_all;done))
   all_goals (refine ag ?_;rfl)
 by_cases k6:kind=6
 ·subst k6
  have h5:=w 0 16777216;rw[mtE,Ac k1,Ac k2,Ac k3,Ac k7,Ac k4,Ad rfl,mtR];dsimp only
  by_cases c1:name= []∧pa=0∧pl=0
  ·obtain ⟨rfl,rfl,rfl⟩:=c1
   rw[Ad ⟨rfl,rfl,rfl⟩]
   by_cases c2:0≤n∧n≤16777216
   ·rw[Al c2.1,Al c2.2] at h5
    rw[Ad c2];refine gvC (F:=fm) ?_
    repeat' (first|refine bc ?_|(refine ae ?_ ?_<;>intro h))
    all_goals (refine ag ?_;rfl)
   ·have e:(decide (0≤n)&&decide (n≤16777216))=false:=by rw[←Bool.decide_and,An c2]
    rw[e] at h5;rw[Ac c2];refine gvC (F:=fm) ?_
    repeat' (first|refine bc ?_|(refine ae ?_ ?_<;>intro h))
    all_goals (refine ag ?_;rfl)
  ·rw[Ac c1]
   refine gvC (F:=fm) ?_
   repeat' (first|refine bc ?_|(refine ae ?_ ?_<;>intro h))
   all_goals try (exfalso;first|omega|(simp_all;done))
   all_goals (refine ag ?_;rfl)
 by_cases k8:kind=8
 ·subst k8
  have h5:=w 0 2000;rw[mtE,Ac k1,Ac k2,Ac k3,Ac k7,Ac k4,Ac k6,Ad rfl,mtR];dsimp only
  by_cases c1:name= []∧pa=0∧pl=0
  ·obtain ⟨rfl,rfl,rfl⟩:=c1
   rw[Ad ⟨rfl,rfl,rfl⟩]
   by_cases c2:0≤n∧n≤2000
   ·rw[Al c2.1,Al c2.2] at h5
    rw[Ad c2];refine gvC (F:=fm) ?_
    repeat' (first|refine bc ?_|(refine ae ?_ ?_<;>intro h))
    all_goals (refine ag ?_;rfl)
   ·have e:(decide (0≤n)&&decide (n≤2000))=false:=by rw[←Bool.decide_and,An c2]
    rw[e] at h5;rw[Ac c2];refine gvC (F:=fm) ?_
    repeat' (first|refine bc ?_|(refine ae ?_ ?_<;>intro h))
    all_goals (refine ag ?_;rfl)
  ·rw[Ac c1]
   refine gvC (F:=fm) ?_
   repeat' (first|refine bc ?_|(refine ae ?_ ?_<;>intro h))
   all_goals try (exfalso;first|omega|(simp_all;done))
   all_goals (refine ag ?_;rfl)
 by_cases k5:kind=5
 ·subst k5
  have h5:=w 0 4294967295;rw[mtE,Ac k1,Ac k2,Ac k3,Ac k7,Ac k4,Ac k6,Ac k8,Ad rfl,mtR];dsimp only
  by_cases c1:name= []∧pa=0∧pl=0
  ·obtain ⟨rfl,rfl,rfl⟩:=c1
   rw[Ad ⟨rfl,rfl,rfl⟩]
   by_cases c2:0≤n∧n≤4294967295
   ·rw[Al c2.1,Al c2.2] at h5
    rw[Ad c2];refine gvC (F:=fm) ?_
    repeat' (first|refine bc ?_|(refine ae ?_ ?_<;>intro h))
    all_goals (refine ag ?_;rfl)
   ·have e:(decide (0≤n)&&decide (n≤4294967295))=false:=by rw[←Bool.decide_and,An c2]
    rw[e] at h5;rw[Ac c2];refine gvC (F:=fm) ?_
    repeat' (first|refine bc ?_|(refine ae ?_ ?_<;>intro h))
    all_goals (refine ag ?_;rfl)
  ·rw[Ac c1]
   refine gvC (F:=fm) ?_
   repeat' (first|refine bc ?_|(refine ae ?_ ?_<;>intro h))
   all_goals try (exfalso;first|omega|(simp_all;done))
   all_goals (refine ag ?_;rfl)
 rw[mtE,Ac k1,Ac k2,Ac k3,Ac k7,Ac k4,Ac k6,Ac k8,Ac k5];refine gvC (F:=fm) ?_
 repeat' (first|refine bc ?_|(refine ae ?_ ?_<;>intro h))
 all_goals (refine ag ?_;rfl)
end Go.AM.IR
