/- What functions of this program give. -/
import Derived.Test.YtomphmeopjpejaaGreatDoorDataU
set_option linter.unusedSectionVars false
set_option linter.unusedVariables false
set_option linter.unusedSimpArgs false
set_option maxHeartbeats 4000000
set_option maxRecDepth 20000
namespace Go.AM.IR
theorem jI (pre:CL)(pa:CO)(co:CS)(ms:C9)(acs:C8)(r:CF):ab (pre.map PList.enc)=true/\ab (pa.map PathL.enc)=true/\ab (co.map ComL.enc)=true/\ab (ms.map Mat.enc)=true/\ab (acs.map Actn.enc)=true/\(ms.map Mat.enc).length=ms.length/\(acs.map Actn.enc).length=acs.length/\ab (r.map ah)=true/\(r.map ah).length=r.length/\(pre.map PList.enc).length=pre.length/\(pa.map PathL.enc).length=pa.length/\(co.map ComL.enc).length=co.length:=by simp
theorem mq {f:Nat}{w:B5}{rr:B6}(q:ab rr=true):(∀{R:Ret},ag G f [.sl 1 rr] [] R->ag G f [.sl 1 (List.take (([AV.str w]::rr).length-Int.toNat 1) (List.drop (Int.toNat 1) ([AV.str w]::rr)))] [] R)/\aM [AV.sl 1 (List.take (([AV.str w]::rr).length-Int.toNat 1) (List.drop (Int.toNat 1) ([AV.str w]::rr)))]=true:=by
 rw[show (List.take (([AV.str w]::rr).length-Int.toNat 1) (List.drop (Int.toNat 1) ([AV.str w]::rr)))=rr from by simp]
 exact ⟨λh=>h,by simp[aM,AV.pure,q]⟩
section
variable {pre:CL}{pa:CO}{co:CS}{e4:B6}{ts:B6}{ms:C9}{acs:C8}(p4:ab e4=true)(pt:ab ts=true){mo:Int}(l1:pre.length<2^30)(l2:pa.length<2^30)(l3:co.length<2^30)(l4:e4.length<2^30)(l5:ts.length<2^30)(l6:ms.length<2^29)(l7:acs.length<2^29){nm tn:B5}(w:B5)(r:CF)(hr:r.length<2^30)(hw: ∀u∈r,u.length<2^30)
include p4 pt l1 l2 l3 l4 l5 l6 l7 hr hw
theorem ac2 (hm:w=cI)(h5:mo=5)(hb:(mtS r).2=false):ag G 601 [.ref 0 0 0,.sl 1 ([.str w]::r.map ah)] (rdD mo (pre.map PList.enc) (pa.map PathL.enc) (co.map ComL.enc) e4 nm ts tn (ms.map Mat.enc) (acs.map Actn.enc)) ⟨.int .i64 2,roD mo (pre.map PList.enc) (pa.map PathL.enc) (co.map ComL.enc) e4 nm ts tn (ms.map Mat.enc).length (acs.map Actn.enc).length 0 true true (ms.map Mat.enc) (acs.map Actn.enc)⟩:=by
 subst h5 hm;unfold rdD roD rdc;obtain ⟨u1,u2,u3,u6,u7,m6,m7,q1,q2,w1,w2,w3⟩:=jI pre pa co ms acs r;rw[w1,w2,w3,m6,m7];generalize hn:e4.length+1=n;generalize hk:ts.length+1=k;have h1:=qF r (by omega) (λu hu=>by have:=hw u hu;omega)
 unfold Jd Mat.enc at h1;rw[hb] at h1;generalize (mtS r).1=x at*;obtain ⟨kd,mn,mN,⟨mpa,mpl⟩,ng⟩:=x;dsimp only at*;unfold cI;generalize r.map ah=rr at*;have m8:([AV.str [109,97,116,99,104]]::rr).length=rr.length+1:=rfl;obtain ⟨h9,hP⟩:=mq (f:=634) (w:=[109,97,116,99,104]) q1;have h1:=h9 h1;refine gvC (F:=ma) ?_
 repeat' ((conv=>whnf);first|refine And.intro (by first|(simp;done)|(simp;omega)) ?_|refine bj ?_|refine aG (by decide) ?_|refine en rfl ?_|refine cy hk ?_|refine cy hn ?_|refine ia hk ?_|refine aq ?_|refine kV h1 ?_ (hp':=hP)|apply ae<;>intro h)
 subst hn hk;exact bi shD t8
section
variable (po:C0)(hm:w=cI)(h5:mo=5)(hb:(mtS r).2=true)(hp:(mtS r).1.pfx.ok)
include po hm h5 hb hp
theorem Yj (hk2:64<=ms.length):ag G 601 [.ref 0 0 0,.sl 1 ([.str w]::r.map ah)] (rdD mo (pre.map PList.enc) (pa.map PathL.enc) (co.map ComL.enc) e4 nm ts tn (ms.map Mat.enc) (acs.map Actn.enc)) ⟨.int .i64 4,roD mo (pre.map PList.enc) (pa.map PathL.enc) (co.map ComL.enc) e4 nm ts tn (ms.length+1) (acs.map Actn.enc).length 0 false true (ms.map Mat.enc++[(mtS r).1.enc]) (acs.map Actn.enc)⟩:=by
 subst h5 hm;unfold rdD roD rdc;obtain ⟨u1,u2,u3,u6,u7,m6,m7,q1,q2,w1,w2,w3⟩:=jI pre pa co ms acs r;rw[w1,w2,w3,m6,m7];generalize hn:e4.length+1=n;generalize hk:ts.length+1=k;have h1:=qF r (by omega) (λu hu=>by have:=hw u hu;omega)
 unfold Jd Mat.enc at h1;rw[hb] at h1;have h2:=dq ((ms.length+1:Nat):Int);rw[Ac (by omega)] at h2
 generalize (mtS r).1=x at*;obtain ⟨kd,mn,mN,⟨mpa,mpl⟩,ng⟩:=x;unfold Mat.enc at*;dsimp only at*;unfold cI;generalize r.map ah=rr at*;have m8:([AV.str [109,97,116,99,104]]::rr).length=rr.length+1:=rfl;obtain ⟨h9,hP⟩:=mq (f:=634) (w:=[109,97,116,99,104]) q1;have h1:=h9 h1;refine gvC (F:=ma) ?_
 repeat' ((conv=>whnf);first|refine And.intro (by first|(simp;done)|(simp;omega)) ?_|refine bj ?_|refine aG (by decide) ?_|refine en rfl ?_|refine cy hk ?_|refine cy hn ?_|refine ia hk ?_|refine aq ?_|refine kV h1 ?_ (hp':=hP)|apply ae<;>intro h)
 rw[hsL hk];subst hn hk;exact bi shD [true,true,true,true,true,true,false,true]
theorem ac3 (hk2:ms.length<64):ag G 601 [.ref 0 0 0,.sl 1 ([.str w]::r.map ah)] (rdD mo (pre.map PList.enc) (pa.map PathL.enc) (co.map ComL.enc) e4 nm ts tn (ms.map Mat.enc) (acs.map Actn.enc)) ⟨.int .i64 (ip ⟨pre,pa,co,po⟩ (mtS r).1),roD mo (pre.map PList.enc) (pa.map PathL.enc) (co.map ComL.enc) e4 nm ts tn (ms.length+1) (acs.map Actn.enc).length 0 false true (ms.map Mat.enc++[(mtS r).1.enc]) (acs.map Actn.enc)⟩:=by
 subst h5 hm;unfold rdD roD rdc;obtain ⟨u1,u2,u3,u6,u7,m6,m7,q1,q2,w1,w2,w3⟩:=jI pre pa co ms acs r;rw[w1,w2,w3,m6,m7];generalize hn:e4.length+1=n;generalize hk:ts.length+1=k;have h1:=qF r (by omega) (λu hu=>by have:=hw u hu;omega)
 unfold Jd Mat.enc at h1;rw[hb] at h1;have h2:=dq ((ms.length+1:Nat):Int);rw[Aa (by omega)] at h2
 have h3:=EZ (pre:=pre) (pa:=pa) (co:=co) p4 pt (ms:=ms.map Mat.enc++[(mtS r).1.enc]) (acs:=acs.map Actn.enc) (by rw[dx,u6];rfl) u7 l1 l2 l3 l4 l5 (by simp;omega) (by simp;omega) (nm:=nm) (tn:=tn) po (mtS r).1 hp
 have ml:(ms.map Mat.enc++[(mtS r).1.enc]).length=ms.length+1:=by simp
 unfold rdM rdS roM at h3;rw[ml,m7,hn,hk] at h3;generalize (mtS r).1=x at*;obtain ⟨kd,mn,mN,⟨mpa,mpl⟩,ng⟩:=x;unfold Mat.enc at*;dsimp only at*;unfold cI;generalize r.map ah=rr at*;have m8:([AV.str [109,97,116,99,104]]::rr).length=rr.length+1:=rfl;obtain ⟨h9,hP⟩:=mq (f:=634) (w:=[109,97,116,99,104]) q1;have h1:=h9 h1;refine gvC (F:=ma) ?_
 repeat' ((conv=>whnf);first|refine And.intro (by first|(simp;done)|(simp;omega)) ?_|refine bj ?_|refine aG (by decide) ?_|refine en rfl ?_|refine cy hk ?_|refine cy hn ?_|refine ia hk ?_|refine aq ?_|refine kV h1 ?_ (hp':=hP)|apply ae<;>intro h)
 rw[hsL hk];refine kP [(1,_,.vec _ _),(2,_,.vec _ _),(3,_,.vec _ _),(4,_,.nest _ _ _),(5,_,.nest _ _ _),(6,_,.vec _ _),(7,_,.vec _ _)] [] Ph trivial h3 ?_
 repeat' (first|refine aW ?_|apply ae<;>intro h)
 (conv=>whnf)
 subst hn hk;exact bi shD [true,true,true,true,true,true,false,true]
end
theorem ac4 (hm:w=fY)(hb:(iO r).2=false):ag G 601 [.ref 0 0 0,.sl 1 ([.str w]::r.map ah)] (rdD mo (pre.map PList.enc) (pa.map PathL.enc) (co.map ComL.enc) e4 nm ts tn (ms.map Mat.enc) (acs.map Actn.enc)) ⟨.int .i64 2,roD mo (pre.map PList.enc) (pa.map PathL.enc) (co.map ComL.enc) e4 nm ts tn (ms.map Mat.enc).length (acs.map Actn.enc).length 0 true true (ms.map Mat.enc) (acs.map Actn.enc)⟩:=by
 subst hm;unfold rdD roD rdc;obtain ⟨u1,u2,u3,u6,u7,m6,m7,q1,q2,w1,w2,w3⟩:=jI pre pa co ms acs r;rw[w1,w2,w3,m6,m7];generalize hn:e4.length+1=n;generalize hk:ts.length+1=k;have h1:=qH r hr hw;unfold xQ Actn.enc at h1;rw[hb] at h1;generalize (iO r).1=x at*;obtain ⟨kd,aN,as_,ac,aa⟩:=x;dsimp only at*;unfold fY;generalize r.map ah=rr at*;have m8:([AV.str [115,101,116]]::rr).length=rr.length+1:=rfl;obtain ⟨h9,hP⟩:=mq (f:=635) (w:=[115,101,116]) q1;have h1:=h9 h1;refine gvC (F:=ma) ?_
 repeat' ((conv=>whnf);first|refine And.intro (by first|(simp;done)|(simp;omega)) ?_|refine bj ?_|refine aG (by decide) ?_|refine en rfl ?_|refine cy hk ?_|refine cy hn ?_|refine ia hk ?_|refine aq ?_|refine kV h1 ?_ (hp':=hP)|apply ae<;>intro h)
 subst hn hk;exact bi shD t8
theorem Yk (hm:w=fY)(hb:(iO r).2=true)(hk2:64<=acs.length):ag G 601 [.ref 0 0 0,.sl 1 ([.str w]::r.map ah)] (rdD mo (pre.map PList.enc) (pa.map PathL.enc) (co.map ComL.enc) e4 nm ts tn (ms.map Mat.enc) (acs.map Actn.enc)) ⟨.int .i64 4,roD 6 (pre.map PList.enc) (pa.map PathL.enc) (co.map ComL.enc) e4 nm ts tn (ms.map Mat.enc).length (acs.length+1) 0 true false (ms.map Mat.enc) (acs.map Actn.enc++[(iO r).1.enc])⟩:=by
 subst hm;unfold rdD roD rdc;obtain ⟨u1,u2,u3,u6,u7,m6,m7,q1,q2,w1,w2,w3⟩:=jI pre pa co ms acs r;rw[w1,w2,w3,m6,m7];generalize hn:e4.length+1=n;generalize hk:ts.length+1=k;have h1:=qH r hr hw;unfold xQ Actn.enc at h1;rw[hb] at h1;have h2:=dq ((acs.length+1:Nat):Int);rw[Ac (by omega)] at h2
 have h3:=u5 (iO r).1;generalize gx (iO r).1=E at*;generalize (iO r).1=x at*;obtain ⟨kd,aN,as_,ac,aa⟩:=x;unfold Actn.enc at*;dsimp only at*;unfold fY;generalize r.map ah=rr at*;have m8:([AV.str [115,101,116]]::rr).length=rr.length+1:=rfl;obtain ⟨h9,hP⟩:=mq (f:=635) (w:=[115,101,116]) q1;have h1:=h9 h1;refine gvC (F:=ma) ?_
 repeat' ((conv=>whnf);first|refine And.intro (by first|(simp;done)|(simp;omega)) ?_|refine bj ?_|refine aG (by decide) ?_|refine en rfl ?_|refine cy hk ?_|refine cy hn ?_|refine ia hk ?_|refine aq ?_|refine kV h1 ?_ (hp':=hP)|apply ae<;>intro h)
 rw[hsL hk];subst hn hk;exact bi shD [true,true,true,true,true,true,true,false]
theorem ac5 (hm:w=fY)(hb:(iO r).2=true)(hk2:acs.length<64):ag G 601 [.ref 0 0 0,.sl 1 ([.str w]::r.map ah)] (rdD mo (pre.map PList.enc) (pa.map PathL.enc) (co.map ComL.enc) e4 nm ts tn (ms.map Mat.enc) (acs.map Actn.enc)) ⟨.int .i64 (gx (iO r).1),roD 6 (pre.map PList.enc) (pa.map PathL.enc) (co.map ComL.enc) e4 nm ts tn (ms.map Mat.enc).length (acs.length+1) 0 true false (ms.map Mat.enc) (acs.map Actn.enc++[(iO r).1.enc])⟩:=by
 subst hm;unfold rdD roD rdc;obtain ⟨u1,u2,u3,u6,u7,m6,m7,q1,q2,w1,w2,w3⟩:=jI pre pa co ms acs r;rw[w1,w2,w3,m6,m7];generalize hn:e4.length+1=n;generalize hk:ts.length+1=k;have h1:=qH r hr hw;unfold xQ Actn.enc at h1;rw[hb] at h1;have h2:=dq ((acs.length+1:Nat):Int);rw[Aa (by omega)] at h2
 have h3:=u5 (iO r).1;generalize gx (iO r).1=E at*;generalize (iO r).1=x at*;obtain ⟨kd,aN,as_,ac,aa⟩:=x;unfold Actn.enc at*;dsimp only at*;unfold fY;generalize r.map ah=rr at*;have m8:([AV.str [115,101,116]]::rr).length=rr.length+1:=rfl;obtain ⟨h9,hP⟩:=mq (f:=635) (w:=[115,101,116]) q1;have h1:=h9 h1;refine gvC (F:=ma) ?_
 repeat' ((conv=>whnf);first|refine And.intro (by first|(simp;done)|(simp;omega)) ?_|refine bj ?_|refine aG (by decide) ?_|refine en rfl ?_|refine cy hk ?_|refine cy hn ?_|refine ia hk ?_|refine aq ?_|refine kV h1 ?_ (hp':=hP)|apply ae<;>intro h)
 rw[hsL hk];subst hn hk;exact bi shD [true,true,true,true,true,true,true,false]
section
variable (hm: ¬(w=cI/\mo=5))(hs:w≠fY)
include hm hs
theorem afc (hr0:r= [])(hv:cZ w≠0):ag G 601 [.ref 0 0 0,.sl 1 ([.str w]::r.map ah)] (rdD mo (pre.map PList.enc) (pa.map PathL.enc) (co.map ComL.enc) e4 nm ts tn (ms.map Mat.enc) (acs.map Actn.enc)) ⟨.int .i64 0,roD 4 (pre.map PList.enc) (pa.map PathL.enc) (co.map ComL.enc) e4 nm ts tn (ms.map Mat.enc).length (acs.map Actn.enc).length (cZ w) true true (ms.map Mat.enc) (acs.map Actn.enc)⟩:=by
 unfold rdD roD rdc;obtain ⟨u1,u2,u3,u6,u7,m6,m7,q1,q2,w1,w2,w3⟩:=jI pre pa co ms acs r;rw[w1,w2,w3,m6,m7];generalize hn:e4.length+1=n;generalize hk:ts.length+1=k;have h1:=ko w;unfold fY at hs;unfold cI at hm;subst hr0;have z: ¬cZ w=0:=hv;simp only[A6] at*;generalize cZ w=v at*
 by_cases c1:w= [109,97,116,99,104]
 ·subst c1;have c2: ¬mo=5:=λq=>hm ⟨rfl,q⟩
  refine gvC (F:=ma) ?_
  repeat' ((conv=>whnf);first|refine And.intro (by first|(simp;done)|(simp;omega)) ?_|refine bj ?_|refine aG (by decide) ?_|refine en rfl ?_|refine cy hk ?_|refine cy hn ?_|refine ia hk ?_|refine aG hs ?_|refine fu c2 ?_|refine cK rfl ?_|refine fu z ?_|refine aq ?_|apply ae<;>intro h)
  rw[hsL hk];subst hn hk;exact bi shD t8
 ·skip
  refine gvC (F:=ma) ?_
  repeat' ((conv=>whnf);first|refine And.intro (by first|(simp;done)|(simp;omega)) ?_|refine bj ?_|refine aG (by decide) ?_|refine en rfl ?_|refine cy hk ?_|refine cy hn ?_|refine ia hk ?_|refine aG hs ?_|refine aG c1 ?_|refine cK rfl ?_|refine fu z ?_|refine aq ?_|apply ae<;>intro h)
  rw[hsL hk];subst hn hk;exact bi shD t8
theorem ac1 (hb: ¬(r= []/\cZ w≠0)):ag G 601 [.ref 0 0 0,.sl 1 ([.str w]::r.map ah)] (rdD mo (pre.map PList.enc) (pa.map PathL.enc) (co.map ComL.enc) e4 nm ts tn (ms.map Mat.enc) (acs.map Actn.enc)) ⟨.int .i64 2,roD mo (pre.map PList.enc) (pa.map PathL.enc) (co.map ComL.enc) e4 nm ts tn (ms.map Mat.enc).length (acs.map Actn.enc).length (cZ w) true true (ms.map Mat.enc) (acs.map Actn.enc)⟩:=by
 unfold rdD roD rdc;obtain ⟨u1,u2,u3,u6,u7,m6,m7,q1,q2,w1,w2,w3⟩:=jI pre pa co ms acs r;rw[w1,w2,w3,m6,m7];generalize hn:e4.length+1=n;generalize hk:ts.length+1=k;have h1:=ko w;unfold fY at hs;unfold cI at hm
 have hz:(r.length≠0)∨(r.length=0/\cZ w=0):=by
  rcases r with _|⟨a,b⟩
  ·right;refine ⟨rfl,?_⟩
   by_cases q:cZ w=0
   ·exact q
   ·exact absurd ⟨rfl,q⟩ hb
  ·left;simp
 have ml: ∀u:B5,([AV.str u]::r.map ah).length=r.length+1:=λu=>by simp
 generalize cZ w=v at*;generalize r.map ah=rr at*
 by_cases c1:w= [109,97,116,99,104]
 ·subst c1;have c2: ¬mo=5:=λq=>hm ⟨rfl,q⟩
  have ml:=ml [109,97,116,99,104];rcases hz with hz|⟨hz,z⟩
  ·have z8: ¬((([AV.str [109,97,116,99,104]]::rr).length:Nat):Int)=1:=by omega
   refine gvC (F:=ma) ?_
   repeat' ((conv=>whnf);first|refine And.intro (by first|(simp;done)|(simp;omega)) ?_|refine bj ?_|refine aG (by decide) ?_|refine en rfl ?_|refine cy hk ?_|refine cy hn ?_|refine ia hk ?_|refine aG hs ?_|refine fu c2 ?_|refine ft z8 ?_|refine aq ?_|apply ae<;>intro h)
   rw[hsL hk];subst hn hk;exact bi shD t8
  ·have z8:((([AV.str [109,97,116,99,104]]::rr).length:Nat):Int)=1:=by omega
   refine gvC (F:=ma) ?_
   repeat' ((conv=>whnf);first|refine And.intro (by first|(simp;done)|(simp;omega)) ?_|refine bj ?_|refine aG (by decide) ?_|refine en rfl ?_|refine cy hk ?_|refine cy hn ?_|refine ia hk ?_|refine aG hs ?_|refine fu c2 ?_|refine cK z8 ?_|refine en z ?_|refine aq ?_|apply ae<;>intro h)
   rw[hsL hk];subst hn hk;exact bi shD t8
 ·skip
  have ml:=ml w;rcases hz with hz|⟨hz,z⟩
  ·have z8: ¬((([AV.str w]::rr).length:Nat):Int)=1:=by omega
   refine gvC (F:=ma) ?_
   repeat' ((conv=>whnf);first|refine And.intro (by first|(simp;done)|(simp;omega)) ?_|refine bj ?_|refine aG (by decide) ?_|refine en rfl ?_|refine cy hk ?_|refine cy hn ?_|refine ia hk ?_|refine aG hs ?_|refine aG c1 ?_|refine ft z8 ?_|refine aq ?_|apply ae<;>intro h)
   rw[hsL hk];subst hn hk;exact bi shD t8
  ·have z8:((([AV.str w]::rr).length:Nat):Int)=1:=by omega
   refine gvC (F:=ma) ?_
   repeat' ((conv=>whnf);first|refine And.intro (by first|(simp;done)|(simp;omega)) ?_|refine bj ?_|refine aG (by decide) ?_|refine en rfl ?_|refine cy hk ?_|refine cy hn ?_|refine ia hk ?_|refine aG hs ?_|refine aG c1 ?_|refine cK z8 ?_|refine en z ?_|refine aq ?_|apply ae<;>intro h)
   rw[hsL hk];subst hn hk;exact bi shD t8
end
end
section
variable {e1 e2 e3 e4:B6}(p1:ab e1=true)(p2:ab e2=true)(p3:ab e3=true)(p4:ab e4=true)(l1:e1.length<2^30)(l2:e2.length<2^30)(l3:e3.length<2^30)(l4:e4.length<2^30){nm:B5}{rl:B6}(pr:ab rl=true)(lr:rl.length<2^30){n2:Nat}{rl2:B6}(z5:ab rl2=true){f:Bool}(s:B5)(hs:s.length<2^30)(hw:(wds s).length<2^30)
include p1 p2 p3 p4 l1 l2 l3 l4 pr lr z5 hs hw
theorem ag5 (hno:hNo 1 1 (wds s))(E:Int)(h3:ag G 602 [.ref 0 0 0,.str s] (j3 e1 e2 e3 e4 nm rl) ⟨.int .i64 E,nT e1 e2 e3 e4 nm n2 f rl2⟩):ag G 553 [.ref 0 0 0,.str s] (j3 e1 e2 e3 e4 nm rl) ⟨.int .i64 E,nT e1 e2 e3 e4 nm n2 f rl2⟩:=by
 have h2:=hnB1 p1 p2 p3 p4 l1 l2 l3 l4 (nm:=nm) pr lr (wds s) hw hno;have h1:=gU s (by omega)
 unfold j3 nT rdc at*;refine gvB (F:=nZ) ?_
 (conv=>whnf)
 refine kP mz [] nL trivial h2 ?_
 repeat' (first|refine aW ?_|apply ae<;>intro h)
 (conv=>whnf)
 refine kP mz [] nL trivial h3 ?_
 repeat' (first|refine aW ?_|apply ae<;>intro h)
 (conv=>whnf)
 exact bi mz [true,true,true,true,true,f]
theorem ag4 (hno:hNo 2 2 (wds s))(E:Int)(h3:ag G 602 [.ref 0 0 0,.str s] (jZ e1 e2 e3 e4 nm rl) ⟨.int .i64 E,nR e1 e2 e3 e4 nm n2 f rl2⟩):ag G 553 [.ref 0 0 0,.str s] (jZ e1 e2 e3 e4 nm rl) ⟨.int .i64 E,nR e1 e2 e3 e4 nm n2 f rl2⟩:=by
 have h2:=hnB2 p1 p2 p3 p4 l1 l2 l3 l4 (nm:=nm) pr lr (wds s) hw hno;have h1:=gU s (by omega)
 unfold jZ nR rdc at*;refine gvB (F:=nZ) ?_
 (conv=>whnf)
 refine kP my [] nL trivial h2 ?_
 repeat' (first|refine aW ?_|apply ae<;>intro h)
 (conv=>whnf)
 refine kP my [] nL trivial h3 ?_
 repeat' (first|refine aW ?_|apply ae<;>intro h)
 (conv=>whnf)
 exact bi my [true,true,true,true,true,f]
theorem ag3 (hno:hNo 3 3 (wds s))(E:Int)(h3:ag G 602 [.ref 0 0 0,.str s] (ju e1 e2 e3 e4 nm rl) ⟨.int .i64 E,mC e1 e2 e3 e4 nm n2 f rl2⟩):ag G 553 [.ref 0 0 0,.str s] (ju e1 e2 e3 e4 nm rl) ⟨.int .i64 E,mC e1 e2 e3 e4 nm n2 f rl2⟩:=by
 have h2:=hnB3 p1 p2 p3 p4 l1 l2 l3 l4 (nm:=nm) pr lr (wds s) hw hno;have h1:=gU s (by omega)
 unfold ju mC rdc at*;refine gvB (F:=nZ) ?_
 (conv=>whnf)
 refine kP jb [] nL trivial h2 ?_
 repeat' (first|refine aW ?_|apply ae<;>intro h)
 (conv=>whnf)
 refine kP jb [] nL trivial h3 ?_
 repeat' (first|refine aW ?_|apply ae<;>intro h)
 (conv=>whnf)
 exact bi jb [true,true,true,true,true,f]
end
section
variable {e1 e2 e3 e4:B6}(p1:ab e1=true)(p2:ab e2=true)(p3:ab e3=true)(p4:ab e4=true)(l1:e1.length<2^30)(l2:e2.length<2^30)(l3:e3.length<2^30)(l4:e4.length<2^30){mo gr:Int}(s t:B5)
include p1 p2 p3 p4 l1 l2 l3 l4
theorem ln_C {nm:B5}{ts:B6}(pt:ab ts=true)(lt:ts.length<2^30){n2:Nat}{mo2 v2:Int}{ts2:B6}(z5:ab ts2=true){f:Bool}(s:B5)(hs:s.length<2^30)(hw:(wds s).length<2^30)(E:Int)(h3:ag G 600 [.ref 0 0 0,.sl 1 ((wds s).map ah)] (rdC e1 e2 e3 e4 nm ts) ⟨.int .i64 E,roC mo2 e1 e2 e3 e4 nm n2 v2 f ts2⟩):ag G 553 [.ref 0 0 0,.str s] (rdC e1 e2 e3 e4 nm ts) ⟨.int .i64 E,roC mo2 e1 e2 e3 e4 nm n2 v2 f ts2⟩:=by
 have h2:=hnC p1 p2 p3 p4 l1 l2 l3 l4 (nm:=nm) pt lt (wds s) hw;have h1:=gU s (by omega)
 unfold rdC roC rdc at*;refine gvB (F:=nZ) ?_
 (conv=>whnf)
 refine kP shC [] nL trivial h2 ?_
 repeat' (first|refine aW ?_|apply ae<;>intro h)
 (conv=>whnf)
 refine kP shC [] nL trivial h3 ?_
 repeat' (first|refine aW ?_|apply ae<;>intro h)
 (conv=>whnf)
 exact bi shC [true,true,true,true,true,f]
theorem ln_D {mo:Int}(hmo:mo=5∨mo=6){nm:B5}{ts:B6}(pt:ab ts=true)(lt:ts.length<2^30){tn:B5}{ms acs:B6}(pm:ab ms=true)(pa:ab acs=true)(lm:ms.length<2^30)(la:acs.length<2^30){n6 n7:Nat}{mo2 v7:Int}{ms2 acs2:B6}(z6:ab ms2=true)(z7:ab acs2=true){f6 f7:Bool}(s:B5)(hs:s.length<2^30)(hw:(wds s).length<2^30)(E:Int)(h3:ag G 601 [.ref 0 0 0,.sl 1 ((wds s).map ah)] (rdD mo e1 e2 e3 e4 nm ts tn ms acs) ⟨.int .i64 E,roD mo2 e1 e2 e3 e4 nm ts tn n6 n7 v7 f6 f7 ms2 acs2⟩):ag G 553 [.ref 0 0 0,.str s] (rdD mo e1 e2 e3 e4 nm ts tn ms acs) ⟨.int .i64 E,roD mo2 e1 e2 e3 e4 nm ts tn n6 n7 v7 f6 f7 ms2 acs2⟩:=by
 have h2:=hnD p1 p2 p3 p4 l1 l2 l3 l4 (mo:=mo) (nm:=nm) pt lt (tn:=tn) pm pa lm la (wds s) hw (by omega)
 have h1:=gU s (by omega)
 unfold rdD roD rdc at*;rcases hmo with rfl|rfl
 all_goals
  refine gvB (F:=nZ) ?_
  (conv=>whnf)
  refine kP shD [] WG trivial h2 ?_
  repeat' (first|refine aW ?_|apply ae<;>intro h)
  (conv=>whnf)
  refine kP shD [] WG trivial h3 ?_
  repeat' (first|refine aW ?_|apply ae<;>intro h)
  (conv=>whnf)
  exact bi shD [true,true,true,true,true,true,f6,f7]
theorem ag6 {gr:Int}(s:B5)(hs:s.length<2^30)(hw:(wds s).length<2^30)(hno:hNo 0 gr (wds s)):ag G 553 [.ref 0 0 0,.str s] (rdA 0 gr e1 e2 e3 e4) ⟨.int .i64 2,roA 0 gr e1 e2 e3 e4⟩:=by
 have h2:=hnA p1 p2 p3 p4 l1 l2 l3 l4 (mo:=0) (gr:=gr) (wds s) hw hno;have h1:=gU s (by omega)
 unfold rdA roA rdc at*;refine gvB (F:=nZ) ?_
 (conv=>whnf)
 refine kP shA [] ⟨rfl,rfl,rfl,rfl,rfl,trivial⟩ trivial h2 ?_
 repeat' (first|refine aW ?_|apply ae<;>intro h)
 (conv=>whnf)
 exact bi shA t5
section
variable (hs:s.length<2^30)
include hs
theorem ag2 (he:wds s= [cH,t])(h0:t≠ [])(ht:t.length<2^30)(hm:mo<4)(hg:gr<=1)(b:B5)(hb:(e1.length=0/\b= [])∨(0<e1.length/\ ∃a,e1[((e1.length:Int)-1).toNat]? =some (.str b::a))):ag G 553 [.ref 0 0 0,.str s] (rdA mo gr e1 e2 e3 e4) ⟨.int .i64 (hdX e1.length t b),WN e1 e2 e3 e4 t⟩:=by
 have h2:=hdk1 p1 p2 p3 p4 l1 l2 l3 l4 (mo:=mo) (gr:=gr) t h0 ht hm hg b hb;have h1:=gU s (by omega)
 rw[he] at h1;simp only[An,A6,ah,cH] at h1;unfold rdA WN rdc at*;generalize hdX e1.length t b=E at*;refine gvB (F:=nZ) ?_
 (conv=>whnf)
 refine kP shA [] ⟨rfl,rfl,rfl,rfl,rfl,trivial⟩ trivial h2 ?_
 repeat' (first|refine aW ?_|apply ae<;>intro h)
 (conv=>whnf)
 exact bi shA [true,false,true,true,true]
theorem ag1 (he:wds s= [cG,t])(h0:t≠ [])(ht:t.length<2^30)(hm:mo<4)(hg:gr<=2)(b:B5)(hb:(e2.length=0/\b= [])∨(0<e2.length/\ ∃a,e2[((e2.length:Int)-1).toNat]? =some (.str b::a))):ag G 553 [.ref 0 0 0,.str s] (rdA mo gr e1 e2 e3 e4) ⟨.int .i64 (hdX e2.length t b),WM e1 e2 e3 e4 t⟩:=by
 have h2:=hdk2 p1 p2 p3 p4 l1 l2 l3 l4 (mo:=mo) (gr:=gr) t h0 ht hm hg b hb;have h1:=gU s (by omega)
 rw[he] at h1;simp only[An,A6,ah,cG] at h1;unfold rdA WM rdc at*;generalize hdX e2.length t b=E at*;refine gvB (F:=nZ) ?_
 (conv=>whnf)
 refine kP shA [] ⟨rfl,rfl,rfl,rfl,rfl,trivial⟩ trivial h2 ?_
 repeat' (first|refine aW ?_|apply ae<;>intro h)
 (conv=>whnf)
 exact bi shA [true,true,false,true,true]
theorem ag0 (he:wds s= [cz,t])(h0:t≠ [])(ht:t.length<2^30)(hm:mo<4)(hg:gr<=3)(b:B5)(hb:(e3.length=0/\b= [])∨(0<e3.length/\ ∃a,e3[((e3.length:Int)-1).toNat]? =some (.str b::a))):ag G 553 [.ref 0 0 0,.str s] (rdA mo gr e1 e2 e3 e4) ⟨.int .i64 (hdX e3.length t b),WL e1 e2 e3 e4 t⟩:=by
 have h2:=hdk3 p1 p2 p3 p4 l1 l2 l3 l4 (mo:=mo) (gr:=gr) t h0 ht hm hg b hb;have h1:=gU s (by omega)
 rw[he] at h1;simp only[An,A6,ah,cz] at h1;unfold rdA WL rdc at*;generalize hdX e3.length t b=E at*;refine gvB (F:=nZ) ?_
 (conv=>whnf)
 refine kP shA [] ⟨rfl,rfl,rfl,rfl,rfl,trivial⟩ trivial h2 ?_
 repeat' (first|refine aW ?_|apply ae<;>intro h)
 (conv=>whnf)
 exact bi shA [true,true,true,false,true]
theorem agZ (he:wds s= [gv,t])(h0:t≠ [])(ht:t.length<2^30)(hm:mo<4)(hg:gr<=4)(b:B5)(hb:(e4.length=0/\b= [])∨(0<e4.length/\ ∃a,e4[((e4.length:Int)-1).toNat]? =some (.str b::a))):ag G 553 [.ref 0 0 0,.str s] (rdA mo gr e1 e2 e3 e4) ⟨.int .i64 (hdX e4.length t b),WH e1 e2 e3 e4 t⟩:=by
 have h2:=hdk4 p1 p2 p3 p4 l1 l2 l3 l4 (mo:=mo) (gr:=gr) t h0 ht hm hg b hb;have h1:=gU s (by omega)
 rw[he] at h1;simp only[An,A6,ah,gv] at h1;unfold rdA WH rdc at*;generalize hdX e4.length t b=E at*;refine gvB (F:=nZ) ?_
 (conv=>whnf)
 refine kP shA [] ⟨rfl,rfl,rfl,rfl,rfl,trivial⟩ trivial h2 ?_
 repeat' (first|refine aW ?_|apply ae<;>intro h)
 (conv=>whnf)
 exact bi shA [true,true,true,true,false]
end
end
end Go.AM.IR
