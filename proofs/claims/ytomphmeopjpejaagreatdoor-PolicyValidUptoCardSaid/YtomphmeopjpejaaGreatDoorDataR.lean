/- What the functions of this program give, on the abstract machine. -/
import Derived.Test.YtomphmeopjpejaaGreatDoorDataQ
set_option linter.unusedVariables false
set_option linter.unusedSimpArgs false
set_option maxHeartbeats 4000000
set_option maxRecDepth 20000
namespace Go.AM.IR
theorem wz (l2:List Actn)(ho: ∀x∈l2,x.ok)(P:List AV)(nm:List UInt8)(ms:List (List AV))(v:Int)(g5:Nat)(ls:List (List AV))(len i:Int)(hi:0<=i/\i<2^40)(tot:List UInt8)(htot:tot.length<2^60)(R:Ret)(go: ∀(T:TV) (H:ap) (c:Nat),Ev G ⟨rm,⟨(16,.sl 4 ls)::(17,.int .i64 len)::(18,.int .i64 (i+1))::(3,.str (tot++(iM v++[10])))::(1,.ref 65 1 0)::T,(65,some (1,.cells P))::H,c⟩,[.t 2],0⟩ R)(hl:l2.length<2^40)(ln:Int)(hln:ln=l2.length): ∀(rest done:List Actn)(a:List UInt8)(T:TV)(H:ap)(c:Nat)(n:Int)(e:l2=done++rest)(hn:n=done.length)(ha:a++aZ gQ rest=tot),Ev G ⟨OQ,⟨(47,.sl 5 (l2.map Actn.enc))::(48,.int .i64 ln)::(49,.int .i64 n)::(3,.str a)::(16,.sl 4 ls)::(17,.int .i64 len)::(18,.int .i64 i)::(1,.ref 65 1 0)::(5,.ref 69 g5 0)::T,(65,some (1,.cells P))::(69,some (g5,.cells [.str nm,.sl 6 ms,.sl 5 (l2.map Actn.enc),.int .i64 v]))::H,c⟩,[.t 2],0⟩ R
 | [],done,a,T,H,c,n,e,hn,ha=>by
  have hd:=md0 e;have hll:=ml l2 Actn.enc;obtain rfl:a=tot:=by simpa[aZ] using ha
  have hv:=qE v;have hvl:=o0 v;generalize iM v=w at*;refine evl ?_
  repeat' ((conv=>whnf);first|refine eu ?_|refine aq ?_|(refine ae ?_ ?_<;>intro h))
  refine au [16,17,18,3,1] [65] ?_;exact go _ _ _
 |x::r,done,a,T,H,c,n,e,hn,ha=>by
  have hd:=md e;have hll:=ml l2 Actn.enc;have hx:=mx Actn.enc e hn;have h1:=Gp x (ho x (by simp[e]))
  have hlen:a.length+(gQ x).length<=tot.length:=by rw[<-ha,aZ];simp only[Ar];omega
  have ha2:a++(BJ++ox x++[10])++aZ gQ r=tot:=by rw[<-ha,aZ,gQ];simp only[AI]
  have hq:(gQ x).length=4+(ox x).length+1:=by unfold gQ;simp only[Ar];rfl
  generalize ox x=w at*;refine evl ?_
  repeat' ((conv=>whnf);first|refine eu ?_|refine aq ?_|(refine ae ?_ ?_<;>intro h))
  refine au [47,48,49,3,16,17,18,1,5] [65,69] ?_;exact wz l2 ho P nm ms v g5 ls len i hi tot htot R go hl ln hln r (done++[x]) (a++(BJ++w++[10])) _ _ _ (n+1) (by simp[e]) (by simp[hn]<;>omega) ha2
theorem pH (l2:List Mat)(ho: ∀x∈l2,x.ok/\x.name.length<2^40)(P:List AV)(nm:List UInt8)(acts:List Actn)(hao: ∀x∈acts,x.ok)(hal:acts.length<2^40)(v:Int)(g5:Nat)(ls:List (List AV))(len i:Int)(hi:0<=i/\i<2^40)(tot:List UInt8)(htot:tot.length+(aZ gQ acts).length<2^60)(R:Ret)(go: ∀(T:TV) (H:ap) (c:Nat),Ev G ⟨rm,⟨(16,.sl 4 ls)::(17,.int .i64 len)::(18,.int .i64 (i+1))::(3,.str (tot++(aZ gQ acts++(iM v++[10]))))::(1,.ref 65 1 0)::T,(65,some (1,.cells P))::H,c⟩,[.t 2],0⟩ R)(hl:l2.length<2^40)(ln:Int)(hln:ln=l2.length): ∀(rest done:List Mat)(a:List UInt8)(T:TV)(H:ap)(c:Nat)(n:Int)(e:l2=done++rest)(hn:n=done.length)(ha:a++aZ gJ rest=tot),Ev G ⟨OT,⟨(29,.sl 6 (l2.map Mat.enc))::(30,.int .i64 ln)::(31,.int .i64 n)::(3,.str a)::(16,.sl 4 ls)::(17,.int .i64 len)::(18,.int .i64 i)::(1,.ref 65 1 0)::(5,.ref 69 g5 0)::T,(65,some (1,.cells P))::(69,some (g5,.cells [.str nm,.sl 6 (l2.map Mat.enc),.sl 5 (acts.map Actn.enc),.int .i64 v]))::H,c⟩,[.t 2],0⟩ R
 | [],done,a,T,H,c,n,e,hn,ha=>by
  have hd:=md0 e;have hll:=ml l2 Mat.enc;obtain rfl:a=tot:=by simpa[aZ] using ha
  have m1:=ml acts Actn.enc;refine evA ?_;refine au [47,48,49,3,16,17,18,1,5] [65,69] ?_;rw[m1];refine wz acts hao P nm _ v g5 ls len i hi (a++aZ gQ acts) (by rw[Ar];exact htot) R (λT H c=>?_) hal _ rfl acts [] a _ _ _ 0 rfl rfl rfl
  rw[AI];exact go T H c
 |x::r,done,a,T,H,c,n,e,hn,ha=>by
  have hd:=md e;have hll:=ml l2 Mat.enc;have hx:=mx Mat.enc e hn;have h1:=Dw x (ho x (by simp[e])).1 (ho x (by simp[e])).2
  have hlen:a.length+(gJ x).length<=tot.length:=by rw[<-ha,aZ];simp only[Ar];omega
  have hq:(gJ x).length=6+(bif x.neg then qC else []).length+(nh x).length+1:=by unfold gJ;simp only[Ar];rfl
  have ha2: ∀w,(bif x.neg then qC else [])=w->a++(oB++w++nh x++[10])++aZ gJ r=tot:=by intro w hw;rw[<-ha,aZ,gJ,hw];simp only[AI]
  generalize nh x=w at*;have hz:qC.length=4:=rfl;cases hneg:x.neg
  ·have ha3:=ha2 [] (by rw[hneg];rfl)
   rw[hneg] at hq;refine evl ?_
   repeat' ((conv=>whnf);first|refine eu ?_|refine aq ?_|(refine ae ?_ ?_<;>intro h))
   refine au [29,30,31,3,16,17,18,1,5] [65,69] ?_;exact pH l2 ho P nm acts hao hal v g5 ls len i hi tot htot R go hl ln hln r (done++[x]) (a++(oB++[]++w++[10])) _ _ _ (n+1) (by simp[e]) (by simp[hn]<;>omega) ha3
  ·have ha3:=ha2 qC (by rw[hneg];rfl)
   rw[hneg] at hq;simp only[cond_true] at hq;refine evl ?_
   repeat' ((conv=>whnf);first|refine eu ?_|refine aq ?_|(refine ae ?_ ?_<;>intro h))
   refine au [29,30,31,3,16,17,18,1,5] [65,69] ?_;exact pH l2 ho P nm acts hao hal v g5 ls len i hi tot htot R go hl ln hln r (done++[x]) (a++(oB++qC++w++[10])) _ _ _ (n+1) (by simp[e]) (by simp[hn]<;>omega) ha3
structure Trm.gt (t:Trm):Prop where
 ms: ∀x∈t.mats,x.ok/\x.name.length<2^40
 ml:t.mats.length<2^40
 acz: ∀x∈t.acts,x.ok
 al:t.acts.length<2^40
theorem uB (l:List Trm)(ho: ∀x∈l,x.gt)(nm:List UInt8)(v:Int)(tot:List UInt8)(htot:tot.length<2^60)(hl:l.length<2^40)(ln:Int)(hln:ln=l.length): ∀(rest done:List Trm)(a:List UInt8)(T:TV)(H:ap)(c:Nat)(n:Int)(e:l=done++rest)(hn:n=done.length)(ha:a++aZ dZ rest=tot),Ev G ⟨rm,⟨(16,.sl 4 (l.map Trm.enc))::(17,.int .i64 ln)::(18,.int .i64 n)::(3,.str a)::(1,.ref 65 1 0)::T,(65,some (1,.cells [.str nm,.sl 4 (l.map Trm.enc),.int .i64 v]))::H,c⟩,[.t 2],0⟩ ⟨.str (tot++wD++iM v++[10]),[]⟩
 | [],done,a,T,H,c,n,e,hn,ha=>by
  have hd:=md0 e;have hll:=ml l Trm.enc;obtain rfl:a=tot:=by simpa[aZ] using ha
  have hv:=qE v;have hvl:=o0 v;generalize iM v=w at*;refine evl ?_
  repeat' ((conv=>whnf);first|refine eu ?_|refine aq ?_|(refine ae ?_ ?_<;>intro h))
  refine ax ?_;rfl
 |x::r,done,a,T,H,c,n,e,hn,ha=>by
  have hd:=md e;have hll:=ml l Trm.enc;have hx:=mx Trm.enc e hn;have g:=ho x (by simp[e])
  have hlen:a.length+(dZ x).length<=tot.length:=by rw[<-ha,aZ];simp only[Ar];omega
  have hq:(dZ x).length=5+x.name.length+1+((aZ gJ x.mats).length+((aZ gQ x.acts).length+((iM x.verdict).length+1))):=by unfold dZ;simp only[Ar];rfl
  have m1:=ml x.mats Mat.enc;have ha2:a++dZ x++aZ dZ r=tot:=by rw[<-ha,aZ];simp only[AI]
  refine evl ?_
  repeat' ((conv=>whnf);first|refine eu ?_|refine aq ?_|(refine ae ?_ ?_<;>intro h))
  refine au [29,30,31,3,16,17,18,1,5] [65,69] ?_;rw[m1];refine pH x.mats g.ms _ x.name x.acts g.acz g.al x.verdict _ _ ln n (by omega) (a++(iU++x.name++[10])++aZ gJ x.mats) (by have:iU.length=5:=rfl;have:([10]:List UInt8).length=1:=rfl;simp only[Ar];omega) _ (λT H c=>?_) g.ml _ rfl x.mats [] (a++(iU++x.name++[10])) _ _ _ 0 rfl rfl rfl
  rw[show a++(iU++x.name++[10])++aZ gJ x.mats++(aZ gQ x.acts++(iM x.verdict++[10]))=a++dZ x from by rw[dZ];simp only[AI]]
  exact uB l ho nm v tot htot hl ln hln r (done++[x]) (a++dZ x) T H c (n+1) (by simp[e]) (by simp[hn]<;>omega) ha2
structure Pol.gt (p:Pol):Prop where
 ts: ∀x∈p.terms,x.gt
 tl:p.terms.length<2^40
 len:(ew p).length<2^50
theorem CN (p:Pol)(g:p.gt):ab G 454 [.agg p.enc] [] ⟨.str (ew p),[]⟩:=by
 have hq:(ew p).length=7+p.name.length+1+((aZ dZ p.terms).length+(8+(iM p.dflt).length+1)):=by unfold ew;simp only[Ar];rfl
 have g3:=g.len;have m1:=ml p.terms Trm.enc;refine gvC (F:=xT) ?_
 repeat' ((conv=>whnf);first|refine eu ?_|refine aq ?_|(refine ae ?_ ?_<;>intro h))
 refine au [16,17,18,3,1] [65] ?_;rw[m1,show ew p=iL++p.name++[10]++aZ dZ p.terms++wD++iM p.dflt++[10] from by rw[ew];simp only[AI]]
 exact uB p.terms g.ts p.name p.dflt (iL++p.name++[10]++aZ dZ p.terms) (by have:iL.length=7:=rfl;have:([10]:List UInt8).length=1:=rfl;simp only[Ar];omega) g.tl _ rfl p.terms [] _ _ _ _ 0 rfl rfl rfl
end Go.AM.IR
namespace Go.AM.IR
theorem uX (l:List Pol)(ho: ∀x∈l,x.gt)(tot:List UInt8)(htot:tot.length<2^60)(hl:l.length<2^40)(ln:Int)(hln:ln=l.length): ∀(rest done:List Pol)(a:List UInt8)(T:TV)(H:ap)(c:Nat)(n:Int)(e:l=done++rest)(hn:n=done.length)(ha:a++aZ ew rest=tot),Ev G ⟨OV,⟨(127,.sl 3 (l.map Pol.enc))::(128,.int .i64 ln)::(129,.int .i64 n)::(5,.str a)::T,H,c⟩,[.t 2,.t 3],0⟩ (if 65536<tot.length then ⟨.tup [.str [],.int .i64 4],[]⟩ else ⟨.tup [.str tot,.int .i64 0],[]⟩)
 | [],done,a,T,H,c,n,e,hn,ha=>by
  have hd:=md0 e;have hll:=ml l Pol.enc;obtain rfl:a=tot:=by simpa[aZ] using ha
  by_cases z:65536<a.length
  ·rw[Ad z]
   have z2:(a.length:Int)>65536:=by omega
   refine evA ?_;refine ax ?_;rfl
  ·rw[Ac z]
   have z2: ¬(a.length:Int)>65536:=by omega
   refine evA ?_;refine ax ?_;rfl
 |x::r,done,a,T,H,c,n,e,hn,ha=>by
  have hd:=md e;have hll:=ml l Pol.enc;have hx:=mx Pol.enc e hn;have h1:=CN x (ho x (by simp[e]))
  have hlen:a.length+(ew x).length<=tot.length:=by rw[<-ha,aZ];simp only[Ar];omega
  have ha2:a++ew x++aZ ew r=tot:=by rw[<-ha,aZ];simp only[AI]
  have hz:(a++ew x).length=a.length+(ew x).length:=Ar;generalize ew x=w at*
  by_cases z:65536<a.length+w.length
  ·have z2:((a++w).length:Int)>65536:=by omega
   rw[Ad (by omega)]
   refine evl ?_
   repeat' ((conv=>whnf);first|refine eu ?_|refine aq ?_|(refine ae ?_ ?_<;>intro h))
   refine ax ?_;rfl
  ·have z2: ¬((a++w).length:Int)>65536:=by omega
   refine evl ?_
   repeat' ((conv=>whnf);first|refine eu ?_|refine aq ?_|(refine ae ?_ ?_<;>intro h))
   refine au [127,128,129,5] [] ?_;exact uX l ho tot htot hl ln hln r (done++[x]) (a++w) _ _ _ (n+1) (by simp[e]) (by simp[hn]<;>omega) ha2
theorem Fw (l2:List ComR)(ho: ∀x∈l2,x.ok/\dy x=0)(P:List AV)(ls:List (List AV))(len i:Int)(hi:0<=i/\i<2^40)(tot:List UInt8)(htot:tot.length<2^60)(R:Ret)(go: ∀(T:TV) (H:ap) (c:Nat),Ev G ⟨zo,⟨(90,.sl 2 ls)::(91,.int .i64 len)::(92,.int .i64 (i+1))::(5,.str tot)::(1,.ref 65 1 0)::T,(65,some (1,.cells P))::H,c⟩,[.t 2,.t 3],0⟩ R)(hl:l2.length<2^40)(ln:Int)(hln:ln=l2.length): ∀(rest done:List ComR)(a:List UInt8)(T:TV)(H:ap)(c:Nat)(n:Int)(e:l2=done++rest)(hn:n=done.length)(ha:a++aZ coL rest=tot),Ev G ⟨OW,⟨(103,.sl 3 (l2.map ComR.enc))::(104,.int .i64 ln)::(105,.int .i64 n)::(5,.str a)::(90,.sl 2 ls)::(91,.int .i64 len)::(92,.int .i64 i)::(1,.ref 65 1 0)::T,(65,some (1,.cells P))::H,c⟩,[.t 2,.t 3],0⟩ R
 | [],done,a,T,H,c,n,e,hn,ha=>by
  have hd:=md0 e;have hll:=ml l2 ComR.enc;obtain rfl:a=tot:=by simpa[aZ] using ha
  refine evA ?_;refine au [90,91,92,5,1] [65] ?_;exact go _ _ _
 |x::r,done,a,T,H,c,n,e,hn,ha=>by
  have hd:=md e;have hll:=ml l2 ComR.enc;have hx:=mx ComR.enc e hn;have hlen:a.length+(coL x).length<=tot.length:=by rw[<-ha,aZ];simp only[Ar];omega
  have ha2:a++coL x++aZ coL r=tot:=by rw[<-ha,aZ];simp only[AI]
  rw[coL] at ha2;have h0:=Pq (ho x (by simp[e])).2
  have h1:=qQ x.permit;have h2:=rh (ho x (by simp[e])).1.1
  have h3:=rh (ho x (by simp[e])).1.2
  have hq:(coL x).length=(nb x.permit).length+(kr x.high).length+1+(kr x.low).length+1:=by unfold coL;simp only[Ar];rfl
  generalize nb x.permit=w at*;generalize kr x.high=u1 at*;generalize kr x.low=u2 at*;refine evl ?_
  repeat' ((conv=>whnf);first|refine eu ?_|refine aq ?_|(refine ae ?_ ?_<;>intro h))
  refine au [103,104,105,5,90,91,92,1] [65] ?_;exact Fw l2 ho P ls len i hi tot htot R go hl ln hln r (done++[x]) (a++(w++u1++[58]++u2++[10])) _ _ _ (n+1) (by simp[e]) (by simp[hn]<;>omega) ha2
theorem z6 (l:List ComL)(s:PSet)(ho: ∀x∈l,(∀r∈x.rules,r.ok/\dy r=0)/\x.rules.length<2^40)(gs: ∀x∈s.pols,x.gt)(hlm:s.pols.length<2^40)(tot:List UInt8)(htot:(tot++(aZ ew s.pols)).length<2^60)(hl:l.length<2^40)(ln:Int)(hln:ln=l.length): ∀(rest done:List ComL)(a:List UInt8)(T:TV)(H:ap)(c:Nat)(n:Int)(e:l=done++rest)(hn:n=done.length)(ha:a++aZ coT rest=tot),Ev G ⟨zo,⟨(90,.sl 2 (l.map ComL.enc))::(91,.int .i64 ln)::(92,.int .i64 n)::(5,.str a)::(1,.ref 65 1 0)::T,(65,some (1,.cells s.enc))::H,c⟩,[.t 2,.t 3],0⟩ (if 65536<(tot++(aZ ew s.pols)).length then ⟨.tup [.str [],.int .i64 4],[]⟩ else ⟨.tup [.str (tot++(aZ ew s.pols)),.int .i64 0],[]⟩)
 | [],done,a,T,H,c,n,e,hn,ha=>by
  have hd:=md0 e;have hll:=ml l ComL.enc;obtain rfl:a=tot:=by simpa[aZ] using ha
  have m1:=ml s.pols Pol.enc;simp only[Ar] at htot;refine evA ?_;refine au [127,128,129,5] [] ?_;rw[m1];exact uX s.pols gs (a++aZ ew s.pols) (by rw[Ar];omega) hlm _ rfl s.pols [] a _ _ _ 0 rfl rfl rfl
 |x::r,done,a,T,H,c,n,e,hn,ha=>by
  have hd:=md e;have hll:=ml l ComL.enc;have hx:=mx ComL.enc e hn;have g:=ho x (by simp[e])
  have hlen:a.length+(coT x).length<=tot.length:=by rw[<-ha,aZ];simp only[Ar];omega
  have hq:(coT x).length=15+x.name.length+1+(aZ coL x.rules).length:=by unfold coT;simp only[Ar];rfl
  have htot2:tot.length<2^60:=by rw[Ar] at htot;omega
  have m1:=ml x.rules ComR.enc;have ha2:a++coT x++aZ coT r=tot:=by rw[<-ha,aZ];simp only[AI]
  refine evl ?_
  repeat' ((conv=>whnf);first|refine eu ?_|refine aq ?_|(refine ae ?_ ?_<;>intro h))
  refine au [103,104,105,5,90,91,92,1] [65] ?_;rw[m1];refine Fw x.rules g.1 _ _ ln n (by omega) (a++coT x) (by rw[Ar];omega) _ (λT H c=>?_) g.2 _ rfl x.rules [] (a++(qD++x.name++[10])) _ _ _ 0 rfl rfl (by rw[coT];simp only[AI])
  exact z6 l s ho gs hlm tot htot hl ln hln r (done++[x]) (a++coT x) T H c (n+1) (by simp[e]) (by simp[hn]<;>omega) ha2
theorem CY (l2:List PathR)(ho: ∀x∈l2,True)(P:List AV)(ls:List (List AV))(len i:Int)(hi:0<=i/\i<2^40)(tot:List UInt8)(htot:tot.length<2^60)(R:Ret)(go: ∀(T:TV) (H:ap) (c:Nat),Ev G ⟨zp,⟨(59,.sl 2 ls)::(60,.int .i64 len)::(61,.int .i64 (i+1))::(5,.str tot)::(1,.ref 65 1 0)::T,(65,some (1,.cells P))::H,c⟩,[.t 2,.t 3],0⟩ R)(hl:l2.length<2^40)(ln:Int)(hln:ln=l2.length): ∀(rest done:List PathR)(a:List UInt8)(T:TV)(H:ap)(c:Nat)(n:Int)(e:l2=done++rest)(hn:n=done.length)(ha:a++aZ paL rest=tot),Ev G ⟨OX,⟨(72,.sl 2 (l2.map PathR.enc))::(73,.int .i64 ln)::(74,.int .i64 n)::(5,.str a)::(59,.sl 2 ls)::(60,.int .i64 len)::(61,.int .i64 i)::(1,.ref 65 1 0)::T,(65,some (1,.cells P))::H,c⟩,[.t 2,.t 3],0⟩ R
 | [],done,a,T,H,c,n,e,hn,ha=>by
  have hd:=md0 e;have hll:=ml l2 PathR.enc;obtain rfl:a=tot:=by simpa[aZ] using ha
  refine evA ?_;refine au [59,60,61,5,1] [65] ?_;exact go _ _ _
 |x::r,done,a,T,H,c,n,e,hn,ha=>by
  have hd:=md e;have hll:=ml l2 PathR.enc;have hx:=mx PathR.enc e hn;have hlen:a.length+(paL x).length<=tot.length:=by rw[<-ha,aZ];simp only[Ar];omega
  have ha2:a++paL x++aZ paL r=tot:=by rw[<-ha,aZ];simp only[AI]
  rw[paL] at ha2;have h1:=qQ x.permit;have hq:(paL x).length=(nb x.permit).length+x.pattern.length+1:=by unfold paL;simp only[Ar];rfl
  generalize nb x.permit=w at*;refine evl ?_
  repeat' ((conv=>whnf);first|refine eu ?_|refine aq ?_|(refine ae ?_ ?_<;>intro h))
  refine au [72,73,74,5,59,60,61,1] [65] ?_;exact CY l2 ho P ls len i hi tot htot R go hl ln hln r (done++[x]) (a++(w++x.pattern++[10])) _ _ _ (n+1) (by simp[e]) (by simp[hn]<;>omega) ha2
theorem yM (l:List PathL)(s:PSet)(ho: ∀x∈l,(∀r∈x.rules,True)/\x.rules.length<2^40)(gc: ∀x∈s.comms,(∀r∈x.rules,r.ok/\dy r=0)/\x.rules.length<2^40)(hlc:s.comms.length<2^40)(gs: ∀x∈s.pols,x.gt)(hlm:s.pols.length<2^40)(tot:List UInt8)(htot:(tot++(aZ coT s.comms++(aZ ew s.pols))).length<2^60)(hl:l.length<2^40)(ln:Int)(hln:ln=l.length): ∀(rest done:List PathL)(a:List UInt8)(T:TV)(H:ap)(c:Nat)(n:Int)(e:l=done++rest)(hn:n=done.length)(ha:a++aZ paT rest=tot),Ev G ⟨zp,⟨(59,.sl 2 (l.map PathL.enc))::(60,.int .i64 ln)::(61,.int .i64 n)::(5,.str a)::(1,.ref 65 1 0)::T,(65,some (1,.cells s.enc))::H,c⟩,[.t 2,.t 3],0⟩ (if 65536<(tot++(aZ coT s.comms++(aZ ew s.pols))).length then ⟨.tup [.str [],.int .i64 4],[]⟩ else ⟨.tup [.str (tot++(aZ coT s.comms++(aZ ew s.pols))),.int .i64 0],[]⟩)
 | [],done,a,T,H,c,n,e,hn,ha=>by
  have hd:=md0 e;have hll:=ml l PathL.enc;obtain rfl:a=tot:=by simpa[aZ] using ha
  have m1:=ml s.comms ComL.enc;simp only[Ar] at htot;refine evA ?_;refine au [90,91,92,5,1] [65] ?_;rw[m1];refine (congrArg (Ev G _) ?_).mp (z6 s.comms s gc gs hlm (a++aZ coT s.comms) (by simp only[Ar] at htot⊢;omega) hlc _ rfl s.comms [] a _ _ _ 0 rfl rfl rfl)
  simp only[AI]
 |x::r,done,a,T,H,c,n,e,hn,ha=>by
  have hd:=md e;have hll:=ml l PathL.enc;have hx:=mx PathL.enc e hn;have g:=ho x (by simp[e])
  have hlen:a.length+(paT x).length<=tot.length:=by rw[<-ha,aZ];simp only[Ar];omega
  have hq:(paT x).length=10+x.name.length+1+(aZ paL x.rules).length:=by unfold paT;simp only[Ar];rfl
  have htot2:tot.length<2^60:=by rw[Ar] at htot;omega
  have m1:=ml x.rules PathR.enc;have ha2:a++paT x++aZ paT r=tot:=by rw[<-ha,aZ];simp only[AI]
  refine evl ?_
  repeat' ((conv=>whnf);first|refine eu ?_|refine aq ?_|(refine ae ?_ ?_<;>intro h))
  refine au [72,73,74,5,59,60,61,1] [65] ?_;rw[m1];refine CY x.rules g.1 _ _ ln n (by omega) (a++paT x) (by rw[Ar];omega) _ (λT H c=>?_) g.2 _ rfl x.rules [] (a++(qB++x.name++[10])) _ _ _ 0 rfl rfl (by rw[paT];simp only[AI])
  exact yM l s ho gc hlc gs hlm tot htot hl ln hln r (done++[x]) (a++paT x) T H c (n+1) (by simp[e]) (by simp[hn]<;>omega) ha2
theorem CQ (l2:List RuleP)(ho: ∀x∈l2,x.ok/\ruE x=0)(P:List AV)(ls:List (List AV))(len i:Int)(hi:0<=i/\i<2^40)(tot:List UInt8)(htot:tot.length<2^60)(R:Ret)(go: ∀(T:TV) (H:ap) (c:Nat),Ev G ⟨zq,⟨(28,.sl 2 ls)::(29,.int .i64 len)::(30,.int .i64 (i+1))::(5,.str tot)::(1,.ref 65 1 0)::T,(65,some (1,.cells P))::H,c⟩,[.t 2,.t 3],0⟩ R)(hl:l2.length<2^40)(ln:Int)(hln:ln=l2.length): ∀(rest done:List RuleP)(a:List UInt8)(T:TV)(H:ap)(c:Nat)(n:Int)(e:l2=done++rest)(hn:n=done.length)(ha:a++aZ plL rest=tot),Ev G ⟨OY,⟨(41,.sl 5 (l2.map RuleP.enc))::(42,.int .i64 ln)::(43,.int .i64 n)::(5,.str a)::(28,.sl 2 ls)::(29,.int .i64 len)::(30,.int .i64 i)::(1,.ref 65 1 0)::T,(65,some (1,.cells P))::H,c⟩,[.t 2,.t 3],0⟩ R
 | [],done,a,T,H,c,n,e,hn,ha=>by
  have hd:=md0 e;have hll:=ml l2 RuleP.enc;obtain rfl:a=tot:=by simpa[aZ] using ha
  refine evA ?_;refine au [28,29,30,5,1] [65] ?_;exact go _ _ _
 |x::r,done,a,T,H,c,n,e,hn,ha=>by
  have hd:=md e;have hll:=ml l2 RuleP.enc;have hx:=mx RuleP.enc e hn;have hlen:a.length+(plL x).length<=tot.length:=by rw[<-ha,aZ];simp only[Ar];omega
  have ha2:a++plL x++aZ plL r=tot:=by rw[<-ha,aZ];simp only[AI]
  rw[plL] at ha2
  have h1:ab G 332 [.agg x.enc] [] ⟨.tup [.str (rtext x),.int .i64 0],[]⟩:=by
   have:=text_gives332 x (ho x (by simp[e])).1
   rwa [txR,Ad (ho x (by simp[e])).2] at this
  have hq:(plL x).length=(rtext x).length+1:=by unfold plL;simp only[Ar];rfl
  generalize rtext x=w at*;refine evl ?_
  repeat' ((conv=>whnf);first|refine eu ?_|refine aq ?_|(refine ae ?_ ?_<;>intro h))
  refine au [41,42,43,5,28,29,30,1] [65] ?_;exact CQ l2 ho P ls len i hi tot htot R go hl ln hln r (done++[x]) (a++(w++[10])) _ _ _ (n+1) (by simp[e]) (by simp[hn]<;>omega) ha2
theorem yG (l:List PList)(s:PSet)(ho: ∀x∈l,(∀r∈x.rules,r.ok/\ruE r=0)/\x.rules.length<2^40)(ga: ∀x∈s.paths,(∀r∈x.rules,True)/\x.rules.length<2^40)(hla:s.paths.length<2^40)(gc: ∀x∈s.comms,(∀r∈x.rules,r.ok/\dy r=0)/\x.rules.length<2^40)(hlc:s.comms.length<2^40)(gs: ∀x∈s.pols,x.gt)(hlm:s.pols.length<2^40)(tot:List UInt8)(htot:(tot++(aZ paT s.paths++(aZ coT s.comms++(aZ ew s.pols)))).length<2^60)(hl:l.length<2^40)(ln:Int)(hln:ln=l.length): ∀(rest done:List PList)(a:List UInt8)(T:TV)(H:ap)(c:Nat)(n:Int)(e:l=done++rest)(hn:n=done.length)(ha:a++aZ plT rest=tot),Ev G ⟨zq,⟨(28,.sl 2 (l.map PList.enc))::(29,.int .i64 ln)::(30,.int .i64 n)::(5,.str a)::(1,.ref 65 1 0)::T,(65,some (1,.cells s.enc))::H,c⟩,[.t 2,.t 3],0⟩ (if 65536<(tot++(aZ paT s.paths++(aZ coT s.comms++(aZ ew s.pols)))).length then ⟨.tup [.str [],.int .i64 4],[]⟩ else ⟨.tup [.str (tot++(aZ paT s.paths++(aZ coT s.comms++(aZ ew s.pols)))),.int .i64 0],[]⟩)
 | [],done,a,T,H,c,n,e,hn,ha=>by
  have hd:=md0 e;have hll:=ml l PList.enc;obtain rfl:a=tot:=by simpa[aZ] using ha
  have m1:=ml s.paths PathL.enc;simp only[Ar] at htot;refine evA ?_;refine au [59,60,61,5,1] [65] ?_;rw[m1];refine (congrArg (Ev G _) ?_).mp (yM s.paths s ga gc hlc gs hlm (a++aZ paT s.paths) (by simp only[Ar] at htot⊢;omega) hla _ rfl s.paths [] a _ _ _ 0 rfl rfl rfl)
  simp only[AI]
 |x::r,done,a,T,H,c,n,e,hn,ha=>by
  have hd:=md e;have hll:=ml l PList.enc;have hx:=mx PList.enc e hn;have g:=ho x (by simp[e])
  have hlen:a.length+(plT x).length<=tot.length:=by rw[<-ha,aZ];simp only[Ar];omega
  have hq:(plT x).length=12+x.name.length+1+(aZ plL x.rules).length:=by unfold plT;simp only[Ar];rfl
  have htot2:tot.length<2^60:=by rw[Ar] at htot;omega
  have m1:=ml x.rules RuleP.enc;have ha2:a++plT x++aZ plT r=tot:=by rw[<-ha,aZ];simp only[AI]
  refine evl ?_
  repeat' ((conv=>whnf);first|refine eu ?_|refine aq ?_|(refine ae ?_ ?_<;>intro h))
  refine au [41,42,43,5,28,29,30,1] [65] ?_;rw[m1];refine CQ x.rules g.1 _ _ ln n (by omega) (a++plT x) (by rw[Ar];omega) _ (λT H c=>?_) g.2 _ rfl x.rules [] (a++(qz++x.name++[10])) _ _ _ 0 rfl rfl (by rw[plT];simp only[AI])
  exact yG l s ho ga hla gc hlc gs hlm tot htot hl ln hln r (done++[x]) (a++plT x) T H c (n+1) (by simp[e]) (by simp[hn]<;>omega) ha2
end Go.AM.IR
namespace Go.AM.IR
end Go.AM.IR
namespace Go.AM.IR
end Go.AM.IR
namespace Go.AM.IR
def Vq:ACode->ACode
 | .seq _ (.seq _ r)=>r
 |c=>c
theorem rB (s:PSet)(g:s.good)(h0:s.prefixes.length<2^30)(h1:s.paths.length<2^30)(h2:s.comms.length<2^30)(h3:s.pols.length<2^30):ab G 451 [.agg s.enc] [] ⟨.int .i64 (iZ s),[]⟩:=by
 have hn:=Dm s g h0 h1 h2 h3;have hf:(db s).fit:=⟨by simp[db];omega,by simp[db];omega,by simp[db];omega,by simp[db];omega⟩
 have e1:=IP s g;have e2:=IM s g;have e3:=IL s g;have e4:=IK (db s) hf s g;rw[jf ruE PList.name PList.rules s.prefixes [] [] true (by simp)] at e1
 rw[jf paE PathL.name PathL.rules s.paths [] [] true (by simp)] at e2
 rw[jf dy ComL.name ComL.rules s.comms [] [] true (by simp)] at e3
 rw[qP s s.pols [] [] true (by simp)] at e4
 have q1:(if 64<s.prefixes.length then 4 else kn ruE PList.name PList.rules s.prefixes [] true)=lZ s.prefixes:=rfl
 have q2:(if 64<s.paths.length then 4 else kn paE PathL.name PathL.rules s.paths [] true)=ni s.paths:=rfl
 have q3:(if 64<s.comms.length then 4 else kn dy ComL.name ComL.rules s.comms [] true)=lY s.comms:=rfl
 rw[q1] at e1;rw[q2] at e2;rw[q3] at e3
 unfold iZ;generalize lZ s.prefixes=E1 at*;generalize ni s.paths=E2 at*;generalize lY s.comms=E3 at*;generalize (if 64<s.pols.length then 4 else uW s s.pols [] true)=E4 at*
 refine mz (F:=D5) rfl rfl ?_;refine O5 (a:=.region OU false) (b:=.seq (.region DZ false) (Vq D5.body)) ?_;refine wd1 ?_
 repeat' (first|refine bb ?_|(refine ae ?_ ?_<;>intro h))
 refine O5 (a:=.region DZ false) (b:=Vq D5.body) ?_;refine wd1 ?_
 repeat' (first|refine bb ?_|(refine ae ?_ ?_<;>intro h))
 have hpz:(Blk.cells s.enc).pure=true:=by simp[Blk.pure]
 refine sr [(70,_,_),(65606,_,_),(131142,_,_),(196678,_,_)] [1,3] [67] [65] ⟨rfl,frP,rfl,frP,rfl,frP,rfl,frP,trivial⟩ ?_;repeat ((conv=>whnf);first|refine frA ?_|intro T H)
 refine wk3 ?_
 by_cases c1:E1=0
 ·subst c1
  rw[Ad rfl]
  by_cases c2:E2=0
  ·subst c2
   rw[Ad rfl]
   by_cases c3:E3=0
   ·subst c3
    rw[Ad rfl]
    repeat' (first|refine bb ?_|refine kX [(65,_,_)] [] ⟨rfl,trivial⟩ trivial (e1) ?_|refine kX [(65,_,_)] [] ⟨rfl,trivial⟩ trivial (e2) ?_|refine kX [(65,_,_)] [] ⟨rfl,trivial⟩ trivial (e3) ?_|refine kX [(67,_,_),(65,_,_)] [] ⟨rfl,rfl,trivial⟩ trivial (e4) ?_|(refine ae ?_ ?_<;>intro h))
    refine ax ?_;rfl
   ·rw[Ac c3]
    repeat' (first|refine bb ?_|refine kX [(65,_,_)] [] ⟨rfl,trivial⟩ trivial (e1) ?_|refine kX [(65,_,_)] [] ⟨rfl,trivial⟩ trivial (e2) ?_|refine kX [(65,_,_)] [] ⟨rfl,trivial⟩ trivial (e3) ?_|(refine ae ?_ ?_<;>intro h))
    refine ax ?_;rfl
  ·rw[Ac c2]
   repeat' (first|refine bb ?_|refine kX [(65,_,_)] [] ⟨rfl,trivial⟩ trivial (e1) ?_|refine kX [(65,_,_)] [] ⟨rfl,trivial⟩ trivial (e2) ?_|(refine ae ?_ ?_<;>intro h))
   refine ax ?_;rfl
 ·rw[Ac c1]
  repeat' (first|refine bb ?_|refine kX [(65,_,_)] [] ⟨rfl,trivial⟩ trivial (e1) ?_|(refine ae ?_ ?_<;>intro h))
  refine ax ?_;rfl
end Go.AM.IR
namespace Go.AM.IR
theorem wx (s:PSet):bJ (s.prefixes.map PList.enc)<=bkL s.enc/\bJ (s.paths.map PathL.enc)<=bkL s.enc/\bJ (s.comms.map ComL.enc)<=bkL s.enc/\bJ (s.pols.map Pol.enc)<=bkL s.enc:=by
 simp only[PSet.enc,bkL,AV.bk];omega
theorem QI (s:PSet)(h:bkL s.enc<=1048576)(x:PList)(hx:x∈s.prefixes):x.rules.length<2^40:=by
 have a:=wx s;have m:=ik (enc:=PList.enc) hx;have n:=ur x;omega
theorem QG (s:PSet)(h:bkL s.enc<=1048576)(x:PathL)(hx:x∈s.paths):x.rules.length<2^40:=by
 have a:=wx s;have m:=ik (enc:=PathL.enc) hx;have n:=uq x;omega
theorem WD (s:PSet)(h:bkL s.enc<=1048576)(x:ComL)(hx:x∈s.comms):x.rules.length<2^40:=by
 have a:=wx s;have m:=ik (enc:=ComL.enc) hx;have n:=ym x;omega
theorem aa1 (t:Trm)(h:bkL t.enc<=1048576)(ok:t.ok):t.gt:=by
 have n1:=eO (enc:=Mat.enc) (λx=>by have:=FQ x;omega) t.mats
 have n2:=eO (enc:=Actn.enc) (λx=>by have:=yn x;omega) t.acts
 simp only[Trm.enc,bkL,AV.bk] at h;refine ⟨λx hx=>⟨ok.1 x hx,?_⟩,by omega,ok.2.1,by omega⟩
 have m:=ik (enc:=Mat.enc) hx;simp only[Mat.enc,bkL,AV.bk] at m;omega
theorem aa2 (s:PSet)(h:bkL s.enc<=1048576)(p:Pol)(hp:p∈s.pols)(ok:p.ok):p.gt:=by
 have a:=wx s;have m:=ik (enc:=Pol.enc) hp;have l:=CP p;have n:=eO (enc:=Trm.enc) (λx=>by have:=FK x;omega) p.terms
 have e:bJ (p.terms.map Trm.enc)<=bkL p.enc:=by simp only[Pol.enc,bkL,AV.bk];omega
 refine ⟨λt ht=>aa1 t ?_ (ok.1 t ht),by omega,by omega⟩
 have:=ik (enc:=Trm.enc) ht;omega
theorem CJ (s:PSet)(h:bkL s.enc<=1048576)(ok:s.ok):ab G 405 [.agg s.enc] [] (CK s):=by
 have gd:=rj s h ok;have lm:=Sb s;have h1:=rB s gd (by omega) (by omega) (by omega) (by omega)
 rw[CK]
 by_cases hz:iZ s=0
 ·rw[Ad hz]
  rw[hz] at h1;obtain ⟨r1,r2⟩:=IY hz;have lt:=Qw s;have m1:=ml s.prefixes PList.enc;have g0: ∀x∈s.prefixes,(∀r∈x.rules,r.ok/\ruE r=0)/\x.rules.length<2^40:=λx hx=>⟨λr hr=>⟨ok.1 x hx r hr,r1 x hx r hr⟩,(QI s h x hx)⟩
  have g1: ∀x∈s.paths,(∀r∈x.rules,True)/\x.rules.length<2^40:=λx hx=>⟨λr hr=>trivial,(QG s h x hx)⟩
  have g2: ∀x∈s.comms,(∀r∈x.rules,r.ok/\dy r=0)/\x.rules.length<2^40:=λx hx=>⟨λr hr=>⟨ok.2.2.1 x hx r hr,r2 x hx r hr⟩,(WD s h x hx)⟩
  have g3: ∀x∈s.pols,x.gt:=λx hx=>aa2 s h x hx (ok.2.2.2 x hx)
  unfold bU at lt⊢;refine gvB (F:=ns) ?_;refine au [28,29,30,5,1] [65] ?_;rw[m1];exact yG s.prefixes s g0 g1 (by omega) g2 (by omega) g3 (by omega) (aZ plT s.prefixes) (by omega) (by omega) _ rfl s.prefixes [] [] _ _ _ 0 rfl rfl rfl
 ·rw[Ac hz]
  generalize iZ s=E at*;refine gvC (F:=ns) ?_
  repeat' ((conv=>whnf);first|refine zNeI1 hz ?_|refine aq ?_|(refine ae ?_ ?_<;>intro h))
  refine ax ?_;rfl
end Go.AM.IR
