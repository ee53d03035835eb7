/- What functions of this program give. -/
import Derived.Test.YtomphmeopjpejaaGreatDoorDataR
set_option linter.unusedSectionVars false
set_option linter.unusedVariables false
set_option linter.unusedSimpArgs false
set_option maxHeartbeats 4000000
set_option maxRecDepth 20000
namespace Go.AM.IR
theorem yZ (l2:Dr)(ho: ∀x∈l2,x.ok)(P:CL)(nm:CF)(ms:CS)(v:Int)(g5:Nat)(ls:CS)(len i:Int)(hi:0<=i/\i<2^40)(tot:CF)(htot:tot.length<2^60)(R:Ret)(go: ∀(T:TV) (H:aq) (c:Nat),Ev G ⟨tq,⟨(16,.sl 4 ls)::(17,.int .i64 len)::(18,.int .i64 (i+1))::(3,.str (tot++(dp v++[10])))::(1,.ref 65 1 0)::T,(65,some (1,.cells P))::H,c⟩,[.t 2],0⟩ R)(hl:l2.length<2^40)(ln:Int)(hln:ln=l2.length): ∀(rest done:Dr)(a:CF)(T:TV)(H:aq)(c:Nat)(n:Int)(e:l2=done++rest)(hn:n=done.length)(ha:a++aA et rest=tot),Ev G ⟨VT,⟨(47,.sl 5 (l2.map Actn.enc))::(48,.int .i64 ln)::(49,.int .i64 n)::(3,.str a)::(16,.sl 4 ls)::(17,.int .i64 len)::(18,.int .i64 i)::(1,.ref 65 1 0)::(5,.ref 69 g5 0)::T,(65,some (1,.cells P))::(69,some (g5,.cells [.str nm,.sl 6 ms,.sl 5 (l2.map Actn.enc),.int .i64 v]))::H,c⟩,[.t 2],0⟩ R
 | [],done,a,T,H,c,n,e,hn,ha=>by
  have hd:=md0 e;have hll:=ml l2 Actn.enc;obtain rfl:a=tot:=by simpa[aA] using ha
  have hv:=sc v;have hvl:=l6 v;generalize dp v=w at*;refine evl ?_
  repeat' ((conv=>whnf);first|refine bQ ?_|refine ay ?_|apply ae<;>intro h)
  refine ag [16,17,18,3,1] [65] ?_;exact go _ _ _
 |x::r,done,a,T,H,c,n,e,hn,ha=>by
  have hd:=md e;have hll:=ml l2 Actn.enc;have hx:=mx Actn.enc e hn;have h1:=LY x (ho x (by simp[e]))
  have hlen:a.length+(et x).length<=tot.length:=by rw[<-ha,aA];simp only[Ar];omega
  have ha2:a++(zh++jm x++[10])++aA et r=tot:=by rw[<-ha,aA,et];simp only[AI]
  have hq:(et x).length=4+(jm x).length+1:=by unfold et;simp only[Ar];rfl
  generalize jm x=w at*;refine evl ?_
  repeat' ((conv=>whnf);first|refine bQ ?_|refine ay ?_|apply ae<;>intro h)
  refine ag [47,48,49,3,16,17,18,1,5] [65,69] ?_;exact yZ l2 ho P nm ms v g5 ls len i hi tot htot R go hl ln hln r (done++[x]) (a++(zh++w++[10])) _ _ _ (n+1) (by simp[e]) (by simp[hn]<;>omega) ha2
theorem rg (l2:Ds)(ho: ∀x∈l2,x.ok/\x.name.length<2^40)(P:CL)(nm:CF)(acts:Dr)(hao: ∀x∈acts,x.ok)(hal:acts.length<2^40)(v:Int)(g5:Nat)(ls:CS)(len i:Int)(hi:0<=i/\i<2^40)(tot:CF)(htot:tot.length+(aA et acts).length<2^60)(R:Ret)(go: ∀(T:TV) (H:aq) (c:Nat),Ev G ⟨tq,⟨(16,.sl 4 ls)::(17,.int .i64 len)::(18,.int .i64 (i+1))::(3,.str (tot++(aA et acts++(dp v++[10]))))::(1,.ref 65 1 0)::T,(65,some (1,.cells P))::H,c⟩,[.t 2],0⟩ R)(hl:l2.length<2^40)(ln:Int)(hln:ln=l2.length): ∀(rest done:Ds)(a:CF)(T:TV)(H:aq)(c:Nat)(n:Int)(e:l2=done++rest)(hn:n=done.length)(ha:a++aA fG rest=tot),Ev G ⟨VU,⟨(29,.sl 6 (l2.map Mat.enc))::(30,.int .i64 ln)::(31,.int .i64 n)::(3,.str a)::(16,.sl 4 ls)::(17,.int .i64 len)::(18,.int .i64 i)::(1,.ref 65 1 0)::(5,.ref 69 g5 0)::T,(65,some (1,.cells P))::(69,some (g5,.cells [.str nm,.sl 6 (l2.map Mat.enc),.sl 5 (acts.map Actn.enc),.int .i64 v]))::H,c⟩,[.t 2],0⟩ R
 | [],done,a,T,H,c,n,e,hn,ha=>by
  have hd:=md0 e;have hll:=ml l2 Mat.enc;obtain rfl:a=tot:=by simpa[aA] using ha
  have m1:=ml acts Actn.enc;refine evA ?_;refine ag [47,48,49,3,16,17,18,1,5] [65,69] ?_;rw[m1];refine yZ acts hao P nm _ v g5 ls len i hi (a++aA et acts) (by rw[Ar];exact htot) R (λT H c=>?_) hal _ rfl acts [] a _ _ _ 0 rfl rfl rfl
  rw[AI];exact go T H c
 |x::r,done,a,T,H,c,n,e,hn,ha=>by
  have hd:=md e;have hll:=ml l2 Mat.enc;have hx:=mx Mat.enc e hn;have h1:=Jl x (ho x (by simp[e])).1 (ho x (by simp[e])).2
  have hlen:a.length+(fG x).length<=tot.length:=by rw[<-ha,aA];simp only[Ar];omega
  have hq:(fG x).length=6+(bif x.neg then ju else []).length+(i7 x).length+1:=by unfold fG;simp only[Ar];rfl
  have ha2: ∀w,(bif x.neg then ju else [])=w->a++(mU++w++i7 x++[10])++aA fG r=tot:=by intro w hw;rw[<-ha,aA,fG,hw];simp only[AI]
  generalize i7 x=w at*;have hz:ju.length=4:=rfl;cases hneg:x.neg
  ·have ha3:=ha2 [] (by rw[hneg];rfl)
   rw[hneg] at hq;refine evl ?_
   repeat' ((conv=>whnf);first|refine bQ ?_|refine ay ?_|apply ae<;>intro h)
   refine ag [29,30,31,3,16,17,18,1,5] [65,69] ?_;exact rg l2 ho P nm acts hao hal v g5 ls len i hi tot htot R go hl ln hln r (done++[x]) (a++(mU++[]++w++[10])) _ _ _ (n+1) (by simp[e]) (by simp[hn]<;>omega) ha3
  ·have ha3:=ha2 ju (by rw[hneg];rfl)
   rw[hneg] at hq;simp only[cond_true] at hq;refine evl ?_
   repeat' ((conv=>whnf);first|refine bQ ?_|refine ay ?_|apply ae<;>intro h)
   refine ag [29,30,31,3,16,17,18,1,5] [65,69] ?_;exact rg l2 ho P nm acts hao hal v g5 ls len i hi tot htot R go hl ln hln r (done++[x]) (a++(mU++ju++w++[10])) _ _ _ (n+1) (by simp[e]) (by simp[hn]<;>omega) ha3
structure Trm.gt (t:Trm):Prop where
 ms: ∀x∈t.mats,x.ok/\x.name.length<2^40
 ml:t.mats.length<2^40
 acz: ∀x∈t.acts,x.ok
 al:t.acts.length<2^40
theorem xn (l:Da)(ho: ∀x∈l,x.gt)(nm:CF)(v:Int)(tot:CF)(htot:tot.length<2^60)(hl:l.length<2^40)(ln:Int)(hln:ln=l.length): ∀(rest done:Da)(a:CF)(T:TV)(H:aq)(c:Nat)(n:Int)(e:l=done++rest)(hn:n=done.length)(ha:a++aA dH rest=tot),Ev G ⟨tq,⟨(16,.sl 4 (l.map Trm.enc))::(17,.int .i64 ln)::(18,.int .i64 n)::(3,.str a)::(1,.ref 65 1 0)::T,(65,some (1,.cells [.str nm,.sl 4 (l.map Trm.enc),.int .i64 v]))::H,c⟩,[.t 2],0⟩ ⟨.str (tot++ob++dp v++[10]),[]⟩
 | [],done,a,T,H,c,n,e,hn,ha=>by
  have hd:=md0 e;have hll:=ml l Trm.enc;obtain rfl:a=tot:=by simpa[aA] using ha
  have hv:=sc v;have hvl:=l6 v;generalize dp v=w at*;refine evl ?_
  repeat' ((conv=>whnf);first|refine bQ ?_|refine ay ?_|apply ae<;>intro h)
  refine au ?_;rfl
 |x::r,done,a,T,H,c,n,e,hn,ha=>by
  have hd:=md e;have hll:=ml l Trm.enc;have hx:=mx Trm.enc e hn;have g:=ho x (by simp[e])
  have hlen:a.length+(dH x).length<=tot.length:=by rw[<-ha,aA];simp only[Ar];omega
  have hq:(dH x).length=5+x.name.length+1+((aA fG x.mats).length+((aA et x.acts).length+((dp x.verdict).length+1))):=by unfold dH;simp only[Ar];rfl
  have m1:=ml x.mats Mat.enc;have ha2:a++dH x++aA dH r=tot:=by rw[<-ha,aA];simp only[AI]
  refine evl ?_
  repeat' ((conv=>whnf);first|refine bQ ?_|refine ay ?_|apply ae<;>intro h)
  refine ag [29,30,31,3,16,17,18,1,5] [65,69] ?_;rw[m1];refine rg x.mats g.ms _ x.name x.acts g.acz g.al x.verdict _ _ ln n (by omega) (a++(mF++x.name++[10])++aA fG x.mats) (by have:mF.length=5:=rfl;have:([10]:CF).length=1:=rfl;simp only[Ar];omega) _ (λT H c=>?_) g.ml _ rfl x.mats [] (a++(mF++x.name++[10])) _ _ _ 0 rfl rfl rfl
  rw[show a++(mF++x.name++[10])++aA fG x.mats++(aA et x.acts++(dp x.verdict++[10]))=a++dH x from by rw[dH];simp only[AI]]
  exact xn l ho nm v tot htot hl ln hln r (done++[x]) (a++dH x) T H c (n+1) (by simp[e]) (by simp[hn]<;>omega) ha2
structure Pol.gt (p:Pol):Prop where
 ts: ∀x∈p.terms,x.gt
 tl:p.terms.length<2^40
 len:(bR p).length<2^50
theorem IC (p:Pol)(g:p.gt):ab G 454 [.agg p.enc] [] ⟨.str (bR p),[]⟩:=by
 have hq:(bR p).length=7+p.name.length+1+((aA dH p.terms).length+(8+(dp p.dflt).length+1)):=by unfold bR;simp only[Ar];rfl
 have g3:=g.len;have m1:=ml p.terms Trm.enc;refine gvC (F:=Bg) ?_
 repeat' ((conv=>whnf);first|refine bQ ?_|refine ay ?_|apply ae<;>intro h)
 refine ag [16,17,18,3,1] [65] ?_;rw[m1,show bR p=sa++p.name++[10]++aA dH p.terms++ob++dp p.dflt++[10] from by rw[bR];simp only[AI]]
 exact xn p.terms g.ts p.name p.dflt (sa++p.name++[10]++aA dH p.terms) (by have:sa.length=7:=rfl;have:([10]:CF).length=1:=rfl;simp only[Ar];omega) g.tl _ rfl p.terms [] _ _ _ _ 0 rfl rfl rfl
theorem xT (l:C9)(ho: ∀x∈l,x.gt)(tot:CF)(htot:tot.length<2^60)(hl:l.length<2^40)(ln:Int)(hln:ln=l.length): ∀(rest done:C9)(a:CF)(T:TV)(H:aq)(c:Nat)(n:Int)(e:l=done++rest)(hn:n=done.length)(ha:a++aA bR rest=tot),Ev G ⟨Wd,⟨(127,.sl 3 (l.map Pol.enc))::(128,.int .i64 ln)::(129,.int .i64 n)::(5,.str a)::T,H,c⟩,[.t 2,.t 3],0⟩ (if 65536<tot.length then ⟨.tup [.str [],.int .i64 4],[]⟩ else ⟨.tup [.str tot,.int .i64 0],[]⟩)
 | [],done,a,T,H,c,n,e,hn,ha=>by
  have hd:=md0 e;have hll:=ml l Pol.enc;obtain rfl:a=tot:=by simpa[aA] using ha
  by_cases z:65536<a.length
  ·rw[Ad z]
   have z2:(a.length:Int)>65536:=by omega
   refine evA ?_;refine au ?_;rfl
  ·rw[Ac z]
   have z2: ¬(a.length:Int)>65536:=by omega
   refine evA ?_;refine au ?_;rfl
 |x::r,done,a,T,H,c,n,e,hn,ha=>by
  have hd:=md e;have hll:=ml l Pol.enc;have hx:=mx Pol.enc e hn;have h1:=IC x (ho x (by simp[e]))
  have hlen:a.length+(bR x).length<=tot.length:=by rw[<-ha,aA];simp only[Ar];omega
  have ha2:a++bR x++aA bR r=tot:=by rw[<-ha,aA];simp only[AI]
  have hz:(a++bR x).length=a.length+(bR x).length:=Ar;generalize bR x=w at*
  by_cases z:65536<a.length+w.length
  ·have z2:((a++w).length:Int)>65536:=by omega
   rw[Ad (by omega)]
   refine evl ?_
   repeat' ((conv=>whnf);first|refine bQ ?_|refine ay ?_|apply ae<;>intro h)
   refine au ?_;rfl
  ·have z2: ¬((a++w).length:Int)>65536:=by omega
   refine evl ?_
   repeat' ((conv=>whnf);first|refine bQ ?_|refine ay ?_|apply ae<;>intro h)
   refine ag [127,128,129,5] [] ?_;exact xT l ho tot htot hl ln hln r (done++[x]) (a++w) _ _ _ (n+1) (by simp[e]) (by simp[hn]<;>omega) ha2
theorem KO (l2:DR)(ho: ∀x∈l2,x.ok/\bW x=0)(P:CL)(ls:CS)(len i:Int)(hi:0<=i/\i<2^40)(tot:CF)(htot:tot.length<2^60)(R:Ret)(go: ∀(T:TV) (H:aq) (c:Nat),Ev G ⟨Dw,⟨(90,.sl 2 ls)::(91,.int .i64 len)::(92,.int .i64 (i+1))::(5,.str tot)::(1,.ref 65 1 0)::T,(65,some (1,.cells P))::H,c⟩,[.t 2,.t 3],0⟩ R)(hl:l2.length<2^40)(ln:Int)(hln:ln=l2.length): ∀(rest done:DR)(a:CF)(T:TV)(H:aq)(c:Nat)(n:Int)(e:l2=done++rest)(hn:n=done.length)(ha:a++aA coL rest=tot),Ev G ⟨We,⟨(103,.sl 3 (l2.map ComR.enc))::(104,.int .i64 ln)::(105,.int .i64 n)::(5,.str a)::(90,.sl 2 ls)::(91,.int .i64 len)::(92,.int .i64 i)::(1,.ref 65 1 0)::T,(65,some (1,.cells P))::H,c⟩,[.t 2,.t 3],0⟩ R
 | [],done,a,T,H,c,n,e,hn,ha=>by
  have hd:=md0 e;have hll:=ml l2 ComR.enc;obtain rfl:a=tot:=by simpa[aA] using ha
  refine evA ?_;refine ag [90,91,92,5,1] [65] ?_;exact go _ _ _
 |x::r,done,a,T,H,c,n,e,hn,ha=>by
  have hd:=md e;have hll:=ml l2 ComR.enc;have hx:=mx ComR.enc e hn;have hlen:a.length+(coL x).length<=tot.length:=by rw[<-ha,aA];simp only[Ar];omega
  have ha2:a++coL x++aA coL r=tot:=by rw[<-ha,aA];simp only[AI]
  rw[coL] at ha2;have h0:=DQ (ho x (by simp[e])).2
  have h1:=sw x.permit;have h2:=td (ho x (by simp[e])).1.1
  have h3:=td (ho x (by simp[e])).1.2
  have hq:(coL x).length=(gh x.permit).length+(d9 x.high).length+1+(d9 x.low).length+1:=by unfold coL;simp only[Ar];rfl
  generalize gh x.permit=w at*;generalize d9 x.high=u1 at*;generalize d9 x.low=u2 at*;refine evl ?_
  repeat' ((conv=>whnf);first|refine bQ ?_|refine ay ?_|apply ae<;>intro h)
  refine ag [103,104,105,5,90,91,92,1] [65] ?_;exact KO l2 ho P ls len i hi tot htot R go hl ln hln r (done++[x]) (a++(w++u1++[58]++u2++[10])) _ _ _ (n+1) (by simp[e]) (by simp[hn]<;>omega) ha2
theorem DX (l:C6)(s:PSet)(ho: ∀x∈l,(∀r∈x.rules,r.ok/\bW r=0)/\x.rules.length<2^40)(gs: ∀x∈s.pols,x.gt)(hlm:s.pols.length<2^40)(tot:CF)(htot:(tot++(aA bR s.pols)).length<2^60)(hl:l.length<2^40)(ln:Int)(hln:ln=l.length): ∀(rest done:C6)(a:CF)(T:TV)(H:aq)(c:Nat)(n:Int)(e:l=done++rest)(hn:n=done.length)(ha:a++aA coT rest=tot),Ev G ⟨Dw,⟨(90,.sl 2 (l.map ComL.enc))::(91,.int .i64 ln)::(92,.int .i64 n)::(5,.str a)::(1,.ref 65 1 0)::T,(65,some (1,.cells s.enc))::H,c⟩,[.t 2,.t 3],0⟩ (if 65536<(tot++(aA bR s.pols)).length then ⟨.tup [.str [],.int .i64 4],[]⟩ else ⟨.tup [.str (tot++(aA bR s.pols)),.int .i64 0],[]⟩)
 | [],done,a,T,H,c,n,e,hn,ha=>by
  have hd:=md0 e;have hll:=ml l ComL.enc;obtain rfl:a=tot:=by simpa[aA] using ha
  have m1:=ml s.pols Pol.enc;simp only[Ar] at htot;refine evA ?_;refine ag [127,128,129,5] [] ?_;rw[m1];exact xT s.pols gs (a++aA bR s.pols) (by rw[Ar];omega) hlm _ rfl s.pols [] a _ _ _ 0 rfl rfl rfl
 |x::r,done,a,T,H,c,n,e,hn,ha=>by
  have hd:=md e;have hll:=ml l ComL.enc;have hx:=mx ComL.enc e hn;have g:=ho x (by simp[e])
  have hlen:a.length+(coT x).length<=tot.length:=by rw[<-ha,aA];simp only[Ar];omega
  have hq:(coT x).length=15+x.name.length+1+(aA coL x.rules).length:=by unfold coT;simp only[Ar];rfl
  have htot2:tot.length<2^60:=by rw[Ar] at htot;omega
  have m1:=ml x.rules ComR.enc;have ha2:a++coT x++aA coT r=tot:=by rw[<-ha,aA];simp only[AI]
  refine evl ?_
  repeat' ((conv=>whnf);first|refine bQ ?_|refine ay ?_|apply ae<;>intro h)
  refine ag [103,104,105,5,90,91,92,1] [65] ?_;rw[m1];refine KO x.rules g.1 _ _ ln n (by omega) (a++coT x) (by rw[Ar];omega) _ (λT H c=>?_) g.2 _ rfl x.rules [] (a++(vH++x.name++[10])) _ _ _ 0 rfl rfl (by rw[coT];simp only[AI])
  exact DX l s ho gs hlm tot htot hl ln hln r (done++[x]) (a++coT x) T H c (n+1) (by simp[e]) (by simp[hn]<;>omega) ha2
theorem IV (l2:DG)(ho: ∀x∈l2,True)(P:CL)(ls:CS)(len i:Int)(hi:0<=i/\i<2^40)(tot:CF)(htot:tot.length<2^60)(R:Ret)(go: ∀(T:TV) (H:aq) (c:Nat),Ev G ⟨Dx,⟨(59,.sl 2 ls)::(60,.int .i64 len)::(61,.int .i64 (i+1))::(5,.str tot)::(1,.ref 65 1 0)::T,(65,some (1,.cells P))::H,c⟩,[.t 2,.t 3],0⟩ R)(hl:l2.length<2^40)(ln:Int)(hln:ln=l2.length): ∀(rest done:DG)(a:CF)(T:TV)(H:aq)(c:Nat)(n:Int)(e:l2=done++rest)(hn:n=done.length)(ha:a++aA paL rest=tot),Ev G ⟨Wg,⟨(72,.sl 2 (l2.map PathR.enc))::(73,.int .i64 ln)::(74,.int .i64 n)::(5,.str a)::(59,.sl 2 ls)::(60,.int .i64 len)::(61,.int .i64 i)::(1,.ref 65 1 0)::T,(65,some (1,.cells P))::H,c⟩,[.t 2,.t 3],0⟩ R
 | [],done,a,T,H,c,n,e,hn,ha=>by
  have hd:=md0 e;have hll:=ml l2 PathR.enc;obtain rfl:a=tot:=by simpa[aA] using ha
  refine evA ?_;refine ag [59,60,61,5,1] [65] ?_;exact go _ _ _
 |x::r,done,a,T,H,c,n,e,hn,ha=>by
  have hd:=md e;have hll:=ml l2 PathR.enc;have hx:=mx PathR.enc e hn;have hlen:a.length+(paL x).length<=tot.length:=by rw[<-ha,aA];simp only[Ar];omega
  have ha2:a++paL x++aA paL r=tot:=by rw[<-ha,aA];simp only[AI]
  rw[paL] at ha2;have h1:=sw x.permit;have hq:(paL x).length=(gh x.permit).length+x.pattern.length+1:=by unfold paL;simp only[Ar];rfl
  generalize gh x.permit=w at*;refine evl ?_
  repeat' ((conv=>whnf);first|refine bQ ?_|refine ay ?_|apply ae<;>intro h)
  refine ag [72,73,74,5,59,60,61,1] [65] ?_;exact IV l2 ho P ls len i hi tot htot R go hl ln hln r (done++[x]) (a++(w++x.pattern++[10])) _ _ _ (n+1) (by simp[e]) (by simp[hn]<;>omega) ha2
theorem CH (l:C4)(s:PSet)(ho: ∀x∈l,(∀r∈x.rules,True)/\x.rules.length<2^40)(gc: ∀x∈s.comms,(∀r∈x.rules,r.ok/\bW r=0)/\x.rules.length<2^40)(hlc:s.comms.length<2^40)(gs: ∀x∈s.pols,x.gt)(hlm:s.pols.length<2^40)(tot:CF)(htot:(tot++(aA coT s.comms++(aA bR s.pols))).length<2^60)(hl:l.length<2^40)(ln:Int)(hln:ln=l.length): ∀(rest done:C4)(a:CF)(T:TV)(H:aq)(c:Nat)(n:Int)(e:l=done++rest)(hn:n=done.length)(ha:a++aA paT rest=tot),Ev G ⟨Dx,⟨(59,.sl 2 (l.map PathL.enc))::(60,.int .i64 ln)::(61,.int .i64 n)::(5,.str a)::(1,.ref 65 1 0)::T,(65,some (1,.cells s.enc))::H,c⟩,[.t 2,.t 3],0⟩ (if 65536<(tot++(aA coT s.comms++(aA bR s.pols))).length then ⟨.tup [.str [],.int .i64 4],[]⟩ else ⟨.tup [.str (tot++(aA coT s.comms++(aA bR s.pols))),.int .i64 0],[]⟩)
 | [],done,a,T,H,c,n,e,hn,ha=>by
  have hd:=md0 e;have hll:=ml l PathL.enc;obtain rfl:a=tot:=by simpa[aA] using ha
  have m1:=ml s.comms ComL.enc;simp only[Ar] at htot;refine evA ?_;refine ag [90,91,92,5,1] [65] ?_;rw[m1];refine (congrArg (Ev G _) ?_).mp (DX s.comms s gc gs hlm (a++aA coT s.comms) (by simp only[Ar] at htot⊢;omega) hlc _ rfl s.comms [] a _ _ _ 0 rfl rfl rfl)
  simp only[AI]
 |x::r,done,a,T,H,c,n,e,hn,ha=>by
  have hd:=md e;have hll:=ml l PathL.enc;have hx:=mx PathL.enc e hn;have g:=ho x (by simp[e])
  have hlen:a.length+(paT x).length<=tot.length:=by rw[<-ha,aA];simp only[Ar];omega
  have hq:(paT x).length=10+x.name.length+1+(aA paL x.rules).length:=by unfold paT;simp only[Ar];rfl
  have htot2:tot.length<2^60:=by rw[Ar] at htot;omega
  have m1:=ml x.rules PathR.enc;have ha2:a++paT x++aA paT r=tot:=by rw[<-ha,aA];simp only[AI]
  refine evl ?_
  repeat' ((conv=>whnf);first|refine bQ ?_|refine ay ?_|apply ae<;>intro h)
  refine ag [72,73,74,5,59,60,61,1] [65] ?_;rw[m1];refine IV x.rules g.1 _ _ ln n (by omega) (a++paT x) (by rw[Ar];omega) _ (λT H c=>?_) g.2 _ rfl x.rules [] (a++(vC++x.name++[10])) _ _ _ 0 rfl rfl (by rw[paT];simp only[AI])
  exact CH l s ho gc hlc gs hlm tot htot hl ln hln r (done++[x]) (a++paT x) T H c (n+1) (by simp[e]) (by simp[hn]<;>omega) ha2
theorem IK (l2:DF)(ho: ∀x∈l2,x.ok/\ruE x=0)(P:CL)(ls:CS)(len i:Int)(hi:0<=i/\i<2^40)(tot:CF)(htot:tot.length<2^60)(R:Ret)(go: ∀(T:TV) (H:aq) (c:Nat),Ev G ⟨Dy,⟨(28,.sl 2 ls)::(29,.int .i64 len)::(30,.int .i64 (i+1))::(5,.str tot)::(1,.ref 65 1 0)::T,(65,some (1,.cells P))::H,c⟩,[.t 2,.t 3],0⟩ R)(hl:l2.length<2^40)(ln:Int)(hln:ln=l2.length): ∀(rest done:DF)(a:CF)(T:TV)(H:aq)(c:Nat)(n:Int)(e:l2=done++rest)(hn:n=done.length)(ha:a++aA plL rest=tot),Ev G ⟨Wh,⟨(41,.sl 5 (l2.map RuleP.enc))::(42,.int .i64 ln)::(43,.int .i64 n)::(5,.str a)::(28,.sl 2 ls)::(29,.int .i64 len)::(30,.int .i64 i)::(1,.ref 65 1 0)::T,(65,some (1,.cells P))::H,c⟩,[.t 2,.t 3],0⟩ R
 | [],done,a,T,H,c,n,e,hn,ha=>by
  have hd:=md0 e;have hll:=ml l2 RuleP.enc;obtain rfl:a=tot:=by simpa[aA] using ha
  refine evA ?_;refine ag [28,29,30,5,1] [65] ?_;exact go _ _ _
 |x::r,done,a,T,H,c,n,e,hn,ha=>by
  have hd:=md e;have hll:=ml l2 RuleP.enc;have hx:=mx RuleP.enc e hn;have hlen:a.length+(plL x).length<=tot.length:=by rw[<-ha,aA];simp only[Ar];omega
  have ha2:a++plL x++aA plL r=tot:=by rw[<-ha,aA];simp only[AI]
  rw[plL] at ha2
  have h1:ab G 332 [.agg x.enc] [] ⟨.tup [.str (rtext x),.int .i64 0],[]⟩:=by
   have:=text_gives332 x (ho x (by simp[e])).1
   rwa [txR,Ad (ho x (by simp[e])).2] at this
  have hq:(plL x).length=(rtext x).length+1:=by unfold plL;simp only[Ar];rfl
  generalize rtext x=w at*;refine evl ?_
  repeat' ((conv=>whnf);first|refine bQ ?_|refine ay ?_|apply ae<;>intro h)
  refine ag [41,42,43,5,28,29,30,1] [65] ?_;exact IK l2 ho P ls len i hi tot htot R go hl ln hln r (done++[x]) (a++(w++[10])) _ _ _ (n+1) (by simp[e]) (by simp[hn]<;>omega) ha2
theorem Cq (l:C3)(s:PSet)(ho: ∀x∈l,(∀r∈x.rules,r.ok/\ruE r=0)/\x.rules.length<2^40)(ga: ∀x∈s.paths,(∀r∈x.rules,True)/\x.rules.length<2^40)(hla:s.paths.length<2^40)(gc: ∀x∈s.comms,(∀r∈x.rules,r.ok/\bW r=0)/\x.rules.length<2^40)(hlc:s.comms.length<2^40)(gs: ∀x∈s.pols,x.gt)(hlm:s.pols.length<2^40)(tot:CF)(htot:(tot++(aA paT s.paths++(aA coT s.comms++(aA bR s.pols)))).length<2^60)(hl:l.length<2^40)(ln:Int)(hln:ln=l.length): ∀(rest done:C3)(a:CF)(T:TV)(H:aq)(c:Nat)(n:Int)(e:l=done++rest)(hn:n=done.length)(ha:a++aA plT rest=tot),Ev G ⟨Dy,⟨(28,.sl 2 (l.map PList.enc))::(29,.int .i64 ln)::(30,.int .i64 n)::(5,.str a)::(1,.ref 65 1 0)::T,(65,some (1,.cells s.enc))::H,c⟩,[.t 2,.t 3],0⟩ (if 65536<(tot++(aA paT s.paths++(aA coT s.comms++(aA bR s.pols)))).length then ⟨.tup [.str [],.int .i64 4],[]⟩ else ⟨.tup [.str (tot++(aA paT s.paths++(aA coT s.comms++(aA bR s.pols)))),.int .i64 0],[]⟩)
 | [],done,a,T,H,c,n,e,hn,ha=>by
  have hd:=md0 e;have hll:=ml l PList.enc;obtain rfl:a=tot:=by simpa[aA] using ha
  have m1:=ml s.paths PathL.enc;simp only[Ar] at htot;refine evA ?_;refine ag [59,60,61,5,1] [65] ?_;rw[m1];refine (congrArg (Ev G _) ?_).mp (CH s.paths s ga gc hlc gs hlm (a++aA paT s.paths) (by simp only[Ar] at htot⊢;omega) hla _ rfl s.paths [] a _ _ _ 0 rfl rfl rfl)
  simp only[AI]
 |x::r,done,a,T,H,c,n,e,hn,ha=>by
  have hd:=md e;have hll:=ml l PList.enc;have hx:=mx PList.enc e hn;have g:=ho x (by simp[e])
  have hlen:a.length+(plT x).length<=tot.length:=by rw[<-ha,aA];simp only[Ar];omega
  have hq:(plT x).length=12+x.name.length+1+(aA plL x.rules).length:=by unfold plT;simp only[Ar];rfl
  have htot2:tot.length<2^60:=by rw[Ar] at htot;omega
  have m1:=ml x.rules RuleP.enc;have ha2:a++plT x++aA plT r=tot:=by rw[<-ha,aA];simp only[AI]
  refine evl ?_
  repeat' ((conv=>whnf);first|refine bQ ?_|refine ay ?_|apply ae<;>intro h)
  refine ag [41,42,43,5,28,29,30,1] [65] ?_;rw[m1];refine IK x.rules g.1 _ _ ln n (by omega) (a++plT x) (by rw[Ar];omega) _ (λT H c=>?_) g.2 _ rfl x.rules [] (a++(vz++x.name++[10])) _ _ _ 0 rfl rfl (by rw[plT];simp only[AI])
  exact Cq l s ho ga hla gc hlc gs hlm tot htot hl ln hln r (done++[x]) (a++plT x) T H c (n+1) (by simp[e]) (by simp[hn]<;>omega) ha2
theorem yY (l2:Dr)(ho: ∀x∈l2,x.ok)(P:CL)(nm:CF)(ms:CS)(v:Int)(g5:Nat)(ls:CS)(len i:Int)(hi:0<=i/\i<2^40)(tot:CF)(htot:tot.length<2^60)(R:Ret)(go: ∀(T:TV) (H:aq) (c:Nat),Ev G ⟨tp,⟨(15,.sl 4 ls)::(16,.int .i64 len)::(17,.int .i64 (i+1))::(3,.str (tot++(dp v++[10])))::(1,.ref 65 1 0)::T,(65,some (1,.cells P))::H,c⟩,[.t 2],0⟩ R)(hl:l2.length<2^40)(ln:Int)(hln:ln=l2.length): ∀(rest done:Dr)(a:CF)(T:TV)(H:aq)(c:Nat)(n:Int)(e:l2=done++rest)(hn:n=done.length)(ha:a++aA et rest=tot),Ev G ⟨VQ,⟨(47,.sl 5 (l2.map Actn.enc))::(48,.int .i64 ln)::(49,.int .i64 n)::(3,.str a)::(15,.sl 4 ls)::(16,.int .i64 len)::(17,.int .i64 i)::(1,.ref 65 1 0)::(5,.ref 69 g5 0)::T,(65,some (1,.cells P))::(69,some (g5,.cells [.str nm,.sl 6 ms,.sl 5 (l2.map Actn.enc),.int .i64 v]))::H,c⟩,[.t 2],0⟩ R
 | [],done,a,T,H,c,n,e,hn,ha=>by
  have hd:=md0 e;have hll:=ml l2 Actn.enc;obtain rfl:a=tot:=by simpa[aA] using ha
  have hv:=sb v;have hvl:=l6 v;generalize dp v=w at*;refine evl ?_
  repeat' ((conv=>whnf);first|refine bQ ?_|refine ay ?_|apply ae<;>intro h)
  refine ag [15,16,17,3,1] [65] ?_;exact go _ _ _
 |x::r,done,a,T,H,c,n,e,hn,ha=>by
  have hd:=md e;have hll:=ml l2 Actn.enc;have hx:=mx Actn.enc e hn;have h1:=LX x (ho x (by simp[e]))
  have hlen:a.length+(et x).length<=tot.length:=by rw[<-ha,aA];simp only[Ar];omega
  have ha2:a++(zh++jm x++[10])++aA et r=tot:=by rw[<-ha,aA,et];simp only[AI]
  have hq:(et x).length=4+(jm x).length+1:=by unfold et;simp only[Ar];rfl
  generalize jm x=w at*;refine evl ?_
  repeat' ((conv=>whnf);first|refine bQ ?_|refine ay ?_|apply ae<;>intro h)
  refine ag [47,48,49,3,15,16,17,1,5] [65,69] ?_;exact yY l2 ho P nm ms v g5 ls len i hi tot htot R go hl ln hln r (done++[x]) (a++(zh++w++[10])) _ _ _ (n+1) (by simp[e]) (by simp[hn]<;>omega) ha2
theorem rf (l2:Ds)(ho: ∀x∈l2,x.ok/\x.name.length<2^40)(P:CL)(nm:CF)(acts:Dr)(hao: ∀x∈acts,x.ok)(hal:acts.length<2^40)(v:Int)(g5:Nat)(ls:CS)(len i:Int)(hi:0<=i/\i<2^40)(tot:CF)(htot:tot.length+(aA et acts).length<2^60)(R:Ret)(go: ∀(T:TV) (H:aq) (c:Nat),Ev G ⟨tp,⟨(15,.sl 4 ls)::(16,.int .i64 len)::(17,.int .i64 (i+1))::(3,.str (tot++(aA et acts++(dp v++[10]))))::(1,.ref 65 1 0)::T,(65,some (1,.cells P))::H,c⟩,[.t 2],0⟩ R)(hl:l2.length<2^40)(ln:Int)(hln:ln=l2.length): ∀(rest done:Ds)(a:CF)(T:TV)(H:aq)(c:Nat)(n:Int)(e:l2=done++rest)(hn:n=done.length)(ha:a++aA fG rest=tot),Ev G ⟨VR,⟨(28,.sl 6 (l2.map Mat.enc))::(29,.int .i64 ln)::(30,.int .i64 n)::(3,.str a)::(15,.sl 4 ls)::(16,.int .i64 len)::(17,.int .i64 i)::(1,.ref 65 1 0)::(5,.ref 69 g5 0)::T,(65,some (1,.cells P))::(69,some (g5,.cells [.str nm,.sl 6 (l2.map Mat.enc),.sl 5 (acts.map Actn.enc),.int .i64 v]))::H,c⟩,[.t 2],0⟩ R
 | [],done,a,T,H,c,n,e,hn,ha=>by
  have hd:=md0 e;have hll:=ml l2 Mat.enc;obtain rfl:a=tot:=by simpa[aA] using ha
  have m1:=ml acts Actn.enc;refine evA ?_;refine ag [47,48,49,3,15,16,17,1,5] [65,69] ?_;rw[m1];refine yY acts hao P nm _ v g5 ls len i hi (a++aA et acts) (by rw[Ar];exact htot) R (λT H c=>?_) hal _ rfl acts [] a _ _ _ 0 rfl rfl rfl
  rw[AI];exact go T H c
 |x::r,done,a,T,H,c,n,e,hn,ha=>by
  have hd:=md e;have hll:=ml l2 Mat.enc;have hx:=mx Mat.enc e hn;have h1:=Jk x (ho x (by simp[e])).1 (ho x (by simp[e])).2
  have hlen:a.length+(fG x).length<=tot.length:=by rw[<-ha,aA];simp only[Ar];omega
  have hq:(fG x).length=6+(bif x.neg then ju else []).length+(i7 x).length+1:=by unfold fG;simp only[Ar];rfl
  have ha2: ∀w,(bif x.neg then ju else [])=w->a++(mU++w++i7 x++[10])++aA fG r=tot:=by intro w hw;rw[<-ha,aA,fG,hw];simp only[AI]
  generalize i7 x=w at*;have hz:ju.length=4:=rfl;cases hneg:x.neg
  ·have ha3:=ha2 [] (by rw[hneg];rfl)
   rw[hneg] at hq;refine evl ?_
   repeat' ((conv=>whnf);first|refine bQ ?_|refine ay ?_|apply ae<;>intro h)
   refine ag [28,29,30,3,15,16,17,1,5] [65,69] ?_;exact rf l2 ho P nm acts hao hal v g5 ls len i hi tot htot R go hl ln hln r (done++[x]) (a++mU++(w++[10])) _ _ _ (n+1) (by simp[e]) (by simp[hn]<;>omega) (by rw[<-ha3];simp)
  ·have ha3:=ha2 ju (by rw[hneg];rfl)
   rw[hneg] at hq;simp only[cond_true] at hq;refine evl ?_
   repeat' ((conv=>whnf);first|refine bQ ?_|refine ay ?_|apply ae<;>intro h)
   refine ag [28,29,30,3,15,16,17,1,5] [65,69] ?_;exact rf l2 ho P nm acts hao hal v g5 ls len i hi tot htot R go hl ln hln r (done++[x]) (a++mU++ju++(w++[10])) _ _ _ (n+1) (by simp[e]) (by simp[hn]<;>omega) (by rw[<-ha3];simp)
theorem xm (l:Da)(ho: ∀x∈l,x.gt)(nm:CF)(v:Int)(tot:CF)(htot:tot.length<2^60)(hl:l.length<2^40)(ln:Int)(hln:ln=l.length): ∀(rest done:Da)(a:CF)(T:TV)(H:aq)(c:Nat)(n:Int)(e:l=done++rest)(hn:n=done.length)(ha:a++aA dH rest=tot),Ev G ⟨tp,⟨(15,.sl 4 (l.map Trm.enc))::(16,.int .i64 ln)::(17,.int .i64 n)::(3,.str a)::(1,.ref 65 1 0)::T,(65,some (1,.cells [.str nm,.sl 4 (l.map Trm.enc),.int .i64 v]))::H,c⟩,[.t 2],0⟩ ⟨.str (tot++ob++dp v++[10]),[]⟩
 | [],done,a,T,H,c,n,e,hn,ha=>by
  have hd:=md0 e;have hll:=ml l Trm.enc;obtain rfl:a=tot:=by simpa[aA] using ha
  have hv:=sb v;have hvl:=l6 v;generalize dp v=w at*;refine evl ?_
  repeat' ((conv=>whnf);first|refine bQ ?_|refine ay ?_|apply ae<;>intro h)
  refine au ?_;rfl
 |x::r,done,a,T,H,c,n,e,hn,ha=>by
  have hd:=md e;have hll:=ml l Trm.enc;have hx:=mx Trm.enc e hn;have g:=ho x (by simp[e])
  have hlen:a.length+(dH x).length<=tot.length:=by rw[<-ha,aA];simp only[Ar];omega
  have hq:(dH x).length=5+x.name.length+1+((aA fG x.mats).length+((aA et x.acts).length+((dp x.verdict).length+1))):=by unfold dH;simp only[Ar];rfl
  have m1:=ml x.mats Mat.enc;have ha2:a++dH x++aA dH r=tot:=by rw[<-ha,aA];simp only[AI]
  refine evl ?_
  repeat' ((conv=>whnf);first|refine bQ ?_|refine ay ?_|apply ae<;>intro h)
  refine ag [28,29,30,3,15,16,17,1,5] [65,69] ?_;rw[m1];refine rf x.mats g.ms _ x.name x.acts g.acz g.al x.verdict _ _ ln n (by omega) (a++(mF++x.name++[10])++aA fG x.mats) (by have:mF.length=5:=rfl;have:([10]:CF).length=1:=rfl;simp only[Ar];omega) _ (λT H c=>?_) g.ml _ rfl x.mats [] (a++(mF++x.name++[10])) _ _ _ 0 rfl rfl rfl
  rw[show a++(mF++x.name++[10])++aA fG x.mats++(aA et x.acts++(dp x.verdict++[10]))=a++dH x from by rw[dH];simp only[AI]]
  exact xm l ho nm v tot htot hl ln hln r (done++[x]) (a++dH x) T H c (n+1) (by simp[e]) (by simp[hn]<;>omega) ha2
theorem IB (p:Pol)(g:p.gt):ab G 459 [.agg p.enc] [] ⟨.str (bR p),[]⟩:=by
 have hq:(bR p).length=7+p.name.length+1+((aA dH p.terms).length+(8+(dp p.dflt).length+1)):=by unfold bR;simp only[Ar];rfl
 have g3:=g.len;have m1:=ml p.terms Trm.enc;refine gvC (F:=Ba) ?_
 repeat' ((conv=>whnf);first|refine bQ ?_|refine ay ?_|apply ae<;>intro h)
 refine ag [15,16,17,3,1] [65] ?_;rw[m1,show bR p=sa++p.name++[10]++aA dH p.terms++ob++dp p.dflt++[10] from by rw[bR];simp only[AI]]
 exact xm p.terms g.ts p.name p.dflt (sa++p.name++[10]++aA dH p.terms) (by have:sa.length=7:=rfl;have:([10]:CF).length=1:=rfl;simp only[Ar];omega) g.tl _ rfl p.terms [] _ _ _ _ 0 rfl rfl rfl
theorem xQ (l:C9)(ho: ∀x∈l,x.gt)(tot:CF)(htot:tot.length<2^60)(hl:l.length<2^40)(ln:Int)(hln:ln=l.length): ∀(rest done:C9)(a:CF)(T:TV)(H:aq)(c:Nat)(n:Int)(e:l=done++rest)(hn:n=done.length)(ha:a++aA bR rest=tot),Ev G ⟨V8,⟨(127,.sl 3 (l.map Pol.enc))::(128,.int .i64 ln)::(129,.int .i64 n)::(5,.str a)::T,H,c⟩,[.t 2,.t 3],0⟩ (if 65536<tot.length then ⟨.tup [.str [],.int .i64 4],[]⟩ else ⟨.tup [.str tot,.int .i64 0],[]⟩)
 | [],done,a,T,H,c,n,e,hn,ha=>by
  have hd:=md0 e;have hll:=ml l Pol.enc;obtain rfl:a=tot:=by simpa[aA] using ha
  by_cases z:65536<a.length
  ·rw[Ad z]
   have z2:(a.length:Int)>65536:=by omega
   refine evA ?_;refine au ?_;rfl
  ·rw[Ac z]
   have z2: ¬(a.length:Int)>65536:=by omega
   refine evA ?_;refine au ?_;rfl
 |x::r,done,a,T,H,c,n,e,hn,ha=>by
  have hd:=md e;have hll:=ml l Pol.enc;have hx:=mx Pol.enc e hn;have h1:=IB x (ho x (by simp[e]))
  have hlen:a.length+(bR x).length<=tot.length:=by rw[<-ha,aA];simp only[Ar];omega
  have ha2:a++bR x++aA bR r=tot:=by rw[<-ha,aA];simp only[AI]
  have hz:(a++bR x).length=a.length+(bR x).length:=Ar;generalize bR x=w at*;refine evl ?_
  repeat' ((conv=>whnf);first|refine bQ ?_|refine ay ?_|apply ae<;>intro h)
  refine ag [127,128,129,5] [] ?_;exact xQ l ho tot htot hl ln hln r (done++[x]) (a++w) _ _ _ (n+1) (by simp[e]) (by simp[hn]<;>omega) ha2
theorem KN (l2:DR)(ho: ∀x∈l2,x.ok/\bW x=0)(P:CL)(ls:CS)(len i:Int)(hi:0<=i/\i<2^40)(tot:CF)(htot:tot.length<2^60)(R:Ret)(go: ∀(T:TV) (H:aq) (c:Nat),Ev G ⟨Dq,⟨(90,.sl 2 ls)::(91,.int .i64 len)::(92,.int .i64 (i+1))::(5,.str tot)::(1,.ref 65 1 0)::T,(65,some (1,.cells P))::H,c⟩,[.t 2,.t 3],0⟩ R)(hl:l2.length<2^40)(ln:Int)(hln:ln=l2.length): ∀(rest done:DR)(a:CF)(T:TV)(H:aq)(c:Nat)(n:Int)(e:l2=done++rest)(hn:n=done.length)(ha:a++aA coL rest=tot),Ev G ⟨Wa,⟨(103,.sl 3 (l2.map ComR.enc))::(104,.int .i64 ln)::(105,.int .i64 n)::(5,.str a)::(90,.sl 2 ls)::(91,.int .i64 len)::(92,.int .i64 i)::(1,.ref 65 1 0)::T,(65,some (1,.cells P))::H,c⟩,[.t 2,.t 3],0⟩ R
 | [],done,a,T,H,c,n,e,hn,ha=>by
  have hd:=md0 e;have hll:=ml l2 ComR.enc;obtain rfl:a=tot:=by simpa[aA] using ha
  refine evA ?_;refine ag [90,91,92,5,1] [65] ?_;exact go _ _ _
 |x::r,done,a,T,H,c,n,e,hn,ha=>by
  have hd:=md e;have hll:=ml l2 ComR.enc;have hx:=mx ComR.enc e hn;have hlen:a.length+(coL x).length<=tot.length:=by rw[<-ha,aA];simp only[Ar];omega
  have ha2:a++coL x++aA coL r=tot:=by rw[<-ha,aA];simp only[AI]
  rw[coL] at ha2;have h0:=DQ (ho x (by simp[e])).2
  have h1:=sv x.permit;have h2:=sY (ho x (by simp[e])).1.1 h0.1
  have h3:=sY (ho x (by simp[e])).1.2 h0.2
  have hq:(coL x).length=(gh x.permit).length+(d9 x.high).length+1+(d9 x.low).length+1:=by unfold coL;simp only[Ar];rfl
  generalize gh x.permit=w at*;generalize d9 x.high=u1 at*;generalize d9 x.low=u2 at*;refine evl ?_
  repeat' ((conv=>whnf);first|refine bQ ?_|refine ay ?_|apply ae<;>intro h)
  refine ag [103,104,105,5,90,91,92,1] [65] ?_;exact KN l2 ho P ls len i hi tot htot R go hl ln hln r (done++[x]) (a++(w++u1++[58]++u2++[10])) _ _ _ (n+1) (by simp[e]) (by simp[hn]<;>omega) ha2
theorem DW (l:C6)(s:PSet)(ho: ∀x∈l,(∀r∈x.rules,r.ok/\bW r=0)/\x.rules.length<2^40)(gs: ∀x∈s.pols,x.gt)(hlm:s.pols.length<2^40)(tot:CF)(htot:(tot++(aA bR s.pols)).length<2^60)(hl:l.length<2^40)(ln:Int)(hln:ln=l.length): ∀(rest done:C6)(a:CF)(T:TV)(H:aq)(c:Nat)(n:Int)(e:l=done++rest)(hn:n=done.length)(ha:a++aA coT rest=tot),Ev G ⟨Dq,⟨(90,.sl 2 (l.map ComL.enc))::(91,.int .i64 ln)::(92,.int .i64 n)::(5,.str a)::(1,.ref 65 1 0)::T,(65,some (1,.cells s.enc))::H,c⟩,[.t 2,.t 3],0⟩ (if 65536<(tot++(aA bR s.pols)).length then ⟨.tup [.str [],.int .i64 4],[]⟩ else ⟨.tup [.str (tot++(aA bR s.pols)),.int .i64 0],[]⟩)
 | [],done,a,T,H,c,n,e,hn,ha=>by
  have hd:=md0 e;have hll:=ml l ComL.enc;obtain rfl:a=tot:=by simpa[aA] using ha
  have m1:=ml s.pols Pol.enc;simp only[Ar] at htot;refine evA ?_;refine ag [127,128,129,5] [] ?_;rw[m1];exact xQ s.pols gs (a++aA bR s.pols) (by rw[Ar];omega) hlm _ rfl s.pols [] a _ _ _ 0 rfl rfl rfl
 |x::r,done,a,T,H,c,n,e,hn,ha=>by
  have hd:=md e;have hll:=ml l ComL.enc;have hx:=mx ComL.enc e hn;have g:=ho x (by simp[e])
  have hlen:a.length+(coT x).length<=tot.length:=by rw[<-ha,aA];simp only[Ar];omega
  have hq:(coT x).length=15+x.name.length+1+(aA coL x.rules).length:=by unfold coT;simp only[Ar];rfl
  have htot2:tot.length<2^60:=by rw[Ar] at htot;omega
  have m1:=ml x.rules ComR.enc;have ha2:a++coT x++aA coT r=tot:=by rw[<-ha,aA];simp only[AI]
  refine evl ?_
  repeat' ((conv=>whnf);first|refine bQ ?_|refine ay ?_|apply ae<;>intro h)
  refine ag [103,104,105,5,90,91,92,1] [65] ?_;rw[m1];refine KN x.rules g.1 _ _ ln n (by omega) (a++coT x) (by rw[Ar];omega) _ (λT H c=>?_) g.2 _ rfl x.rules [] (a++(vH++x.name++[10])) _ _ _ 0 rfl rfl (by rw[coT];simp only[AI])
  exact DW l s ho gs hlm tot htot hl ln hln r (done++[x]) (a++coT x) T H c (n+1) (by simp[e]) (by simp[hn]<;>omega) ha2
theorem IU (l2:DG)(ho: ∀x∈l2,True)(P:CL)(ls:CS)(len i:Int)(hi:0<=i/\i<2^40)(tot:CF)(htot:tot.length<2^60)(R:Ret)(go: ∀(T:TV) (H:aq) (c:Nat),Ev G ⟨Du,⟨(59,.sl 2 ls)::(60,.int .i64 len)::(61,.int .i64 (i+1))::(5,.str tot)::(1,.ref 65 1 0)::T,(65,some (1,.cells P))::H,c⟩,[.t 2,.t 3],0⟩ R)(hl:l2.length<2^40)(ln:Int)(hln:ln=l2.length): ∀(rest done:DG)(a:CF)(T:TV)(H:aq)(c:Nat)(n:Int)(e:l2=done++rest)(hn:n=done.length)(ha:a++aA paL rest=tot),Ev G ⟨Wb,⟨(72,.sl 2 (l2.map PathR.enc))::(73,.int .i64 ln)::(74,.int .i64 n)::(5,.str a)::(59,.sl 2 ls)::(60,.int .i64 len)::(61,.int .i64 i)::(1,.ref 65 1 0)::T,(65,some (1,.cells P))::H,c⟩,[.t 2,.t 3],0⟩ R
 | [],done,a,T,H,c,n,e,hn,ha=>by
  have hd:=md0 e;have hll:=ml l2 PathR.enc;obtain rfl:a=tot:=by simpa[aA] using ha
  refine evA ?_;refine ag [59,60,61,5,1] [65] ?_;exact go _ _ _
 |x::r,done,a,T,H,c,n,e,hn,ha=>by
  have hd:=md e;have hll:=ml l2 PathR.enc;have hx:=mx PathR.enc e hn;have hlen:a.length+(paL x).length<=tot.length:=by rw[<-ha,aA];simp only[Ar];omega
  have ha2:a++paL x++aA paL r=tot:=by rw[<-ha,aA];simp only[AI]
  rw[paL] at ha2;have h1:=sv x.permit;have hq:(paL x).length=(gh x.permit).length+x.pattern.length+1:=by unfold paL;simp only[Ar];rfl
  generalize gh x.permit=w at*;refine evl ?_
  repeat' ((conv=>whnf);first|refine bQ ?_|refine ay ?_|apply ae<;>intro h)
  refine ag [72,73,74,5,59,60,61,1] [65] ?_;exact IU l2 ho P ls len i hi tot htot R go hl ln hln r (done++[x]) (a++(w++x.pattern++[10])) _ _ _ (n+1) (by simp[e]) (by simp[hn]<;>omega) ha2
theorem CG (l:C4)(s:PSet)(ho: ∀x∈l,(∀r∈x.rules,True)/\x.rules.length<2^40)(gc: ∀x∈s.comms,(∀r∈x.rules,r.ok/\bW r=0)/\x.rules.length<2^40)(hlc:s.comms.length<2^40)(gs: ∀x∈s.pols,x.gt)(hlm:s.pols.length<2^40)(tot:CF)(htot:(tot++(aA coT s.comms++(aA bR s.pols))).length<2^60)(hl:l.length<2^40)(ln:Int)(hln:ln=l.length): ∀(rest done:C4)(a:CF)(T:TV)(H:aq)(c:Nat)(n:Int)(e:l=done++rest)(hn:n=done.length)(ha:a++aA paT rest=tot),Ev G ⟨Du,⟨(59,.sl 2 (l.map PathL.enc))::(60,.int .i64 ln)::(61,.int .i64 n)::(5,.str a)::(1,.ref 65 1 0)::T,(65,some (1,.cells s.enc))::H,c⟩,[.t 2,.t 3],0⟩ (if 65536<(tot++(aA coT s.comms++(aA bR s.pols))).length then ⟨.tup [.str [],.int .i64 4],[]⟩ else ⟨.tup [.str (tot++(aA coT s.comms++(aA bR s.pols))),.int .i64 0],[]⟩)
 | [],done,a,T,H,c,n,e,hn,ha=>by
  have hd:=md0 e;have hll:=ml l PathL.enc;obtain rfl:a=tot:=by simpa[aA] using ha
  have m1:=ml s.comms ComL.enc;simp only[Ar] at htot;refine evA ?_;refine ag [90,91,92,5,1] [65] ?_;rw[m1];refine (congrArg (Ev G _) ?_).mp (DW s.comms s gc gs hlm (a++aA coT s.comms) (by simp only[Ar] at htot⊢;omega) hlc _ rfl s.comms [] a _ _ _ 0 rfl rfl rfl)
  simp only[AI]
 |x::r,done,a,T,H,c,n,e,hn,ha=>by
  have hd:=md e;have hll:=ml l PathL.enc;have hx:=mx PathL.enc e hn;have g:=ho x (by simp[e])
  have hlen:a.length+(paT x).length<=tot.length:=by rw[<-ha,aA];simp only[Ar];omega
  have hq:(paT x).length=10+x.name.length+1+(aA paL x.rules).length:=by unfold paT;simp only[Ar];rfl
  have htot2:tot.length<2^60:=by rw[Ar] at htot;omega
  have m1:=ml x.rules PathR.enc;have ha2:a++paT x++aA paT r=tot:=by rw[<-ha,aA];simp only[AI]
  refine evl ?_
  repeat' ((conv=>whnf);first|refine bQ ?_|refine ay ?_|apply ae<;>intro h)
  refine ag [72,73,74,5,59,60,61,1] [65] ?_;rw[m1];refine IU x.rules g.1 _ _ ln n (by omega) (a++paT x) (by rw[Ar];omega) _ (λT H c=>?_) g.2 _ rfl x.rules [] (a++(vC++x.name++[10])) _ _ _ 0 rfl rfl (by rw[paT];simp only[AI])
  exact CG l s ho gc hlc gs hlm tot htot hl ln hln r (done++[x]) (a++paT x) T H c (n+1) (by simp[e]) (by simp[hn]<;>omega) ha2
theorem IJ (l2:DF)(ho: ∀x∈l2,x.ok/\ruE x=0)(P:CL)(ls:CS)(len i:Int)(hi:0<=i/\i<2^40)(tot:CF)(htot:tot.length<2^60)(R:Ret)(go: ∀(T:TV) (H:aq) (c:Nat),Ev G ⟨Dv,⟨(28,.sl 2 ls)::(29,.int .i64 len)::(30,.int .i64 (i+1))::(5,.str tot)::(1,.ref 65 1 0)::T,(65,some (1,.cells P))::H,c⟩,[.t 2,.t 3],0⟩ R)(hl:l2.length<2^40)(ln:Int)(hln:ln=l2.length): ∀(rest done:DF)(a:CF)(T:TV)(H:aq)(c:Nat)(n:Int)(e:l2=done++rest)(hn:n=done.length)(ha:a++aA plL rest=tot),Ev G ⟨Wc,⟨(41,.sl 5 (l2.map RuleP.enc))::(42,.int .i64 ln)::(43,.int .i64 n)::(5,.str a)::(28,.sl 2 ls)::(29,.int .i64 len)::(30,.int .i64 i)::(1,.ref 65 1 0)::T,(65,some (1,.cells P))::H,c⟩,[.t 2,.t 3],0⟩ R
 | [],done,a,T,H,c,n,e,hn,ha=>by
  have hd:=md0 e;have hll:=ml l2 RuleP.enc;obtain rfl:a=tot:=by simpa[aA] using ha
  refine evA ?_;refine ag [28,29,30,5,1] [65] ?_;exact go _ _ _
 |x::r,done,a,T,H,c,n,e,hn,ha=>by
  have hd:=md e;have hll:=ml l2 RuleP.enc;have hx:=mx RuleP.enc e hn;have hlen:a.length+(plL x).length<=tot.length:=by rw[<-ha,aA];simp only[Ar];omega
  have ha2:a++plL x++aA plL r=tot:=by rw[<-ha,aA];simp only[AI]
  rw[plL] at ha2
  have h1:ab G 333 [.agg x.enc] [] ⟨.tup [.str (rtext x),.int .i64 0],[]⟩:=by
   have:=DZ x (ho x (by simp[e])).1
   rwa [txR,Ad (ho x (by simp[e])).2] at this
  have hq:(plL x).length=(rtext x).length+1:=by unfold plL;simp only[Ar];rfl
  generalize rtext x=w at*;refine evl ?_
  repeat' ((conv=>whnf);first|refine bQ ?_|refine ay ?_|apply ae<;>intro h)
  refine ag [41,42,43,5,28,29,30,1] [65] ?_;exact IJ l2 ho P ls len i hi tot htot R go hl ln hln r (done++[x]) (a++(w++[10])) _ _ _ (n+1) (by simp[e]) (by simp[hn]<;>omega) ha2
theorem Cp (l:C3)(s:PSet)(ho: ∀x∈l,(∀r∈x.rules,r.ok/\ruE r=0)/\x.rules.length<2^40)(ga: ∀x∈s.paths,(∀r∈x.rules,True)/\x.rules.length<2^40)(hla:s.paths.length<2^40)(gc: ∀x∈s.comms,(∀r∈x.rules,r.ok/\bW r=0)/\x.rules.length<2^40)(hlc:s.comms.length<2^40)(gs: ∀x∈s.pols,x.gt)(hlm:s.pols.length<2^40)(tot:CF)(htot:(tot++(aA paT s.paths++(aA coT s.comms++(aA bR s.pols)))).length<2^60)(hl:l.length<2^40)(ln:Int)(hln:ln=l.length): ∀(rest done:C3)(a:CF)(T:TV)(H:aq)(c:Nat)(n:Int)(e:l=done++rest)(hn:n=done.length)(ha:a++aA plT rest=tot),Ev G ⟨Dv,⟨(28,.sl 2 (l.map PList.enc))::(29,.int .i64 ln)::(30,.int .i64 n)::(5,.str a)::(1,.ref 65 1 0)::T,(65,some (1,.cells s.enc))::H,c⟩,[.t 2,.t 3],0⟩ (if 65536<(tot++(aA paT s.paths++(aA coT s.comms++(aA bR s.pols)))).length then ⟨.tup [.str [],.int .i64 4],[]⟩ else ⟨.tup [.str (tot++(aA paT s.paths++(aA coT s.comms++(aA bR s.pols)))),.int .i64 0],[]⟩)
 | [],done,a,T,H,c,n,e,hn,ha=>by
  have hd:=md0 e;have hll:=ml l PList.enc;obtain rfl:a=tot:=by simpa[aA] using ha
  have m1:=ml s.paths PathL.enc;simp only[Ar] at htot;refine evA ?_;refine ag [59,60,61,5,1] [65] ?_;rw[m1];refine (congrArg (Ev G _) ?_).mp (CG s.paths s ga gc hlc gs hlm (a++aA paT s.paths) (by simp only[Ar] at htot⊢;omega) hla _ rfl s.paths [] a _ _ _ 0 rfl rfl rfl)
  simp only[AI]
 |x::r,done,a,T,H,c,n,e,hn,ha=>by
  have hd:=md e;have hll:=ml l PList.enc;have hx:=mx PList.enc e hn;have g:=ho x (by simp[e])
  have hlen:a.length+(plT x).length<=tot.length:=by rw[<-ha,aA];simp only[Ar];omega
  have hq:(plT x).length=12+x.name.length+1+(aA plL x.rules).length:=by unfold plT;simp only[Ar];rfl
  have htot2:tot.length<2^60:=by rw[Ar] at htot;omega
  have m1:=ml x.rules RuleP.enc;have ha2:a++plT x++aA plT r=tot:=by rw[<-ha,aA];simp only[AI]
  refine evl ?_
  repeat' ((conv=>whnf);first|refine bQ ?_|refine ay ?_|apply ae<;>intro h)
  refine ag [41,42,43,5,28,29,30,1] [65] ?_;rw[m1];refine IJ x.rules g.1 _ _ ln n (by omega) (a++plT x) (by rw[Ar];omega) _ (λT H c=>?_) g.2 _ rfl x.rules [] (a++(vz++x.name++[10])) _ _ _ 0 rfl rfl (by rw[plT];simp only[AI])
  exact Cp l s ho ga hla gc hlc gs hlm tot htot hl ln hln r (done++[x]) (a++plT x) T H c (n+1) (by simp[e]) (by simp[hn]<;>omega) ha2
def abL:ACode->ACode
 | .seq _ (.seq _ r)=>r
 |c=>c
theorem KZ (s:PSet)(g:s.good)(h0:s.prefixes.length<2^30)(h1:s.paths.length<2^30)(h2:s.comms.length<2^30)(h3:s.pols.length<2^30):ab G 451 [.agg s.enc] [] ⟨.int .i64 (iA s),[]⟩:=by
 have hn:=Je s g h0 h1 h2 h3;have hf:(dM s).fit:=⟨by simp[dM];omega,by simp[dM];omega,by simp[dM];omega,by simp[dM];omega⟩
 have e1:=NV s g;have e2:=NU s g;have e3:=NT s g;have e4:=NS (dM s) hf s g;rw[jL ruE PList.name PList.rules s.prefixes [] [] true (by simp)] at e1
 rw[jL paE PathL.name PathL.rules s.paths [] [] true (by simp)] at e2
 rw[jL bW ComL.name ComL.rules s.comms [] [] true (by simp)] at e3
 rw[su s s.pols [] [] true (by simp)] at e4
 have q1:(if 64<s.prefixes.length then 4 else iw ruE PList.name PList.rules s.prefixes [] true)=kh s.prefixes:=rfl
 have q2:(if 64<s.paths.length then 4 else iw paE PathL.name PathL.rules s.paths [] true)=lK s.paths:=rfl
 have q3:(if 64<s.comms.length then 4 else iw bW ComL.name ComL.rules s.comms [] true)=kg s.comms:=rfl
 rw[q1] at e1;rw[q2] at e2;rw[q3] at e3
 unfold iA;generalize kh s.prefixes=E1 at*;generalize lK s.paths=E2 at*;generalize kg s.comms=E3 at*;generalize (if 64<s.pols.length then 4 else qU s s.pols [] true)=E4 at*
 refine lQ (F:=JX) rfl rfl ?_;refine Wn (a:=.region VX false) (b:=.seq (.region JW false) (abL JX.body)) ?_;refine wd1 ?_
 repeat' (first|refine aQ ?_|apply ae<;>intro h)
 refine Wn (a:=.region JW false) (b:=abL JX.body) ?_;refine wd1 ?_
 repeat' (first|refine aQ ?_|apply ae<;>intro h)
 have hpz:(Blk.cells s.enc).pure=true:=by simp[Blk.pure]
 refine uD [(70,_,_),(65606,_,_),(131142,_,_),(196678,_,_)] [1,3] [67] [65] ⟨rfl,frP,rfl,frP,rfl,frP,rfl,frP,trivial⟩ ?_;repeat ((conv=>whnf);first|refine frA ?_|intro T H)
 refine wk3 ?_
 by_cases c1:E1=0
 ·subst c1
  rw[Ad rfl]
  by_cases c2:E2=0
  ·subst c2
   rw[Ad rfl]
   by_cases c3:E3=0
   ·subst c3
    rw[Ad rfl]
    repeat' (first|refine aQ ?_|refine kX1 65 rfl (e1) ?_|refine kX1 65 rfl (e2) ?_|refine kX1 65 rfl (e3) ?_|refine kX [(67,_,_),(65,_,_)] [] ⟨rfl,rfl,trivial⟩ trivial (e4) ?_|apply ae<;>intro h)
    refine au ?_;rfl
   ·rw[Ac c3]
    repeat' (first|refine aQ ?_|refine kX1 65 rfl (e1) ?_|refine kX1 65 rfl (e2) ?_|refine kX1 65 rfl (e3) ?_|apply ae<;>intro h)
    refine au ?_;rfl
  ·rw[Ac c2]
   repeat' (first|refine aQ ?_|refine kX1 65 rfl (e1) ?_|refine kX1 65 rfl (e2) ?_|apply ae<;>intro h)
   refine au ?_;rfl
 ·rw[Ac c1]
  repeat' (first|refine aQ ?_|refine kX1 65 rfl (e1) ?_|apply ae<;>intro h)
  refine au ?_;rfl
theorem yX (s:PSet):eO (s.prefixes.map PList.enc)<=bkL s.enc/\eO (s.paths.map PathL.enc)<=bkL s.enc/\eO (s.comms.map ComL.enc)<=bkL s.enc/\eO (s.pols.map Pol.enc)<=bkL s.enc:=by
 simp only[PSet.enc,bkL,AV.bk];omega
section
variable (s:PSet)(h:bkL s.enc<=1048576)
include h
theorem GU (x:PList)(hx:x∈s.prefixes):x.rules.length<2^40:=by
 have a:=yX s;have m:=jd (enc:=PList.enc) hx;have n:=w9 x;omega
theorem GQ (x:PathL)(hx:x∈s.paths):x.rules.length<2^40:=by
 have a:=yX s;have m:=jd (enc:=PathL.enc) hx;have n:=w8 x;omega
theorem Oy (x:ComL)(hx:x∈s.comms):x.rules.length<2^40:=by
 have a:=yX s;have m:=jd (enc:=ComL.enc) hx;have n:=BT x;omega
end
theorem aff (t:Trm)(h:bkL t.enc<=1048576)(ok:t.ok):t.gt:=by
 have n1:=fE (enc:=Mat.enc) (λx=>by have:=Ly x;omega) t.mats
 have n2:=fE (enc:=Actn.enc) (λx=>by have:=BU x;omega) t.acts
 simp only[Trm.enc,bkL,AV.bk] at h;refine ⟨λx hx=>⟨ok.1 x hx,?_⟩,by omega,ok.2.1,by omega⟩
 have m:=jd (enc:=Mat.enc) hx;simp only[Mat.enc,bkL,AV.bk] at m;omega
section
variable (s:PSet)(h:bkL s.enc<=1048576)
include h
theorem Vj (p:Pol)(hp:p∈s.pols)(ok:p.ok):p.gt:=by
 have a:=yX s;have m:=jd (enc:=Pol.enc) hp;have l:=IG p;have n:=fE (enc:=Trm.enc) (λx=>by have:=Lu x;omega) p.terms
 have e:eO (p.terms.map Trm.enc)<=bkL p.enc:=by simp only[Pol.enc,bkL,AV.bk];omega
 refine ⟨λt ht=>aff t ?_ (ok.1 t ht),by omega,by omega⟩
 have:=jd (enc:=Trm.enc) ht;omega
theorem Iz (ok:s.ok):ab G 405 [.agg s.enc] [] (om s):=by
 have gd:=tg s h ok;have lm:=Js s;have h1:=KZ s gd (by omega) (by omega) (by omega) (by omega)
 rw[om]
 by_cases hz:iA s=0
 ·rw[Ad hz]
  rw[hz] at h1;obtain ⟨r1,r2⟩:=vx hz;have lt:=Gw s;have m1:=ml s.prefixes PList.enc;have g0: ∀x∈s.prefixes,(∀r∈x.rules,r.ok/\ruE r=0)/\x.rules.length<2^40:=λx hx=>⟨λr hr=>⟨ok.1 x hx r hr,r1 x hx r hr⟩,(GU s h x hx)⟩
  have g1: ∀x∈s.paths,(∀r∈x.rules,True)/\x.rules.length<2^40:=λx hx=>⟨λr hr=>trivial,(GQ s h x hx)⟩
  have g2: ∀x∈s.comms,(∀r∈x.rules,r.ok/\bW r=0)/\x.rules.length<2^40:=λx hx=>⟨λr hr=>⟨ok.2.2.1 x hx r hr,r2 x hx r hr⟩,(Oy s h x hx)⟩
  have g3: ∀x∈s.pols,x.gt:=λx hx=>Vj s h x hx (ok.2.2.2 x hx)
  unfold lu at lt⊢;refine gvB (F:=oE) ?_;refine ag [28,29,30,5,1] [65] ?_;rw[m1];exact Cq s.prefixes s g0 g1 (by omega) g2 (by omega) g3 (by omega) (aA plT s.prefixes) (by omega) (by omega) _ rfl s.prefixes [] [] _ _ _ 0 rfl rfl rfl
 ·rw[Ac hz]
  generalize iA s=E at*;refine gvC (F:=oE) ?_
  repeat' ((conv=>whnf);first|refine zNeI1 hz ?_|refine ay ?_|apply ae<;>intro h)
  refine au ?_;rfl
theorem Iy (ok:s.ok):ab G 414 [.agg s.enc] [] (om s):=by
 have gd:=tg s h ok;have lm:=Js s;have h1:=K9 s gd;rw[om]
 by_cases hz:iA s=0
 ·rw[Ad hz]
  rw[hz] at h1;obtain ⟨r1,r2⟩:=vx hz;have lt:=Gw s;have m1:=ml s.prefixes PList.enc;have g0: ∀x∈s.prefixes,(∀r∈x.rules,r.ok/\ruE r=0)/\x.rules.length<2^40:=λx hx=>⟨λr hr=>⟨ok.1 x hx r hr,r1 x hx r hr⟩,(GU s h x hx)⟩
  have g1: ∀x∈s.paths,(∀r∈x.rules,True)/\x.rules.length<2^40:=λx hx=>⟨λr hr=>trivial,(GQ s h x hx)⟩
  have g2: ∀x∈s.comms,(∀r∈x.rules,r.ok/\bW r=0)/\x.rules.length<2^40:=λx hx=>⟨λr hr=>⟨ok.2.2.1 x hx r hr,r2 x hx r hr⟩,(Oy s h x hx)⟩
  have g3: ∀x∈s.pols,x.gt:=λx hx=>Vj s h x hx (ok.2.2.2 x hx)
  unfold lu at lt⊢;refine gvB (F:=oD) ?_;refine ag [28,29,30,5,1] [65] ?_;rw[m1];exact Cp s.prefixes s g0 g1 (by omega) g2 (by omega) g3 (by omega) (aA plT s.prefixes) (by omega) (by omega) _ rfl s.prefixes [] [] _ _ _ 0 rfl rfl rfl
 ·rw[Ac hz]
  generalize iA s=E at*;refine gvC (F:=oD) ?_
  repeat' ((conv=>whnf);first|refine zNeI1 hz ?_|refine ay ?_|apply ae<;>intro h)
  refine au ?_;rfl
end
end Go.AM.IR
