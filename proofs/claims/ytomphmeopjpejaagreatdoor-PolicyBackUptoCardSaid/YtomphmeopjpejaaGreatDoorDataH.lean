/- What functions of this program give. -/
import Derived.Test.YtomphmeopjpejaaGreatDoorDataC
import Derived.Test.YtomphmeopjpejaaGreatDoorDataG
set_option linter.unusedVariables false
set_option linter.unusedSimpArgs false
set_option maxHeartbeats 4000000
set_option maxRecDepth 20000
namespace Go.AM.IR
def bg {α:Type}(f:α->Int):List α->Int
 | []=>0
 |x::r=>if f x=0 then bg f r else f x
def iw {α β:Type}(rule:β->Int)(name:α->CF)(rules:α->List β):List α->CF->Bool->Int
 | [],_,_=>0
 |x::r,b,fst=>if fX (name x) b fst (rules x).length=0 then (if bg rule (rules x)=0 then iw rule name rules r (name x) false else bg rule (rules x)) else fX (name x) b fst (rules x).length
def ruE (r:RuleP):Int:=if bj r.pfx=true then (if r.min<r.pfx.len∨r.max<r.min∨r.max>32 then 5 else 0) else 1
theorem uW (r:RuleP)(h:r.ok):ab G 326 [.agg r.enc] [] ⟨.int .i64 (ruE r),[]⟩:=by
 have hv:ab G 179 [.agg [.int .u32 r.pfx.addr,.int .i64 r.pfx.len]] [] ⟨.bool (bj r.pfx),[]⟩:=dk r.pfx h.1;unfold ruE;cases hvp:bj r.pfx
 ·rw[hvp] at hv
  rw[Ac (by simp)]
  exact gvA (F:=wN)
 ·rw[hvp] at hv
  rw[Ad rfl]
  by_cases h1:r.min<r.pfx.len
  ·rw[Ad (.inl h1)]
   exact gvA (F:=wN)
  ·by_cases h2:r.max<r.min
   ·rw[Ad (.inr (.inl h2))]
    exact gvA (F:=wN)
   ·by_cases h3:r.max>32
    ·rw[Ad (.inr (.inr h3))]
     exact gvA (F:=wN)
    ·rw[Ac (by omega)]
     exact gvA (F:=wN)
def paE (r:PathR):Int:=if (fx r.pattern).isSome then 0 else 2
theorem Yq (r:PathR)(h:r.pattern.length<2^32): ∃(k lo hi:Int)(l:Do),ab G 571 [.str r.pattern] [] ⟨.tup [.agg [.int .i64 k,.int .i64 lo,.int .i64 hi,.sl 4 (l.map Rx.enc)],.int .i64 (paE r)],[]⟩:=by
 have h1:=z8 r.pattern h;unfold paE;cases hq:fx r.pattern with
 |none=>
  rw[hq] at h1;refine ⟨0,0,0,[],?_⟩;have e:=bi 0 0 0 [];have h2:ab G 571 [.str r.pattern] [] ⟨.tup [.agg rx0.enc,.int .i64 2],[]⟩:=h1;unfold rx0 at h2;rw[e] at h2;exact h2
 |some x=>
  rw[hq] at h1;obtain ⟨k,lo,hi,l⟩:=x;refine ⟨k,lo,hi,l,?_⟩;have h2:ab G 571 [.str r.pattern] [] ⟨.tup [.agg (Rx.mk k lo hi l).enc,.int .i64 0],[]⟩:=h1;rw[bi] at h2;exact h2
theorem xC (l2:DF)(hr: ∀r∈l2,r.ok)(ls:CS)(len i:Int)(bf:CF)(R:Ret)(go:bg ruE l2=0-> ∀(T:TV) (H:aq) (c:Nat),Ev G ⟨Dk,⟨(13,.sl 2 ls)::(14,.int .i64 len)::(15,.int .i64 (i+1))::(3,.str bf)::T,H,c⟩,[.t 2],0⟩ R)(hi:0<=i/\i<2^40)(hR:bg ruE l2≠0->R=⟨.int .i64 (bg ruE l2),[]⟩)(hl:l2.length<2^40)(ln:Int)(hln:ln=l2.length): ∀(rest done:DF)(T:TV)(H:aq)(c:Nat)(n:Int)(e:l2=done++rest)(hn:n=done.length)(hz:bg ruE rest=bg ruE l2),Ev G ⟨VO,⟨(35,.sl 5 (l2.map RuleP.enc))::(36,.int .i64 ln)::(37,.int .i64 n)::(3,.str bf)::(13,.sl 2 ls)::(14,.int .i64 len)::(15,.int .i64 i)::T,H,c⟩,[.t 2],0⟩ R
 | [],done,  T,H,c,n,e,hn,hz=>by
  have hd:=md0 e;have hll:=ml l2 RuleP.enc;refine evA ?_;refine ag [13,14,15,3] [] ?_;exact go (by rw[<-hz];rfl) _ _ _
 |x::r,done,  T,H,c,n,e,hn,hz=>by
  have hd:=md e;have hll:=ml l2 RuleP.enc;have hx:=mx RuleP.enc e hn;rw[bg] at hz;have h1:=uW x (hr x (by simp[e]))
  generalize ruE x=E at*
  by_cases h0:E=0
  ·rw[Ad h0] at hz
   subst h0;refine evA ?_;refine ag [35,36,37,3,13,14,15] [] ?_;exact xC l2 hr ls len i bf R go hi hR hl ln hln r (done++[x])  _ _ _ (n+1) (by simp[e]) (by simp[hn]<;>omega) hz
  ·rw[Ac h0] at hz
   rw[hR (by rw[<-hz];exact h0),<-hz]
   refine evA ?_;refine au ?_;rfl
theorem yg (l:C3)(hs: ∀x∈l,x.name.length<2^40/\x.rules.length<2^40/\(∀r∈x.rules,r.ok))(hl:l.length<2^40)(ln:Int)(hln:ln=l.length): ∀(rest done:C3)(bf:CF)(fst:Bool)(T:TV)(H:aq)(c:Nat)(n:Int)(e:l=done++rest)(hn:n=done.length)(hf:(n==0)=fst),Ev G ⟨Dk,⟨(13,.sl 2 (l.map PList.enc))::(14,.int .i64 ln)::(15,.int .i64 n)::(3,.str bf)::T,H,c⟩,[.t 2],0⟩ (⟨.int .i64 (iw ruE PList.name PList.rules rest bf fst),[]⟩)
 | [],done,bf,fst,T,H,c,n,e,hn,hf=>by
  have hd:=md0 e;have hll:=ml l PList.enc;refine evA ?_;refine au ?_;rfl
 |x::r,done,bf,fst,T,H,c,n,e,hn,hf=>by
  have hd:=md e;have hll:=ml l PList.enc;have hx:=mx PList.enc e hn;obtain ⟨q1,q2,q3⟩:=hs x (by simp[e])
  have m1:=ml x.rules RuleP.enc;have h1:=kr x.name bf q1 (n==0) x.rules.length;have hE:fX x.name bf (n==0) x.rules.length=fX x.name bf fst x.rules.length:=by rw[hf]
  rw[hE] at h1;rw[<-m1] at h1;rw[iw,<-m1];generalize fX x.name bf fst (x.rules.map RuleP.enc).length=E at*
  by_cases h0:E=0
  ·rw[Ad h0]
   subst h0;refine evA ?_;refine ag [35,36,37,3,13,14,15] [] ?_;rw[m1]
   have hn1:(n+1==0)=false:=by
    have: ¬n+1=0:=by omega
    simpa using this
   refine xC x.rules q3 _ ln n x.name _ (λhz T H c=>?_) (by omega) (λhq=>by rw[Ac hq]) q2 _ rfl x.rules [] _ _ _ 0 rfl rfl rfl
   rw[Ad hz];exact yg l hs hl ln hln r (done++[x]) x.name false T H c (n+1) (by simp[e]) (by simp[hn]<;>omega) hn1
  ·rw[Ac h0]
   refine evA ?_;refine au ?_;rfl
theorem xB (l2:DG)(hr: ∀r∈l2,r.pattern.length<2^32)(ls:CS)(len i:Int)(bf:CF)(R:Ret)(go:bg paE l2=0-> ∀(T:TV) (H:aq) (c:Nat),Ev G ⟨Dj,⟨(14,.sl 2 ls)::(15,.int .i64 len)::(16,.int .i64 (i+1))::(3,.str bf)::T,H,c⟩,[.t 2],0⟩ R)(hi:0<=i/\i<2^40)(hR:bg paE l2≠0->R=⟨.int .i64 (bg paE l2),[]⟩)(hl:l2.length<2^40)(ln:Int)(hln:ln=l2.length): ∀(rest done:DG)(T:TV)(H:aq)(c:Nat)(n:Int)(e:l2=done++rest)(hn:n=done.length)(hz:bg paE rest=bg paE l2),Ev G ⟨VN,⟨(36,.sl 2 (l2.map PathR.enc))::(37,.int .i64 ln)::(38,.int .i64 n)::(3,.str bf)::(14,.sl 2 ls)::(15,.int .i64 len)::(16,.int .i64 i)::T,H,c⟩,[.t 2],0⟩ R
 | [],done,  T,H,c,n,e,hn,hz=>by
  have hd:=md0 e;have hll:=ml l2 PathR.enc;refine evA ?_;refine ag [14,15,16,3] [] ?_;exact go (by rw[<-hz];rfl) _ _ _
 |x::r,done,  T,H,c,n,e,hn,hz=>by
  have hd:=md e;have hll:=ml l2 PathR.enc;have hx:=mx PathR.enc e hn;rw[bg] at hz;obtain ⟨k0,lo0,hi0,l0,h1⟩:=Yq x (hr x (by simp[e]))
  generalize paE x=E at*
  by_cases h0:E=0
  ·rw[Ad h0] at hz
   subst h0;refine evA ?_;refine ag [36,37,38,3,14,15,16] [] ?_;exact xB l2 hr ls len i bf R go hi hR hl ln hln r (done++[x])  _ _ _ (n+1) (by simp[e]) (by simp[hn]<;>omega) hz
  ·rw[Ac h0] at hz
   rw[hR (by rw[<-hz];exact h0),<-hz]
   refine evA ?_;refine au ?_;rfl
theorem yf (l:C4)(hs: ∀x∈l,x.name.length<2^40/\x.rules.length<2^40/\(∀r∈x.rules,r.pattern.length<2^32))(hl:l.length<2^40)(ln:Int)(hln:ln=l.length): ∀(rest done:C4)(bf:CF)(fst:Bool)(T:TV)(H:aq)(c:Nat)(n:Int)(e:l=done++rest)(hn:n=done.length)(hf:(n==0)=fst),Ev G ⟨Dj,⟨(14,.sl 2 (l.map PathL.enc))::(15,.int .i64 ln)::(16,.int .i64 n)::(3,.str bf)::T,H,c⟩,[.t 2],0⟩ (⟨.int .i64 (iw paE PathL.name PathL.rules rest bf fst),[]⟩)
 | [],done,bf,fst,T,H,c,n,e,hn,hf=>by
  have hd:=md0 e;have hll:=ml l PathL.enc;refine evA ?_;refine au ?_;rfl
 |x::r,done,bf,fst,T,H,c,n,e,hn,hf=>by
  have hd:=md e;have hll:=ml l PathL.enc;have hx:=mx PathL.enc e hn;obtain ⟨q1,q2,q3⟩:=hs x (by simp[e])
  have m1:=ml x.rules PathR.enc;have h1:=kr x.name bf q1 (n==0) x.rules.length;have hE:fX x.name bf (n==0) x.rules.length=fX x.name bf fst x.rules.length:=by rw[hf]
  rw[hE] at h1;rw[<-m1] at h1;rw[iw,<-m1];generalize fX x.name bf fst (x.rules.map PathR.enc).length=E at*
  by_cases h0:E=0
  ·rw[Ad h0]
   subst h0;refine evA ?_;refine ag [36,37,38,3,14,15,16] [] ?_;rw[m1]
   have hn1:(n+1==0)=false:=by
    have: ¬n+1=0:=by omega
    simpa using this
   refine xB x.rules q3 _ ln n x.name _ (λhz T H c=>?_) (by omega) (λhq=>by rw[Ac hq]) q2 _ rfl x.rules [] _ _ _ 0 rfl rfl rfl
   rw[Ad hz];exact yf l hs hl ln hln r (done++[x]) x.name false T H c (n+1) (by simp[e]) (by simp[hn]<;>omega) hn1
  ·rw[Ac h0]
   refine evA ?_;refine au ?_;rfl
theorem xA (l2:DR)(hr:True)(ls:CS)(len i:Int)(bf:CF)(R:Ret)(go:bg bW l2=0-> ∀(T:TV) (H:aq) (c:Nat),Ev G ⟨Di,⟨(13,.sl 2 ls)::(14,.int .i64 len)::(15,.int .i64 (i+1))::(3,.str bf)::T,H,c⟩,[.t 2],0⟩ R)(hi:0<=i/\i<2^40)(hR:bg bW l2≠0->R=⟨.int .i64 (bg bW l2),[]⟩)(hl:l2.length<2^40)(ln:Int)(hln:ln=l2.length): ∀(rest done:DR)(T:TV)(H:aq)(c:Nat)(n:Int)(e:l2=done++rest)(hn:n=done.length)(hz:bg bW rest=bg bW l2),Ev G ⟨VM,⟨(35,.sl 3 (l2.map ComR.enc))::(36,.int .i64 ln)::(37,.int .i64 n)::(3,.str bf)::(13,.sl 2 ls)::(14,.int .i64 len)::(15,.int .i64 i)::T,H,c⟩,[.t 2],0⟩ R
 | [],done,  T,H,c,n,e,hn,hz=>by
  have hd:=md0 e;have hll:=ml l2 ComR.enc;refine evA ?_;refine ag [13,14,15,3] [] ?_;exact go (by rw[<-hz];rfl) _ _ _
 |x::r,done,  T,H,c,n,e,hn,hz=>by
  have hd:=md e;have hll:=ml l2 ComR.enc;have hx:=mx ComR.enc e hn;rw[bg] at hz;have h1:=KL x;generalize bW x=E at*
  by_cases h0:E=0
  ·rw[Ad h0] at hz
   subst h0;refine evA ?_;refine ag [35,36,37,3,13,14,15] [] ?_;exact xA l2 hr ls len i bf R go hi hR hl ln hln r (done++[x])  _ _ _ (n+1) (by simp[e]) (by simp[hn]<;>omega) hz
  ·rw[Ac h0] at hz
   rw[hR (by rw[<-hz];exact h0),<-hz]
   refine evA ?_;refine au ?_;rfl
theorem ye (l:C6)(hs: ∀x∈l,x.name.length<2^40/\x.rules.length<2^40/\(True))(hl:l.length<2^40)(ln:Int)(hln:ln=l.length): ∀(rest done:C6)(bf:CF)(fst:Bool)(T:TV)(H:aq)(c:Nat)(n:Int)(e:l=done++rest)(hn:n=done.length)(hf:(n==0)=fst),Ev G ⟨Di,⟨(13,.sl 2 (l.map ComL.enc))::(14,.int .i64 ln)::(15,.int .i64 n)::(3,.str bf)::T,H,c⟩,[.t 2],0⟩ (⟨.int .i64 (iw bW ComL.name ComL.rules rest bf fst),[]⟩)
 | [],done,bf,fst,T,H,c,n,e,hn,hf=>by
  have hd:=md0 e;have hll:=ml l ComL.enc;refine evA ?_;refine au ?_;rfl
 |x::r,done,bf,fst,T,H,c,n,e,hn,hf=>by
  have hd:=md e;have hll:=ml l ComL.enc;have hx:=mx ComL.enc e hn;obtain ⟨q1,q2,q3⟩:=hs x (by simp[e])
  have m1:=ml x.rules ComR.enc;have h1:=kr x.name bf q1 (n==0) x.rules.length;have hE:fX x.name bf (n==0) x.rules.length=fX x.name bf fst x.rules.length:=by rw[hf]
  rw[hE] at h1;rw[<-m1] at h1;rw[iw,<-m1];generalize fX x.name bf fst (x.rules.map ComR.enc).length=E at*
  by_cases h0:E=0
  ·rw[Ad h0]
   subst h0;refine evA ?_;refine ag [35,36,37,3,13,14,15] [] ?_;rw[m1]
   have hn1:(n+1==0)=false:=by
    have: ¬n+1=0:=by omega
    simpa using this
   refine xA x.rules q3 _ ln n x.name _ (λhz T H c=>?_) (by omega) (λhq=>by rw[Ac hq]) q2 _ rfl x.rules [] _ _ _ 0 rfl rfl rfl
   rw[Ad hz];exact ye l hs hl ln hln r (done++[x]) x.name false T H c (n+1) (by simp[e]) (by simp[hn]<;>omega) hn1
  ·rw[Ac h0]
   refine evA ?_;refine au ?_;rfl
def kh (l:C3):Int:=if 64<l.length then 4 else iw ruE PList.name PList.rules l [] true
theorem Jp (l:C3)(hl:l.length<2^40)(hs: ∀x∈l,x.name.length<2^40/\x.rules.length<2^40/\(∀r∈x.rules,r.ok)):ab G 497 [.sl 2 (l.map PList.enc)] [] ⟨.int .i64 (kh l),[]⟩:=by
 have hll:=ml l PList.enc;unfold kh
 by_cases c:64<l.length
 ·rw[Ad c]
  have c':(l.length:Int)>64:=by omega
  exact gvA (F:=AZ)
 ·rw[Ac c]
  refine gvB (F:=AZ) ?_;refine ag [13,14,15,3] [] ?_;rw[hll];exact yg l hs hl _ rfl l [] [] true _ _ _ 0 rfl rfl rfl
def lK (l:C4):Int:=if 64<l.length then 4 else iw paE PathL.name PathL.rules l [] true
theorem Jo (l:C4)(hl:l.length<2^40)(hs: ∀x∈l,x.name.length<2^40/\x.rules.length<2^40/\(∀r∈x.rules,r.pattern.length<2^32)):ab G 498 [.sl 2 (l.map PathL.enc)] [] ⟨.int .i64 (lK l),[]⟩:=by
 have hll:=ml l PathL.enc;unfold lK
 by_cases c:64<l.length
 ·rw[Ad c]
  have c':(l.length:Int)>64:=by omega
  exact gvA (F:=AY)
 ·rw[Ac c]
  refine gvB (F:=AY) ?_;refine ag [14,15,16,3] [] ?_;rw[hll];exact yf l hs hl _ rfl l [] [] true _ _ _ 0 rfl rfl rfl
def kg (l:C6):Int:=if 64<l.length then 4 else iw bW ComL.name ComL.rules l [] true
theorem Jn (l:C6)(hl:l.length<2^40)(hs: ∀x∈l,x.name.length<2^40/\x.rules.length<2^40/\(True)):ab G 499 [.sl 2 (l.map ComL.enc)] [] ⟨.int .i64 (kg l),[]⟩:=by
 have hll:=ml l ComL.enc;unfold kg
 by_cases c:64<l.length
 ·rw[Ad c]
  have c':(l.length:Int)>64:=by omega
  exact gvA (F:=AX)
 ·rw[Ac c]
  refine gvB (F:=AX) ?_;refine ag [13,14,15,3] [] ?_;rw[hll];exact ye l hs hl _ rfl l [] [] true _ _ _ 0 rfl rfl rfl
theorem yc (s:CF)(hs:s.length<2^40): ∀(rest done:CF)(T:TV)(H:aq)(c:Nat)(n:Int)(e:s=done++rest)(hn:n=done.length),
  Ev G ⟨aao,⟨(7,.int .i64 n)::(0,.str s)::(6,.int .i64 s.length)::T,H,c⟩,[.t 2],0⟩ ⟨.bool (rest.all nmC&&(decide (1<=s.length)&&decide ((s.length:Int)<=32))),[]⟩
 | [],done,T,H,c,n,e,hn=>by
  have hd:=md0 e
  by_cases h1:1<=s.length
  ·rw[Al h1]
   refine evA ?_;refine au ?_;rfl
  ·rw[An h1]
   refine evA ?_;refine au ?_;rfl
 |x::rest,done,T,H,c,n,e,hn=>by
  have hd:=md e;have hb:=idx_at e hn;have ih:=λT H c=>yc s hs rest (done++[x]) T H c (n+1) (by simp[e]) (by simp[hn])
  rw[Cc]
  by_cases hc:nmC x=true
  ·rw[hc,BY]
   have h:=hc;unfold nmC at h;simp only[Bool.or_eq_true,Av,beq_iff_eq,AO] at h;refine evl ?_
   repeat' (first|refine bz ?_|apply ae<;>intro h)
   all_goals try (exfalso;omega)
   all_goals (refine ag [7,0,6] [] ?_
              exact ih _ _ _)
  ·have h:=hc
   rw[A3] at hc;rw[hc,BS,BS];unfold nmC at h;simp only[Bool.or_eq_true,Av,beq_iff_eq,AO] at h;refine evl ?_
   repeat' (first|refine bz ?_|apply ae<;>intro h)
   all_goals try (exfalso;omega)
   all_goals (refine au ?_;rfl)
theorem vh (s:CF)(hs:s.length<2^40):ab G 623 [.str s] [] ⟨.bool (nmB s),[]⟩:=by
 refine gvB (F:=Sd) ?_;refine ag [7,0,6] [] ?_;exact yc s hs s [] _ _ _ 0 rfl rfl
theorem jB (n l h:Int):ab G 581 [.int .i64 n,.int .i64 l,.int .i64 h] [] ⟨.bool (decide (l<=n)&&decide (n<=h)),[]⟩:=by
 by_cases a:l<=n
 ·rw[Al a]
  exact gvA (F:=SA)
 ·rw[An a]
  exact gvA (F:=SA)
theorem tK (r:ComR):ab G 520 [.agg r.enc] [] ⟨.int .i64 (bW r),[]⟩:=by
 have h1:=jB r.high (-1) 65535;have h2:=jB r.low (-1) 65535;unfold bW;generalize hx:(decide (-1<=r.high)&&decide (r.high<=65535))=x at*;generalize hy:(decide (-1<=r.low)&&decide (r.low<=65535))=y at*;cases x
 ·simp only[Bool.and_eq_false_iff,AR] at hx
  refine gvB (F:=JU) ?_;refine au ?_
  (repeat' split)<;>first|rfl|(exfalso;omega)
 ·simp only[Av,AO] at hx
  rw[Ac (by omega),Ac (by omega)]
  cases y
  ·simp only[Bool.and_eq_false_iff,AR] at hy
   refine gvB (F:=JU) ?_;refine au ?_
   (repeat' split)<;>first|rfl|(exfalso;omega)
  ·simp only[Av,AO] at hy
   rw[Ac (by omega),Ac (by omega)]
   exact gvA (F:=JU)
def am (s:CF):CL:=[.str s]
@[simp] theorem u5: ∀l:C5,aa (l.map am)=true
 | []=>rfl
 |x::r=>by simp only[Ao,aa,u5 r];simp[am,aP,AV.pure]
def cq (before:C5)(name:CF):Int:=if nmB name=false then 1 else match before.getLast? with
 |none=>0
 |some b=>if (Op.bytesLess name b||name==b)=true then 16 else 0
theorem dj (before:C5)(name:CF)(hn:name.length<2^40)(hb:before.length<2^40):ab G 577 [.sl 1 (before.map am),.str name] [] ⟨.int .i64 (cq before name),[]⟩:=by
 have h1:=vh name hn;have m1:=ml before am;unfold cq;cases hq:nmB name
 ·rw[hq] at h1
  rw[Ad rfl];exact gvA (F:=AU)
 rw[hq] at h1;rw[Ac (by simp)]
 cases hl:before.getLast? with
 |none=>
  have h0:before= []:=by simpa using hl
  subst h0;exact gvA (F:=AU)
 |some b=>
  have hne:0<before.length:=by
   cases before with
   |nil=>simp at hl
   |cons x r=>simp
  have hx:(before.map am)[((before.length:Int)-1).toNat]? =some [.str b]:=by
   rw[List.getLast?_eq_getElem?] at hl;have:((before.length:Int)-1).toNat=before.length-1:=by omega
   rw[this,Cf,hl];rfl
  rw[<-m1] at hx;dsimp only;rcases hv:(Op.bytesLess name b||name==b) with _|_
  ·refine gvC (F:=AU) ?_
   repeat' ((conv=>whnf);first|refine Xc hv ?_|refine ay ?_|apply ae<;>intro h)
   refine au ?_;rfl
  ·refine gvC (F:=AU) ?_
   repeat' ((conv=>whnf);first|refine Xc hv ?_|refine ay ?_|apply ae<;>intro h)
   refine au ?_;rfl
end Go.AM.IR
