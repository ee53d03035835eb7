/- What functions of this program give. -/
import Derived.Test.YtomphmeopjpejaaGreatDoorDataC
import Derived.Test.YtomphmeopjpejaaGreatDoorDataG
set_option linter.unusedVariables false
set_option linter.unusedSimpArgs false
set_option maxHeartbeats 4000000
set_option maxRecDepth 20000
namespace Go.AM.IR
def gC {α:Type}(f:α->Int):List α->Int
 | []=>0
 |x::r=>if f x=0 then gC f r else f x
def ruE (r:RuleP):Int:=if bu r.pfx=true then (if r.min<r.pfx.len∨r.max<r.min∨r.max>32 then 5 else 0) else 1
def paE (r:PathR):Int:=if (ff r.pattern).isSome then 0 else 2
theorem yG (s:B5)(hs:s.length<2^40): ∀(rest done:B5)(T:TV)(H:az)(c:Nat)(n:Int)(e:s=done++rest)(hn:n=done.length),
  Ev G ⟨ZK,⟨(7,.int .i64 n)::(0,.str s)::(6,.int .i64 s.length)::T,H,c⟩,[.t 2],0⟩ ⟨.bool (rest.all nmC&&(decide (1<=s.length)&&decide ((s.length:Int)<=32))),[]⟩
 | [],done,T,H,c,n,e,hn=>by
  have hd:=md0 e
  by_cases h1:1<=s.length
  ·rw[Ak h1]
   refine evA ?_;refine ap ?_;rfl
  ·rw[Al h1]
   refine evA ?_;refine ap ?_;rfl
 |x::rest,done,T,H,c,n,e,hn=>by
  have hd:=md e;have hb:=idx_at e hn;have ih:=λT H c=>yG s hs rest (done++[x]) T H c (n+1) (by simp[e]) (by simp[hn])
  rw[B2]
  by_cases hc:nmC x=true
  ·rw[hc,By]
   have h:=hc;unfold nmC at h;simp only[Bool.or_eq_true,At,beq_iff_eq,AK] at h;refine evl ?_
   repeat' (first|refine bp ?_|apply ae<;>intro h)
   all_goals try (exfalso;omega)
   all_goals (refine au [7,0,6] [] ?_
              exact ih _ _ _)
  ·have h:=hc
   rw[AN] at hc;rw[hc,Bo,Bo];unfold nmC at h;simp only[Bool.or_eq_true,At,beq_iff_eq,AK] at h;refine evl ?_
   repeat' (first|refine bp ?_|apply ae<;>intro h)
   all_goals try (exfalso;omega)
   all_goals (refine ap ?_;rfl)
theorem wg (s:B5)(hs:s.length<2^40):ag G 623 [.str s] [] ⟨.bool (nmB s),[]⟩:=by
 refine gvB (F:=Re) ?_;refine au [7,0,6] [] ?_;exact yG s hs s [] _ _ _ 0 rfl rfl
theorem jz (n l h:Int):ag G 581 [.int .i64 n,.int .i64 l,.int .i64 h] [] ⟨.bool (decide (l<=n)&&decide (n<=h)),[]⟩:=by
 by_cases a:l<=n
 ·rw[Ak a]
  exact gvA (F:=RB)
 ·rw[Al a]
  exact gvA (F:=RB)
theorem Kw (r:ComR):ag G 520 [.agg r.enc] [] ⟨.int .i64 (jP r),[]⟩:=by
 have h1:=jz r.high (-1) 65535;have h2:=jz r.low (-1) 65535;unfold jP;generalize hx:(decide (-1<=r.high)&&decide (r.high<=65535))=x at*;generalize hy:(decide (-1<=r.low)&&decide (r.low<=65535))=y at*;cases x
 ·simp only[Bool.and_eq_false_iff,AL] at hx
  refine gvB (F:=JE) ?_;refine ap ?_
  (repeat' split)<;>first|rfl|(exfalso;omega)
 ·simp only[At,AK] at hx
  rw[Aa (by omega),Aa (by omega)]
  cases y
  ·simp only[Bool.and_eq_false_iff,AL] at hy
   refine gvB (F:=JE) ?_;refine ap ?_
   (repeat' split)<;>first|rfl|(exfalso;omega)
  ·simp only[At,AK] at hy
   rw[Aa (by omega),Aa (by omega)]
   exact gvA (F:=JE)
def ah (s:B5):B7:=[.str s]
@[simp] theorem v8: ∀l:CF,ab (l.map ah)=true
 | []=>rfl
 |x::r=>by simp only[An,ab,v8 r];simp[ah,aM,AV.pure]
def eW (before:CF)(name:B5):Int:=if nmB name=false then 1 else match before.getLast? with
 |none=>0
 |some b=>if (Op.bytesLess name b||name==b)=true then 16 else 0
theorem gc (before:CF)(name:B5)(hn:name.length<2^40)(hb:before.length<2^40):ag G 577 [.sl 1 (before.map ah),.str name] [] ⟨.int .i64 (eW before name),[]⟩:=by
 have h1:=wg name hn;have m1:=ml before ah;unfold eW;cases hq:nmB name
 ·rw[hq] at h1
  rw[Ac rfl];exact gvA (F:=BF)
 rw[hq] at h1;rw[Aa (by simp)]
 cases hl:before.getLast? with
 |none=>
  have h0:before= []:=by simpa using hl
  subst h0;exact gvA (F:=BF)
 |some b=>
  have hne:0<before.length:=by
   cases before with
   |nil=>simp at hl
   |cons x r=>simp
  have hx:(before.map ah)[((before.length:Int)-1).toNat]? =some [.str b]:=by
   rw[List.getLast?_eq_getElem?] at hl;have:((before.length:Int)-1).toNat=before.length-1:=by omega
   rw[this,B3,hl];rfl
  rw[<-m1] at hx;dsimp only;rcases hv:(Op.bytesLess name b||name==b) with _|_
  ·refine gvC (F:=BF) ?_
   repeat' ((conv=>whnf);first|refine We hv ?_|refine aq ?_|apply ae<;>intro h)
   refine ap ?_;rfl
  ·refine gvC (F:=BF) ?_
   repeat' ((conv=>whnf);first|refine We hv ?_|refine aq ?_|apply ae<;>intro h)
   refine ap ?_;rfl
end Go.AM.IR
