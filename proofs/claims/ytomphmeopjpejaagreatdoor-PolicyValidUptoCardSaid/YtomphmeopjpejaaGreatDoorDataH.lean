/- What the functions of this program give, on the abstract machine. -/
import Derived.Test.YtomphmeopjpejaaGreatDoorDataC
import Derived.Test.YtomphmeopjpejaaGreatDoorDataG
set_option linter.unusedVariables false
set_option linter.unusedSimpArgs false
set_option maxHeartbeats 4000000
set_option maxRecDepth 20000
namespace Go.AM.IR
def bj {α:Type}(f:α->Int):List α->Int
 | []=>0
 |x::r=>if f x=0 then bj f r else f x
def kn {α β:Type}(rule:β->Int)(name:α->List UInt8)(rules:α->List β):List α->List UInt8->Bool->Int
 | [],_,_=>0
 |x::r,b,fst=>if pQ (name x) b fst (rules x).length=0 then (if bj rule (rules x)=0 then kn rule name rules r (name x) false else bj rule (rules x)) else pQ (name x) b fst (rules x).length
def ruE (r:RuleP):Int:=if bz r.pfx=true then (if r.min<r.pfx.len∨r.max<r.min∨r.max>32 then 5 else 0) else 1
def paE (r:PathR):Int:=if (fu r.pattern).isSome then 0 else 2
def lZ (l:List PList):Int:=if 64<l.length then 4 else kn ruE PList.name PList.rules l [] true
def ni (l:List PathL):Int:=if 64<l.length then 4 else kn paE PathL.name PathL.rules l [] true
def lY (l:List ComL):Int:=if 64<l.length then 4 else kn dy ComL.name ComL.rules l [] true
end Go.AM.IR
namespace Go.AM.IR
theorem vo (s:List UInt8)(hs:s.length<2^40): ∀(rest done:List UInt8)(T:TV)(H:ap)(c:Nat)(n:Int)(e:s=done++rest)(hn:n=done.length),
  Ev G ⟨TR,⟨(7,.int .i64 n)::(0,.str s)::(6,.int .i64 s.length)::T,H,c⟩,[.t 2],0⟩ ⟨.bool (rest.all nmC&&(decide (1<=s.length)&&decide ((s.length:Int)<=32))),[]⟩
 | [],done,T,H,c,n,e,hn=>by
  have hd:=md0 e
  by_cases h1:1<=s.length
  ·rw[Al h1]
   refine evA ?_;refine ax ?_;rfl
  ·rw[An h1]
   refine evA ?_;refine ax ?_;rfl
 |x::rest,done,T,H,c,n,e,hn=>by
  have hd:=md e;have hb:=idx_at e hn;have ih:=λT H c=>vo s hs rest (done++[x]) T H c (n+1) (by simp[e]) (by simp[hn])
  rw[Co]
  by_cases hc:nmC x=true
  ·rw[hc,BY]
   have h:=hc;unfold nmC at h;simp only[Bool.or_eq_true,Av,beq_iff_eq,AO] at h;refine evl ?_
   repeat' (first|refine b8 ?_|(refine ae ?_ ?_<;>intro h))
   all_goals try (exfalso;omega)
   all_goals (refine au [7,0,6] [] ?_
              exact ih _ _ _)
  ·have h:=hc
   rw[Bool.not_eq_true] at hc;rw[hc,BV,BV];unfold nmC at h;simp only[Bool.or_eq_true,Av,beq_iff_eq,AO] at h;refine evl ?_
   repeat' (first|refine b8 ?_|(refine ae ?_ ?_<;>intro h))
   all_goals try (exfalso;omega)
   all_goals (refine ax ?_;rfl)
theorem sK (s:List UInt8)(hs:s.length<2^40):ab G 623 [.str s] [] ⟨.bool (nmB s),[]⟩:=by
 refine gvB (F:=Lj) ?_;refine au [7,0,6] [] ?_;exact vo s hs s [] _ _ _ 0 rfl rfl
theorem i6 (n l h:Int):ab G 581 [.int .i64 n,.int .i64 l,.int .i64 h] [] ⟨.bool (decide (l<=n)&&decide (n<=h)),[]⟩:=by
 by_cases a:l<=n
 ·rw[Al a]
  exact gvA (F:=Lx)
 ·rw[An a]
  exact gvA (F:=Lx)
theorem rz (r:ComR):ab G 520 [.agg r.enc] [] ⟨.int .i64 (dy r),[]⟩:=by
 have h1:=i6 r.high (-1) 65535;have h2:=i6 r.low (-1) 65535;unfold dy;generalize hx:(decide (-1<=r.high)&&decide (r.high<=65535))=x at*;generalize hy:(decide (-1<=r.low)&&decide (r.low<=65535))=y at*;cases x
 ·simp only[Bool.and_eq_false_iff,AR] at hx
  refine gvB (F:=DY) ?_;refine ax ?_
  (repeat' split)<;>first|rfl|(exfalso;omega)
 ·simp only[Av,AO] at hx
  rw[Ac (by omega),Ac (by omega)]
  cases y
  ·simp only[Bool.and_eq_false_iff,AR] at hy
   refine gvB (F:=DY) ?_;refine ax ?_
   (repeat' split)<;>first|rfl|(exfalso;omega)
  ·simp only[Av,AO] at hy
   rw[Ac (by omega),Ac (by omega)]
   exact gvA (F:=DY)
def ah (s:List UInt8):List AV:=[.str s]
@[simp] theorem sG: ∀l:List (List UInt8),aa (l.map ah)=true
 | []=>rfl
 |x::r=>by simp only[Ao,aa,sG r];simp[ah,aH,AV.pure]
def bq (before:List (List UInt8))(name:List UInt8):Int:=if nmB name=false then 1 else match before.getLast? with
 |none=>0
 |some b=>if (Op.bytesLess name b||name==b)=true then 16 else 0
theorem cJ (before:List (List UInt8))(name:List UInt8)(hn:name.length<2^40)(hb:before.length<2^40):ab G 577 [.sl 1 (before.map ah),.str name] [] ⟨.int .i64 (bq before name),[]⟩:=by
 have h1:=sK name hn;have m1:=ml before ah;unfold bq;cases hq:nmB name
 ·rw[hq] at h1
  rw[Ad rfl];exact gvA (F:=xM)
 rw[hq] at h1;rw[Ac (by simp)]
 cases hl:before.getLast? with
 |none=>
  have h0:before= []:=by simpa using hl
  subst h0;exact gvA (F:=xM)
 |some b=>
  have hne:0<before.length:=by
   cases before with
   |nil=>simp at hl
   |cons x r=>simp
  have hx:(before.map ah)[((before.length:Int)-1).toNat]? =some [.str b]:=by
   rw[List.getLast?_eq_getElem?] at hl;have:((before.length:Int)-1).toNat=before.length-1:=by omega
   rw[this,CF,hl];rfl
  rw[<-m1] at hx;dsimp only;rcases hv:(Op.bytesLess name b||name==b) with _|_
  ·refine gvC (F:=xM) ?_
   repeat' ((conv=>whnf);first|refine YM hv ?_|refine aq ?_|(refine ae ?_ ?_<;>intro h))
   refine ax ?_;rfl
  ·refine gvC (F:=xM) ?_
   repeat' ((conv=>whnf);first|refine YM hv ?_|refine aq ?_|(refine ae ?_ ?_<;>intro h))
   refine ax ?_;rfl
end Go.AM.IR
