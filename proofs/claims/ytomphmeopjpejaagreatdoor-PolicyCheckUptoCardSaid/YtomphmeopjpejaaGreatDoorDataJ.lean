/- What the functions of this program give, on the abstract machine. -/
import Derived.Test.YtomphmeopjpejaaGreatDoorDataI
set_option linter.unusedVariables false
set_option linter.unusedSimpArgs false
set_option maxHeartbeats 4000000
set_option maxRecDepth 20000
namespace Go.AM.IR
section
variable {kv : AV → Prop}
theorem uT {a b : List UInt8} {v : Bool} (hv : (Op.bytesLess a b || a == b) = v) (h : kv (.bool v)) : ∃ w, bj .leq (.str a) (.str b) = some w ∧ kv w := ⟨_, by show some (AV.bool (Op.bytesLess a b || a == b)) = _; rw [hv], h⟩
end
def dq (name before : List UInt8) (any : Bool) (n : Int) : Int := if nmB name = false then 1 else if any = false ∧ (Op.bytesLess name before || name == before) = true then 16 else if 64 < n then 4 else 0
theorem fF (name before : List UInt8) (hn : name.length < 2 ^ 40) (any : Bool) (n : Int) : am G 500 [.str name, .str before, .bool any, .int .i64 n] [] ⟨.int .i64 (dq name before any n), []⟩ := by
 have h1 := n3 name hn
 rw [dq]
 rcases hb : nmB name with _ | _
 ·rw [hb] at h1
  rw [if_pos rfl]
  refine aa (F := f500) rfl rfl (ag 300 _ _ _ _ ?_)
  repeat' (first | refine ae ?_ | (refine ab ?_ ?_ <;> intro h))
  refine ah ?_; rfl
 rw [hb] at h1
 rw [if_neg (by simp)]
 cases any
 ·rcases hl : (Op.bytesLess name before || name == before) with _ | _
  ·rw [if_neg (by simp)]
   by_cases c : 64 < n
   ·rw [if_pos c]
    refine aa (F := f500) rfl rfl (ag 300 _ _ _ _ ?_)
    repeat' ((conv => whnf); first | refine uT hl ?_ | refine a7 ?_ | (refine ab ?_ ?_ <;> intro h))
    refine ah ?_; rfl
   ·rw [if_neg c]
    refine aa (F := f500) rfl rfl (ag 300 _ _ _ _ ?_)
    repeat' ((conv => whnf); first | refine uT hl ?_ | refine a7 ?_ | (refine ab ?_ ?_ <;> intro h))
    refine ah ?_; rfl
  ·rw [if_pos ⟨rfl, rfl⟩]
   refine aa (F := f500) rfl rfl (ag 300 _ _ _ _ ?_)
   repeat' ((conv => whnf); first | refine uT hl ?_ | refine a7 ?_ | (refine ab ?_ ?_ <;> intro h))
   refine ah ?_; rfl
 ·rw [if_neg (by simp)]
  by_cases c : 64 < n
  ·rw [if_pos c]
   refine aa (F := f500) rfl rfl (ag 300 _ _ _ _ ?_)
   repeat' (first | refine ae ?_ | (refine ab ?_ ?_ <;> intro h))
   refine ah ?_; rfl
  ·rw [if_neg c]
   refine aa (F := f500) rfl rfl (ag 300 _ _ _ _ ?_)
   repeat' (first | refine ae ?_ | (refine ab ?_ ?_ <;> intro h))
   refine ah ?_; rfl
def dc (a : Actn) : Int := if a.asn ≠ 0 then 1 else if a.com ≠ 0 then 1 else if a.addr ≠ 0 then 1 else if a.n < 0 then 5 else if 4294967295 < a.n then 5 else 0
theorem an7 (a : Actn) (hk : a.kind = 1) : am G 575 [.agg a.enc] [] ⟨.int .i64 (dc a), []⟩ := by
 by_cases c0 : a.asn ≠ 0
 ·rw [dc, if_pos c0]
  refine aa (F := f575) rfl rfl (ag 300 _ _ _ _ ?_)
  repeat' (first | refine ae ?_ | (refine ab ?_ ?_ <;> intro h))
  refine ah ?_; rfl
 have d0 : a.asn = 0 := Decidable.not_not.1 c0
 by_cases c1 : a.com ≠ 0
 ·rw [dc, if_neg c0, if_pos c1]
  refine aa (F := f575) rfl rfl (ag 300 _ _ _ _ ?_)
  repeat' (first | refine ae ?_ | (refine ab ?_ ?_ <;> intro h))
  refine ah ?_; rfl
 have d1 : a.com = 0 := Decidable.not_not.1 c1
 by_cases c2 : a.addr ≠ 0
 ·rw [dc, if_neg c0, if_neg c1, if_pos c2]
  refine aa (F := f575) rfl rfl (ag 300 _ _ _ _ ?_)
  repeat' (first | refine ae ?_ | (refine ab ?_ ?_ <;> intro h))
  refine ah ?_; rfl
 have d2 : a.addr = 0 := Decidable.not_not.1 c2
 by_cases c3 : a.n < 0
 ·rw [dc, if_neg c0, if_neg c1, if_neg c2, if_pos c3]
  refine aa (F := f575) rfl rfl (ag 300 _ _ _ _ ?_)
  repeat' (first | refine ae ?_ | (refine ab ?_ ?_ <;> intro h))
  refine ah ?_; rfl
 by_cases c4 : 4294967295 < a.n
 ·rw [dc, if_neg c0, if_neg c1, if_neg c2, if_neg c3, if_pos c4]
  refine aa (F := f575) rfl rfl (ag 300 _ _ _ _ ?_)
  repeat' (first | refine ae ?_ | (refine ab ?_ ?_ <;> intro h))
  refine ah ?_; rfl
 rw [dc, if_neg c0, if_neg c1, if_neg c2, if_neg c3, if_neg c4]
 refine aa (F := f575) rfl rfl (ag 300 _ _ _ _ ?_)
 repeat' (first | refine ae ?_ | (refine ab ?_ ?_ <;> intro h))
 refine ah ?_; rfl
theorem an6 (a : Actn) (hk : a.kind = 2) : am G 575 [.agg a.enc] [] ⟨.int .i64 (dc a), []⟩ := by
 by_cases c0 : a.asn ≠ 0
 ·rw [dc, if_pos c0]
  refine aa (F := f575) rfl rfl (ag 300 _ _ _ _ ?_)
  repeat' (first | refine ae ?_ | (refine ab ?_ ?_ <;> intro h))
  refine ah ?_; rfl
 have d0 : a.asn = 0 := Decidable.not_not.1 c0
 by_cases c1 : a.com ≠ 0
 ·rw [dc, if_neg c0, if_pos c1]
  refine aa (F := f575) rfl rfl (ag 300 _ _ _ _ ?_)
  repeat' (first | refine ae ?_ | (refine ab ?_ ?_ <;> intro h))
  refine ah ?_; rfl
 have d1 : a.com = 0 := Decidable.not_not.1 c1
 by_cases c2 : a.addr ≠ 0
 ·rw [dc, if_neg c0, if_neg c1, if_pos c2]
  refine aa (F := f575) rfl rfl (ag 300 _ _ _ _ ?_)
  repeat' (first | refine ae ?_ | (refine ab ?_ ?_ <;> intro h))
  refine ah ?_; rfl
 have d2 : a.addr = 0 := Decidable.not_not.1 c2
 by_cases c3 : a.n < 0
 ·rw [dc, if_neg c0, if_neg c1, if_neg c2, if_pos c3]
  refine aa (F := f575) rfl rfl (ag 300 _ _ _ _ ?_)
  repeat' (first | refine ae ?_ | (refine ab ?_ ?_ <;> intro h))
  refine ah ?_; rfl
 by_cases c4 : 4294967295 < a.n
 ·rw [dc, if_neg c0, if_neg c1, if_neg c2, if_neg c3, if_pos c4]
  refine aa (F := f575) rfl rfl (ag 300 _ _ _ _ ?_)
  repeat' (first | refine ae ?_ | (refine ab ?_ ?_ <;> intro h))
  refine ah ?_; rfl
 rw [dc, if_neg c0, if_neg c1, if_neg c2, if_neg c3, if_neg c4]
 refine aa (F := f575) rfl rfl (ag 300 _ _ _ _ ?_)
 repeat' (first | refine ae ?_ | (refine ab ?_ ?_ <;> intro h))
 refine ah ?_; rfl
theorem an4 (a : Actn) (hk : a.kind = 4) : am G 575 [.agg a.enc] [] ⟨.int .i64 (dc a), []⟩ := by
 by_cases c0 : a.asn ≠ 0
 ·rw [dc, if_pos c0]
  refine aa (F := f575) rfl rfl (ag 300 _ _ _ _ ?_)
  repeat' (first | refine ae ?_ | (refine ab ?_ ?_ <;> intro h))
  refine ah ?_; rfl
 have d0 : a.asn = 0 := Decidable.not_not.1 c0
 by_cases c1 : a.com ≠ 0
 ·rw [dc, if_neg c0, if_pos c1]
  refine aa (F := f575) rfl rfl (ag 300 _ _ _ _ ?_)
  repeat' (first | refine ae ?_ | (refine ab ?_ ?_ <;> intro h))
  refine ah ?_; rfl
 have d1 : a.com = 0 := Decidable.not_not.1 c1
 by_cases c2 : a.addr ≠ 0
 ·rw [dc, if_neg c0, if_neg c1, if_pos c2]
  refine aa (F := f575) rfl rfl (ag 300 _ _ _ _ ?_)
  repeat' (first | refine ae ?_ | (refine ab ?_ ?_ <;> intro h))
  refine ah ?_; rfl
 have d2 : a.addr = 0 := Decidable.not_not.1 c2
 by_cases c3 : a.n < 0
 ·rw [dc, if_neg c0, if_neg c1, if_neg c2, if_pos c3]
  refine aa (F := f575) rfl rfl (ag 300 _ _ _ _ ?_)
  repeat' (first | refine ae ?_ | (refine ab ?_ ?_ <;> intro h))
  refine ah ?_; rfl
 by_cases c4 : 4294967295 < a.n
 ·rw [dc, if_neg c0, if_neg c1, if_neg c2, if_neg c3, if_pos c4]
  refine aa (F := f575) rfl rfl (ag 300 _ _ _ _ ?_)
  repeat' (first | refine ae ?_ | (refine ab ?_ ?_ <;> intro h))
  refine ah ?_; rfl
 rw [dc, if_neg c0, if_neg c1, if_neg c2, if_neg c3, if_neg c4]
 refine aa (F := f575) rfl rfl (ag 300 _ _ _ _ ?_)
 repeat' (first | refine ae ?_ | (refine ab ?_ ?_ <;> intro h))
 refine ah ?_; rfl
def lM (a : Actn) : Int := if a.asn ≠ 0 then 1 else if a.com ≠ 0 then 1 else if a.addr ≠ 0 then 1 else if a.n < 0 then 5 else if 16777216 < a.n then 5 else 0
theorem an5 (a : Actn) (hk : a.kind = 3) : am G 575 [.agg a.enc] [] ⟨.int .i64 (lM a), []⟩ := by
 by_cases c0 : a.asn ≠ 0
 ·rw [lM, if_pos c0]
  refine aa (F := f575) rfl rfl (ag 300 _ _ _ _ ?_)
  repeat' (first | refine ae ?_ | (refine ab ?_ ?_ <;> intro h))
  refine ah ?_; rfl
 have d0 : a.asn = 0 := Decidable.not_not.1 c0
 by_cases c1 : a.com ≠ 0
 ·rw [lM, if_neg c0, if_pos c1]
  refine aa (F := f575) rfl rfl (ag 300 _ _ _ _ ?_)
  repeat' (first | refine ae ?_ | (refine ab ?_ ?_ <;> intro h))
  refine ah ?_; rfl
 have d1 : a.com = 0 := Decidable.not_not.1 c1
 by_cases c2 : a.addr ≠ 0
 ·rw [lM, if_neg c0, if_neg c1, if_pos c2]
  refine aa (F := f575) rfl rfl (ag 300 _ _ _ _ ?_)
  repeat' (first | refine ae ?_ | (refine ab ?_ ?_ <;> intro h))
  refine ah ?_; rfl
 have d2 : a.addr = 0 := Decidable.not_not.1 c2
 by_cases c3 : a.n < 0
 ·rw [lM, if_neg c0, if_neg c1, if_neg c2, if_pos c3]
  refine aa (F := f575) rfl rfl (ag 300 _ _ _ _ ?_)
  repeat' (first | refine ae ?_ | (refine ab ?_ ?_ <;> intro h))
  refine ah ?_; rfl
 by_cases c4 : 16777216 < a.n
 ·rw [lM, if_neg c0, if_neg c1, if_neg c2, if_neg c3, if_pos c4]
  refine aa (F := f575) rfl rfl (ag 300 _ _ _ _ ?_)
  repeat' (first | refine ae ?_ | (refine ab ?_ ?_ <;> intro h))
  refine ah ?_; rfl
 rw [lM, if_neg c0, if_neg c1, if_neg c2, if_neg c3, if_neg c4]
 refine aa (F := f575) rfl rfl (ag 300 _ _ _ _ ?_)
 repeat' (first | refine ae ?_ | (refine ab ?_ ?_ <;> intro h))
 refine ah ?_; rfl
def mU (a : Actn) : Int := if a.n ≠ 0 then 1 else if a.asn ≠ 0 then 1 else if a.com ≠ 0 then 1 else if a.addr = 0 then 5 else 0
theorem an3 (a : Actn) (hk : a.kind = 5) : am G 575 [.agg a.enc] [] ⟨.int .i64 (mU a), []⟩ := by
 by_cases c0 : a.n ≠ 0
 ·rw [mU, if_pos c0]
  refine aa (F := f575) rfl rfl (ag 300 _ _ _ _ ?_)
  repeat' (first | refine ae ?_ | (refine ab ?_ ?_ <;> intro h))
  refine ah ?_; rfl
 have d0 : a.n = 0 := Decidable.not_not.1 c0
 by_cases c1 : a.asn ≠ 0
 ·rw [mU, if_neg c0, if_pos c1]
  refine aa (F := f575) rfl rfl (ag 300 _ _ _ _ ?_)
  repeat' (first | refine ae ?_ | (refine ab ?_ ?_ <;> intro h))
  refine ah ?_; rfl
 have d1 : a.asn = 0 := Decidable.not_not.1 c1
 by_cases c2 : a.com ≠ 0
 ·rw [mU, if_neg c0, if_neg c1, if_pos c2]
  refine aa (F := f575) rfl rfl (ag 300 _ _ _ _ ?_)
  repeat' (first | refine ae ?_ | (refine ab ?_ ?_ <;> intro h))
  refine ah ?_; rfl
 have d2 : a.com = 0 := Decidable.not_not.1 c2
 by_cases c3 : a.addr = 0
 ·rw [mU, if_neg c0, if_neg c1, if_neg c2, if_pos c3]
  refine aa (F := f575) rfl rfl (ag 300 _ _ _ _ ?_)
  repeat' (first | refine ae ?_ | (refine ab ?_ ?_ <;> intro h))
  refine ah ?_; rfl
 rw [mU, if_neg c0, if_neg c1, if_neg c2, if_neg c3]
 refine aa (F := f575) rfl rfl (ag 300 _ _ _ _ ?_)
 repeat' (first | refine ae ?_ | (refine ab ?_ ?_ <;> intro h))
 refine ah ?_; rfl
def gA (a : Actn) : Int := if a.n ≠ 0 then 1 else if a.asn ≠ 0 then 1 else if a.addr ≠ 0 then 1 else 0
theorem an2 (a : Actn) (hk : a.kind = 6) : am G 575 [.agg a.enc] [] ⟨.int .i64 (gA a), []⟩ := by
 by_cases c0 : a.n ≠ 0
 ·rw [gA, if_pos c0]
  refine aa (F := f575) rfl rfl (ag 300 _ _ _ _ ?_)
  repeat' (first | refine ae ?_ | (refine ab ?_ ?_ <;> intro h))
  refine ah ?_; rfl
 have d0 : a.n = 0 := Decidable.not_not.1 c0
 by_cases c1 : a.asn ≠ 0
 ·rw [gA, if_neg c0, if_pos c1]
  refine aa (F := f575) rfl rfl (ag 300 _ _ _ _ ?_)
  repeat' (first | refine ae ?_ | (refine ab ?_ ?_ <;> intro h))
  refine ah ?_; rfl
 have d1 : a.asn = 0 := Decidable.not_not.1 c1
 by_cases c2 : a.addr ≠ 0
 ·rw [gA, if_neg c0, if_neg c1, if_pos c2]
  refine aa (F := f575) rfl rfl (ag 300 _ _ _ _ ?_)
  repeat' (first | refine ae ?_ | (refine ab ?_ ?_ <;> intro h))
  refine ah ?_; rfl
 have d2 : a.addr = 0 := Decidable.not_not.1 c2
 rw [gA, if_neg c0, if_neg c1, if_neg c2]
 refine aa (F := f575) rfl rfl (ag 300 _ _ _ _ ?_)
 repeat' (first | refine ae ?_ | (refine ab ?_ ?_ <;> intro h))
 refine ah ?_; rfl
theorem an1 (a : Actn) (hk : a.kind = 7) : am G 575 [.agg a.enc] [] ⟨.int .i64 (gA a), []⟩ := by
 by_cases c0 : a.n ≠ 0
 ·rw [gA, if_pos c0]
  refine aa (F := f575) rfl rfl (ag 300 _ _ _ _ ?_)
  repeat' (first | refine ae ?_ | (refine ab ?_ ?_ <;> intro h))
  refine ah ?_; rfl
 have d0 : a.n = 0 := Decidable.not_not.1 c0
 by_cases c1 : a.asn ≠ 0
 ·rw [gA, if_neg c0, if_pos c1]
  refine aa (F := f575) rfl rfl (ag 300 _ _ _ _ ?_)
  repeat' (first | refine ae ?_ | (refine ab ?_ ?_ <;> intro h))
  refine ah ?_; rfl
 have d1 : a.asn = 0 := Decidable.not_not.1 c1
 by_cases c2 : a.addr ≠ 0
 ·rw [gA, if_neg c0, if_neg c1, if_pos c2]
  refine aa (F := f575) rfl rfl (ag 300 _ _ _ _ ?_)
  repeat' (first | refine ae ?_ | (refine ab ?_ ?_ <;> intro h))
  refine ah ?_; rfl
 have d2 : a.addr = 0 := Decidable.not_not.1 c2
 rw [gA, if_neg c0, if_neg c1, if_neg c2]
 refine aa (F := f575) rfl rfl (ag 300 _ _ _ _ ?_)
 repeat' (first | refine ae ?_ | (refine ab ?_ ?_ <;> intro h))
 refine ah ?_; rfl
def jO (a : Actn) : Int := if a.com ≠ 0 then 1 else if a.addr ≠ 0 then 1 else if a.n < 0 then 5 else if 16 < a.n then 5 else if a.n < 1 then 5 else if a.asn < 1 then 5 else if 4294967295 < a.asn then 5 else 0
theorem an0 (a : Actn) (hk : a.kind = 8) : am G 575 [.agg a.enc] [] ⟨.int .i64 (jO a), []⟩ := by
 by_cases c0 : a.com ≠ 0
 ·rw [jO, if_pos c0]
  refine aa (F := f575) rfl rfl (ag 300 _ _ _ _ ?_)
  repeat' (first | refine ae ?_ | (refine ab ?_ ?_ <;> intro h))
  refine ah ?_; rfl
 have d0 : a.com = 0 := Decidable.not_not.1 c0
 by_cases c1 : a.addr ≠ 0
 ·rw [jO, if_neg c0, if_pos c1]
  refine aa (F := f575) rfl rfl (ag 300 _ _ _ _ ?_)
  repeat' (first | refine ae ?_ | (refine ab ?_ ?_ <;> intro h))
  refine ah ?_; rfl
 have d1 : a.addr = 0 := Decidable.not_not.1 c1
 by_cases c2 : a.n < 0
 ·rw [jO, if_neg c0, if_neg c1, if_pos c2]
  refine aa (F := f575) rfl rfl (ag 300 _ _ _ _ ?_)
  repeat' (first | refine ae ?_ | (refine ab ?_ ?_ <;> intro h))
  refine ah ?_; rfl
 by_cases c3 : 16 < a.n
 ·rw [jO, if_neg c0, if_neg c1, if_neg c2, if_pos c3]
  refine aa (F := f575) rfl rfl (ag 300 _ _ _ _ ?_)
  repeat' (first | refine ae ?_ | (refine ab ?_ ?_ <;> intro h))
  refine ah ?_; rfl
 by_cases c4 : a.n < 1
 ·rw [jO, if_neg c0, if_neg c1, if_neg c2, if_neg c3, if_pos c4]
  refine aa (F := f575) rfl rfl (ag 300 _ _ _ _ ?_)
  repeat' (first | refine ae ?_ | (refine ab ?_ ?_ <;> intro h))
  refine ah ?_; rfl
 by_cases c5 : a.asn < 1
 ·rw [jO, if_neg c0, if_neg c1, if_neg c2, if_neg c3, if_neg c4, if_pos c5]
  refine aa (F := f575) rfl rfl (ag 300 _ _ _ _ ?_)
  repeat' (first | refine ae ?_ | (refine ab ?_ ?_ <;> intro h))
  refine ah ?_; rfl
 by_cases c6 : 4294967295 < a.asn
 ·rw [jO, if_neg c0, if_neg c1, if_neg c2, if_neg c3, if_neg c4, if_neg c5, if_pos c6]
  refine aa (F := f575) rfl rfl (ag 300 _ _ _ _ ?_)
  repeat' (first | refine ae ?_ | (refine ab ?_ ?_ <;> intro h))
  refine ah ?_; rfl
 rw [jO, if_neg c0, if_neg c1, if_neg c2, if_neg c3, if_neg c4, if_neg c5, if_neg c6]
 refine aa (F := f575) rfl rfl (ag 300 _ _ _ _ ?_)
 repeat' (first | refine ae ?_ | (refine ab ?_ ?_ <;> intro h))
 refine ah ?_; rfl
def iJ (a : Actn) : Int := if a.kind = 1 then dc a else if a.kind = 2 then dc a else if a.kind = 4 then dc a else if a.kind = 3 then lM a else if a.kind = 5 then mU a else if a.kind = 6 then gA a else if a.kind = 7 then gA a else if a.kind = 8 then jO a else 15
theorem xT (a : Actn) : am G 575 [.agg a.enc] [] ⟨.int .i64 (iJ a), []⟩ := by
 rw [iJ]
 by_cases k1 : a.kind = 1
 ·rw [if_pos k1]
  exact an7 a k1
 rw [if_neg k1]
 by_cases k2 : a.kind = 2
 ·rw [if_pos k2]
  exact an6 a k2
 rw [if_neg k2]
 by_cases k4 : a.kind = 4
 ·rw [if_pos k4]
  exact an4 a k4
 rw [if_neg k4]
 by_cases k3 : a.kind = 3
 ·rw [if_pos k3]
  exact an5 a k3
 rw [if_neg k3]
 by_cases k5 : a.kind = 5
 ·rw [if_pos k5]
  exact an3 a k5
 rw [if_neg k5]
 by_cases k6 : a.kind = 6
 ·rw [if_pos k6]
  exact an2 a k6
 rw [if_neg k6]
 by_cases k7 : a.kind = 7
 ·rw [if_pos k7]
  exact an1 a k7
 rw [if_neg k7]
 by_cases k8 : a.kind = 8
 ·rw [if_pos k8]
  exact an0 a k8
 rw [if_neg k8]
 refine aa (F := f575) rfl rfl (ag 300 _ _ _ _ ?_)
 repeat' (first | refine ae ?_ | (refine ab ?_ ?_ <;> intro h))
 refine ah ?_; rfl
end Go.AM.IR
