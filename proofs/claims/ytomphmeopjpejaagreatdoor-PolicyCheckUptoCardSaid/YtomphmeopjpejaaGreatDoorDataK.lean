/- What the functions of this program give, on the abstract machine. -/
import Derived.Test.YtomphmeopjpejaaGreatDoorDataA
import Derived.Test.YtomphmeopjpejaaGreatDoorMachineC
set_option linter.unusedVariables false
set_option linter.unusedSimpArgs false
set_option maxHeartbeats 4000000
set_option maxRecDepth 20000
namespace Go.AM.IR
def dp (x n : Nat) : Nat := x / 2 ^ (32 - n) * 2 ^ (32 - n)
def fp (n : Nat) : Nat := 4294967296 - 2 ^ (32 - n)
theorem mr (x n j : Nat) (hn : n ≤ 32) : (dp x n).testBit j = (decide (32 - n ≤ j) && x.testBit j) := by
 unfold dp
 rw [Nat.testBit_mul_two_pow]
 by_cases h : 32 - n ≤ j
 ·simp only [h, decide_true, Bool.true_and]
  rw [Nat.testBit_div_two_pow]; congr 1; omega
 ·simp [h]
theorem Jz (n : Nat) (hn : n ≤ 32) : fp n = (2 ^ n - 1) * 2 ^ (32 - n) := by
 unfold fp
 rw [Nat.sub_mul, ← Nat.pow_add, show n + (32 - n) = 32 by omega]; omega
theorem FP (n j : Nat) (hn : n ≤ 32) : (fp n).testBit j = (decide (32 - n ≤ j) && decide (j < 32)) := by
 rw [Jz n hn, Nat.testBit_mul_two_pow, Nat.testBit_two_pow_sub_one]
 by_cases h : 32 - n ≤ j
 ·simp only [h, decide_true, Bool.true_and]
  congr 1; simp; omega
 ·simp [h]
theorem Ku (x n : Nat) (hx : x < 4294967296) (hn : n ≤ 32) : x &&& fp n = dp x n := by
 apply Nat.eq_of_testBit_eq
 intro j
 rw [Nat.testBit_and, mr x n j hn, FP n j hn]
 by_cases hj : j < 32
 ·simp [hj, Bool.and_comm]
 ·have : x.testBit j = false := Nat.testBit_lt_two_pow (Nat.lt_of_lt_of_le hx (by rw [show 4294967296 = 2 ^ 32 from rfl]; exact Nat.pow_le_pow_right (by omega) (by omega)))
  simp [this]
theorem ou (x n : Nat) : dp x n ≤ x := Nat.div_mul_le_self _ _
theorem En (x n : Nat) (hn : n < 32) : dp x n ||| (x / 2 ^ (31 - n) % 2 * 2 ^ (31 - n)) = dp x (n + 1) := by
 apply Nat.eq_of_testBit_eq
 intro j
 rw [Nat.testBit_or, mr x n j (by omega), mr x (n + 1) j (by omega), Nat.testBit_mul_two_pow]
 have e1 : ∀ q : Nat, (x / 2 ^ (31 - n) % 2).testBit q = (decide (q < 1) && (x / 2 ^ (31 - n)).testBit q) := fun q => by
  have := Nat.testBit_mod_two_pow (x / 2 ^ (31 - n)) 1 q
  simpa using this
 rw [e1, Nat.testBit_div_two_pow]
 by_cases h1 : 32 - n ≤ j
 ·have h2 : 32 - (n + 1) ≤ j := by omega
  have h3 : ¬ (j - (31 - n) < 1) := by omega
  simp [h1, h2, h3]; intro _; omega
 ·by_cases h2 : j = 31 - n
  ·subst h2
   have h3 : 32 - (n + 1) ≤ 31 - n := by omega
   simp [h1, h3]
  ·have h3 : ¬ 32 - (n + 1) ≤ j := by omega
   have h4 : ¬ 31 - n ≤ j := by omega
   simp [h1, h3, h4]
theorem Ek (x : Nat) (hx : x < 4294967296) : dp x 0 = 0 := by
 unfold dp; rw [Nat.div_eq_of_lt (by simpa using hx), Nat.zero_mul]
def br (n : Int) : Nat := if n ≤ 0 then 0 else if n ≤ 32 then n.toNat else 32
theorem mI (n : Int) : br n ≤ 32 := by
 unfold br
 repeat' split
 all_goals omega
section
variable {k : AV → Prop}
theorem y5 (r : Nat) (hr : r < 4294967296) : IntKind.wrap .u32 (r : Int) = (r : Int) := by
 simp [IntKind.wrap, IntKind.signed, IntKind.bits]; omega
theorem ni (a : Nat) (ha : a < 4294967296) : (BitVec.ofInt 32 (a : Int)).toNat = a := by
 rw [BitVec.toNat_ofInt]; omega
theorem Du (a b : Nat) (ha : a < 4294967296) (hb : b < 4294967296) : intBits .and .u32 (a : Int) (b : Int) = ((a &&& b : Nat) : Int) := by
 have hl : a &&& b < 4294967296 := Nat.lt_of_le_of_lt Nat.and_le_left ha
 show IntKind.wrap .u32 (((BitVec.ofInt 32 (a : Int) &&& BitVec.ofInt 32 (b : Int)).toNat : Nat) : Int) = _
 rw [BitVec.toNat_and, ni a ha, ni b hb]; exact y5 _ hl
theorem WG (a b : Nat) (ha : a < 4294967296) (hb : b < 4294967296) : intBits .or .u32 (a : Int) (b : Int) = ((a ||| b : Nat) : Int) := by
 have hl : a ||| b < 4294967296 := Nat.or_lt_two_pow (n := 32) ha hb
 show IntKind.wrap .u32 (((BitVec.ofInt 32 (a : Int) ||| BitVec.ofInt 32 (b : Int)).toNat : Nat) : Int) = _
 rw [BitVec.toNat_or, ni a ha, ni b hb]; exact y5 _ hl
theorem Wt {a b : Nat} (h : k (.int .u32 ((a &&& b : Nat) : Int))) (ha : a < 4294967296 := by omega) (hb : b < 4294967296 := by omega) : ∃ v, bj .and (.int .u32 (a : Int)) (.int .u32 (b : Int)) = some v ∧ k v := ⟨_, by show some (AV.int .u32 (intBits .and .u32 _ _)) = _; rw [Du a b ha hb], h⟩
theorem anu {a b : Nat} (h : k (.int .u32 ((a ||| b : Nat) : Int))) (ha : a < 4294967296) (hb : b < 4294967296) : ∃ v, bj .or (.int .u32 (a : Int)) (.int .u32 (b : Int)) = some v ∧ k v := ⟨_, by show some (AV.int .u32 (intBits .or .u32 _ _)) = _; rw [WG a b ha hb], h⟩
theorem anv {n : Nat} {j : Int} (h : k (.int .u32 ((fp n : Nat) : Int))) (hj : j = 32 - (n : Int)) (hn : n ≤ 32) : ∃ v, bj .shl (.int .u32 4294967295) (.int .i64 j) = some v ∧ k v := by
 refine ⟨_, ?_, h⟩
 show (if j < 0 then none else some (AV.int .u32 (IntKind.wrap .u32 (4294967295 * 2 ^ (min j.toNat 32))))) = _
 rw [if_neg (by omega), show min j.toNat 32 = 32 - n by omega]
 have h1 : (2 : Nat) ^ (32 - n) ≤ 2 ^ 32 := Nat.pow_le_pow_right (by omega) (by omega)
 have h2 : 0 < (2 : Nat) ^ (32 - n) := Nat.pow_pos (by omega)
 have e : (4294967295 * 2 ^ (32 - n) : Int) = ((fp n : Nat) : Int) + 4294967296 * ((2 ^ (32 - n) - 1 : Nat) : Int) := by
  unfold fp
  have : ((2 ^ (32 - n) : Nat) : Int) = (2 : Int) ^ (32 - n) := by simp
  rw [← this]; omega
 congr 2
 rw [e]
 have h3 : fp n < 4294967296 := by unfold fp; omega
 simp [IntKind.wrap, IntKind.signed, IntKind.bits]; omega
theorem Wq {x : Nat} {j : Int} (h : k (.int .u32 ((x / 2 ^ j.toNat : Nat) : Int))) (h0 : 0 ≤ j) (h1 : j ≤ 32) : ∃ v, bj .shr (.int .u32 (x : Int)) (.int .u64 j) = some v ∧ k v := by
 refine ⟨_, ?_, h⟩
 show (if j < 0 then none else some (AV.int .u32 ((x : Int).fdiv (2 ^ (min j.toNat 32))))) = _
 rw [if_neg (by omega), show min j.toNat 32 = j.toNat by omega]
 congr 2
 rw [Int.fdiv_eq_ediv_of_nonneg _ (by exact Int.le_of_lt (Int.pow_pos (by omega)))]
 simp
theorem ant {b m : Nat} {j : Int} (h : k (.int .u32 ((b * 2 ^ m : Nat) : Int))) (hj : j = m) (hm : m < 32) (hb : b < 2) : ∃ v, bj .shl (.int .u32 (b : Int)) (.int .u64 j) = some v ∧ k v := by
 refine ⟨_, ?_, h⟩
 show (if j < 0 then none else some (AV.int .u32 (IntKind.wrap .u32 ((b : Int) * 2 ^ (min j.toNat 32))))) = _
 rw [if_neg (by omega), show min j.toNat 32 = m by omega]
 have h1 : (2 : Nat) ^ m ≤ 2 ^ 31 := Nat.pow_le_pow_right (by omega) (by omega)
 have e : ((b : Int) * 2 ^ m : Int) = ((b * 2 ^ m : Nat) : Int) := by simp
 rw [e]
 have h3 : b * 2 ^ m < 4294967296 := by
  have : b * 2 ^ m ≤ 1 * 2 ^ m := Nat.mul_le_mul_right _ (by omega)
  omega
 congr 2
 simp only [IntKind.wrap, IntKind.signed, IntKind.bits]; simp; omega
theorem anw {x : Nat} (hx : x < 4294967296) (h : k (.int .u32 ((x % 2 : Nat) : Int))) : ∃ v, bj .and (.int .u32 (x : Int)) (.int .u32 1) = some v ∧ k v :=
 ⟨_, by
  show some (AV.int .u32 (intBits .and .u32 (x : Int) ((1 : Nat) : Int))) = _
  rw [Du x 1 hx (by omega), Nat.and_one_is_mod], h⟩
end
end Go.AM.IR
namespace Go.AM.IR
theorem sx (n : Int) : am G 186 [.int .i64 n, .int .i64 32] [] ⟨.int .i64 (br n : Nat), []⟩ := by
 by_cases h0 : n ≤ 0
 ·rw [show br n = 0 from by simp [br, h0]]
  by_cases h1 : n = 0
  ·subst h1
   refine aa (F := f186) rfl rfl (ag 300 _ _ _ _ ?_)
   repeat' (first | refine ae ?_ | (refine ab ?_ ?_ <;> intro h))
   refine ah ?_; rfl
  ·have h2 : n < 0 := by omega
   refine aa (F := f186) rfl rfl (ag 300 _ _ _ _ ?_)
   repeat' (first | refine ae ?_ | (refine ab ?_ ?_ <;> intro h))
   refine ah ?_; first | rfl | (simp [h2])
 ·by_cases h1 : n ≤ 32
  ·rw [show ((br n : Nat) : Int) = n from by simp [br, h0, h1]; omega]
   refine aa (F := f186) rfl rfl (ag 300 _ _ _ _ ?_)
   repeat' (first | refine ae ?_ | (refine ab ?_ ?_ <;> intro h))
   refine ah ?_; rfl
  ·rw [show br n = 32 from by simp [br, h0, h1]]
   refine aa (F := f186) rfl rfl (ag 300 _ _ _ _ ?_)
   repeat' (first | refine ae ?_ | (refine ab ?_ ?_ <;> intro h))
   refine ah ?_; rfl
theorem vU (n : Int) : am G 184 [.int .i64 n, .int .i64 32] [] ⟨.int .i64 (br n : Nat), []⟩ := by
 by_cases h0 : n ≤ 0
 ·rw [show br n = 0 from by simp [br, h0]]
  by_cases h1 : n = 0
  ·subst h1
   refine aa (F := f184) rfl rfl (ag 300 _ _ _ _ ?_)
   repeat' (first | refine ae ?_ | (refine ab ?_ ?_ <;> intro h))
   refine ah ?_; rfl
  ·have h2 : n < 0 := by omega
   refine aa (F := f184) rfl rfl (ag 300 _ _ _ _ ?_)
   repeat' (first | refine ae ?_ | (refine ab ?_ ?_ <;> intro h))
   refine ah ?_; first | rfl | (simp [h2])
 ·by_cases h1 : n ≤ 32
  ·rw [show ((br n : Nat) : Int) = n from by simp [br, h0, h1]; omega]
   refine aa (F := f184) rfl rfl (ag 300 _ _ _ _ ?_)
   repeat' (first | refine ae ?_ | (refine ab ?_ ?_ <;> intro h))
   refine ah ?_; rfl
  ·rw [show br n = 32 from by simp [br, h0, h1]]
   refine aa (F := f184) rfl rfl (ag 300 _ _ _ _ ?_)
   repeat' (first | refine ae ?_ | (refine ab ?_ ?_ <;> intro h))
   refine ah ?_; rfl
theorem ue (n : Int) : am G 183 [.int .i64 n] [] ⟨.int .u32 (fp (br n) : Nat), []⟩ := by
 have hc := sx n
 have hl := mI n
 generalize br n = c at *
 refine aa (F := f183) rfl rfl (ag 300 _ _ _ _ ?_)
 repeat' ((conv => whnf); first | refine anv (n := c) ?_ (by omega) (by omega) | refine a7 ?_ | (refine ab ?_ ?_ <;> intro h))
 refine ah ?_; rfl
theorem uh (x : Nat) (n : Int) (hx : x < 4294967296) : am G 181 [.int .u32 (x : Int), .int .i64 n] [] ⟨.int .u32 (dp x (br n) : Nat), []⟩ := by
 have hm := ue n
 have hl := mI n
 rw [← Ku x (br n) hx hl]
 have hb : fp (br n) < 4294967296 := by unfold fp; have := Nat.pow_pos (n := 32 - br n) (show 0 < 2 by omega); omega
 generalize fp (br n) = mk at *
 refine aa (F := f181) rfl rfl (ag 300 _ _ _ _ ?_)
 repeat' ((conv => whnf); first | refine Wt ?_ hx hb | refine a7 ?_ | (refine ab ?_ ?_ <;> intro h))
 refine ah ?_; rfl
theorem yX (x i : Nat) (hx : x < 4294967296) (hi : i < 32) : am G 185 [.int .u32 (x : Int), .int .i64 (i : Int)] [] ⟨.int .i64 (x / 2 ^ (31 - i) % 2 : Nat), []⟩ := by
 have he : (31 - (i : Int)).toNat = 31 - i := by omega
 have hd : x / 2 ^ (31 - i) < 4294967296 := Nat.lt_of_le_of_lt (Nat.div_le_self _ _) hx
 have hm : x / 2 ^ (31 - i) % 2 < 2 := Nat.mod_lt _ (by omega)
 rw [← he] at hd hm ⊢
 refine aa (F := f185) rfl rfl (ag 300 _ _ _ _ ?_)
 repeat' ((conv => whnf); first | refine Wq ?_ (by omega) (by omega) | refine anw hd ?_ | refine a7 ?_ | (refine ab ?_ ?_ <;> intro h))
 refine ah ?_; rfl
theorem mq (x c : Nat) (hx : x < 4294967296) (hc : c ≤ 32) : ∀ (d i : Nat) (T : List (Nat × AV)) (H : ay) (ct : Nat) (hd : d + i = c),
  Ev G ⟨J7, ⟨(9, .int .i64 (i : Int)) :: (0, .int .u32 (x : Int)) :: (5, .int .u32 (dp x i : Nat)) :: (8, .int .i64 (c : Int)) :: T, H, ct⟩, [.t 4], 0⟩ ⟨.int .u32 (dp x c : Nat), []⟩
 | 0, i, T, H, ct, hd => by
  obtain rfl : i = c := by omega
  refine evl ?_
  repeat' (first | refine ae ?_ | (refine ab ?_ ?_ <;> intro h))
  refine ah ?_; rfl
 | d + 1, i, T, H, ct, hd => by
  have ha := yX x i hx (by omega)
  have hb : x / 2 ^ (31 - i) % 2 < 2 := Nat.mod_lt _ (by omega)
  have hk := En x i (by omega)
  have hl := ou x i
  have hs : x / 2 ^ (31 - i) % 2 * 2 ^ (31 - i) < 4294967296 := by
   have h1 : (2 : Nat) ^ (31 - i) ≤ 2 ^ 31 := Nat.pow_le_pow_right (by omega) (by omega)
   have h2 := Nat.mul_le_mul_right (2 ^ (31 - i)) (show x / 2 ^ (31 - i) % 2 ≤ 1 by omega)
   omega
  generalize x / 2 ^ (31 - i) % 2 = b at *
  generalize hki : dp x i = ki at *
  refine evl ?_
  repeat' ((conv => whnf); first | refine ant (m := 31 - i) ?_ (by omega) (by omega) hb | refine anu ?_ (by omega) hs | refine a7 ?_ | (refine ab ?_ ?_ <;> intro h))
  rw [hk]
  refine aA [9, 0, 5, 8] [] ?_
  exact mq x c hx hc d (i + 1) _ _ _ (by omega)
theorem ug (x : Nat) (n : Int) (hx : x < 4294967296) : am G 182 [.int .u32 (x : Int), .int .i64 n] [] ⟨.int .u32 (dp x (br n) : Nat), []⟩ := by
 have hm := vU n
 have hl := mI n
 have h0 := Ek x hx
 generalize br n = c at *
 refine aa (F := f182) rfl rfl (ag 300 _ _ _ _ ?_)
 repeat' (first | refine ae ?_ | (refine ab ?_ ?_ <;> intro h))
 refine aA [9, 0, 5, 8] [] ?_
 have := mq x c hx hl c 0
 rw [h0] at this
 exact this _ _ _ rfl
def bb (p : Pfx) : Bool := decide (0 ≤ p.len ∧ p.len ≤ 32 ∧ (dp p.addr.toNat p.len.toNat : Int) = p.addr)
theorem ku (p : Pfx) (h : p.ok) : am G 178 [.agg p.enc] [] ⟨.bool (bb p), []⟩ := by
 obtain ⟨a, n⟩ := p
 obtain ⟨x, rfl⟩ : ∃ x : Nat, a = x := ⟨a.toNat, by have := h.addr; unfold okU at this; simp only at this; omega⟩
 have hx : x < 4294967296 := by have := h.addr; unfold okU at this; simp only at this; omega
 have hk := uh x n hx
 have hkl := ou x (br n)
 by_cases hn : 0 ≤ n ∧ n ≤ 32
 ·obtain ⟨n0, n1⟩ := hn
  have hc : br n = n.toNat := by unfold br; repeat' split <;> omega
  rw [hc] at hk hkl
  by_cases hq : dp x n.toNat = x
  ·rw [show bb ⟨x, n⟩ = true from by simp [bb, n0, n1, hq]]
   rw [hq] at hk
   refine aa (F := f178) rfl rfl (ag 300 _ _ _ _ ?_)
   repeat' (first | refine ae ?_ | (refine ab ?_ ?_ <;> intro h))
   refine ah ?_; simp
  ·rw [show bb ⟨x, n⟩ = false from by simp only [bb, decide_eq_false_iff_not]; intro hh; exact hq (by have := hh.2.2; simp only [Int.toNat_natCast] at this; omega)]
   have hq2 : ¬ ((dp x n.toNat : Nat) : Int) = (x : Int) := by omega
   generalize dp x n.toNat = kq at *
   refine aa (F := f178) rfl rfl (ag 300 _ _ _ _ ?_)
   repeat' (first | refine ae ?_ | (refine ab ?_ ?_ <;> intro h))
   refine ah ?_; simp [hq2]
 ·rw [show bb ⟨x, n⟩ = false from by simp [bb]; omega]
  by_cases n0 : 0 ≤ n
  ·have n1 : ¬ n ≤ 32 := by omega
   refine aa (F := f178) rfl rfl (ag 300 _ _ _ _ ?_)
   repeat' (first | refine ae ?_ | (refine ab ?_ ?_ <;> intro h))
   refine ah ?_; rfl
  ·refine aa (F := f178) rfl rfl (ag 300 _ _ _ _ ?_)
   repeat' (first | refine ae ?_ | (refine ab ?_ ?_ <;> intro h))
   refine ah ?_; rfl
end Go.AM.IR
namespace Go.AM.IR
theorem ce (p : Pfx) (h : p.ok) : am G 179 [.agg p.enc] [] ⟨.bool (bb p), []⟩ := by
 obtain ⟨a, n⟩ := p
 obtain ⟨x, rfl⟩ : ∃ x : Nat, a = x := ⟨a.toNat, by have := h.addr; unfold okU at this; simp only at this; omega⟩
 have hx : x < 4294967296 := by have := h.addr; unfold okU at this; simp only at this; omega
 have hk := ug x n hx
 have hkl := ou x (br n)
 by_cases hn : 0 ≤ n ∧ n ≤ 32
 ·obtain ⟨n0, n1⟩ := hn
  have hc : br n = n.toNat := by unfold br; repeat' split <;> omega
  rw [hc] at hk hkl
  by_cases hq : dp x n.toNat = x
  ·rw [show bb ⟨x, n⟩ = true from by simp [bb, n0, n1, hq]]
   rw [hq] at hk
   refine aa (F := f179) rfl rfl (ag 300 _ _ _ _ ?_)
   repeat' (first | refine ae ?_ | (refine ab ?_ ?_ <;> intro h))
   refine ah ?_; simp
  ·rw [show bb ⟨x, n⟩ = false from by simp only [bb, decide_eq_false_iff_not]; intro hh; exact hq (by have := hh.2.2; simp only [Int.toNat_natCast] at this; omega)]
   have hq2 : ¬ ((dp x n.toNat : Nat) : Int) = (x : Int) := by omega
   generalize dp x n.toNat = kq at *
   refine aa (F := f179) rfl rfl (ag 300 _ _ _ _ ?_)
   repeat' (first | refine ae ?_ | (refine ab ?_ ?_ <;> intro h))
   refine ah ?_; simp [hq2]
 ·rw [show bb ⟨x, n⟩ = false from by simp [bb]; omega]
  by_cases n0 : 0 ≤ n
  ·have n1 : ¬ n ≤ 32 := by omega
   refine aa (F := f179) rfl rfl (ag 300 _ _ _ _ ?_)
   repeat' (first | refine ae ?_ | (refine ab ?_ ?_ <;> intro h))
   refine ah ?_; rfl
  ·refine aa (F := f179) rfl rfl (ag 300 _ _ _ _ ?_)
   repeat' (first | refine ae ?_ | (refine ab ?_ ?_ <;> intro h))
   refine ah ?_; rfl
end Go.AM.IR
namespace Go.AM.IR
section
variable {kv : AV → Prop}
end
end Go.AM.IR
namespace Go.AM.IR
set_option maxRecDepth 100000
theorem kM : am G 669 [] [] ⟨.bool true, []⟩ := Eu 100000000 rfl rfl (by kernel_rfl)
end Go.AM.IR
