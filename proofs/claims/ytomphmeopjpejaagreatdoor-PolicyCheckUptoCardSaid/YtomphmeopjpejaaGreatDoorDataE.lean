/- What the functions of this program give, on the abstract machine. -/
import Derived.Test.YtomphmeopjpejaaGreatDoorDataD
set_option linter.unusedVariables false
set_option linter.unusedSimpArgs false
set_option maxHeartbeats 4000000
set_option maxRecDepth 20000
namespace Go.AM.IR
theorem wZ (k k2 lo hi : Int) (l : List Rx) : cZ k (.mk k2 lo hi l) = if k2 = 3 then decide (k ≠ 4) else if k2 = 4 then !l.isEmpty else decide (5 ≤ k2 ∧ k2 ≤ 7) && decide (5 ≤ k ∧ k ≤ 7) := rfl
theorem ul (k lo hi k2 lo2 hi2 : Int) (l l2 : List Rx) (hl : l2.length < 2 ^ 40) : am G 644 [.agg [.int .i64 k, .int .i64 lo, .int .i64 hi, .sl 4 (l.map Rx.enc)], .agg [.int .i64 k2, .int .i64 lo2, .int .i64 hi2, .sl 4 (l2.map Rx.enc)]] [] ⟨.bool (cZ k (.mk k2 lo2 hi2 l2)), []⟩ := by
 have m1 : (l2.map Rx.enc).length = l2.length := by simp
 have hrep : ∀ b : Bool, b = decide (5 ≤ k ∧ k ≤ 7) → True := fun _ _ => trivial
 rw [wZ]
 by_cases a3 : k2 = 3
 ·rw [if_pos a3]
  subst a3
  by_cases e : k = 4
  ·subst e
   refine aa (F := f644) rfl rfl (ag 300 _ _ _ _ ?_)
   repeat' (first | refine ae ?_ | (refine ab ?_ ?_ <;> intro h))
   refine ah ?_; rfl
  ·rw [decide_eq_true e]
   by_cases e5 : k = 5
   ·subst e5
    refine aa (F := f644) rfl rfl (ag 300 _ _ _ _ ?_)
    repeat' (first | refine ae ?_ | (refine ab ?_ ?_ <;> intro h))
    refine ah ?_; rfl
   by_cases e6 : k = 6
   ·subst e6
    refine aa (F := f644) rfl rfl (ag 300 _ _ _ _ ?_)
    repeat' (first | refine ae ?_ | (refine ab ?_ ?_ <;> intro h))
    refine ah ?_; rfl
   refine aa (F := f644) rfl rfl (ag 300 _ _ _ _ ?_)
   repeat' (first | refine ae ?_ | (refine ab ?_ ?_ <;> intro h))
   refine ah ?_
   simp [e]
 rw [if_neg a3]
 by_cases a4 : k2 = 4
 ·rw [if_pos a4]
  subst a4
  have hem : (!l2.isEmpty) = decide ((l2.length : Int) > 0) := by cases l2 <;> simp
  rw [hem]
  by_cases e5 : k = 5
  ·subst e5
   refine aa (F := f644) rfl rfl (ag 300 _ _ _ _ ?_)
   repeat' (first | refine ae ?_ | (refine ab ?_ ?_ <;> intro h))
   refine ah ?_
   rw [m1]
  by_cases e6 : k = 6
  ·subst e6
   refine aa (F := f644) rfl rfl (ag 300 _ _ _ _ ?_)
   repeat' (first | refine ae ?_ | (refine ab ?_ ?_ <;> intro h))
   refine ah ?_
   rw [m1]
  refine aa (F := f644) rfl rfl (ag 300 _ _ _ _ ?_)
  repeat' (first | refine ae ?_ | (refine ab ?_ ?_ <;> intro h))
  refine ah ?_
  rw [m1]
 rw [if_neg a4]
 have run : ∀ d : Bool, d = decide (5 ≤ k ∧ k ≤ 7) → ∀ e : Bool, e = decide (5 ≤ k2 ∧ k2 ≤ 7) → am G 644 [.agg [.int .i64 k, .int .i64 lo, .int .i64 hi, .sl 4 (l.map Rx.enc)], .agg [.int .i64 k2, .int .i64 lo2, .int .i64 hi2, .sl 4 (l2.map Rx.enc)]] [] ⟨.bool (e && d), []⟩ := fun d hd e he => by
  by_cases b5 : k2 = 5
  ·subst b5
   obtain rfl : e = true := by rw [he]; decide
   by_cases e5 : k = 5
   ·subst e5
    obtain rfl : d = true := by rw [hd]; decide
    refine aa (F := f644) rfl rfl (ag 300 _ _ _ _ ?_)
    repeat' (first | refine ae ?_ | (refine ab ?_ ?_ <;> intro h))
    refine ah ?_; rfl
   by_cases e6 : k = 6
   ·subst e6
    obtain rfl : d = true := by rw [hd]; decide
    refine aa (F := f644) rfl rfl (ag 300 _ _ _ _ ?_)
    repeat' (first | refine ae ?_ | (refine ab ?_ ?_ <;> intro h))
    refine ah ?_; rfl
   obtain rfl : d = decide (k = 7) := by rw [hd, Bool.eq_iff_iff]; simp only [decide_eq_true_eq]; omega
   refine aa (F := f644) rfl rfl (ag 300 _ _ _ _ ?_)
   repeat' (first | refine ae ?_ | (refine ab ?_ ?_ <;> intro h))
   refine ah ?_
   simp
   rw [Bool.eq_iff_iff]
   simp
  by_cases b6 : k2 = 6
  ·subst b6
   obtain rfl : e = true := by rw [he]; decide
   by_cases e5 : k = 5
   ·subst e5
    obtain rfl : d = true := by rw [hd]; decide
    refine aa (F := f644) rfl rfl (ag 300 _ _ _ _ ?_)
    repeat' (first | refine ae ?_ | (refine ab ?_ ?_ <;> intro h))
    refine ah ?_; rfl
   by_cases e6 : k = 6
   ·subst e6
    obtain rfl : d = true := by rw [hd]; decide
    refine aa (F := f644) rfl rfl (ag 300 _ _ _ _ ?_)
    repeat' (first | refine ae ?_ | (refine ab ?_ ?_ <;> intro h))
    refine ah ?_; rfl
   obtain rfl : d = decide (k = 7) := by rw [hd, Bool.eq_iff_iff]; simp only [decide_eq_true_eq]; omega
   refine aa (F := f644) rfl rfl (ag 300 _ _ _ _ ?_)
   repeat' (first | refine ae ?_ | (refine ab ?_ ?_ <;> intro h))
   refine ah ?_
   simp
   rw [Bool.eq_iff_iff]
   simp
  by_cases b7 : k2 = 7
  ·subst b7
   obtain rfl : e = true := by rw [he]; decide
   by_cases e5 : k = 5
   ·subst e5
    obtain rfl : d = true := by rw [hd]; decide
    refine aa (F := f644) rfl rfl (ag 300 _ _ _ _ ?_)
    repeat' (first | refine ae ?_ | (refine ab ?_ ?_ <;> intro h))
    refine ah ?_; rfl
   by_cases e6 : k = 6
   ·subst e6
    obtain rfl : d = true := by rw [hd]; decide
    refine aa (F := f644) rfl rfl (ag 300 _ _ _ _ ?_)
    repeat' (first | refine ae ?_ | (refine ab ?_ ?_ <;> intro h))
    refine ah ?_; rfl
   obtain rfl : d = decide (k = 7) := by rw [hd, Bool.eq_iff_iff]; simp only [decide_eq_true_eq]; omega
   refine aa (F := f644) rfl rfl (ag 300 _ _ _ _ ?_)
   repeat' (first | refine ae ?_ | (refine ab ?_ ?_ <;> intro h))
   refine ah ?_
   simp
   rw [Bool.eq_iff_iff]
   simp
  obtain rfl : e = false := by rw [he]; simp; omega
  by_cases e5 : k = 5
  ·subst e5
   refine aa (F := f644) rfl rfl (ag 300 _ _ _ _ ?_)
   repeat' (first | refine ae ?_ | (refine ab ?_ ?_ <;> intro h))
   refine ah ?_; rfl
  by_cases e6 : k = 6
  ·subst e6
   refine aa (F := f644) rfl rfl (ag 300 _ _ _ _ ?_)
   repeat' (first | refine ae ?_ | (refine ab ?_ ?_ <;> intro h))
   refine ah ?_; rfl
  refine aa (F := f644) rfl rfl (ag 300 _ _ _ _ ?_)
  repeat' (first | refine ae ?_ | (refine ab ?_ ?_ <;> intro h))
  refine ah ?_; rfl
 exact run _ rfl _ rfl
def iC (w : List UInt8) : List AV := [.str w]
@[simp] theorem Jh : ∀ l : List (List UInt8), az (l.map iC) = true
 | [] => rfl
 | x :: r => by simp only [List.map_cons, az, Jh r]; rfl
def jr (c : UInt8) : List (List UInt8) → List UInt8
 | [] => []
 | x :: r => c :: (x ++ jr c r)
theorem ov (c : UInt8) : ∀ (x : List UInt8) (r : List (List UInt8)), bQ c (x :: r) = x ++ jr c r
 | x, [] => by simp [bQ, jr]
 | x, y :: r => by rw [f4, ov c y r, jr]
theorem jA (l : List (List UInt8)) (hl : l.length < 2 ^ 40) (c : UInt8) : ∀ (rest done : List (List UInt8)) (acc R : List UInt8) (T : List (Nat × AV)) (H : ay) (ct : Nat) (n : Int) (e : l = done ++ rest) (hn : n = done.length) (hb : acc.length + cG rest < 2 ^ 40) (hR : R = if done = [] then bQ c rest else acc ++ jr c rest) (hd0 : done = [] → acc = []),
  Ev G ⟨JN, ⟨(10, .int .i64 n) :: (1, .str [c]) :: (5, .str acc) :: (8, .sl 1 (l.map iC)) :: (9, .int .i64 l.length) :: T, H, ct⟩, [.t 4], 0⟩ ⟨.str R, []⟩
 | [], done, acc, R, T, H, ct, n, e, hn, hb, hR, hd0 => by
  have hd : l.length = done.length := by simp [e]
  obtain rfl : R = acc := by
   rw [hR]
   by_cases h : done = []
   ·rw [if_pos h, hd0 h]; rfl
   ·rw [if_neg h]; simp [jr]
  refine evl ?_
  repeat' (first | refine ae ?_ | (refine ab ?_ ?_ <;> intro h))
  refine ah ?_; rfl
 | x :: r, done, acc, R, T, H, ct, n, e, hn, hb, hR, hd0 => by
  have hd : l.length = done.length + (r.length + 1) := by simp [e]
  have hll : (l.map iC).length = l.length := by simp
  have hx : (l.map iC)[n.toNat]? = some [.str x] := by simp [e, hn, iC]
  have h1 : [c].length = 1 := rfl
  rw [cG] at hb
  by_cases h : done = []
  ·have h0 := hd0 h
   subst h h0
   obtain rfl : n = 0 := hn
   rw [if_pos rfl, ov] at hR
   have hz : ([] : List UInt8).length = 0 := rfl
   refine evl ?_
   repeat' ((conv => whnf); first | refine eN ?_ | refine a7 ?_ | (refine ab ?_ ?_ <;> intro h))
   refine aA [10, 1, 5, 8, 9] [] ?_
   exact jA l hl c r [x] x R _ _ _ 1 (by simpa using e) rfl (by simp at hb; omega) (by rw [if_neg (by simp)]; exact hR) (by simp)
  ·rw [if_neg h, jr] at hR
   have hp : (0 : Int) < n := by
    have : done.length ≠ 0 := fun q => h (List.eq_nil_of_length_eq_zero q)
    omega
   have h2 : (acc ++ [c]).length = acc.length + 1 := by simp
   refine evl ?_
   repeat' ((conv => whnf); first | refine eN ?_ | refine a7 ?_ | (refine ab ?_ ?_ <;> intro h))
   refine aA [10, 1, 5, 8, 9] [] ?_
   exact jA l hl c r (done ++ [x]) (acc ++ [c] ++ x) R _ _ _ (n + 1) (by simp [e]) (by simp [hn]) (by simp; omega) (by rw [if_neg (by simp), hR]; simp) (by simp)
theorem lU (l : List (List UInt8)) (hl : l.length < 2 ^ 40) (hb : cG l < 2 ^ 40) (c : UInt8) : am G 645 [.sl 1 (l.map iC), .str [c]] [] ⟨.str (bQ c l), []⟩ := by
 have hll : (l.map iC).length = l.length := by simp
 refine aa (F := f645) rfl rfl (ag 300 _ _ _ _ ?_)
 repeat' (first | refine ae ?_ | (refine ab ?_ ?_ <;> intro h))
 refine aA [10, 1, 5, 8, 9] [] ?_
 rw [hll]
 exact jA l hl c l [] [] _ _ _ _ 0 rfl rfl (by simpa using hb) (by rw [if_pos rfl]) (fun _ => rfl)
end Go.AM.IR
namespace Go.AM.IR
theorem ob : ∀ (a b : List (List UInt8)), cG (a ++ b) = cG a + cG b
 | [], b => by simp [cG]
 | x :: r, b => by rw [List.cons_append, cG, cG, ob r b]; omega
theorem lj (dec : Int → List UInt8) (k : Int) : ∀ (a b : List Rx), ba dec k (a ++ b) = ba dec k a ++ ba dec k b
 | [], b => by rw [ba]; rfl
 | x :: r, b => by rw [List.cons_append, ba, ba, lj dec k r b]; rfl
def mW (x : Rx) : Prop := am G 618 [.agg x.enc] [] ⟨.str (pat aH x), []⟩
theorem yo (k lo hi : Int) (l : List Rx) (hn : aY k lo hi l.length = true) (hl : l.length < 2 ^ 40) (hb : cG (ba aH k l) < 2 ^ 30) (g gp : Nat) (T : List (Nat × AV)) (H : ay) (ct : Nat) (ps : List (List UInt8)) (hps : ps = ba aH k l) :
  Ev G ⟨jZ, ⟨(10, .int .i64 l.length) :: (3, .vs 200 g ps.length) :: (1, .ref 65 gp 0) :: (8, .sl 4 (l.map Rx.enc)) :: (9, .int .i64 l.length) :: T, (200, some (g, .vec 1 (ps.map iC))) :: (65, some (gp, .cells [.int .i64 k, .int .i64 lo, .int .i64 hi, .sl 4 (l.map Rx.enc)])) :: H, ct⟩, [.t 2], 0⟩ ⟨.str (b9 aH k lo hi ps), []⟩ := by
 have hpl : ps.length = l.length := by rw [hps]; exact jp l
 have m1 : (ps.map iC).length = ps.length := by simp
 rw [← hps] at hb
 unfold aY at hn
 by_cases k1 : k = 1
 ·rw [if_pos k1] at hn
  obtain ⟨q1, q2, q3, q4⟩ := of_decide_eq_true hn
  subst k1
  have d1 := l5 lo q1 (by omega)
  have d2 := l5 hi (by omega) q3
  have i1 := gU (a := lo) q1 (by omega)
  have i2 := gU (a := hi) (by omega) q3
  by_cases e : lo = hi
  ·rw [show b9 aH 1 lo hi ps = aH lo from by unfold b9; rw [if_neg (by omega), if_pos rfl, if_pos e]]
   generalize aH lo = w1 at *
   refine evl ?_
   repeat' (first | refine ae ?_ | (refine ab ?_ ?_ <;> intro h))
   refine ah ?_; rfl
  ·rw [show b9 aH 1 lo hi ps = 91 :: (aH lo ++ 45 :: (aH hi ++ [93])) from by unfold b9; rw [if_neg (by omega), if_pos rfl, if_neg e]]
   generalize aH lo = w1 at *
   generalize aH hi = w2 at *
   have z1 : ([91] : List UInt8).length = 1 := rfl
   have z2 : ([45] : List UInt8).length = 1 := rfl
   have z3 : ([93] : List UInt8).length = 1 := rfl
   refine evl ?_
   repeat' ((conv => whnf); first | refine eN ?_ | refine a7 ?_ | (refine ab ?_ ?_ <;> intro h))
   refine ah ?_
   simp
 rw [if_neg k1, Bool.and_eq_true] at hn
 obtain ⟨hz, hn⟩ := hn
 obtain ⟨rfl, rfl⟩ := of_decide_eq_true hz
 by_cases k0 : k = 0
 ·subst k0
  refine evl ?_
  repeat' (first | refine ae ?_ | (refine ab ?_ ?_ <;> intro h))
  refine ah ?_; rfl
 by_cases k2 : k = 2
 ·subst k2
  refine evl ?_
  repeat' (first | refine ae ?_ | (refine ab ?_ ?_ <;> intro h))
  refine ah ?_; rfl
 rw [if_neg (by omega)] at hn
 by_cases k3 : k = 3
 ·subst k3
  have hj := lU ps (by omega) (by omega) 32
  rw [show b9 aH 3 0 0 ps = bQ 32 ps from rfl]
  generalize bQ 32 ps = w at *
  refine evl ?_
  repeat' (first | refine ae ?_ | refine kZ [(200, _, _)] ⟨rfl, pz trivial⟩ (hj) ?_ | (refine ab ?_ ?_ <;> intro h))
  refine ah ?_; rfl
 rw [if_neg k3] at hn
 by_cases k4 : k = 4
 ·subst k4
  by_cases hz : ps = []
  ·subst hz
   rw [show b9 aH 4 0 0 [] = [33] from rfl]
   have z0 : ([] : List (List UInt8)).length = 0 := rfl
   refine evl ?_
   repeat' (first | refine ae ?_ | (refine ab ?_ ?_ <;> intro h))
   refine ah ?_; rfl
  ·have hpz : ps.length ≠ 0 := fun q => hz (List.eq_nil_of_length_eq_zero q)
   have hj := lU ps (by omega) (by omega) 124
   rw [show b9 aH 4 0 0 ps = bQ 124 ps from by unfold b9; rw [if_neg (by omega), if_neg (by omega), if_neg (by omega), if_neg (by omega), if_pos rfl, if_neg (by cases ps <;> simp_all)]]
   generalize bQ 124 ps = w at *
   refine evl ?_
   repeat' (first | refine ae ?_ | refine kZ [(200, _, _)] ⟨rfl, pz trivial⟩ (hj) ?_ | (refine ab ?_ ?_ <;> intro h))
   refine ah ?_; rfl
 rw [if_neg k4] at hn
 by_cases k5 : 5 ≤ k ∧ k ≤ 7
 ·rw [if_pos k5] at hn
  have hn := of_decide_eq_true hn
  obtain ⟨p, rfl⟩ : ∃ p, ps = [p] := by
   match ps, hpl with
   | [p], _ => exact ⟨p, rfl⟩
   | [], h => simp at h; omega
   | a :: b :: r, h => simp at h; omega
  simp only [cG] at hb
  have hx : ([p].map iC)[(0 : Int).toNat]? = some [.str p] := rfl
  have z1 : ([p] : List (List UInt8)).length = 1 := rfl
  have z2 : ([42] : List UInt8).length = 1 := rfl
  have z3 : ([43] : List UInt8).length = 1 := rfl
  have z4 : ([63] : List UInt8).length = 1 := rfl
  rcases (by omega : k = 5 ∨ k = 6 ∨ k = 7) with rfl | rfl | rfl
  ·rw [show b9 aH 5 0 0 [p] = p ++ [42] from rfl]
   refine evl ?_
   repeat' ((conv => whnf); first | refine eN ?_ | refine a7 ?_ | (refine ab ?_ ?_ <;> intro h))
   refine ah ?_; rfl
  ·rw [show b9 aH 6 0 0 [p] = p ++ [43] from rfl]
   refine evl ?_
   repeat' ((conv => whnf); first | refine eN ?_ | refine a7 ?_ | (refine ab ?_ ?_ <;> intro h))
   refine ah ?_; rfl
  ·rw [show b9 aH 7 0 0 [p] = p ++ [63] from rfl]
   refine evl ?_
   repeat' ((conv => whnf); first | refine eN ?_ | refine a7 ?_ | (refine ab ?_ ?_ <;> intro h))
   refine ah ?_; rfl
 ·rw [if_neg k5] at hn; cases hn
end Go.AM.IR
namespace Go.AM.IR
theorem nT (k lo hi : Int) (l : List Rx) (hn : aY k lo hi l.length = true) (hl : l.length < 2 ^ 40) (hb : cG (ba aH k l) < 2 ^ 30) (hk : ∀ y ∈ l, mW y ∧ Sml y) (gp : Nat) : ∀ (rest done : List Rx) (T : List (Nat × AV)) (H : ay) (ct g m : Nat) (es : List (List AV)) (n : Int) (e : l = done ++ rest) (hnn : n = done.length) (hm : m = (ba aH k done).length) (hes : es = (ba aH k done).map iC),
  Ev G ⟨jZ, ⟨(10, .int .i64 n) :: (3, .vs 200 g m) :: (1, .ref 65 gp 0) :: (8, .sl 4 (l.map Rx.enc)) :: (9, .int .i64 l.length) :: T, (200, some (g, .vec 1 es)) :: (65, some (gp, .cells [.int .i64 k, .int .i64 lo, .int .i64 hi, .sl 4 (l.map Rx.enc)])) :: H, ct⟩, [.t 2], 0⟩ ⟨.str (b9 aH k lo hi (ba aH k l)), []⟩
 | [], done, T, H, ct, g, m, es, n, e, hnn, hm, hes => by
  obtain rfl : l = done := by simpa using e
  subst hm hes hnn
  exact yo k lo hi l hn hl hb g gp T H ct _ rfl
 | x :: r, done, T, H, ct, g, m, es, n, e, hnn, hm, hes => by
  have hd : l.length = done.length + (r.length + 1) := by simp [e]
  have hll : (l.map Rx.enc).length = l.length := by simp
  have hx : (l.map Rx.enc)[n.toNat]? = some x.enc := by simp [e, hnn]
  obtain ⟨hp, hs⟩ := hk x (by simp [e])
  have hpx := bx x
  have hpl : (ba aH k done).length = done.length := jp done
  have hpa : ba aH k (done ++ [x]) = ba aH k done ++ [bW k x (pat aH x)] := by rw [lj, ba, ba]
  have hbx : (pat aH x).length + 2 < 2 ^ 31 := by
   have h1 : ba aH k l = ba aH k done ++ (bW k x (pat aH x) :: ba aH k r) := by rw [e, lj, ba]
   rw [h1, ob, cG] at hb
   have : (pat aH x).length ≤ (bW k x (pat aH x)).length := by unfold bW; split <;> simp; omega
   omega
  have ih := fun T H ct g => nT k lo hi l hn hl hb hk gp r (done ++ [x]) T H ct g (m + 1) (es ++ [iC (bW k x (pat aH x))]) (n + 1) (by simp [e]) (by simp [hnn]) (by rw [hpa, hm]; simp) (by rw [hpa, hes]; simp)
  have hmm : m = done.length := by rw [hm, hpl]
  have hel : es.length = m := by rw [hes, hm]; simp
  have hmn : (m : Int) = n := by omega
  have hpe : az es = true := by rw [hes]; simp
  unfold mW at hp
  have hen : ∀ k2 lo2 hi2 l2, x = .mk k2 lo2 hi2 l2 → am G 644 [.agg [.int .i64 k, .int .i64 lo, .int .i64 hi, .sl 4 (l.map Rx.enc)], .agg [.int .i64 k2, .int .i64 lo2, .int .i64 hi2, .sl 4 (l2.map Rx.enc)]] [] ⟨.bool (cZ k x), []⟩ := fun k2 lo2 hi2 l2 hxx => by
   subst hxx
   exact ul k lo hi k2 lo2 hi2 l l2 hs.len
  have z1 : ([40] : List UInt8).length = 1 := rfl
  have z2 : ([41] : List UInt8).length = 1 := rfl
  cases hc : cZ k x with
  | true =>
   have hin : bW k x (pat aH x) = 40 :: (pat aH x ++ [41]) := by unfold bW; rw [if_pos hc]
   rw [hin] at ih
   rw [hc] at hen
   have ih : ∀ T H ct g, Ev G ⟨jZ, ⟨(10, .int .i64 (n + 1)) :: (3, .vs 200 g (m + 1)) :: (1, .ref 65 gp 0) :: (8, .sl 4 (l.map Rx.enc)) :: (9, .int .i64 l.length) :: T, (200, some (g, .vec 1 (es ++ [[.str ([40] ++ pat aH x ++ [41])]]))) :: (65, some (gp, .cells [.int .i64 k, .int .i64 lo, .int .i64 hi, .sl 4 (l.map Rx.enc)])) :: H, ct⟩, [.t 2], 0⟩ ⟨.str (b9 aH k lo hi (ba aH k l)), []⟩ := ih
   generalize pat aH x = w at *
   generalize hxe : x.enc = xe at *
   obtain ⟨k2, lo2, hi2, l2⟩ := x
   rw [aW] at hxe
   subst hxe
   have hen := hen k2 lo2 hi2 l2 rfl
   have hwl : ([40] ++ w).length = w.length + 1 := by simp
   refine evl ?_
   repeat' ((conv => whnf); first | refine eN ?_ | refine kV hp ?_ hpx | refine a7 ?_ | (refine ab ?_ ?_ <;> intro h))
   refine aA [10, 3, 1, 8, 9] [200, 65] ?_
   exact ih _ _ _ _
  | false =>
   have hin : bW k x (pat aH x) = pat aH x := by unfold bW; rw [if_neg (by rw [hc]; simp)]
   rw [hin] at ih
   rw [hc] at hen
   have ih : ∀ T H ct g, Ev G ⟨jZ, ⟨(10, .int .i64 (n + 1)) :: (3, .vs 200 g (m + 1)) :: (1, .ref 65 gp 0) :: (8, .sl 4 (l.map Rx.enc)) :: (9, .int .i64 l.length) :: T, (200, some (g, .vec 1 (es ++ [[.str (pat aH x)]]))) :: (65, some (gp, .cells [.int .i64 k, .int .i64 lo, .int .i64 hi, .sl 4 (l.map Rx.enc)])) :: H, ct⟩, [.t 2], 0⟩ ⟨.str (b9 aH k lo hi (ba aH k l)), []⟩ := ih
   generalize pat aH x = w at *
   generalize hxe : x.enc = xe at *
   obtain ⟨k2, lo2, hi2, l2⟩ := x
   rw [aW] at hxe
   subst hxe
   have hen := hen k2 lo2 hi2 l2 rfl
   refine evl ?_
   repeat' ((conv => whnf); first | refine eN ?_ | refine kV hp ?_ hpx | refine a7 ?_ | (refine ab ?_ ?_ <;> intro h))
   refine aA [10, 3, 1, 8, 9] [200, 65] ?_
   exact ih _ _ _ _
theorem Lj (k lo hi : Int) (l : List Rx) (hn : aY k lo hi l.length = true) (hl : l.length < 2 ^ 40) (hb : cG (ba aH k l) < 2 ^ 30) (hk : ∀ y ∈ l, mW y ∧ Sml y) : mW (.mk k lo hi l) := by
 have hll : (l.map Rx.enc).length = l.length := by simp
 unfold mW
 rw [aW, pat]
 refine aa (F := f618) rfl rfl (ag 300 _ _ _ _ ?_)
 repeat' (first | refine ae ?_ | (refine ab ?_ ?_ <;> intro h))
 refine jE 200 1 [(3, .vs 200 _ 0)] [] ⟨LeP.nilV _ _ _, trivial⟩ trivial ?_
 refine aA [10, 3, 1, 8, 9] [200, 65] ?_
 rw [hll]
 exact nT k lo hi l hn hl hb hk _ l [] _ _ _ _ _ _ 0 rfl rfl rfl rfl
mutual
theorem zr : ∀ (x : Rx) {lv c c' : Nat}, Sml x → chk x lv c = some c' → mW x
 | .mk k lo hi l, lv, c, c', hs, h => by
  have hc' := mJ h
  rw [chk] at h
  split at h
  ·cases h
  ·split at h
   ·cases h
   ·split at h
    ·rename_i hn
     have h1 := jT k l h
     have h2 := vt l hs.kid h
     exact Lj k lo hi l hn hs.len (by omega) h2
    ·cases h
theorem vt : ∀ (l : List Rx) {lv c c' : Nat}, (∀ x ∈ l, Sml x) → en l lv c = some c' → ∀ y ∈ l, mW y ∧ Sml y
 | [], _, _, _, _, _ => fun y hy => by simp at hy
 | x :: r, lv, c, c', hs, h => fun y hy => by
  rw [en] at h
  split at h
  ·rename_i c1 h1
   have h2 := zr x (hs x (by simp)) h1
   rcases List.mem_cons.1 hy with q | q
   ·rw [q]; exact ⟨h2, hs x (by simp)⟩
   ·exact vt r (fun z hz => hs z (by simp [hz])) h y q
  ·cases h
end
end Go.AM.IR
namespace Go.AM.IR
theorem rC (s : List UInt8) (hs : s.length < 2 ^ 32) : am G 571 [.str s] [] (na (iL s)) := by
 have hq := mR s hs 32 1 (by omega) (by omega) 0 (by omega)
 unfold iL
 cases ha : bL s (eO s) 32 0 with
 | none =>
  rw [ha] at hq
  obtain ⟨x, m, hm, hq⟩ := hq
  have hq : am G 616 [.ref 0 0 0, .int .i64 1] [.cells [.str s, .int .i64 0]] (rpR s (.tup [.agg x.enc, .bool false]) m) := hq
  have hpx := bx x
  show am G 571 _ _ ⟨.tup [.agg rx0.enc, .int .i64 2], []⟩
  rw [gG]
  obtain ⟨k, lo, hi, l⟩ := x
  rw [aW] at hq hpx
  refine aa (F := f571) rfl rfl (ag 300 _ _ _ _ ?_)
  repeat' (first | refine ae ?_ | refine kX [(73, _, _)] [] ⟨rfl, trivial⟩ trivial (hq) ?_ | (refine ab ?_ ?_ <;> intro h))
  refine cY [] [(66, some (_, .cells ([.int .i64 0, .int .i64 0, .int .i64 0, .sl 4 []])))] trivial ⟨⟨rfl, leA⟩, trivial⟩ ?_
  refine ah ?_; (conv => whnf); refine Go.AM.finC ?_; rfl
 | some p =>
  obtain ⟨x, m⟩ := p
  rw [ha] at hq
  obtain ⟨_, p2, hsm⟩ := kO hs (od s) 32 _ _ _ (by omega) ha
  have hq : am G 616 [.ref 0 0 0, .int .i64 1] [.cells [.str s, .int .i64 0]] (rpR s (.tup [.agg x.enc, .bool true]) m) := hq
  obtain ⟨e, hc, he⟩ := sA x hsm
  have hpx := bx x
  dsimp only
  by_cases h1 : m = s.length
  ·subst h1
   by_cases h2 : (chk x 1 0).isSome = true
   ·obtain rfl : e = 0 := he.2 h2
    obtain ⟨c', hc'⟩ := Option.isSome_iff_exists.1 h2
    have hp := zr x hsm hc'
    unfold mW at hp
    by_cases h3 : pat aH x = s
    ·rw [if_pos ⟨rfl, h2, h3⟩]
     show am G 571 _ _ ⟨.tup [.agg x.enc, .int .i64 0], []⟩
     generalize pat aH x = w at *
     generalize hxe : x.enc = xe at *
     obtain ⟨k, lo, hi, l⟩ := x
     rw [aW] at hxe
     subst hxe
     refine aa (F := f571) rfl rfl (ag 300 _ _ _ _ ?_)
     repeat' ((conv => whnf); first | refine kV hc ?_ hpx | refine kV hp ?_ hpx | refine DM h3 ?_ | refine a7 ?_ | refine kX [(73, _, _)] [] ⟨rfl, trivial⟩ trivial (hq) ?_ | (refine ab ?_ ?_ <;> intro h))
     refine ah ?_; (conv => whnf); refine Go.AM.finC ?_; rfl
    ·rw [if_neg (fun q => h3 q.2.2)]
     show am G 571 _ _ ⟨.tup [.agg rx0.enc, .int .i64 2], []⟩
     rw [gG]
     generalize pat aH x = w at *
     have hne : (w == s) = false := by simpa using h3
     have zne : ∀ {kv : AV → Prop}, kv (.bool true) → ∃ v, bj .neq (.str w) (.str s) = some v ∧ kv v := fun h => ⟨.bool true, by show some (AV.bool (!(w == s))) = _; rw [hne]; rfl, h⟩
     generalize hxe : x.enc = xe at *
     obtain ⟨k, lo, hi, l⟩ := x
     rw [aW] at hxe
     subst hxe
     refine aa (F := f571) rfl rfl (ag 300 _ _ _ _ ?_)
     repeat' ((conv => whnf); first | refine kV hc ?_ hpx | refine kV hp ?_ hpx | refine zne ?_ | refine a7 ?_ | refine kX [(73, _, _)] [] ⟨rfl, trivial⟩ trivial (hq) ?_ | (refine ab ?_ ?_ <;> intro h))
     refine cY [] [(66, some (_, .cells ([.int .i64 0, .int .i64 0, .int .i64 0, .sl 4 []])))] trivial ⟨⟨rfl, leA⟩, trivial⟩ ?_
     refine ah ?_; (conv => whnf); refine Go.AM.finC ?_; rfl
   ·rw [if_neg (fun q => h2 q.2.1)]
    have he' : ¬ e = 0 := fun q => h2 (he.1 q)
    show am G 571 _ _ ⟨.tup [.agg rx0.enc, .int .i64 2], []⟩
    rw [gG]
    generalize hxe : x.enc = xe at *
    obtain ⟨k, lo, hi, l⟩ := x
    rw [aW] at hxe
    subst hxe
    refine aa (F := f571) rfl rfl (ag 300 _ _ _ _ ?_)
    repeat' ((conv => whnf); first | refine kV hc ?_ hpx | refine a7 ?_ | refine kX [(73, _, _)] [] ⟨rfl, trivial⟩ trivial (hq) ?_ | (refine ab ?_ ?_ <;> intro h))
    refine cY [] [(66, some (_, .cells ([.int .i64 0, .int .i64 0, .int .i64 0, .sl 4 []])))] trivial ⟨⟨rfl, leA⟩, trivial⟩ ?_
    refine ah ?_; (conv => whnf); refine Go.AM.finC ?_; rfl
  ·rw [if_neg (fun q => h1 q.1)]
   have hlt : m < s.length := by omega
   show am G 571 _ _ ⟨.tup [.agg rx0.enc, .int .i64 2], []⟩
   rw [gG]
   generalize hxe : x.enc = xe at *
   obtain ⟨k, lo, hi, l⟩ := x
   rw [aW] at hxe
   subst hxe
   refine aa (F := f571) rfl rfl (ag 300 _ _ _ _ ?_)
   repeat' (first | refine ae ?_ | refine kX [(73, _, _)] [] ⟨rfl, trivial⟩ trivial (hq) ?_ | (refine ab ?_ ?_ <;> intro h))
   refine cY [] [(66, some (_, .cells ([.int .i64 0, .int .i64 0, .int .i64 0, .sl 4 []])))] trivial ⟨⟨rfl, leA⟩, trivial⟩ ?_
   refine ah ?_; (conv => whnf); refine Go.AM.finC ?_; rfl
end Go.AM.IR
