/- What the functions of this program give, on the abstract machine. -/
import Derived.Test.YtomphmeopjpejaaGreatDoorDataG
import Derived.Test.YtomphmeopjpejaaGreatDoorDataD
import Derived.Test.YtomphmeopjpejaaGreatDoorDataE
set_option linter.unusedVariables false
set_option linter.unusedSimpArgs false
set_option maxHeartbeats 4000000
set_option maxRecDepth 20000
namespace Go.AM.IR
def lw (k n : Int) : Bool × Bool := if k = 0 ∨ k = 1 ∨ k = 2 then (true, n == 0) else if k = 3 then (true, decide (n ≥ 2)) else if k = 4 then (true, n != 1) else if k = 5 ∨ k = 6 ∨ k = 7 then (true, n == 1) else (false, false)
theorem uf (k n : Int) : am G0 659 [.int .i64 k, .int .i64 n] [] ⟨.tup [.bool (lw k n).1, .bool (lw k n).2], []⟩ := by
 unfold lw
 by_cases k0 : k = 0
 ·subst k0
  rw [if_pos (.inl rfl)]
  refine aa (F := f659) rfl rfl (ag 300 _ _ _ _ ?_)
  repeat' (first | refine ae ?_ | (refine ab ?_ ?_ <;> intro h))
  refine ah ?_; rfl
 by_cases k1 : k = 1
 ·subst k1
  rw [if_pos (.inr (.inl rfl))]
  refine aa (F := f659) rfl rfl (ag 300 _ _ _ _ ?_)
  repeat' (first | refine ae ?_ | (refine ab ?_ ?_ <;> intro h))
  refine ah ?_; rfl
 by_cases k2 : k = 2
 ·subst k2
  rw [if_pos (.inr (.inr rfl))]
  refine aa (F := f659) rfl rfl (ag 300 _ _ _ _ ?_)
  repeat' (first | refine ae ?_ | (refine ab ?_ ?_ <;> intro h))
  refine ah ?_; rfl
 by_cases k3 : k = 3
 ·subst k3
  rw [if_neg (by decide), if_pos rfl]
  refine aa (F := f659) rfl rfl (ag 300 _ _ _ _ ?_)
  repeat' (first | refine ae ?_ | (refine ab ?_ ?_ <;> intro h))
  refine ah ?_; rfl
 by_cases k4 : k = 4
 ·subst k4
  rw [if_neg (by decide), if_neg (by decide), if_pos rfl]
  refine aa (F := f659) rfl rfl (ag 300 _ _ _ _ ?_)
  repeat' (first | refine ae ?_ | (refine ab ?_ ?_ <;> intro h))
  refine ah ?_; rfl
 by_cases k5 : k = 5
 ·subst k5
  rw [if_neg (by decide), if_neg (by decide), if_neg (by decide), if_pos (.inl rfl)]
  refine aa (F := f659) rfl rfl (ag 300 _ _ _ _ ?_)
  repeat' (first | refine ae ?_ | (refine ab ?_ ?_ <;> intro h))
  refine ah ?_; rfl
 by_cases k6 : k = 6
 ·subst k6
  rw [if_neg (by decide), if_neg (by decide), if_neg (by decide), if_pos (.inr (.inl rfl))]
  refine aa (F := f659) rfl rfl (ag 300 _ _ _ _ ?_)
  repeat' (first | refine ae ?_ | (refine ab ?_ ?_ <;> intro h))
  refine ah ?_; rfl
 by_cases k7 : k = 7
 ·subst k7
  rw [if_neg (by decide), if_neg (by decide), if_neg (by decide), if_pos (.inr (.inr rfl))]
  refine aa (F := f659) rfl rfl (ag 300 _ _ _ _ ?_)
  repeat' (first | refine ae ?_ | (refine ab ?_ ?_ <;> intro h))
  refine ah ?_; rfl
 rw [if_neg (by omega), if_neg k3, if_neg k4, if_neg (by omega)]
 refine aa (F := f659) rfl rfl (ag 300 _ _ _ _ ?_)
 repeat' (first | refine ae ?_ | (refine ab ?_ ?_ <;> intro h))
 refine ah ?_; rfl
def ndE (k lo hi n : Int) : Int := if (lw k n).1 = false then 15 else if k = 1 ∧ (lo < 0 ∨ lo > hi ∨ hi > 4294967295) then 5 else if (k ≠ 1 ∧ (lo ≠ 0 ∨ hi ≠ 0)) ∨ (lw k n).2 = false then 1 else 0
theorem anF (k lo hi : Int) (n : Nat) : (ndE k lo hi n = 0 ↔ aY k lo hi n = true) := by
 unfold ndE lw
 by_cases k1 : k = 1
 ·subst k1
  by_cases a : lo < 0 ∨ lo > hi ∨ hi > 4294967295
  ·simp [aY, a]; omega
  ·have a1 : 0 ≤ lo ∧ lo ≤ hi ∧ hi ≤ 4294967295 := by omega
   by_cases c : (n : Int) = 0
   ·simp [aY, a1, c]; omega
   ·have c' : ¬ n = 0 := by omega
    simp [aY, a1, c']; omega
 by_cases z : lo = 0 ∧ hi = 0
 ·obtain ⟨rfl, rfl⟩ := z
  by_cases k0 : k = 0
  ·subst k0; by_cases c : n = 0 <;> simp [aY, c]
  by_cases k2 : k = 2
  ·subst k2; by_cases c : n = 0 <;> simp [aY, c]
  by_cases k3 : k = 3
  ·subst k3; by_cases c : 2 ≤ n
   ·have c' : (2 : Int) ≤ n := by omega
    simp [aY, c, c']
   ·have c' : ¬ (2 : Int) ≤ n := by omega
    simp [aY, c, c']
  by_cases k4 : k = 4
  ·subst k4; by_cases c : n = 1
   ·have c' : (n : Int) = 1 := by omega
    simp [aY, c]
   ·have c' : ¬ (n : Int) = 1 := by omega
    simp [aY, c, c']
  by_cases k5 : k = 5 ∨ k = 6 ∨ k = 7
  ·have k5' : 5 ≤ k ∧ k ≤ 7 := by omega
   by_cases c : n = 1
   ·have c' : (n : Int) = 1 := by omega
    simp [aY, k0, k1, k2, k3, k4, k5, k5', c]
   ·have c' : ¬ (n : Int) = 1 := by omega
    simp [aY, k0, k1, k2, k3, k4, k5, k5', c, c']
  ·have k5' : ¬ (5 ≤ k ∧ k ≤ 7) := by omega
   simp [aY, k0, k1, k2, k3, k4, k5, k5']
 ·have hN : aY k lo hi n = false := by simp [aY, k1, z]
  have z' : k ≠ 1 ∧ (lo ≠ 0 ∨ hi ≠ 0) := ⟨k1, by omega⟩
  rw [hN]
  simp only [Bool.false_eq_true, iff_false]
  (repeat' split) <;> first | decide | omega | simp_all
theorem yu (k lo hi : Int) (l : List Rx) (hl : l.length < 2 ^ 40) : am G0 654 [.agg [.int .i64 k, .int .i64 lo, .int .i64 hi, .sl 4 (l.map Rx.enc)]] [] ⟨.int .i64 (ndE k lo hi (l.length : Nat)), []⟩ := by
 have m1 : (l.map Rx.enc).length = l.length := by simp
 have h1 := uf k (l.length : Nat)
 rw [← m1] at h1
 unfold ndE
 rw [← m1]
 generalize lw k ((l.map Rx.enc).length : Nat) = P at *
 obtain ⟨p, q⟩ := P
 dsimp only at h1 ⊢
 cases p
 ·rw [if_pos rfl]
  refine aa (F := f654) rfl rfl (ag 300 _ _ _ _ ?_)
  repeat' (first | refine ae ?_ | (refine ab ?_ ?_ <;> intro h))
  all_goals (refine ah ?_; rfl)
 rw [if_neg (by simp)]
 by_cases a : k = 1 ∧ (lo < 0 ∨ lo > hi ∨ hi > 4294967295)
 ·rw [if_pos a]
  obtain ⟨rfl, a⟩ := a
  refine aa (F := f654) rfl rfl (ag 300 _ _ _ _ ?_)
  repeat' (first | refine ae ?_ | (refine ab ?_ ?_ <;> intro h))
  all_goals try (exfalso; omega)
  all_goals (refine ah ?_; rfl)
 rw [if_neg a]
 by_cases b : (k ≠ 1 ∧ (lo ≠ 0 ∨ hi ≠ 0)) ∨ q = false
 ·rw [if_pos b]
  cases q
  ·refine aa (F := f654) rfl rfl (ag 300 _ _ _ _ ?_)
   repeat' (first | refine ae ?_ | (refine ab ?_ ?_ <;> intro h))
   all_goals try (exfalso; omega)
   all_goals (refine ah ?_; rfl)
  ·have b' : k ≠ 1 ∧ (lo ≠ 0 ∨ hi ≠ 0) := by simpa using b
   refine aa (F := f654) rfl rfl (ag 300 _ _ _ _ ?_)
   repeat' (first | refine ae ?_ | (refine ab ?_ ?_ <;> intro h))
   all_goals try (exfalso; omega)
   all_goals (refine ah ?_; rfl)
 ·rw [if_neg b]
  have b1 : q = true := by cases q <;> simp_all
  subst b1
  have b2 : ¬ (k ≠ 1 ∧ (lo ≠ 0 ∨ hi ≠ 0)) := fun h => b (.inl h)
  refine aa (F := f654) rfl rfl (ag 300 _ _ _ _ ?_)
  repeat' (first | refine ae ?_ | (refine ab ?_ ?_ <;> intro h))
  all_goals try (exfalso; omega)
  all_goals (refine ah ?_; rfl)
def xY (x : Rx) (lv : Nat) : Prop := ∀ c : Nat, c ≤ 64 → ∃ n e : Int, Fh (chk x lv c) n e ∧ am G0 647 [.agg x.enc, .int .i64 (lv : Int), .ref 0 0 0] [.cells [.int .i64 (c : Int)]] ⟨.int .i64 e, [(true, .cells [.int .i64 n])]⟩
theorem qU (l : List Rx) (hl : l.length < 2 ^ 40) (lv : Nat) (hlv : lv ≤ 16) (hk : ∀ y ∈ l, xY y (lv + 1)) : ∀ (rest done : List Rx) (c : Nat) (n : Int) (e : l = done ++ rest) (hn : n = done.length) (hc : c ≤ 64), ∃ N E : Int, Fh (en rest (lv + 1) c) N E ∧ ∀ (T : List (Nat × AV)) (H : ay) (ct : Nat),
  Ev G0 ⟨F7, ⟨(30, .int .i64 n) :: (2, .ref 0 0 0) :: (1, .int .i64 (lv : Int)) :: (28, .sl 4 (l.map Rx.enc)) :: (29, .int .i64 l.length) :: T, (0, some (0, .cells [.int .i64 (c : Int)])) :: H, ct⟩, [.t 6], 1⟩ ⟨.int .i64 E, [(true, .cells [.int .i64 N])]⟩
 | [], done, c, n, e, hn, hc => by
  have hd : l.length = done.length := by simp [e]
  refine ⟨c, 0, by rw [en]; exact ⟨rfl, rfl⟩, fun T H ct => ?_⟩
  refine evl ?_
  repeat' (first | refine ae ?_ | (refine ab ?_ ?_ <;> intro h))
  (conv => whnf); first | refine aP [(0, _, _)] [] [true] ?_ | refine aQ [(0, _, _)] [] [true] ?_
  rfl
 | x :: r, done, c, n, e, hn, hc => by
  have hd : l.length = done.length + (r.length + 1) := by simp [e]
  have hll : (l.map Rx.enc).length = l.length := by simp
  have hx : (l.map Rx.enc)[n.toNat]? = some x.enc := by simp [e, hn]
  obtain ⟨n1, e1, h1, g1⟩ := hk x (by simp [e]) c hc
  have g1 : am G0 647 [.agg x.enc, .int .i64 ((lv : Int) + 1), .ref 0 0 0] [.cells [.int .i64 (c : Int)]] ⟨.int .i64 e1, [(true, .cells [.int .i64 n1])]⟩ := g1
  have hpx := bx x
  rw [en]
  cases hq : chk x (lv + 1) c with
  | none =>
   rw [hq] at h1
   have h1 : ¬ e1 = 0 := h1
   refine ⟨n1, e1, h1, fun T H ct => ?_⟩
   generalize hxe : x.enc = xe at *
   obtain ⟨k, lo, hi, q⟩ := x
   rw [aW] at hxe
   subst hxe
   refine evl ?_
   repeat' (first | refine ae ?_ | refine kX [(0, _, _)] [] ⟨rfl, trivial⟩ trivial (g1) ?_ | (refine ab ?_ ?_ <;> intro h))
   (conv => whnf); first | refine aP [(0, _, _)] [] [true] ?_ | refine aQ [(0, _, _)] [] [true] ?_
   rfl
  | some c1 =>
   rw [hq] at h1
   obtain ⟨rfl, rfl⟩ := h1
   obtain ⟨N, E, h2, h3⟩ := qU l hl lv hlv hk r (done ++ [x]) c1 (n + 1) (by simp [e]) (by simp [hn]) (mJ hq)
   refine ⟨N, E, h2, fun T H ct => ?_⟩
   generalize hxe : x.enc = xe at *
   obtain ⟨k, lo, hi, q⟩ := x
   rw [aW] at hxe
   subst hxe
   refine evl ?_
   repeat' (first | refine ae ?_ | refine kX [(0, _, _)] [] ⟨rfl, trivial⟩ trivial (g1) ?_ | (refine ab ?_ ?_ <;> intro h))
   refine aA [30, 2, 1, 28, 29] [0] ?_
   exact h3 _ _ _
theorem ani (k lo hi : Int) (l : List Rx) (hs : l.length < 2 ^ 40) (lv : Nat) (hlv : lv ≤ 17) (hk : lv ≤ 16 → ∀ y ∈ l, xY y (lv + 1)) : xY (.mk k lo hi l) lv := by
 intro c hc
 have m1 : (l.map Rx.enc).length = l.length := by simp
 have g0 := yu k lo hi l hs
 have h0 := anF k lo hi l.length
 rw [chk, aW]
 by_cases a : 16 < lv
 ·rw [if_pos a]
  have a' : (lv : Int) > 16 := by omega
  refine ⟨c, 24, (show (24 : Int) ≠ 0 by decide), ?_⟩
  refine aa (F := f647) rfl rfl (ag 300 _ _ _ _ ?_)
  repeat' (first | refine ae ?_ | (refine ab ?_ ?_ <;> intro h))
  (conv => whnf); first | refine aP [(0, _, _)] [] [true] ?_ | refine aQ [(0, _, _)] [] [true] ?_
  rfl
 rw [if_neg a]
 by_cases b : 64 ≤ c
 ·rw [if_pos b]
  have b' : (c : Int) ≥ 64 := by omega
  refine ⟨c, 4, (show (4 : Int) ≠ 0 by decide), ?_⟩
  refine aa (F := f647) rfl rfl (ag 300 _ _ _ _ ?_)
  repeat' (first | refine ae ?_ | (refine ab ?_ ?_ <;> intro h))
  (conv => whnf); first | refine aP [(0, _, _)] [] [true] ?_ | refine aQ [(0, _, _)] [] [true] ?_
  rfl
 rw [if_neg b]
 generalize ndE k lo hi (l.length : Nat) = e0 at *
 by_cases d : aY k lo hi l.length = true
 ·rw [if_pos d]
  obtain rfl : e0 = 0 := h0.2 d
  obtain ⟨N, E, h2, h3⟩ := qU l hs lv (by omega) (hk (by omega)) l [] (c + 1) 0 rfl rfl (by omega)
  refine ⟨N, E, h2, ?_⟩
  refine aa (F := f647) rfl rfl (ag 300 _ _ _ _ ?_)
  repeat' (first | refine ae ?_ | (refine ab ?_ ?_ <;> intro h))
  refine aA [30, 2, 1, 28, 29] [0] ?_
  rw [m1]
  exact h3 _ _ _
 ·rw [if_neg d]
  have d' : ¬ e0 = 0 := fun q => d (h0.1 q)
  refine ⟨(c + 1 : Nat), e0, d', ?_⟩
  refine aa (F := f647) rfl rfl (ag 300 _ _ _ _ ?_)
  repeat' (first | refine ae ?_ | (refine ab ?_ ?_ <;> intro h))
  (conv => whnf); first | refine aP [(0, _, _)] [] [true] ?_ | refine aQ [(0, _, _)] [] [true] ?_
  rfl
mutual
theorem Ir : ∀ (x : Rx), Sml x → ∀ lv : Nat, lv ≤ 17 → xY x lv
 | .mk k lo hi l, hs, lv, hlv => ani k lo hi l hs.len lv hlv fun h => Dh l hs.kid (lv + 1) (by omega)
theorem Dh : ∀ (l : List Rx), (∀ x ∈ l, Sml x) → ∀ lv : Nat, lv ≤ 17 → ∀ y ∈ l, xY y lv
 | [], _, _, _ => fun y hy => by simp at hy
 | x :: r, hs, lv, hlv => fun y hy => by
  have h1 := Ir x (hs x (by simp)) lv hlv
  rcases List.mem_cons.1 hy with q | q
  ·rw [q]; exact h1
  ·exact Dh r (fun z hz => hs z (by simp [hz])) lv hlv y q
end
theorem sy (x : Rx) (hs : Sml x) : ∃ e : Int, am G0 626 [.agg x.enc] [] ⟨.int .i64 e, []⟩ ∧ (e = 0 ↔ (chk x 1 0).isSome = true) := by
 obtain ⟨n, e, h1, g1⟩ := Ir x hs 1 (by omega) 0 (by omega)
 have g1 : am G0 647 [.agg x.enc, .int .i64 1, .ref 0 0 0] [.cells [.int .i64 0]] ⟨.int .i64 e, [(true, .cells [.int .i64 n])]⟩ := g1
 refine ⟨e, ?_, ?_⟩
 ·generalize hxe : x.enc = xe at *
  obtain ⟨k, lo, hi, q⟩ := x
  rw [aW] at hxe
  subst hxe
  refine aa (F := f626) rfl rfl (ag 300 _ _ _ _ ?_)
  repeat' (first | refine ae ?_ | refine kX [(67, _, _)] [] ⟨rfl, trivial⟩ trivial (g1) ?_ | (refine ab ?_ ?_ <;> intro h))
  refine ah ?_; rfl
 ·cases hq : chk x 1 0 with
  | none => rw [hq] at h1; simp; exact h1
  | some c => rw [hq] at h1; simp; exact h1.2
end Go.AM.IR
namespace Go.AM.IR
theorem l6 (n : Int) (h0 : 0 ≤ n) (h1 : n ≤ 4294967295) : am G0 337 [.int .i64 n] [] ⟨.str (aH n), []⟩ := by
 have hi : am G0 246 [.int .i64 n] [] ⟨.str (aH n), []⟩ := by
  show (if -9223372036854775808 ≤ n ∧ n ≤ 9223372036854775807 then some (Ret.mk (.str (aH n)) []) else none) = _
  rw [if_pos ⟨by omega, by omega⟩]
 generalize aH n = t at *
 refine aa (F := f337) rfl rfl (ag 300 _ _ _ _ ?_)
 repeat' (first | refine ae ?_ | (refine ab ?_ ?_ <;> intro h))
 refine ah ?_; rfl
def rm (k : Int) : Bool := k == 5 || (k == 6 || k == 7)
theorem zo (k : Int) : rm k = decide (5 ≤ k ∧ k ≤ 7) := by
 unfold rm
 rw [Bool.eq_iff_iff]
 simp only [Bool.or_eq_true, beq_iff_eq, decide_eq_true_eq]
 omega
theorem me (k : Int) : am G0 660 [.int .i64 k] [] ⟨.bool (rm k), []⟩ := by
 unfold rm
 by_cases a : k = 5
 ·subst a
  refine aa (F := f660) rfl rfl (ag 300 _ _ _ _ ?_)
  repeat' (first | refine ae ?_ | (refine ab ?_ ?_ <;> intro h))
  refine ah ?_; rfl
 by_cases b : k = 6
 ·subst b
  refine aa (F := f660) rfl rfl (ag 300 _ _ _ _ ?_)
  repeat' (first | refine ae ?_ | (refine ab ?_ ?_ <;> intro h))
  refine ah ?_; rfl
 by_cases c : k = 7
 ·subst c
  refine aa (F := f660) rfl rfl (ag 300 _ _ _ _ ?_)
  repeat' (first | refine ae ?_ | (refine ab ?_ ?_ <;> intro h))
  refine ah ?_; rfl
 have e : (k == 5 || (k == 6 || k == 7)) = false := by simp [a, b, c]
 rw [e]
 refine aa (F := f660) rfl rfl (ag 300 _ _ _ _ ?_)
 repeat' (first | refine ae ?_ | (refine ab ?_ ?_ <;> intro h))
 all_goals try (exfalso; omega)
 all_goals (refine ah ?_; first | rfl | simp [a, b, c])
theorem x5 (k k2 lo hi : Int) (l : List Rx) (hl : l.length < 2 ^ 40) : am G0 655 [.int .i64 k, .agg [.int .i64 k2, .int .i64 lo, .int .i64 hi, .sl 4 (l.map Rx.enc)]] [] ⟨.bool (cZ k (.mk k2 lo hi l)), []⟩ := by
 have m1 : (l.map Rx.enc).length = l.length := by simp
 have h1 := me k2
 have h2 := me k
 rw [wZ]
 by_cases a3 : k2 = 3
 ·rw [if_pos a3]
  subst a3
  by_cases e : k = 4
  ·subst e
   refine aa (F := f655) rfl rfl (ag 300 _ _ _ _ ?_)
   repeat' (first | refine ae ?_ | (refine ab ?_ ?_ <;> intro h))
   refine ah ?_; rfl
  ·rw [decide_eq_true e]
   refine aa (F := f655) rfl rfl (ag 300 _ _ _ _ ?_)
   repeat' (first | refine ae ?_ | (refine ab ?_ ?_ <;> intro h))
   refine ah ?_
   simp [e]
 rw [if_neg a3]
 by_cases a4 : k2 = 4
 ·rw [if_pos a4]
  subst a4
  have hem : (!l.isEmpty) = decide ((l.length : Int) > 0) := by cases l <;> simp
  rw [hem]
  refine aa (F := f655) rfl rfl (ag 300 _ _ _ _ ?_)
  repeat' (first | refine ae ?_ | (refine ab ?_ ?_ <;> intro h))
  refine ah ?_
  rw [m1]
 rw [if_neg a4, ← zo, ← zo]
 generalize rm k2 = A at *
 generalize rm k = B at *
 cases A
 ·refine aa (F := f655) rfl rfl (ag 300 _ _ _ _ ?_)
  repeat' (first | refine ae ?_ | (refine ab ?_ ?_ <;> intro h))
  refine ah ?_; rfl
 ·refine aa (F := f655) rfl rfl (ag 300 _ _ _ _ ?_)
  repeat' (first | refine ae ?_ | (refine ab ?_ ?_ <;> intro h))
  refine ah ?_; rfl
def ShG (x : Rx) : Prop := am G0 627 [.agg x.enc] [] ⟨.str (pat aH x), []⟩
theorem n4 (k : Int) (x : Rx) (hx : ShG x) (hs : Sml x) (hb : (pat aH x).length + 2 < 2 ^ 31) : am G0 648 [.int .i64 k, .agg x.enc] [] ⟨.str (bW k x (pat aH x)), []⟩ := by
 unfold ShG at hx
 have hpx := bx x
 have hen : ∀ k2 lo2 hi2 l2, x = .mk k2 lo2 hi2 l2 → am G0 655 [.int .i64 k, .agg [.int .i64 k2, .int .i64 lo2, .int .i64 hi2, .sl 4 (l2.map Rx.enc)]] [] ⟨.bool (cZ k x), []⟩ := fun k2 lo2 hi2 l2 hxx => by
  subst hxx
  exact x5 k k2 lo2 hi2 l2 hs.len
 have z1 : ([40] : List UInt8).length = 1 := rfl
 have z2 : ([41] : List UInt8).length = 1 := rfl
 cases hc : cZ k x with
 | true =>
  have hin : bW k x (pat aH x) = [40] ++ pat aH x ++ [41] := by unfold bW; rw [if_pos hc]; rfl
  rw [hin]
  rw [hc] at hen
  generalize pat aH x = w at *
  generalize hxe : x.enc = xe at *
  obtain ⟨k2, lo2, hi2, l2⟩ := x
  rw [aW] at hxe
  subst hxe
  have hen := hen k2 lo2 hi2 l2 rfl
  have hwl : ([40] ++ w).length = w.length + 1 := by simp
  refine aa (F := f648) rfl rfl (ag 300 _ _ _ _ ?_)
  repeat' ((conv => whnf); first | refine eN ?_ | refine kV hx ?_ hpx | refine a7 ?_ | (refine ab ?_ ?_ <;> intro h))
  refine ah ?_; rfl
 | false =>
  have hin : bW k x (pat aH x) = pat aH x := by unfold bW; rw [if_neg (by rw [hc]; simp)]
  rw [hin]
  rw [hc] at hen
  generalize pat aH x = w at *
  generalize hxe : x.enc = xe at *
  obtain ⟨k2, lo2, hi2, l2⟩ := x
  rw [aW] at hxe
  subst hxe
  have hen := hen k2 lo2 hi2 l2 rfl
  refine aa (F := f648) rfl rfl (ag 300 _ _ _ _ ?_)
  repeat' ((conv => whnf); first | refine kV hx ?_ hpx | refine a7 ?_ | (refine ab ?_ ?_ <;> intro h))
  refine ah ?_; rfl
theorem kU (k lo hi : Int) (l : List Rx) (hl : l.length < 2 ^ 40) (hb : cG (ba aH k l) < 2 ^ 30) (hk : ∀ y ∈ l, ShG y ∧ Sml y) (c : UInt8) (g1 : Nat) : ∀ (rest done : List Rx) (acc R : List UInt8) (T : List (Nat × AV)) (H : ay) (ct : Nat) (n : Int) (e : l = done ++ rest) (hn : n = done.length) (hb : acc.length + cG (ba aH k rest) < 2 ^ 40) (hR : R = if done = [] then bQ c (ba aH k rest) else acc ++ jr c (ba aH k rest)) (hd0 : done = [] → acc = []),
  Ev G0 ⟨Gc, ⟨(72, .int .i64 n) :: (1, .ref 65 g1 0) :: (3, .str [c]) :: (4, .str acc) :: (70, .sl 4 (l.map Rx.enc)) :: (71, .int .i64 l.length) :: T, (65, some (g1, .cells [.int .i64 k, .int .i64 lo, .int .i64 hi, .sl 4 (l.map Rx.enc)])) :: H, ct⟩, [.t 2], 0⟩ ⟨.str R, []⟩
 | [], done, acc, R, T, H, ct, n, e, hn, hb, hR, hd0 => by
  have hd : l.length = done.length := by simp [e]
  obtain rfl : R = acc := by
   rw [hR]
   by_cases h : done = []
   ·rw [if_pos h, hd0 h, ba]; rfl
   ·rw [if_neg h, ba]; simp [jr]
  refine evl ?_
  repeat' (first | refine ae ?_ | (refine ab ?_ ?_ <;> intro h))
  refine ah ?_; rfl
 | x :: r, done, acc, R, T, H, ct, n, e, hn, hb2, hR, hd0 => by
  have hd : l.length = done.length + (r.length + 1) := by simp [e]
  have hll : (l.map Rx.enc).length = l.length := by simp
  have hx : (l.map Rx.enc)[n.toNat]? = some x.enc := by simp [e, hn]
  obtain ⟨hp, hs⟩ := hk x (by simp [e])
  have hpx := bx x
  have hlx : (bW k x (pat aH x)).length + 1 ≤ cG (ba aH k l) := by
   have h1 : ba aH k l = ba aH k done ++ (bW k x (pat aH x) :: ba aH k r) := by rw [e, lj, ba]
   rw [h1, ob, cG]; omega
  have hbx : (pat aH x).length + 2 < 2 ^ 31 := by
   have : (pat aH x).length ≤ (bW k x (pat aH x)).length := by unfold bW; split <;> simp; omega
   omega
  have hin := n4 k x hp hs hbx
  rw [ba, cG] at hb2
  rw [ba] at hR
  have h1 : [c].length = 1 := rfl
  generalize bW k x (pat aH x) = w at *
  generalize hxe : x.enc = xe at *
  by_cases h : done = []
  ·have h0 := hd0 h
   subst h h0
   obtain rfl : n = 0 := hn
   rw [if_pos rfl, ov] at hR
   have hz : ([] : List UInt8).length = 0 := rfl
   have ih := fun T H ct => kU k lo hi l hl hb hk c g1 r [x] w R T H ct 1 (by simpa using e) rfl (by simp at hb2; omega) (by rw [if_neg (by simp)]; exact hR) (by simp)
   obtain ⟨k2, lo2, hi2, l2⟩ := x
   rw [aW] at hxe
   subst hxe
   refine evl ?_
   repeat' ((conv => whnf); first | refine eN ?_ | refine kV hin ?_ hpx | refine a7 ?_ | (refine ab ?_ ?_ <;> intro h))
   refine aA [72, 1, 3, 4, 70, 71] [65] ?_
   exact ih _ _ _
  ·rw [if_neg h, jr] at hR
   have hp : (0 : Int) < n := by
    have : done.length ≠ 0 := fun q => h (List.eq_nil_of_length_eq_zero q)
    omega
   have h2 : (acc ++ [c]).length = acc.length + 1 := by simp
   have ih := fun T H ct => kU k lo hi l hl hb hk c g1 r (done ++ [x]) (acc ++ [c] ++ w) R T H ct (n + 1) (by simp [e]) (by simp [hn]) (by simp; omega) (by rw [if_neg (by simp), hR]; simp) (by simp)
   obtain ⟨k2, lo2, hi2, l2⟩ := x
   rw [aW] at hxe
   subst hxe
   refine evl ?_
   repeat' ((conv => whnf); first | refine eN ?_ | refine kV hin ?_ hpx | refine a7 ?_ | (refine ab ?_ ?_ <;> intro h))
   refine aA [72, 1, 3, 4, 70, 71] [65] ?_
   exact ih _ _ _
theorem Wx (k lo hi : Int) (l : List Rx) (hn : aY k lo hi l.length = true) (hl : l.length < 2 ^ 40) (hb : cG (ba aH k l) < 2 ^ 30) (hk : ∀ y ∈ l, ShG y ∧ Sml y) : ShG (.mk k lo hi l) := by
 have hll : (l.map Rx.enc).length = l.length := by simp
 unfold ShG
 rw [aW, pat]
 have hL := fun c R T H ct g1 => kU k lo hi l hl hb hk c g1 l [] [] R T H ct 0 rfl rfl (by simp; omega)
 unfold aY at hn
 by_cases k1 : k = 1
 ·rw [if_pos k1] at hn
  obtain ⟨q1, q2, q3, q4⟩ := of_decide_eq_true hn
  subst k1
  have d1 := l6 lo q1 (by omega)
  have d2 := l6 hi (by omega) q3
  have i1 := gU (a := lo) q1 (by omega)
  have i2 := gU (a := hi) (by omega) q3
  by_cases e : lo = hi
  ·rw [show b9 aH 1 lo hi (ba aH 1 l) = aH lo from by unfold b9; rw [if_neg (by omega), if_pos rfl, if_pos e]]
   generalize aH lo = w1 at *
   refine aa (F := f627) rfl rfl (ag 300 _ _ _ _ ?_)
   repeat' (first | refine ae ?_ | (refine ab ?_ ?_ <;> intro h))
   refine ah ?_; rfl
  ·rw [show b9 aH 1 lo hi (ba aH 1 l) = 91 :: (aH lo ++ 45 :: (aH hi ++ [93])) from by unfold b9; rw [if_neg (by omega), if_pos rfl, if_neg e]]
   generalize aH lo = w1 at *
   generalize aH hi = w2 at *
   have z1 : ([91] : List UInt8).length = 1 := rfl
   have z2 : ([45] : List UInt8).length = 1 := rfl
   have z3 : ([93] : List UInt8).length = 1 := rfl
   refine aa (F := f627) rfl rfl (ag 300 _ _ _ _ ?_)
   repeat' ((conv => whnf); first | refine eN ?_ | refine a7 ?_ | (refine ab ?_ ?_ <;> intro h))
   refine ah ?_
   simp
 rw [if_neg k1, Bool.and_eq_true] at hn
 obtain ⟨hz, hn⟩ := hn
 obtain ⟨rfl, rfl⟩ := of_decide_eq_true hz
 by_cases k0 : k = 0
 ·subst k0
  refine aa (F := f627) rfl rfl (ag 300 _ _ _ _ ?_)
  repeat' (first | refine ae ?_ | (refine ab ?_ ?_ <;> intro h))
  refine ah ?_; rfl
 by_cases k2 : k = 2
 ·subst k2
  refine aa (F := f627) rfl rfl (ag 300 _ _ _ _ ?_)
  repeat' (first | refine ae ?_ | (refine ab ?_ ?_ <;> intro h))
  refine ah ?_; rfl
 rw [if_neg (by omega)] at hn
 by_cases k3 : k = 3
 ·subst k3
  rw [show b9 aH 3 0 0 (ba aH 3 l) = bQ 32 (ba aH 3 l) from rfl]
  refine aa (F := f627) rfl rfl (ag 300 _ _ _ _ ?_)
  repeat' (first | refine ae ?_ | (refine ab ?_ ?_ <;> intro h))
  refine aA [72, 1, 3, 4, 70, 71] [65] ?_
  rw [hll]
  exact hL 32 _ _ _ _ _ (by rw [if_pos rfl]) (fun _ => rfl)
 rw [if_neg k3] at hn
 by_cases k4 : k = 4
 ·subst k4
  by_cases hz : l = []
  ·subst hz
   have z0 : ([] : List Rx).length = 0 := rfl
   refine aa (F := f627) rfl rfl (ag 300 _ _ _ _ ?_)
   repeat' (first | refine ae ?_ | (refine ab ?_ ?_ <;> intro h))
   refine ah ?_; rfl
  ·have hpz : l.length ≠ 0 := fun q => hz (List.eq_nil_of_length_eq_zero q)
   have hq : ba aH 4 l ≠ [] := fun q => by
    have : (ba aH 4 l).length = l.length := jp l
    rw [q] at this; exact hpz this.symm
   rw [show b9 aH 4 0 0 (ba aH 4 l) = bQ 124 (ba aH 4 l) from by unfold b9; rw [if_neg (by omega), if_neg (by omega), if_neg (by omega), if_neg (by omega), if_pos rfl, if_neg (by cases hh : ba aH 4 l <;> simp_all)]]
   refine aa (F := f627) rfl rfl (ag 300 _ _ _ _ ?_)
   repeat' (first | refine ae ?_ | (refine ab ?_ ?_ <;> intro h))
   refine aA [72, 1, 3, 4, 70, 71] [65] ?_
   rw [hll]
   exact hL 124 _ _ _ _ _ (by rw [if_pos rfl]) (fun _ => rfl)
 rw [if_neg k4] at hn
 by_cases k5 : 5 ≤ k ∧ k ≤ 7
 ·rw [if_pos k5] at hn
  have hn := of_decide_eq_true hn
  obtain ⟨y, rfl⟩ : ∃ y, l = [y] := by
   match l, hn with
   | [y], _ => exact ⟨y, rfl⟩
  obtain ⟨hp, hs⟩ := hk y (by simp)
  have hpx := bx y
  have hpl : ba aH k [y] = [bW k y (pat aH y)] := by rw [ba, ba]
  rw [hpl] at hb ⊢
  simp only [cG] at hb
  have hbx : (pat aH y).length + 2 < 2 ^ 31 := by
   have : (pat aH y).length ≤ (bW k y (pat aH y)).length := by unfold bW; split <;> simp; omega
   omega
  have hin := n4 k y hp hs hbx
  clear hL
  have z1 : ([y].map Rx.enc).length = 1 := rfl
  have z2 : ([42] : List UInt8).length = 1 := rfl
  have z3 : ([43] : List UInt8).length = 1 := rfl
  have z4 : ([63] : List UInt8).length = 1 := rfl
  generalize bW k y (pat aH y) = p at *
  have hx : ([y].map Rx.enc)[(0 : Int).toNat]? = some y.enc := rfl
  simp only [List.map_cons, List.map_nil] at hx z1 ⊢
  generalize hxe : y.enc = xe at *
  obtain ⟨k2, lo2, hi2, l2⟩ := y
  rw [aW] at hxe
  subst hxe
  rcases (by omega : k = 5 ∨ k = 6 ∨ k = 7) with rfl | rfl | rfl
  ·rw [show b9 aH 5 0 0 [p] = p ++ [42] from rfl]
   refine aa (F := f627) rfl rfl (ag 300 _ _ _ _ ?_)
   repeat' ((conv => whnf); first | refine eN ?_ | refine kV hin ?_ hpx | refine a7 ?_ | (refine ab ?_ ?_ <;> intro h))
   refine ah ?_; rfl
  ·rw [show b9 aH 6 0 0 [p] = p ++ [43] from rfl]
   refine aa (F := f627) rfl rfl (ag 300 _ _ _ _ ?_)
   repeat' ((conv => whnf); first | refine eN ?_ | refine kV hin ?_ hpx | refine a7 ?_ | (refine ab ?_ ?_ <;> intro h))
   refine ah ?_; rfl
  ·rw [show b9 aH 7 0 0 [p] = p ++ [63] from rfl]
   refine aa (F := f627) rfl rfl (ag 300 _ _ _ _ ?_)
   repeat' ((conv => whnf); first | refine eN ?_ | refine kV hin ?_ hpx | refine a7 ?_ | (refine ab ?_ ?_ <;> intro h))
   refine ah ?_; rfl
 ·rw [if_neg k5] at hn; cases hn
mutual
theorem FC : ∀ (x : Rx) {lv c c' : Nat}, Sml x → chk x lv c = some c' → ShG x
 | .mk k lo hi l, lv, c, c', hs, h => by
  have hc' := mJ h
  rw [chk] at h
  split at h
  ·cases h
  ·split at h
   ·cases h
   ·split at h
    ·rename_i hn
     have h1 := jT k l h
     have h2 := zf l hs.kid h
     exact Wx k lo hi l hn hs.len (by omega) h2
    ·cases h
theorem zf : ∀ (l : List Rx) {lv c c' : Nat}, (∀ x ∈ l, Sml x) → en l lv c = some c' → ∀ y ∈ l, ShG y ∧ Sml y
 | [], _, _, _, _, _ => fun y hy => by simp at hy
 | x :: r, lv, c, c', hs, h => fun y hy => by
  rw [en] at h
  split at h
  ·rename_i c1 h1
   have h2 := FC x (hs x (by simp)) h1
   rcases List.mem_cons.1 hy with q | q
   ·rw [q]; exact ⟨h2, hs x (by simp)⟩
   ·exact zf r (fun z hz => hs z (by simp [hz])) h y q
  ·cases h
end
end Go.AM.IR
namespace Go.AM.IR
theorem rB (x : Rx) (hs : Sml x) : ∃ (w : List UInt8) (e : Int), am G0 580 [.agg x.enc] [] ⟨.tup [.str w, .int .i64 e], []⟩ ∧ (e = 0 ↔ (chk x 1 0).isSome = true) ∧ (e = 0 → w = pat aH x) := by
 obtain ⟨e, g1, h1⟩ := sy x hs
 have hpx := bx x
 by_cases h0 : e = 0
 ·subst h0
  have h2 : (chk x 1 0).isSome = true := h1.1 rfl
  obtain ⟨c', hc⟩ := Option.isSome_iff_exists.1 h2
  have g2 := FC x hs hc
  unfold ShG at g2
  refine ⟨pat aH x, 0, ?_, by simp [h2], fun _ => rfl⟩
  generalize pat aH x = w at *
  generalize hxe : x.enc = xe at *
  obtain ⟨k, lo, hi, l⟩ := x
  rw [aW] at hxe
  subst hxe
  refine aa (F := f580) rfl rfl (ag 300 _ _ _ _ ?_)
  repeat' ((conv => whnf); first | refine kV g2 ?_ hpx | refine a7 ?_ | (refine ab ?_ ?_ <;> intro h))
  refine ah ?_; rfl
 ·refine ⟨[], e, ?_, h1, fun q => absurd q h0⟩
  generalize hxe : x.enc = xe at *
  obtain ⟨k, lo, hi, l⟩ := x
  rw [aW] at hxe
  subst hxe
  refine aa (F := f580) rfl rfl (ag 300 _ _ _ _ ?_)
  repeat' (first | refine ae ?_ | (refine ab ?_ ?_ <;> intro h))
  refine ah ?_; rfl
def Ja : AV → Option (List (List AV))
 | .ifc _ _ => some [rx0.enc, [.int .i64 2]]
 | _ => none
theorem yp (s : List UInt8) (hs : s.length < 2 ^ 32) : ∃ A caps, JL.pre G0 [.str s] [] = some A ∧ bh A.tm D0 = .fn 578 caps ∧ caps.length = 2 ∧ Ev G0 (JL.cfg Ja A 0) (na (kw s)) := by
 refine ⟨_, _, rfl, rfl, rfl, ?_⟩
 have h1 := mT s hs 33 0 (by omega) (by omega) 0 (by omega)
 have hp := kO hs (gM s) 33
 unfold kw
 cases ha : bL s (dy s) 33 0 with
 | none =>
  rw [ha] at h1
  obtain ⟨m, h1⟩ := h1
  refine wk3 ?_
  repeat' (first | refine ae ?_ | (refine ab ?_ ?_ <;> intro h))
  (conv => whnf)
  refine CallG.stop ?_
  refine cj 579 h1 (fun Q hr hg => ?_)
  refine kX [(75, _, _)] [] ⟨rfl, trivial⟩ trivial hg ?_ (hE := by rw [hr]; rfl)
  rfl
 | some p =>
  obtain ⟨x, m⟩ := p
  rw [ha] at h1
  obtain ⟨_, _, hx⟩ := hp 0 x m (by omega) ha
  obtain ⟨w, e, g2, h2, h3⟩ := rB x hx
  have hpx := bx x
  dsimp only
  simp only [fh] at h1
  by_cases hq : (chk x 1 0).isSome = true ∧ pat aH x = s
  ·rw [if_pos hq]
   obtain rfl : e = 0 := h2.2 hq.1
   obtain rfl : w = s := by rw [h3 rfl, hq.2]
   unfold na
   generalize hxe : x.enc = xe at *
   obtain ⟨k, lo, hi, l⟩ := x
   rw [aW] at hxe
   subst hxe
   refine wk3 ?_
   repeat' ((conv => whnf); first | refine Jc ?_ | refine a7 ?_ | refine kX [(75, _, _)] [] ⟨rfl, trivial⟩ trivial (h1) ?_ | (refine ab ?_ ?_ <;> intro h))
   refine ah ?_
   repeat ((conv => whnf); refine Go.AM.finC ?_)
   dsimp only
   rw [aW]
  ·rw [if_neg hq]
   by_cases h0 : e = 0
   ·subst h0
    have hw : ¬ w = s := fun q => hq ⟨h2.1 rfl, by rw [← h3 rfl, q]⟩
    generalize hxe : x.enc = xe at *
    obtain ⟨k, lo, hi, l⟩ := x
    rw [aW] at hxe
    subst hxe
    refine wk3 ?_
    repeat' ((conv => whnf); first | refine DM hw ?_ | refine a7 ?_ | refine kX [(75, _, _)] [] ⟨rfl, trivial⟩ trivial (h1) ?_ | (refine ab ?_ ?_ <;> intro h))
    refine gY ?_
    rfl
   ·generalize hxe : x.enc = xe at *
    obtain ⟨k, lo, hi, l⟩ := x
    rw [aW] at hxe
    subst hxe
    refine wk3 ?_
    repeat' (first | refine ae ?_ | refine kX [(75, _, _)] [] ⟨rfl, trivial⟩ trivial (h1) ?_ | (refine ab ?_ ?_ <;> intro h))
    refine gY ?_
    rfl
end Go.AM.IR
