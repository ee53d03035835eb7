/- What the functions of this program give, on the abstract machine. -/
import Derived.Test.YtomphmeopjpejaaGreatDoorDataB
set_option linter.unusedVariables false
set_option linter.unusedSimpArgs false
set_option maxHeartbeats 4000000
set_option maxRecDepth 20000
namespace Go.AM.IR
def dT (f : Nat) (s : List UInt8) (lv : Int) (n : Nat) : Option (Rx × Nat) → Prop
 | some (x, m) => am G f [.ref 0 0 0, .int .i64 lv] [.cells [.str s, .int .i64 (n : Int)]] (rpR s (.tup [.agg x.enc, .bool true]) m)
 | none => ∃ x m, m ≤ s.length ∧ am G f [.ref 0 0 0, .int .i64 lv] [.cells [.str s, .int .i64 (n : Int)]] (rpR s (.tup [.agg (Rx.enc x), .bool false]) m)
theorem e0 (k lo hi : Int) : (Rx.mk k lo hi []).enc = [.int .i64 k, .int .i64 lo, .int .i64 hi, .sl 4 []] := aW k lo hi []
theorem xO (s : List UInt8) (lv : Int) (hl : 32 < lv) (n : Nat) (hn : n ≤ s.length) : dT 656 s lv n none := by
 refine ⟨rx0, n, hn, ?_⟩
 refine aa (F := f656) rfl rfl (ag 300 _ _ _ _ ?_)
 repeat' (first | refine ae ?_ | (refine ab ?_ ?_ <;> intro h))
 refine cY [] [(68, some (_, .cells (rx0.enc)))] trivial ⟨⟨rfl, leA⟩, trivial⟩ ?_
 (conv => whnf); first | refine aP [(0, _, _)] [] [true] ?_ | refine aQ [(0, _, _)] [] [true] ?_
 refine bI ?_
 rfl
theorem uB (s : List UInt8) (hs : s.length < 2 ^ 40) (alt : PR) (lv : Int) (hl : lv ≤ 32) (hl0 : 0 ≤ lv) (hp : Pos s alt) (hA : ∀ n, n ≤ s.length → dT 616 s (lv + 1) n (alt n)) (n : Nat) (hn : n ≤ s.length) : dT 656 s lv n (bJ s (eO s) alt n) := by
 unfold bJ
 by_cases h1c : chr s n 46 = true
 ·rw [if_pos h1c]
  have hlt := bU h1c
  have h1 : am G 642 [.ref 0 0 0, .int .u8 46] [.cells [.str s, .int .i64 ((n : Nat) : Int)]] (rpR s (.bool true) (n + 1)) := by
   have := a8 s hs 46 (n) (by omega)
   rwa [h1c, if_pos rfl] at this
  show am G 656 _ _ (rpR s (.tup [.agg (Rx.mk 2 0 0 []).enc, .bool true]) (n + 1))
  rw [e0]
  refine aa (F := f656) rfl rfl (ag 300 _ _ _ _ ?_)
  repeat' (first | refine ae ?_ | refine kX [(0, _, _)] [] ⟨rfl, trivial⟩ trivial (h1) ?_ | (refine ab ?_ ?_ <;> intro h))
  refine cY [] [(68, some (_, .cells ([.int .i64 2, .int .i64 0, .int .i64 0, .sl 4 []])))] trivial ⟨⟨rfl, leA⟩, trivial⟩ ?_
  (conv => whnf); first | refine aP [(0, _, _)] [] [true] ?_ | refine aQ [(0, _, _)] [] [true] ?_
  refine bI ?_
  rfl
 rw [if_neg h1c]
 rw [Bool.not_eq_true] at h1c
 have h1 : am G 642 [.ref 0 0 0, .int .u8 46] [.cells [.str s, .int .i64 ((n : Nat) : Int)]] (rpR s (.bool false) (n)) := by
  have := a8 s hs 46 (n) (by omega)
  rwa [h1c, if_neg (by simp)] at this
 by_cases h2c : chr s n 33 = true
 ·rw [if_pos h2c]
  have hlt := bU h2c
  have h2 : am G 642 [.ref 0 0 0, .int .u8 33] [.cells [.str s, .int .i64 ((n : Nat) : Int)]] (rpR s (.bool true) (n + 1)) := by
   have := a8 s hs 33 (n) (by omega)
   rwa [h2c, if_pos rfl] at this
  show am G 656 _ _ (rpR s (.tup [.agg (Rx.mk 4 0 0 []).enc, .bool true]) (n + 1))
  rw [e0]
  refine aa (F := f656) rfl rfl (ag 300 _ _ _ _ ?_)
  repeat' (first | refine ae ?_ | refine kX [(0, _, _)] [] ⟨rfl, trivial⟩ trivial (h1) ?_ | refine kX [(0, _, _)] [] ⟨rfl, trivial⟩ trivial (h2) ?_ | (refine ab ?_ ?_ <;> intro h))
  refine cY [] [(68, some (_, .cells ([.int .i64 4, .int .i64 0, .int .i64 0, .sl 4 []])))] trivial ⟨⟨rfl, leA⟩, trivial⟩ ?_
  (conv => whnf); first | refine aP [(0, _, _)] [] [true] ?_ | refine aQ [(0, _, _)] [] [true] ?_
  refine bI ?_
  rfl
 rw [if_neg h2c]
 rw [Bool.not_eq_true] at h2c
 have h2 : am G 642 [.ref 0 0 0, .int .u8 33] [.cells [.str s, .int .i64 ((n : Nat) : Int)]] (rpR s (.bool false) (n)) := by
  have := a8 s hs 33 (n) (by omega)
  rwa [h2c, if_neg (by simp)] at this
 by_cases h3c : chr s n 40 = true
 ·rw [if_pos h3c]
  have hlt := bU h3c
  have h3 : am G 642 [.ref 0 0 0, .int .u8 40] [.cells [.str s, .int .i64 ((n : Nat) : Int)]] (rpR s (.bool true) (n + 1)) := by
   have := a8 s hs 40 (n) (by omega)
   rwa [h3c, if_pos rfl] at this
  by_cases h4c : chr s (n + 1) 41 = true
  ·rw [if_pos h4c]
   have hlt2 := bU h4c
   have h4 : am G 642 [.ref 0 0 0, .int .u8 41] [.cells [.str s, .int .i64 ((n + 1 : Nat) : Int)]] (rpR s (.bool true) (n + 1 + 1)) := by
    have := a8 s hs 41 (n + 1) (by omega)
    rwa [h4c, if_pos rfl] at this
   show am G 656 _ _ (rpR s (.tup [.agg (Rx.mk 0 0 0 []).enc, .bool true]) (n + 1 + 1))
   rw [e0]
   refine aa (F := f656) rfl rfl (ag 300 _ _ _ _ ?_)
   repeat' (first | refine ae ?_ | refine kX [(0, _, _)] [] ⟨rfl, trivial⟩ trivial (h1) ?_ | refine kX [(0, _, _)] [] ⟨rfl, trivial⟩ trivial (h2) ?_ | refine kX [(0, _, _)] [] ⟨rfl, trivial⟩ trivial (h3) ?_ | refine kX [(0, _, _)] [] ⟨rfl, trivial⟩ trivial (h4) ?_ | (refine ab ?_ ?_ <;> intro h))
   refine cY [] [(68, some (_, .cells ([.int .i64 0, .int .i64 0, .int .i64 0, .sl 4 []])))] trivial ⟨⟨rfl, leA⟩, trivial⟩ ?_
   (conv => whnf); first | refine aP [(0, _, _)] [] [true] ?_ | refine aQ [(0, _, _)] [] [true] ?_
   refine bI ?_
   rfl
  rw [if_neg h4c]
  rw [Bool.not_eq_true] at h4c
  have h4 : am G 642 [.ref 0 0 0, .int .u8 41] [.cells [.str s, .int .i64 ((n + 1 : Nat) : Int)]] (rpR s (.bool false) (n + 1)) := by
   have := a8 s hs 41 (n + 1) (by omega)
   rwa [h4c, if_neg (by simp)] at this
  have hq := hA (n + 1) (by omega)
  cases ha : alt (n + 1) with
  | none =>
   rw [ha] at hq
   obtain ⟨x, m, hm, hq⟩ := hq
   refine ⟨x, m, hm, ?_⟩
   have hpx := bx x
   obtain ⟨k, lo, hi, l⟩ := x
   rw [aW] at hq hpx ⊢
   refine aa (F := f656) rfl rfl (ag 300 _ _ _ _ ?_)
   repeat' (first | refine ae ?_ | refine kX [(0, _, _)] [] ⟨rfl, trivial⟩ trivial (h1) ?_ | refine kX [(0, _, _)] [] ⟨rfl, trivial⟩ trivial (h2) ?_ | refine kX [(0, _, _)] [] ⟨rfl, trivial⟩ trivial (h3) ?_ | refine kX [(0, _, _)] [] ⟨rfl, trivial⟩ trivial (h4) ?_ | refine kX [(0, _, _)] [] ⟨rfl, trivial⟩ trivial (hq) ?_ | (refine ab ?_ ?_ <;> intro h))
   (conv => whnf); first | refine aP [(0, _, _)] [] [true] ?_ | refine aQ [(0, _, _)] [] [true] ?_
   refine bI ?_
   rfl
  | some p =>
   obtain ⟨x, m⟩ := p
   rw [ha] at hq
   obtain ⟨p1, p2, _⟩ := hp _ _ _ (by omega) ha
   dsimp only
   simp only [dT] at hq
   have hpx := bx x
   obtain ⟨k, lo, hi, l⟩ := x
   rw [aW] at hq hpx
   by_cases h5c : chr s m 41 = true
   ·rw [if_pos h5c]
    have hlt3 := bU h5c
    have h5 : am G 642 [.ref 0 0 0, .int .u8 41] [.cells [.str s, .int .i64 ((m : Nat) : Int)]] (rpR s (.bool true) (m + 1)) := by
     have := a8 s hs 41 (m) (by omega)
     rwa [h5c, if_pos rfl] at this
    show am G 656 _ _ (rpR s (.tup [.agg (Rx.mk k lo hi l).enc, .bool true]) (m + 1))
    rw [aW]
    refine aa (F := f656) rfl rfl (ag 300 _ _ _ _ ?_)
    repeat' (first | refine ae ?_ | refine kX [(0, _, _)] [] ⟨rfl, trivial⟩ trivial (h1) ?_ | refine kX [(0, _, _)] [] ⟨rfl, trivial⟩ trivial (h2) ?_ | refine kX [(0, _, _)] [] ⟨rfl, trivial⟩ trivial (h3) ?_ | refine kX [(0, _, _)] [] ⟨rfl, trivial⟩ trivial (h4) ?_ | refine kX [(0, _, _)] [] ⟨rfl, trivial⟩ trivial (hq) ?_ | refine kX [(0, _, _)] [] ⟨rfl, trivial⟩ trivial (h5) ?_ | (refine ab ?_ ?_ <;> intro h))
    (conv => whnf); first | refine aP [(0, _, _)] [] [true] ?_ | refine aQ [(0, _, _)] [] [true] ?_
    refine bI ?_
    rfl
   ·rw [if_neg h5c]
    rw [Bool.not_eq_true] at h5c
    have h5 : am G 642 [.ref 0 0 0, .int .u8 41] [.cells [.str s, .int .i64 ((m : Nat) : Int)]] (rpR s (.bool false) (m)) := by
     have := a8 s hs 41 (m) (by omega)
     rwa [h5c, if_neg (by simp)] at this
    refine ⟨.mk k lo hi l, m, p2, ?_⟩
    rw [aW]
    refine aa (F := f656) rfl rfl (ag 300 _ _ _ _ ?_)
    repeat' (first | refine ae ?_ | refine kX [(0, _, _)] [] ⟨rfl, trivial⟩ trivial (h1) ?_ | refine kX [(0, _, _)] [] ⟨rfl, trivial⟩ trivial (h2) ?_ | refine kX [(0, _, _)] [] ⟨rfl, trivial⟩ trivial (h3) ?_ | refine kX [(0, _, _)] [] ⟨rfl, trivial⟩ trivial (h4) ?_ | refine kX [(0, _, _)] [] ⟨rfl, trivial⟩ trivial (hq) ?_ | refine kX [(0, _, _)] [] ⟨rfl, trivial⟩ trivial (h5) ?_ | (refine ab ?_ ?_ <;> intro h))
    (conv => whnf); first | refine aP [(0, _, _)] [] [true] ?_ | refine aQ [(0, _, _)] [] [true] ?_
    refine bI ?_
    rfl
 rw [if_neg h3c]
 rw [Bool.not_eq_true] at h3c
 have h3 : am G 642 [.ref 0 0 0, .int .u8 40] [.cells [.str s, .int .i64 ((n : Nat) : Int)]] (rpR s (.bool false) (n)) := by
  have := a8 s hs 40 (n) (by omega)
  rwa [h3c, if_neg (by simp)] at this
 by_cases h4c : chr s n 91 = true
 ·rw [if_pos h4c]
  have hlt := bU h4c
  have h4 : am G 642 [.ref 0 0 0, .int .u8 91] [.cells [.str s, .int .i64 ((n : Nat) : Int)]] (rpR s (.bool true) (n + 1)) := by
   have := a8 s hs 91 (n) (by omega)
   rwa [h4c, if_pos rfl] at this
  obtain ⟨v, b, m, p1, p2, g1, r1⟩ := ju s hs (n + 1) (by omega)
  have hmj : (if chr s m 45 then m + 1 else m) ≤ s.length := by
   split
   ·rename_i c; have := bU c; omega
   ·omega
  obtain ⟨v2, b2, m2, p3, p4, g2, r2⟩ := ju s hs (if chr s m 45 then m + 1 else m) hmj
  have h5 := a8 s hs 45 m (by omega)
  have h6 := a8 s hs 93 m2 (by omega)
  have h5 : am G 642 [.ref 0 0 0, .int .u8 45] [.cells [.str s, .int .i64 (m : Int)]] (rpR s (.bool (chr s m 45)) (if chr s m 45 then m + 1 else m)) := h5
  have h6 : am G 642 [.ref 0 0 0, .int .u8 93] [.cells [.str s, .int .i64 (m2 : Int)]] (rpR s (.bool (chr s m2 93)) (if chr s m2 93 then m2 + 1 else m2)) := h6
  -- the result fails
  have bad : (b = false ∨ chr s m 45 = false ∨ b2 = false) → dT 656 s lv n none := fun hb => by
   refine ⟨.mk 1 v v2 [], m2, p4, ?_⟩
   rw [e0]
   generalize hj : (if chr s m 45 then m + 1 else m) = j at *
   generalize chr s m 45 = d at *
   cases b
   ·refine aa (F := f656) rfl rfl (ag 300 _ _ _ _ ?_)
    repeat' (first | refine ae ?_ | refine kX [(0, _, _)] [] ⟨rfl, trivial⟩ trivial (h1) ?_ | refine kX [(0, _, _)] [] ⟨rfl, trivial⟩ trivial (h2) ?_ | refine kX [(0, _, _)] [] ⟨rfl, trivial⟩ trivial (h3) ?_ | refine kX [(0, _, _)] [] ⟨rfl, trivial⟩ trivial (h4) ?_ | refine kX [(0, _, _)] [] ⟨rfl, trivial⟩ trivial (g1) ?_ | refine kX [(0, _, _)] [] ⟨rfl, trivial⟩ trivial (h5) ?_ | refine kX [(0, _, _)] [] ⟨rfl, trivial⟩ trivial (g2) ?_ | (refine ab ?_ ?_ <;> intro h))
    refine cY [] [(68, some (_, .cells ([.int .i64 1, .int .i64 v, .int .i64 v2, .sl 4 []])))] trivial ⟨⟨rfl, leA⟩, trivial⟩ ?_
    (conv => whnf); first | refine aP [(0, _, _)] [] [true] ?_ | refine aQ [(0, _, _)] [] [true] ?_
    refine bI ?_
    rfl
   ·cases d
    ·refine aa (F := f656) rfl rfl (ag 300 _ _ _ _ ?_)
     repeat' (first | refine ae ?_ | refine kX [(0, _, _)] [] ⟨rfl, trivial⟩ trivial (h1) ?_ | refine kX [(0, _, _)] [] ⟨rfl, trivial⟩ trivial (h2) ?_ | refine kX [(0, _, _)] [] ⟨rfl, trivial⟩ trivial (h3) ?_ | refine kX [(0, _, _)] [] ⟨rfl, trivial⟩ trivial (h4) ?_ | refine kX [(0, _, _)] [] ⟨rfl, trivial⟩ trivial (g1) ?_ | refine kX [(0, _, _)] [] ⟨rfl, trivial⟩ trivial (h5) ?_ | refine kX [(0, _, _)] [] ⟨rfl, trivial⟩ trivial (g2) ?_ | (refine ab ?_ ?_ <;> intro h))
     refine cY [] [(68, some (_, .cells ([.int .i64 1, .int .i64 v, .int .i64 v2, .sl 4 []])))] trivial ⟨⟨rfl, leA⟩, trivial⟩ ?_
     (conv => whnf); first | refine aP [(0, _, _)] [] [true] ?_ | refine aQ [(0, _, _)] [] [true] ?_
     refine bI ?_
     rfl
    ·obtain rfl : b2 = false := by simpa using hb
     refine aa (F := f656) rfl rfl (ag 300 _ _ _ _ ?_)
     repeat' (first | refine ae ?_ | refine kX [(0, _, _)] [] ⟨rfl, trivial⟩ trivial (h1) ?_ | refine kX [(0, _, _)] [] ⟨rfl, trivial⟩ trivial (h2) ?_ | refine kX [(0, _, _)] [] ⟨rfl, trivial⟩ trivial (h3) ?_ | refine kX [(0, _, _)] [] ⟨rfl, trivial⟩ trivial (h4) ?_ | refine kX [(0, _, _)] [] ⟨rfl, trivial⟩ trivial (g1) ?_ | refine kX [(0, _, _)] [] ⟨rfl, trivial⟩ trivial (h5) ?_ | refine kX [(0, _, _)] [] ⟨rfl, trivial⟩ trivial (g2) ?_ | (refine ab ?_ ?_ <;> intro h))
     refine cY [] [(68, some (_, .cells ([.int .i64 1, .int .i64 v, .int .i64 v2, .sl 4 []])))] trivial ⟨⟨rfl, leA⟩, trivial⟩ ?_
     (conv => whnf); first | refine aP [(0, _, _)] [] [true] ?_ | refine aQ [(0, _, _)] [] [true] ?_
     refine bI ?_
     rfl
  cases hr : eO s (n + 1) with
  | none =>
   rw [hr] at r1
   exact bad (.inl r1)
  | some q =>
   obtain ⟨a, k⟩ := q
   rw [hr] at r1
   obtain ⟨rfl, rfl, rfl⟩ := r1
   dsimp only
   by_cases h5c : chr s m 45 = true
   ·rw [if_pos h5c]
    have hj : (if chr s m 45 then m + 1 else m) = m + 1 := if_pos h5c
    cases hr2 : eO s (m + 1) with
    | none =>
     rw [hj, hr2] at r2
     exact bad (.inr (.inr r2))
    | some q =>
     obtain ⟨a2, k2⟩ := q
     rw [hj, hr2] at r2
     obtain ⟨rfl, rfl, rfl⟩ := r2
     dsimp only
     rw [hj] at h5 g2
     rw [h5c] at h5
     by_cases h6c : chr s m2 93 = true
     ·rw [if_pos h6c]
      have hj2 : (if chr s m2 93 then m2 + 1 else m2) = m2 + 1 := if_pos h6c
      rw [hj2, h6c] at h6
      show am G 656 _ _ (rpR s (.tup [.agg (Rx.mk 1 v v2 []).enc, .bool true]) (m2 + 1))
      rw [e0]
      refine aa (F := f656) rfl rfl (ag 300 _ _ _ _ ?_)
      repeat' (first | refine ae ?_ | refine kX [(0, _, _)] [] ⟨rfl, trivial⟩ trivial (h1) ?_ | refine kX [(0, _, _)] [] ⟨rfl, trivial⟩ trivial (h2) ?_ | refine kX [(0, _, _)] [] ⟨rfl, trivial⟩ trivial (h3) ?_ | refine kX [(0, _, _)] [] ⟨rfl, trivial⟩ trivial (h4) ?_ | refine kX [(0, _, _)] [] ⟨rfl, trivial⟩ trivial (g1) ?_ | refine kX [(0, _, _)] [] ⟨rfl, trivial⟩ trivial (h5) ?_ | refine kX [(0, _, _)] [] ⟨rfl, trivial⟩ trivial (g2) ?_ | refine kX [(0, _, _)] [] ⟨rfl, trivial⟩ trivial (h6) ?_ | (refine ab ?_ ?_ <;> intro h))
      refine cY [] [(68, some (_, .cells ([.int .i64 1, .int .i64 v, .int .i64 v2, .sl 4 []])))] trivial ⟨⟨rfl, leA⟩, trivial⟩ ?_
      (conv => whnf); first | refine aP [(0, _, _)] [] [true] ?_ | refine aQ [(0, _, _)] [] [true] ?_
      refine bI ?_
      rfl
     ·rw [if_neg h6c]
      have hj2 : (if chr s m2 93 then m2 + 1 else m2) = m2 := if_neg h6c
      rw [Bool.not_eq_true] at h6c
      rw [hj2, h6c] at h6
      refine ⟨.mk 1 v v2 [], m2, p4, ?_⟩
      rw [e0]
      refine aa (F := f656) rfl rfl (ag 300 _ _ _ _ ?_)
      repeat' (first | refine ae ?_ | refine kX [(0, _, _)] [] ⟨rfl, trivial⟩ trivial (h1) ?_ | refine kX [(0, _, _)] [] ⟨rfl, trivial⟩ trivial (h2) ?_ | refine kX [(0, _, _)] [] ⟨rfl, trivial⟩ trivial (h3) ?_ | refine kX [(0, _, _)] [] ⟨rfl, trivial⟩ trivial (h4) ?_ | refine kX [(0, _, _)] [] ⟨rfl, trivial⟩ trivial (g1) ?_ | refine kX [(0, _, _)] [] ⟨rfl, trivial⟩ trivial (h5) ?_ | refine kX [(0, _, _)] [] ⟨rfl, trivial⟩ trivial (g2) ?_ | refine kX [(0, _, _)] [] ⟨rfl, trivial⟩ trivial (h6) ?_ | (refine ab ?_ ?_ <;> intro h))
      refine cY [] [(68, some (_, .cells ([.int .i64 1, .int .i64 v, .int .i64 v2, .sl 4 []])))] trivial ⟨⟨rfl, leA⟩, trivial⟩ ?_
      (conv => whnf); first | refine aP [(0, _, _)] [] [true] ?_ | refine aQ [(0, _, _)] [] [true] ?_
      refine bI ?_
      rfl
   ·rw [if_neg h5c]
    rw [Bool.not_eq_true] at h5c
    exact bad (.inr (.inl h5c))
 rw [if_neg h4c]
 rw [Bool.not_eq_true] at h4c
 have h4 : am G 642 [.ref 0 0 0, .int .u8 91] [.cells [.str s, .int .i64 ((n : Nat) : Int)]] (rpR s (.bool false) (n)) := by
  have := a8 s hs 91 (n) (by omega)
  rwa [h4c, if_neg (by simp)] at this
 obtain ⟨v, b, m, p1, p2, g1, r1⟩ := ju s hs n hn
 cases hr : eO s n with
 | none =>
  rw [hr] at r1
  obtain rfl : b = false := r1
  refine ⟨.mk 1 v v [], m, p2, ?_⟩
  rw [e0]
  refine aa (F := f656) rfl rfl (ag 300 _ _ _ _ ?_)
  repeat' (first | refine ae ?_ | refine kX [(0, _, _)] [] ⟨rfl, trivial⟩ trivial (h1) ?_ | refine kX [(0, _, _)] [] ⟨rfl, trivial⟩ trivial (h2) ?_ | refine kX [(0, _, _)] [] ⟨rfl, trivial⟩ trivial (h3) ?_ | refine kX [(0, _, _)] [] ⟨rfl, trivial⟩ trivial (h4) ?_ | refine kX [(0, _, _)] [] ⟨rfl, trivial⟩ trivial (g1) ?_ | (refine ab ?_ ?_ <;> intro h))
  refine cY [] [(68, some (_, .cells ([.int .i64 1, .int .i64 v, .int .i64 v, .sl 4 []])))] trivial ⟨⟨rfl, leA⟩, trivial⟩ ?_
  (conv => whnf); first | refine aP [(0, _, _)] [] [true] ?_ | refine aQ [(0, _, _)] [] [true] ?_
  refine bI ?_
  rfl
 | some q =>
  obtain ⟨a, k⟩ := q
  rw [hr] at r1
  obtain ⟨rfl, rfl, rfl⟩ := r1
  show am G 656 _ _ (rpR s (.tup [.agg (Rx.mk 1 v v []).enc, .bool true]) m)
  rw [e0]
  refine aa (F := f656) rfl rfl (ag 300 _ _ _ _ ?_)
  repeat' (first | refine ae ?_ | refine kX [(0, _, _)] [] ⟨rfl, trivial⟩ trivial (h1) ?_ | refine kX [(0, _, _)] [] ⟨rfl, trivial⟩ trivial (h2) ?_ | refine kX [(0, _, _)] [] ⟨rfl, trivial⟩ trivial (h3) ?_ | refine kX [(0, _, _)] [] ⟨rfl, trivial⟩ trivial (h4) ?_ | refine kX [(0, _, _)] [] ⟨rfl, trivial⟩ trivial (g1) ?_ | (refine ab ?_ ?_ <;> intro h))
  refine cY [] [(68, some (_, .cells ([.int .i64 1, .int .i64 v, .int .i64 v, .sl 4 []])))] trivial ⟨⟨rfl, leA⟩, trivial⟩ ?_
  (conv => whnf); first | refine aP [(0, _, _)] [] [true] ?_ | refine aQ [(0, _, _)] [] [true] ?_
  refine bI ?_
  rfl
end Go.AM.IR
