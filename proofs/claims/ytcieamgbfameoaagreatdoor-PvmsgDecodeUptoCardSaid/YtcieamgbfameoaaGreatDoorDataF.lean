/- What the functions of this program give, on the abstract machine. -/
import Derived.Test.YtcieamgbfameoaaGreatDoorDataE
set_option linter.unusedVariables false
set_option linter.unusedSimpArgs false
set_option maxHeartbeats 20000000
set_option maxRecDepth 20000
namespace Go.AM.IR
theorem aq8 (wide : Bool) (b : List UInt8) (A : Nat) (at_ : Int) (hat : at_ = (A : Int)) (c k : UInt8) (n : Nat) (hb0 : (byteCells b)[at_.toNat]? = some [.int .u8 (c.toNat : Int)]) (hb1 : (byteCells b)[(at_ + 1).toNat]? = some [.int .u8 (k.toNat : Int)]) (hbit : fq c = false) (hlen : b.length < 2 ^ 29) (hh : A + 3 ≤ b.length)
 (aX : ah G 100 [.sl 1 (byteCells b), .int .i64 (at_ + 2), .int .i64 1] [] ⟨.int .i64 (n : Int), []⟩) (hn : n ≤ 65535) (last : Int) (m : Nat → Bool) (a : Attrs) (hu : a.unknown.length < 2 ^ 29) (R : Ret)
 (h1 : b.length < A + 3 + n → R = lZ (3, zeroA)) (h2 : A + 3 + n ≤ b.length → (k.toNat : Int) ≤ last → R = lZ (16, zeroA))
 (h3 : A + 3 + n ≤ b.length → ¬ (k.toNat : Int) ≤ last → di ⟨c, k, false, (b.drop (A + 3)).take n, b.drop (A + 3 + n)⟩ → R = lZ (2, zeroA))
 (h4 : A + 3 + n ≤ b.length → ¬ (k.toNat : Int) ≤ last → ¬ di ⟨c, k, false, (b.drop (A + 3)).take n, b.drop (A + 3 + n)⟩ → bz (wd wide) k.toNat ((b.drop (A + 3)).take n) a = none → R = lZ (2, zeroA))
 (go : A + 3 + n ≤ b.length → ¬ (k.toNat : Int) ≤ last → ¬ di ⟨c, k, false, (b.drop (A + 3)).take n, b.drop (A + 3 + n)⟩ → ∀ a', bz (wd wide) k.toNat ((b.drop (A + 3)).take n) a = some a' → ∀ (T : List (Nat × AV)) (H : aq) (c g1 g2 g3 g4 : Nat) (at2 : Int), at2 = ((A + 3 + n : Nat) : Int) → Ev G ⟨nn, ⟨(4, .ref 68 g1 0) :: (8, .ref 72 g4 0) :: (6, .ref 70 g2 0) :: (1, .bool wide) :: (0, .sl 1 (byteCells b)) :: (7, .int .i64 (k.toNat : Int)) :: (9, .int .i64 at2) :: T, (68, some (g1, .cells ta)) :: (72, some (g4, .cells (l8 (b9 m k.toNat)))) :: (70, some (g2, .cells (a'.cellsV (.vs 300 g3 a'.unknown.length)))) :: (300, some (g3, .vec 2 (a'.unknown.map TLV.enc))) :: H, c⟩, [.cell 4 (some 16), .t 5], 0⟩ R)
 (T : List (Nat × AV)) (H : aq) (c_ g1 g2 g3 g4 : Nat) : Ev G ⟨nn, ⟨(4, .ref 68 g1 0) :: (8, .ref 72 g4 0) :: (6, .ref 70 g2 0) :: (1, .bool wide) :: (0, .sl 1 (byteCells b)) :: (7, .int .i64 last) :: (9, .int .i64 at_) :: T, (68, some (g1, .cells ta)) :: (72, some (g4, .cells (l8 m))) :: (70, some (g2, .cells (a.cellsV (.vs 300 g3 a.unknown.length)))) :: (300, some (g3, .vec 2 (a.unknown.map TLV.enc))) :: H, c_⟩, [.cell 4 (some 16), .t 5], 0⟩ R := by
 have hbl := au b
 have hk := k.toNat_lt
 have hc := c.toNat_lt
 have hflag := jT k
 by_cases c1 : b.length < A + 3 + n
 ·rw [h1 c1]
  refine evl ?_
  repeat' ((conv => whnf); first | refine l7 hbit ?_ | refine d5 ?_ | refine gp ?_ | refine b8 ?_ | refine dz ?_ | (refine aa ?_ ?_ <;> intro h))
  refine bm [] [(68, some (_, .cells zeroA.enc))] trivial ⟨⟨rfl, leA⟩, trivial⟩ ?_
  refine ax ?_
  (conv => whnf); exact And.intro (by first | rfl | (simp [AV.pure, aZ]; done) | fail) rfl
 have c1 : A + 3 + n ≤ b.length := by omega
 by_cases c2 : (k.toNat : Int) ≤ last
 ·rw [h2 c1 c2]
  refine evl ?_
  repeat' ((conv => whnf); first | refine l7 hbit ?_ | refine d5 ?_ | refine gp ?_ | refine b8 ?_ | refine dz ?_ | (refine aa ?_ ?_ <;> intro h))
  refine bm [] [(68, some (_, .cells zeroA.enc))] trivial ⟨⟨rfl, leA⟩, trivial⟩ ?_
  refine ax ?_
  (conv => whnf); exact And.intro (by first | rfl | (simp [AV.pure, aZ]; done) | fail) rfl
 have hvl : ((b.drop (A + 3)).take n).length = n := by simp; omega
 have hrd := w1 k.toNat (by omega) a ((b.drop (A + 3)).take n) (by omega) (by omega) wide
 have hsl := yp b (A + 3) n (at_ + (2 + 1) + (n : Int)).toNat (by omega)
 rw [show A + 3 = (at_ + (2 + 1)).toNat from by omega] at hsl
 unfold a7 at hrd
 cases hs : bz (wd wide) k.toNat ((b.drop (A + 3)).take n) a with
 | none =>
  rw [hs] at hrd
  simp only [b6] at hrd
  rw [show A + 3 = (at_ + (2 + 1)).toNat from by omega, ← hsl] at hrd
  have hR : R = lZ (2, zeroA) := by
   by_cases q : di ⟨c, k, false, (b.drop (A + 3)).take n, b.drop (A + 3 + n)⟩
   ·exact h3 c1 c2 q
   ·exact h4 c1 c2 q hs
  rw [hR]
  by_cases c3 : iM c = ((bx (k.toNat : Int)).toNat : Int)
  ·refine evl ?_
   repeat' ((conv => whnf); first | refine l7 hbit ?_ | refine d5 ?_ | refine gp ?_ | refine b8 ?_ | refine dz ?_ | refine kX [(300, _, _)] [] ⟨rfl, trivial⟩ trivial (hrd) ?_ | (refine aa ?_ ?_ <;> intro h))
   all_goals
    refine bm [] [(68, some (_, .cells zeroA.enc))] trivial ⟨⟨rfl, leA⟩, trivial⟩ ?_
    refine ax ?_
    (conv => whnf); exact And.intro (by first | rfl | (simp [AV.pure, aZ]; done) | fail) rfl
  ·refine evl ?_
   repeat' ((conv => whnf); first | refine l7 hbit ?_ | refine d5 ?_ | refine gp ?_ | refine b8 ?_ | refine dz ?_ | refine kX [(300, _, _)] [] ⟨rfl, trivial⟩ trivial (hrd) ?_ | (refine aa ?_ ?_ <;> intro h))
   all_goals
    refine bm [] [(68, some (_, .cells zeroA.enc))] trivial ⟨⟨rfl, leA⟩, trivial⟩ ?_
    refine ax ?_
    (conv => whnf); exact And.intro (by first | rfl | (simp [AV.pure, aZ]; done) | fail) rfl
 | some a' =>
  rw [hs] at hrd
  simp only [b6] at hrd
  rw [show A + 3 = (at_ + (2 + 1)).toNat from by omega, ← hsl] at hrd
  by_cases c3 : iM c = ((bx (k.toNat : Int)).toNat : Int)
  ·have hnb : ¬ di ⟨c, k, false, (b.drop (A + 3)).take n, b.drop (A + 3 + n)⟩ := by simp [di, c3]
   have go := go c1 c2 hnb a' hs
   cases hik : dy k.toNat
   ·rw [hik] at hrd
    refine evl ?_
    repeat' ((conv => whnf); first | refine l7 hbit ?_ | refine d5 ?_ | refine gp ?_ | refine b8 ?_ | refine dz ?_ | refine kX [(300, _, _)] [] ⟨rfl, trivial⟩ trivial (hrd) ?_ | (refine aa ?_ ?_ <;> intro h))
    all_goals
     refine ag [4, 8, 6, 1, 0, 7, 9] [68, 72, 70, 300] ?_
     rw [show 0 + ((k.toNat : Int)).toNat * 1 = k.toNat from by omega, x5]
     exact go _ _ _ _ _ _ _ _ (by omega)
   ·rw [hik] at hrd
    refine evl ?_
    repeat' ((conv => whnf); first | refine l7 hbit ?_ | refine d5 ?_ | refine gp ?_ | refine b8 ?_ | refine dz ?_ | refine kX [(300, _, _)] [] ⟨rfl, trivial⟩ trivial (hrd) ?_ | (refine aa ?_ ?_ <;> intro h))
    all_goals
     refine ag [4, 8, 6, 1, 0, 7, 9] [68, 72, 70, 300] ?_
     rw [show 0 + ((k.toNat : Int)).toNat * 1 = k.toNat from by omega, x5]
     exact go _ _ _ _ _ _ _ _ (by omega)
  ·rw [h3 c1 c2 (.inl c3)]
   cases hik : dy k.toNat
   ·rw [hik] at hrd
    refine evl ?_
    repeat' ((conv => whnf); first | refine l7 hbit ?_ | refine d5 ?_ | refine gp ?_ | refine b8 ?_ | refine dz ?_ | refine kX [(300, _, _)] [] ⟨rfl, trivial⟩ trivial (hrd) ?_ | (refine aa ?_ ?_ <;> intro h))
    all_goals
     refine bm [] [(68, some (_, .cells zeroA.enc))] trivial ⟨⟨rfl, leA⟩, trivial⟩ ?_
     refine ax ?_
     (conv => whnf); exact And.intro (by first | rfl | (simp [AV.pure, aZ]; done) | fail) rfl
   ·rw [hik] at hrd
    refine evl ?_
    repeat' ((conv => whnf); first | refine l7 hbit ?_ | refine d5 ?_ | refine gp ?_ | refine b8 ?_ | refine dz ?_ | refine kX [(300, _, _)] [] ⟨rfl, trivial⟩ trivial (hrd) ?_ | (refine aa ?_ ?_ <;> intro h))
    all_goals
     refine bm [] [(68, some (_, .cells zeroA.enc))] trivial ⟨⟨rfl, leA⟩, trivial⟩ ?_
     refine ax ?_
     (conv => whnf); exact And.intro (by first | rfl | (simp [AV.pure, aZ]; done) | fail) rfl
end Go.AM.IR
namespace Go.AM.IR
theorem ash (wide : Bool) (b : List UInt8) (A : Nat) (at_ : Int) (hat : at_ = (A : Int)) (c k : UInt8) (n : Nat) (hb0 : (byteCells b)[at_.toNat]? = some [.int .u8 (c.toNat : Int)]) (hb1 : (byteCells b)[(at_ + 1).toNat]? = some [.int .u8 (k.toNat : Int)]) (hbit : fq c = true) (hlen : b.length < 2 ^ 29) (hh : A + 4 ≤ b.length)
 (aX : ah G 100 [.sl 1 (byteCells b), .int .i64 (at_ + 2), .int .i64 2] [] ⟨.int .i64 (n : Int), []⟩) (hn : n ≤ 65535) (last : Int) (m : Nat → Bool) (a : Attrs) (hu : a.unknown.length < 2 ^ 29) (R : Ret)
 (h1 : b.length < A + 4 + n → R = lZ (3, zeroA)) (h2 : A + 4 + n ≤ b.length → (k.toNat : Int) ≤ last → R = lZ (16, zeroA))
 (h3 : A + 4 + n ≤ b.length → ¬ (k.toNat : Int) ≤ last → di ⟨c, k, true, (b.drop (A + 4)).take n, b.drop (A + 4 + n)⟩ → R = lZ (2, zeroA))
 (h4 : A + 4 + n ≤ b.length → ¬ (k.toNat : Int) ≤ last → ¬ di ⟨c, k, true, (b.drop (A + 4)).take n, b.drop (A + 4 + n)⟩ → bz (wd wide) k.toNat ((b.drop (A + 4)).take n) a = none → R = lZ (2, zeroA))
 (go : A + 4 + n ≤ b.length → ¬ (k.toNat : Int) ≤ last → ¬ di ⟨c, k, true, (b.drop (A + 4)).take n, b.drop (A + 4 + n)⟩ → ∀ a', bz (wd wide) k.toNat ((b.drop (A + 4)).take n) a = some a' → ∀ (T : List (Nat × AV)) (H : aq) (c g1 g2 g3 g4 : Nat) (at2 : Int), at2 = ((A + 4 + n : Nat) : Int) → Ev G ⟨nn, ⟨(4, .ref 68 g1 0) :: (8, .ref 72 g4 0) :: (6, .ref 70 g2 0) :: (1, .bool wide) :: (0, .sl 1 (byteCells b)) :: (7, .int .i64 (k.toNat : Int)) :: (9, .int .i64 at2) :: T, (68, some (g1, .cells ta)) :: (72, some (g4, .cells (l8 (b9 m k.toNat)))) :: (70, some (g2, .cells (a'.cellsV (.vs 300 g3 a'.unknown.length)))) :: (300, some (g3, .vec 2 (a'.unknown.map TLV.enc))) :: H, c⟩, [.cell 4 (some 16), .t 5], 0⟩ R)
 (T : List (Nat × AV)) (H : aq) (c_ g1 g2 g3 g4 : Nat) : Ev G ⟨nn, ⟨(4, .ref 68 g1 0) :: (8, .ref 72 g4 0) :: (6, .ref 70 g2 0) :: (1, .bool wide) :: (0, .sl 1 (byteCells b)) :: (7, .int .i64 last) :: (9, .int .i64 at_) :: T, (68, some (g1, .cells ta)) :: (72, some (g4, .cells (l8 m))) :: (70, some (g2, .cells (a.cellsV (.vs 300 g3 a.unknown.length)))) :: (300, some (g3, .vec 2 (a.unknown.map TLV.enc))) :: H, c_⟩, [.cell 4 (some 16), .t 5], 0⟩ R := by
 have hbl := au b
 have hk := k.toNat_lt
 have hc := c.toNat_lt
 have hflag := jT k
 by_cases c1 : b.length < A + 4 + n
 ·rw [h1 c1]
  refine evl ?_
  repeat' ((conv => whnf); first | refine gP hbit ?_ | refine d5 ?_ | refine gp ?_ | refine b8 ?_ | refine dz ?_ | (refine aa ?_ ?_ <;> intro h))
  refine bm [] [(68, some (_, .cells zeroA.enc))] trivial ⟨⟨rfl, leA⟩, trivial⟩ ?_
  refine ax ?_
  (conv => whnf); exact And.intro (by first | rfl | (simp [AV.pure, aZ]; done) | fail) rfl
 have c1 : A + 4 + n ≤ b.length := by omega
 by_cases c2 : (k.toNat : Int) ≤ last
 ·rw [h2 c1 c2]
  refine evl ?_
  repeat' ((conv => whnf); first | refine gP hbit ?_ | refine d5 ?_ | refine gp ?_ | refine b8 ?_ | refine dz ?_ | (refine aa ?_ ?_ <;> intro h))
  refine bm [] [(68, some (_, .cells zeroA.enc))] trivial ⟨⟨rfl, leA⟩, trivial⟩ ?_
  refine ax ?_
  (conv => whnf); exact And.intro (by first | rfl | (simp [AV.pure, aZ]; done) | fail) rfl
 have hvl : ((b.drop (A + 4)).take n).length = n := by simp; omega
 have hrd := w1 k.toNat (by omega) a ((b.drop (A + 4)).take n) (by omega) (by omega) wide
 have hsl := yp b (A + 4) n (at_ + (2 + 2) + (n : Int)).toNat (by omega)
 rw [show A + 4 = (at_ + (2 + 2)).toNat from by omega] at hsl
 unfold a7 at hrd
 cases hs : bz (wd wide) k.toNat ((b.drop (A + 4)).take n) a with
 | none =>
  rw [hs] at hrd
  simp only [b6] at hrd
  rw [show A + 4 = (at_ + (2 + 2)).toNat from by omega, ← hsl] at hrd
  have hR : R = lZ (2, zeroA) := by
   by_cases q : di ⟨c, k, true, (b.drop (A + 4)).take n, b.drop (A + 4 + n)⟩
   ·exact h3 c1 c2 q
   ·exact h4 c1 c2 q hs
  rw [hR]
  by_cases c3 : iM c = ((bx (k.toNat : Int)).toNat : Int)
  ·refine evl ?_
   repeat' ((conv => whnf); first | refine gP hbit ?_ | refine d5 ?_ | refine gp ?_ | refine b8 ?_ | refine dz ?_ | refine kX [(300, _, _)] [] ⟨rfl, trivial⟩ trivial (hrd) ?_ | (refine aa ?_ ?_ <;> intro h))
   all_goals
    refine bm [] [(68, some (_, .cells zeroA.enc))] trivial ⟨⟨rfl, leA⟩, trivial⟩ ?_
    refine ax ?_
    (conv => whnf); exact And.intro (by first | rfl | (simp [AV.pure, aZ]; done) | fail) rfl
  ·refine evl ?_
   repeat' ((conv => whnf); first | refine gP hbit ?_ | refine d5 ?_ | refine gp ?_ | refine b8 ?_ | refine dz ?_ | refine kX [(300, _, _)] [] ⟨rfl, trivial⟩ trivial (hrd) ?_ | (refine aa ?_ ?_ <;> intro h))
   all_goals
    refine bm [] [(68, some (_, .cells zeroA.enc))] trivial ⟨⟨rfl, leA⟩, trivial⟩ ?_
    refine ax ?_
    (conv => whnf); exact And.intro (by first | rfl | (simp [AV.pure, aZ]; done) | fail) rfl
 | some a' =>
  rw [hs] at hrd
  simp only [b6] at hrd
  rw [show A + 4 = (at_ + (2 + 2)).toNat from by omega, ← hsl] at hrd
  by_cases c3 : iM c = ((bx (k.toNat : Int)).toNat : Int)
  ·by_cases c4 : n ≤ 255
   ·rw [h3 c1 c2 (.inr ⟨rfl, by simp only; omega⟩)]
    cases hik : dy k.toNat
    ·rw [hik] at hrd
     refine evl ?_
     repeat' ((conv => whnf); first | refine gP hbit ?_ | refine d5 ?_ | refine gp ?_ | refine b8 ?_ | refine dz ?_ | refine kX [(300, _, _)] [] ⟨rfl, trivial⟩ trivial (hrd) ?_ | (refine aa ?_ ?_ <;> intro h))
     all_goals
      refine bm [] [(68, some (_, .cells zeroA.enc))] trivial ⟨⟨rfl, leA⟩, trivial⟩ ?_
      refine ax ?_
      (conv => whnf); exact And.intro (by first | rfl | (simp [AV.pure, aZ]; done) | fail) rfl
    ·rw [hik] at hrd
     refine evl ?_
     repeat' ((conv => whnf); first | refine gP hbit ?_ | refine d5 ?_ | refine gp ?_ | refine b8 ?_ | refine dz ?_ | refine kX [(300, _, _)] [] ⟨rfl, trivial⟩ trivial (hrd) ?_ | (refine aa ?_ ?_ <;> intro h))
     all_goals
      refine bm [] [(68, some (_, .cells zeroA.enc))] trivial ⟨⟨rfl, leA⟩, trivial⟩ ?_
      refine ax ?_
      (conv => whnf); exact And.intro (by first | rfl | (simp [AV.pure, aZ]; done) | fail) rfl
   ·have hnb : ¬ di ⟨c, k, true, (b.drop (A + 4)).take n, b.drop (A + 4 + n)⟩ := by simp [di, c3]; omega
    have go := go c1 c2 hnb a' hs
    cases hik : dy k.toNat
    ·rw [hik] at hrd
     refine evl ?_
     repeat' ((conv => whnf); first | refine gP hbit ?_ | refine d5 ?_ | refine gp ?_ | refine b8 ?_ | refine dz ?_ | refine kX [(300, _, _)] [] ⟨rfl, trivial⟩ trivial (hrd) ?_ | (refine aa ?_ ?_ <;> intro h))
     all_goals
      refine ag [4, 8, 6, 1, 0, 7, 9] [68, 72, 70, 300] ?_
      rw [show 0 + ((k.toNat : Int)).toNat * 1 = k.toNat from by omega, x5]
      exact go _ _ _ _ _ _ _ _ (by omega)
    ·rw [hik] at hrd
     refine evl ?_
     repeat' ((conv => whnf); first | refine gP hbit ?_ | refine d5 ?_ | refine gp ?_ | refine b8 ?_ | refine dz ?_ | refine kX [(300, _, _)] [] ⟨rfl, trivial⟩ trivial (hrd) ?_ | (refine aa ?_ ?_ <;> intro h))
     all_goals
      refine ag [4, 8, 6, 1, 0, 7, 9] [68, 72, 70, 300] ?_
      rw [show 0 + ((k.toNat : Int)).toNat * 1 = k.toNat from by omega, x5]
      exact go _ _ _ _ _ _ _ _ (by omega)
  ·rw [h3 c1 c2 (.inl c3)]
   cases hik : dy k.toNat
   ·rw [hik] at hrd
    refine evl ?_
    repeat' ((conv => whnf); first | refine gP hbit ?_ | refine d5 ?_ | refine gp ?_ | refine b8 ?_ | refine dz ?_ | refine kX [(300, _, _)] [] ⟨rfl, trivial⟩ trivial (hrd) ?_ | (refine aa ?_ ?_ <;> intro h))
    all_goals
     refine bm [] [(68, some (_, .cells zeroA.enc))] trivial ⟨⟨rfl, leA⟩, trivial⟩ ?_
     refine ax ?_
     (conv => whnf); exact And.intro (by first | rfl | (simp [AV.pure, aZ]; done) | fail) rfl
   ·rw [hik] at hrd
    refine evl ?_
    repeat' ((conv => whnf); first | refine gP hbit ?_ | refine d5 ?_ | refine gp ?_ | refine b8 ?_ | refine dz ?_ | refine kX [(300, _, _)] [] ⟨rfl, trivial⟩ trivial (hrd) ?_ | (refine aa ?_ ?_ <;> intro h))
    all_goals
     refine bm [] [(68, some (_, .cells zeroA.enc))] trivial ⟨⟨rfl, leA⟩, trivial⟩ ?_
     refine ax ?_
     (conv => whnf); exact And.intro (by first | rfl | (simp [AV.pure, aZ]; done) | fail) rfl
end Go.AM.IR
namespace Go.AM.IR
theorem nf (m : Nat → Bool) : ∀ l : List Nat, aZ (l.map fun i => AV.bool (m i)) = true
 | [] => rfl
 | _ :: r => by simp only [List.map_cons, aZ, AV.pure, nf m r, Bool.and_self]
@[simp] theorem awY (m : Nat → Bool) : aZ (l8 m) = true := nf m _
theorem x7 (wide : Bool) (b : List UInt8) (hl : b.length < 2 ^ 29) : ∀ (f : Nat) (r0 : List UInt8) (A : Nat) (at_ : Int) (hat : at_ = (A : Int)) (hA : A ≤ b.length) (hb : b.drop A = r0) (last : Int) (nd : Nat) (ru : Nat → Bool) (a : Attrs) (T : List (Nat × AV)) (H : aq) (c g1 g2 g3 g4 : Nat) (hf : r0.length ≤ f) (hu : a.unknown.length ≤ A) (hm : MetOk ru last nd) (hD : DB b.length a),
  Ev G ⟨nn, ⟨(4, .ref 68 g1 0) :: (8, .ref 72 g4 0) :: (6, .ref 70 g2 0) :: (1, .bool wide) :: (0, .sl 1 (byteCells b)) :: (7, .int .i64 last) :: (9, .int .i64 at_) :: T, (68, some (g1, .cells ta)) :: (72, some (g4, .cells (l8 ru))) :: (70, some (g2, .cells (a.cellsV (.vs 300 g3 a.unknown.length)))) :: (300, some (g3, .vec 2 (a.unknown.map TLV.enc))) :: H, c⟩, [.cell 4 (some 16), .t 5], 0⟩ (lZ (jC (wd wide) f r0 last nd a))
 | f, [], A, at_, hat, hA, hb, last, nd, ru, a, T, H, c_, g1, g2, g3, g4, hf, hu, hm, hD => by
  rw [show jC (wd wide) f [] last nd a = kH nd a from by cases f <;> rfl]
  have hbl := au b
  have hul : (a.unknown.map TLV.enc).length = a.unknown.length := by simp
  have hal : b.length ≤ A := by simpa using hb
  have hck := kM a (hD.lenB (by omega) (by omega))
  obtain ⟨hn, _⟩ := hm
  refine Ix [(300, _, _)] [4, 8, 6, 1, 0, 7, 9] [68, 70] [72] ⟨rfl, frP, trivial⟩ ?_; repeat ((conv => whnf); first | refine frA ?_ | intro T H)
  by_cases h3 : nd < 3
  ·rw [show kH nd a = (6, zeroA) from by rw [kH, if_pos h3]]
   cases h1 : ru 1
   ·refine evl ?_
    repeat' ((conv => whnf); first | refine b8 ?_ | refine dz ?_ | (refine aa ?_ ?_ <;> intro h))
    refine bm [] [(68, some (_, .cells zeroA.enc))] trivial ⟨⟨rfl, leA⟩, trivial⟩ ?_
    refine ax ?_
    (conv => whnf); exact And.intro (by first | rfl | (simp [AV.pure, aZ]; done) | fail) rfl
   ·cases h2 : ru 2
    ·refine evl ?_
     repeat' ((conv => whnf); first | refine b8 ?_ | refine dz ?_ | (refine aa ?_ ?_ <;> intro h))
     refine bm [] [(68, some (_, .cells zeroA.enc))] trivial ⟨⟨rfl, leA⟩, trivial⟩ ?_
     refine ax ?_
     (conv => whnf); exact And.intro (by first | rfl | (simp [AV.pure, aZ]; done) | fail) rfl
    ·have h3 : ru 3 = false := by
      cases q : ru 3
      ·rfl
      ·rw [h1, h2, q] at hn; simp at hn; omega
     refine evl ?_
     repeat' ((conv => whnf); first | refine b8 ?_ | refine dz ?_ | (refine aa ?_ ?_ <;> intro h))
     refine bm [] [(68, some (_, .cells zeroA.enc))] trivial ⟨⟨rfl, leA⟩, trivial⟩ ?_
     refine ax ?_
     (conv => whnf); exact And.intro (by first | rfl | (simp [AV.pure, aZ]; done) | fail) rfl
  ·have hh : ru 1 = true ∧ ru 2 = true ∧ ru 3 = true := by
    cases h1 : ru 1 <;> cases h2 : ru 2 <;> cases h4 : ru 3 <;> rw [h1, h2, h4] at hn <;> simp at hn <;> first | omega | simp
   obtain ⟨h1, h2, h4⟩ := hh
   by_cases h0 : bW a = 0
   ·rw [show kH nd a = (0, a) from by rw [kH, if_neg h3, if_pos h0]]
    rw [h0] at hck
    refine evl ?_
    repeat' ((conv => whnf); first | refine b8 ?_ | refine dz ?_ | (refine aa ?_ ?_ <;> intro h))
    refine ax ?_
    (conv => whnf); exact And.intro (by simp [AV.pure, aZ]) rfl
   ·rw [show kH nd a = (bW a, zeroA) from by rw [kH, if_neg h3, if_neg h0]]
    refine evl ?_
    repeat' ((conv => whnf); first | refine b8 ?_ | refine dz ?_ | (refine aa ?_ ?_ <;> intro h))
    refine bm [] [(68, some (_, .cells zeroA.enc))] trivial ⟨⟨rfl, leA⟩, trivial⟩ ?_
    refine ax ?_
    (conv => whnf); exact And.intro (by first | rfl | (simp [AV.pure, aZ]; done) | fail) rfl
 | 0, c :: r, A, at_, hat, hA, hb, last, nd, ru, a, T, H, c_, g1, g2, g3, g4, hf, hu, hm, hD => absurd hf (by simp)
 | f + 1, [c], A, at_, hat, hA, hb, last, nd, ru, a, T, H, c_, g1, g2, g3, g4, hf, hu, hm, hD => by
  rw [iv rfl]
  have hbl := au b
  have hrl := (lM hb).2.2
  simp only [List.length_nil] at hrl
  refine evl ?_
  repeat' (first | refine ab ?_ | (refine aa ?_ ?_ <;> intro h))
  refine bm [] [(68, some (_, .cells zeroA.enc))] trivial ⟨⟨rfl, leA⟩, trivial⟩ ?_
  refine ax ?_
  (conv => whnf); exact And.intro (by first | rfl | (simp [AV.pure, aZ]; done) | fail) rfl
 | f + 1, [c, k], A, at_, hat, hA, hb, last, nd, ru, a, T, H, c_, g1, g2, g3, g4, hf, hu, hm, hD => by
  rw [iv rfl]
  have hbl := au b
  have hrl := (lM hb).2.2
  simp only [List.length_nil, List.length_cons] at hrl
  refine evl ?_
  repeat' (first | refine ab ?_ | (refine aa ?_ ?_ <;> intro h))
  refine bm [] [(68, some (_, .cells zeroA.enc))] trivial ⟨⟨rfl, leA⟩, trivial⟩ ?_
  refine ax ?_
  (conv => whnf); exact And.intro (by first | rfl | (simp [AV.pure, aZ]; done) | fail) rfl
 | f + 1, c :: k :: n :: r, A, at_, hat, hA, hb, last, nd, ru, a, T, H, c_, g1, g2, g3, g4, hf, hu, hm, hD => by
  have hbl := au b
  have hn := n.toNat_lt
  have hcc := c.toNat_lt
  have hk := k.toNat_lt
  obtain ⟨x1, x2, hrl⟩ := lM hb
  obtain ⟨x3, x4, _⟩ := lM x2
  have y1 : (byteCells b)[at_.toNat]? = some [.int .u8 (c.toNat : Int)] := by rw [hat]; exact x1
  have y2 : (byteCells b)[(at_ + 1).toNat]? = some [.int .u8 (k.toNat : Int)] := by rw [hat]; exact x3
  simp only [List.length_cons] at hf hrl
  cases hbit : fq c
  ·have aX := b5 b (by omega) (at_ + 2) 1 (by omega) (by omega) (by omega) (by omega)
   rw [show rd ((b.drop (at_ + 2).toNat).take (1 : Int).toNat) = n.toNat from by rw [show (at_ + 2).toNat = A + 2 from by omega, ← List.drop_drop, hb]; simp [rd]] at aX
   have hat2 := J8 c k n r hbit
   have e3 : b.drop (A + 3) = r := by rw [← List.drop_drop, hb]; rfl
   have e4 : b.drop (A + 3 + n.toNat) = r.drop n.toNat := by rw [← List.drop_drop, e3]
   refine aq8 wide b A at_ hat c k n.toNat y1 y2 hbit (by omega) (by omega) aX (by omega) last ru a (by omega) _ ?_ ?_ ?_ ?_ ?_ T H c_ g1 g2 g3 g4
   all_goals try simp only [e3, e4]
   ·intro q; rw [if_pos (by omega)] at hat2; rw [iv hat2]
   ·intro q q2; rw [if_neg (by omega)] at hat2; rw [fj hat2, if_pos q2]
   ·intro q q2 q3; rw [if_neg (by omega)] at hat2; rw [fj hat2, if_neg q2, if_pos q3]
   ·intro q q2 q3 q4; rw [if_neg (by omega)] at hat2; rw [fj hat2, if_neg q2, if_neg q3]; simp only [q4]
   ·intro q q2 q3 a' q4 T H c_ g1 g2 g3 g4 at2 hat3
    rw [if_neg (by omega)] at hat2; rw [fj hat2, if_neg q2, if_neg q3]; simp only [q4]
    obtain ⟨d1, d2⟩ := uQ hD (by simp; omega) q4
    exact x7 wide b hl f (r.drop n.toNat) (A + 3 + n.toNat) at2 hat3 (by omega) e4 _ _ _ a' T H c_ g1 g2 g3 g4 (by simp; omega) (by omega) (L6 hm (by omega) q2) d1
  ·cases r with
   | nil =>
    simp only [List.length_nil] at hrl
    rw [iv (show gY [c, k, n] = none from by simp [gY, hbit])]
    refine evl ?_
    repeat' ((conv => whnf); first | refine gP hbit ?_ | refine dz ?_ | (refine aa ?_ ?_ <;> intro h))
    refine bm [] [(68, some (_, .cells zeroA.enc))] trivial ⟨⟨rfl, leA⟩, trivial⟩ ?_
    refine ax ?_
    (conv => whnf); exact And.intro (by first | rfl | (simp [AV.pure, aZ]; done) | fail) rfl
   | cons m r =>
    have hm2 := m.toNat_lt
    simp only [List.length_cons] at hf hrl
    have aX := b5 b (by omega) (at_ + 2) 2 (by omega) (by omega) (by omega) (by omega)
    rw [show rd ((b.drop (at_ + 2).toNat).take (2 : Int).toNat) = (n.toNat * 256 + m.toNat) from by rw [show (at_ + 2).toNat = A + 2 from by omega, ← List.drop_drop, hb]; simp [rd]] at aX
    have hat2 := OB c k n m r hbit
    have e3 : b.drop (A + 4) = r := by rw [← List.drop_drop, hb]; rfl
    have e4 : b.drop (A + 4 + (n.toNat * 256 + m.toNat)) = r.drop (n.toNat * 256 + m.toNat) := by rw [← List.drop_drop, e3]
    refine ash wide b A at_ hat c k (n.toNat * 256 + m.toNat) y1 y2 hbit (by omega) (by omega) aX (by omega) last ru a (by omega) _ ?_ ?_ ?_ ?_ ?_ T H c_ g1 g2 g3 g4
    all_goals try simp only [e3, e4]
    ·intro q; rw [if_pos (by omega)] at hat2; rw [iv hat2]
    ·intro q q2; rw [if_neg (by omega)] at hat2; rw [fj hat2, if_pos q2]
    ·intro q q2 q3; rw [if_neg (by omega)] at hat2; rw [fj hat2, if_neg q2, if_pos q3]
    ·intro q q2 q3 q4; rw [if_neg (by omega)] at hat2; rw [fj hat2, if_neg q2, if_neg q3]; simp only [q4]
    ·intro q q2 q3 a' q4 T H c_ g1 g2 g3 g4 at2 hat3
     rw [if_neg (by omega)] at hat2; rw [fj hat2, if_neg q2, if_neg q3]; simp only [q4]
     obtain ⟨d1, d2⟩ := uQ hD (by simp; omega) q4
     exact x7 wide b hl f (r.drop (n.toNat * 256 + m.toNat)) (A + 4 + (n.toNat * 256 + m.toNat)) at2 hat3 (by omega) e4 _ _ _ a' T H c_ g1 g2 g3 g4 (by simp; omega) (by omega) (L6 hm (by omega) q2) d1
theorem NN (b : List UInt8) (wide : Bool) (hb : b.length < 2 ^ 28) : ah G 71 [.sl 1 (byteCells b), .bool wide] [] (lZ (jV (wd wide) b)) := by
 refine ae (F := f71) rfl rfl (az 300 _ _ _ _ ?_)
 repeat' (first | refine ab ?_ | (refine aa ?_ ?_ <;> intro h))
 refine cH 300 2 [] [(70, some (_, .cells (zeroA.cellsV (.vs 300 _ 0))))] trivial ⟨⟨rfl, .refl _, LeP.nil 2, .refl _, .refl _, .refl _, .refl _, .refl _, .refl _, .refl _, .refl _, .refl _, LeP.nil 1, .refl _, .refl _, LeP.nil 1, LeP.nilV _ _ _, trivial⟩, trivial⟩ ?_
 refine ag [4, 8, 6, 1, 0, 7, 9] [68, 72, 70, 300] ?_
 exact x7 wide b (by omega) b.length b 0 0 rfl (by omega) rfl (-1) 0 (fun _ => false) zeroA _ _ _ _ _ _ _ (Nat.le_refl _) (by simp [zeroA]) ⟨rfl, by simp⟩ ⟨by simp [zeroA], by simp [zeroA], by simp [zeroA], by simp [zeroA], by simp [zeroA]⟩
end Go.AM.IR
namespace Go.AM.IR
theorem X9 (oq : List UInt8) (hb : oq.length < 2 ^ 28) (h23 : 23 ≤ oq.length) (wide : Bool) : ah G 363 [.sl 1 (byteCells oq), .bool wide] [] (nu (Bg wide (oq.drop 19))) := by
 have rl : (oq.drop 19).length = oq.length - 19 := List.length_drop
 unfold Bg
 obtain ⟨su, hwn⟩ : ∃ su, su = rd ((oq.drop 19).take 2) := ⟨_, rfl⟩
 rw [← hwn]
 by_cases h : (oq.drop 19).length < 4 + su
 ·rw [if_pos h]
  exact auH oq hb h23 wide su hwn (by omega)
 ·rw [if_neg h]
  have eA : ((oq.drop 19).drop 2).drop su = oq.drop (21 + su) := by rw [List.drop_drop, List.drop_drop, show 19 + (2 + su) = 21 + su from by omega]
  have eB : ((oq.drop 19).drop 2).drop (su + 2) = oq.drop (23 + su) := by rw [List.drop_drop, List.drop_drop, show 19 + (2 + (su + 2)) = 23 + su from by omega]
  have lB : (oq.drop (23 + su)).length = oq.length - (23 + su) := List.length_drop
  rw [eA, eB]
  obtain ⟨n, hn⟩ : ∃ n, n = rd ((oq.drop (21 + su)).take 2) := ⟨_, rfl⟩
  rw [← hn]
  unfold JO
  by_cases h2 : (oq.drop (23 + su)).length < n
  ·rw [if_pos h2]
   exact auG oq hb h23 wide su hwn (by omega) n hn (by omega)
  ·rw [if_neg h2]
   have c1 : List.take ((21 + (su : Int)).toNat - Int.toNat 21) (List.drop (Int.toNat 21) (byteCells oq)) = byteCells (((oq.drop 19).drop 2).take su) := by
    rw [show (21 + (su : Int)).toNat - Int.toNat 21 = su from by show (21 + (su : Int)).toNat - 21 = su; omega, List.drop_drop]
    simp [byteCells]
   have c2 : List.take ((byteCells oq).length - (23 + (su : Int) + (n : Int)).toNat) (List.drop (23 + (su : Int) + (n : Int)).toNat (byteCells oq)) = byteCells ((oq.drop (23 + su)).drop n) := by
    rw [List.take_of_length_le (by rw [List.length_drop]; exact Nat.le_refl _), List.drop_drop, show (23 + (su : Int) + (n : Int)).toNat = 23 + su + n from by omega]
    simp [byteCells]
   have c3 : List.take ((23 + (su : Int) + (n : Int)).toNat - (23 + (su : Int)).toNat) (List.drop (23 + (su : Int)).toNat (byteCells oq)) = byteCells ((oq.drop (23 + su)).take n) := by
    rw [show (23 + (su : Int) + (n : Int)).toNat - (23 + (su : Int)).toNat = n from by omega, show (23 + (su : Int)).toNat = 23 + su from by omega]
    simp [byteCells]
   have l1 : (((oq.drop 19).drop 2).take su).length ≤ oq.length := by rw [List.length_take, List.length_drop]; omega
   have l2 : ((oq.drop (23 + su)).drop n).length ≤ oq.length := by rw [List.length_drop]; omega
   have l3 : ((oq.drop (23 + su)).take n).length = n := by rw [List.length_take]; omega
   have hn16 : n < 256 ^ 2 := by rw [hn]; exact cn (by rw [List.length_take]; omega)
   have u1 := B9 (((oq.drop 19).drop 2).take su) (by omega)
   have u2 := B9 ((oq.drop (23 + su)).drop n) (by omega)
   have hd := NN ((oq.drop (23 + su)).take n) wide (by omega)
   rw [← c1] at u1
   rw [← c2] at u2
   rw [← c3] at hd
   generalize ((oq.drop 19).drop 2).take su = p at *
   generalize (oq.drop (23 + su)).drop n = q at *
   generalize (oq.drop (23 + su)).take n = a at *
   cases hup : unP p.length p with
   | none =>
    rw [hup] at u1
    exact ath oq hb h23 wide su hwn (by omega) n hn (by omega) u1 _ u2
   | some w =>
    rw [hup] at u1
    cases huq : unP q.length q with
    | none =>
     rw [huq] at u2
     exact atg oq hb h23 wide su hwn (by omega) n hn (by omega) w u1 u2
    | some x =>
     rw [huq] at u2
     obtain ⟨e1, o1⟩ := sj _ _ _ hup
     obtain ⟨e2, o2⟩ := sj _ _ _ huq
     have n1 := sk w
     have n2 := sk x
     rw [e1] at n1
     rw [e2] at n2
     have hok : ∀ A : Attrs, (bb w x A).okP := fun A => ⟨fun y hy => (o1 y hy).1, fun y hy => (o2 y hy).1⟩
     have hz : AB zeroA := ⟨by simp [zeroA], by simp [zeroA, bC], by simp [zeroA], by simp [zeroA], by simp [zeroA], by simp [zeroA], by simp [zeroA, fY]⟩
     refine auF oq hb h23 wide su hwn (by omega) n hn (by omega) w x u1 u2 _ ?_
     intro g0 g1 g2 g3 g4 T H c
     show Ev G _ (nu (xN wide a w x))
     unfold xN
     by_cases he : a = [] ∧ x = []
     ·rw [if_pos he]
      obtain ⟨ea, ex⟩ := he
      subst ea ex
      obtain rfl : n = 0 := l3.symm
      obtain ⟨k1, k2⟩ := ye (w := w) (x := []) (by omega) (by simp) hz
      exact atn oq w su wide g0 g1 g2 g3 g4 T H c (ee _ k1 k2 (hok _))
     ·rw [if_neg he]
      have hne : 0 < n ∨ 0 < x.length := by
       rcases Nat.eq_zero_or_pos n with h | h
       ·rcases Nat.eq_zero_or_pos x.length with h' | h'
        ·exact absurd ⟨List.length_eq_zero_iff.1 (by omega), List.length_eq_zero_iff.1 h'⟩ he
        ·exact .inr h'
       ·exact .inl h
      cases hD : jV (wd wide) a with
      | mk e y =>
       rw [hD, lZ] at hd
       simp only at hd ⊢
       obtain ⟨oy, ay⟩ := ale (by omega) hD
       by_cases e6 : e = 6
       ·rw [if_pos e6]; exact atl oq a w x su n wide (by omega) (by omega) (by omega) hne e y hd e6 g0 g1 g2 g3 g4 T H c
       ·rw [if_neg e6]
        by_cases e0 : e = 0
        ·rw [if_neg (by simp [e0])]
         subst e0
         by_cases hx : x = []
         ·rw [if_pos hx]; subst hx
          exact atj oq a w su n wide (by omega) (by omega) (by rcases hne with h | h; exact h; simp at h) y hd g0 g1 g2 g3 g4 T H c
         ·rw [if_neg hx]
          obtain ⟨k1, k2⟩ := ye (w := w) (x := x) (by omega) (by omega) ay
          exact ati oq a w x su n wide (by omega) (by omega) (by omega) (List.length_pos_iff.2 hx) y hd (ee _ k1 k2 (hok _)) g0 g1 g2 g3 g4 T H c
        ·rw [if_pos e0]; exact atm oq a w x su n wide (by omega) (by omega) (by omega) hne e y hd e6 e0 g0 g1 g2 g3 g4 T H c
end Go.AM.IR
namespace Go.AM.IR
theorem pm (b : List UInt8) (wide : Bool) (t : Ret) (l0 : List UInt8) (hl0 : l0.length < 2 ^ 40) (g1 g2 : Nat) : ∀ (l d : List UInt8) (T : List (Nat × AV)) (H : aq) (c : Nat) (n : Int), d ++ l = l0 → n = d.length →
  (l.any (fun c => c != 255) = false → ∀ (T : List (Nat × AV)) (H : aq) (c : Nat), Ev G ⟨[.code (suf 3 cz.body)], ⟨(0, .sl 1 (byteCells b)) :: (1, .bool wide) :: (4, .ref 68 g1 0) :: (6, .ref 70 g2 0) :: (7, .int .i64 0) :: T, (68, some (g1, .cells ap.enc)) :: (70, some (g2, .cells ap.enc)) :: H, c⟩, [.cell 4 (some 27), .t 5, .cell 6 (some 27), .t 7], 0⟩ t) → (l.any (fun c => c != 255) = true → kd (ap, 0, bc 1 1 [], 2) = t) →
  Ev G ⟨QQ, ⟨(23, .int .i64 n) :: (22, .int .i64 l0.length) :: (21, .sl 1 (byteCells l0)) :: (0, .sl 1 (byteCells b)) :: (1, .bool wide) :: (4, .ref 68 g1 0) :: (6, .ref 70 g2 0) :: (7, .int .i64 0) :: T, (68, some (g1, .cells ap.enc)) :: (70, some (g2, .cells ap.enc)) :: H, c⟩, [.cell 4 (some 27), .t 5, .cell 6 (some 27), .t 7], 0⟩ t
 | [], d, T, H, c, n, e, hn, K, B => by
  have hd : l0.length = d.length := by rw [← e]; simp
  have hle : ¬ (n < (l0.length : Int)) := by omega
  refine dG (cP 1 300 _ _ _ _ ?_)
  repeat' (first | refine ab ?_ | (refine aa ?_ ?_ <;> intro h))
  refine ag [0, 1, 4, 6, 7] [68, 70] ?_
  exact K rfl _ _ _
 | x :: r, d, T, H, c, n, e, hn, K, B => by
  have hd : l0.length = d.length + (r.length + 1) := by rw [← e]; simp
  have hlt : n < (l0.length : Int) := by omega
  have hx : (byteCells l0)[n.toNat]? = some [.int .u8 x.toNat] := by
   rw [← e, show n.toNat = d.length from by omega]
   simp [byteCells]
  have hx8 := x.toNat_lt
  by_cases h : x = 255
  ·subst h
   have hx' : (byteCells l0)[n.toNat]? = some [.int .u8 255] := hx
   clear hx
   refine dG (cP 1 300 _ _ _ _ ?_)
   repeat' (first | refine ab ?_ | (refine aa ?_ ?_ <;> intro h))
   refine ag [23, 22, 21, 0, 1, 4, 6, 7] [68, 70] ?_
   exact pm b wide t l0 hl0 g1 g2 r (d ++ [255]) _ _ _ (n + 1) (by rw [← e]; simp) (by rw [List.length_append]; simp only [List.length_cons, List.length_nil]; omega) (fun q => K (by simpa using q)) (fun q => B (by simpa using q))
  ·have hne : ¬ ((x.toNat : Int) = 255) := fun q => h (UInt8.toNat_inj.1 (by simp; omega))
   rw [← B (by simp [h])]
   have h6 : ah G 198 [.int .i64 1, .int .i64 1, .con (.slice none 0 0)] [] ⟨.agg (bc 1 1 []).enc, []⟩ := bP 1 1
   refine dG (cP 1 300 _ _ _ _ ?_)
   repeat' (first | refine ab ?_ | (refine aa ?_ ?_ <;> intro h))
   refine bm [] [(68, some (_, .cells ap.enc))] trivial ⟨⟨rfl, leA⟩, trivial⟩ ?_
   refine ax ?_
   repeat ((conv => whnf); refine frB ?_)
   rfl
theorem Sw (b : List UInt8) (hb : b.length < 2 ^ 40) (wide : Bool) (h : b.length < 19) : ah G 194 [.sl 1 (byteCells b), .bool wide] [] (kd (ap, 0, ap, 3)) := by
 have hbl := au b
 refine ae (F := cz) rfl rfl (az 300 _ _ _ _ ?_)
 repeat' (first | refine ab ?_ | (refine aa ?_ ?_ <;> intro h))
 refine bm [] [(68, some (_, .cells ap.enc)), (70, some (_, .cells ap.enc))] trivial ⟨⟨rfl, leA⟩, ⟨rfl, .refl _, .refl _, .refl _, .refl _, .refl _, LeP.nil 2, LeP.nil 2, .refl _, LeP.nil 2, .refl _, .refl _, .refl _, .refl _, .refl _, .refl _, .refl _, .refl _, .refl _, LeP.nil 1, .refl _, .refl _, LeP.nil 1, LeP.nil 2, LeP.nil 2, .refl _, .refl _, LeP.nil 1, trivial⟩, trivial⟩ ?_
 refine ax ?_
 repeat ((conv => whnf); refine frB ?_)
 rfl
theorem Sv (b : List UInt8) (hb : b.length < 2 ^ 40) (wide : Bool) (h : 19 ≤ b.length) (t : Ret)
  (K : (b.take 16).any (fun c => c != 255) = false → ∀ (g1 g2 : Nat) (T : List (Nat × AV)) (H : aq) (c : Nat), Ev G ⟨[.code (suf 3 cz.body)], ⟨(0, .sl 1 (byteCells b)) :: (1, .bool wide) :: (4, .ref 68 g1 0) :: (6, .ref 70 g2 0) :: (7, .int .i64 0) :: T, (68, some (g1, .cells ap.enc)) :: (70, some (g2, .cells ap.enc)) :: H, c⟩, [.cell 4 (some 27), .t 5, .cell 6 (some 27), .t 7], 0⟩ t) (B : (b.take 16).any (fun c => c != 255) = true → kd (ap, 0, bc 1 1 [], 2) = t) : ah G 194 [.sl 1 (byteCells b), .bool wide] [] t := by
 have hbl := au b
 have hcut : List.take (Int.toNat 16 - 0) (List.drop 0 (byteCells b)) = byteCells (b.take 16) := by simp [byteCells]
 have hln : (List.take (Int.toNat 16 - 0) (List.drop 0 (byteCells b))).length = (b.take 16).length := by rw [hcut, au]
 have hl16 : (b.take 16).length = 16 := by rw [List.length_take]; omega
 refine ae (F := cz) rfl rfl (az 300 _ _ _ _ ?_)
 repeat' (first | refine ab ?_ | (refine aa ?_ ?_ <;> intro h))
 refine bm [] [(68, some (_, .cells ap.enc)), (70, some (_, .cells ap.enc))] trivial ⟨⟨rfl, leA⟩, ⟨rfl, .refl _, .refl _, .refl _, .refl _, .refl _, LeP.nil 2, LeP.nil 2, .refl _, LeP.nil 2, .refl _, .refl _, .refl _, .refl _, .refl _, .refl _, .refl _, .refl _, .refl _, LeP.nil 1, .refl _, .refl _, LeP.nil 1, LeP.nil 2, LeP.nil 2, .refl _, .refl _, LeP.nil 1, trivial⟩, trivial⟩ ?_
 refine ag [23, 22, 21, 0, 1, 4, 6, 7] [68, 70] ?_
 rw [hln, hcut]
 exact pm b wide t (b.take 16) (by omega) _ _ (b.take 16) [] _ _ _ 0 rfl rfl (fun q => K q _ _) B
theorem Ol (b : List UInt8) (hb : b.length < 2 ^ 40) (wide : Bool) (h19 : 19 ≤ b.length) (x y k : UInt8) (hx : (byteCells b)[16]? = some [.int .u8 x.toNat]) (hy : (byteCells b)[17]? = some [.int .u8 y.toNat]) (hk : (byteCells b)[18]? = some [.int .u8 k.toNat]) (n : Nat) (hn : n = rd ((b.drop 16).take 2)) (q : n < 19) (g1 g2 : Nat) (T : List (Nat × AV)) (H : aq) (c : Nat) : Ev G ⟨[.code (suf 3 cz.body)], ⟨(0, .sl 1 (byteCells b)) :: (1, .bool wide) :: (4, .ref 68 g1 0) :: (6, .ref 70 g2 0) :: (7, .int .i64 0) :: T, (68, some (g1, .cells ap.enc)) :: (70, some (g2, .cells ap.enc)) :: H, c⟩, [.cell 4 (some 27), .t 5, .cell 6 (some 27), .t 7], 0⟩ (kd (ap, 0, bc 1 2 [x, y], 2)) := by
 have hbl := au b
 have hx8 := x.toNat_lt
 have hy8 := y.toNat_lt
 have hk8 := k.toNat_lt
 have hr : n < 256 ^ 2 := by rw [hn]; exact cn (by simp; omega)
 have hg : ah G 110 [.sl 1 (byteCells b), .int .i64 16, .int .i64 2] [] ⟨.tup [.int .u64 (n : Nat), .bool true], []⟩ := by
  rw [hn]; exact fQ b hb 16 2 (by omega) (by omega) (by omega) (by omega)
 have hN : ah G 198 [.int .i64 1, .int .i64 2, .sl 1 [[.int .u8 x.toNat], [.int .u8 y.toNat]]] [] ⟨.agg (bc 1 2 [x, y]).enc, []⟩ := il 1 2 [x, y]
 clear hn
 refine wk3 ?_
 repeat' (first | refine ab ?_ | refine kX [] [(113, _, _)] trivial ⟨rfl, pz trivial⟩ (hN) ?_ | (refine aa ?_ ?_ <;> intro h))
 refine bm [] [(68, some (_, .cells ap.enc))] trivial ⟨⟨rfl, leA⟩, trivial⟩ ?_
 refine ax ?_
 repeat ((conv => whnf); refine frB ?_)
 rfl
theorem Oh (b : List UInt8) (hb : b.length < 2 ^ 40) (wide : Bool) (h19 : 19 ≤ b.length) (x y k : UInt8) (hx : (byteCells b)[16]? = some [.int .u8 x.toNat]) (hy : (byteCells b)[17]? = some [.int .u8 y.toNat]) (hk : (byteCells b)[18]? = some [.int .u8 k.toNat]) (n : Nat) (hn : n = rd ((b.drop 16).take 2)) (q : ¬ n < 19) (qk : k.toNat < 1 ∨ k.toNat > 5) (g1 g2 : Nat) (T : List (Nat × AV)) (H : aq) (c : Nat) : Ev G ⟨[.code (suf 3 cz.body)], ⟨(0, .sl 1 (byteCells b)) :: (1, .bool wide) :: (4, .ref 68 g1 0) :: (6, .ref 70 g2 0) :: (7, .int .i64 0) :: T, (68, some (g1, .cells ap.enc)) :: (70, some (g2, .cells ap.enc)) :: H, c⟩, [.cell 4 (some 27), .t 5, .cell 6 (some 27), .t 7], 0⟩ (kd (ap, 0, bc 1 3 [k], 15)) := by
 have hbl := au b
 have hx8 := x.toNat_lt
 have hy8 := y.toNat_lt
 have hk8 := k.toNat_lt
 have hr : n < 256 ^ 2 := by rw [hn]; exact cn (by simp; omega)
 have hg : ah G 110 [.sl 1 (byteCells b), .int .i64 16, .int .i64 2] [] ⟨.tup [.int .u64 (n : Nat), .bool true], []⟩ := by
  rw [hn]; exact fQ b hb 16 2 (by omega) (by omega) (by omega) (by omega)
 have hN : ah G 198 [.int .i64 1, .int .i64 2, .sl 1 [[.int .u8 x.toNat], [.int .u8 y.toNat]]] [] ⟨.agg (bc 1 2 [x, y]).enc, []⟩ := il 1 2 [x, y]
 have hM : ah G 198 [.int .i64 1, .int .i64 3, .sl 1 [[.int .u8 k.toNat]]] [] ⟨.agg (bc 1 3 [k]).enc, []⟩ := il 1 3 [k]
 clear hn
 by_cases k1 : k.toNat < 1
 ·refine wk3 ?_
  repeat' (first | refine ab ?_ | refine kX [] [(113, _, _)] trivial ⟨rfl, pz trivial⟩ (hN) ?_ | refine kX [] [(131, _, _)] trivial ⟨rfl, pz trivial⟩ (hM) ?_ | (refine aa ?_ ?_ <;> intro h))
  refine bm [] [(68, some (_, .cells ap.enc))] trivial ⟨⟨rfl, leA⟩, trivial⟩ ?_
  refine ax ?_
  repeat ((conv => whnf); refine frB ?_)
  rfl
 ·have k5 : k.toNat > 5 := by omega
  refine wk3 ?_
  repeat' (first | refine ab ?_ | refine kX [] [(113, _, _)] trivial ⟨rfl, pz trivial⟩ (hN) ?_ | refine kX [] [(131, _, _)] trivial ⟨rfl, pz trivial⟩ (hM) ?_ | (refine aa ?_ ?_ <;> intro h))
  refine bm [] [(68, some (_, .cells ap.enc))] trivial ⟨⟨rfl, leA⟩, trivial⟩ ?_
  refine ax ?_
  repeat ((conv => whnf); refine frB ?_)
  rfl
theorem Og (b : List UInt8) (hb : b.length < 2 ^ 40) (wide : Bool) (h19 : 19 ≤ b.length) (x y k : UInt8) (hx : (byteCells b)[16]? = some [.int .u8 x.toNat]) (hy : (byteCells b)[17]? = some [.int .u8 y.toNat]) (hk : (byteCells b)[18]? = some [.int .u8 k.toNat]) (n : Nat) (hn : n = rd ((b.drop 16).take 2)) (q : ¬ n < 19) (k1 : ¬ k.toNat < 1) (k5 : ¬ k.toNat > 5) (qb : ef (k.toNat : Nat) (n : Nat) = true) (g1 g2 : Nat) (T : List (Nat × AV)) (H : aq) (c : Nat) : Ev G ⟨[.code (suf 3 cz.body)], ⟨(0, .sl 1 (byteCells b)) :: (1, .bool wide) :: (4, .ref 68 g1 0) :: (6, .ref 70 g2 0) :: (7, .int .i64 0) :: T, (68, some (g1, .cells ap.enc)) :: (70, some (g2, .cells ap.enc)) :: H, c⟩, [.cell 4 (some 27), .t 5, .cell 6 (some 27), .t 7], 0⟩ (kd (ap, 0, bc 1 2 [x, y], 2)) := by
 have hbl := au b
 have hx8 := x.toNat_lt
 have hy8 := y.toNat_lt
 have hk8 := k.toNat_lt
 have hr : n < 256 ^ 2 := by rw [hn]; exact cn (by simp; omega)
 have hg : ah G 110 [.sl 1 (byteCells b), .int .i64 16, .int .i64 2] [] ⟨.tup [.int .u64 (n : Nat), .bool true], []⟩ := by
  rw [hn]; exact fQ b hb 16 2 (by omega) (by omega) (by omega) (by omega)
 have hN : ah G 198 [.int .i64 1, .int .i64 2, .sl 1 [[.int .u8 x.toNat], [.int .u8 y.toNat]]] [] ⟨.agg (bc 1 2 [x, y]).enc, []⟩ := il 1 2 [x, y]
 have hB := mi (k.toNat : Nat) (n : Nat) (by omega)
 rw [qb] at hB
 clear hn
 refine wk3 ?_
 repeat' (first | refine ab ?_ | refine kX [] [(113, _, _)] trivial ⟨rfl, pz trivial⟩ (hN) ?_ | (refine aa ?_ ?_ <;> intro h))
 refine bm [] [(68, some (_, .cells ap.enc))] trivial ⟨⟨rfl, leA⟩, trivial⟩ ?_
 refine ax ?_
 repeat ((conv => whnf); refine frB ?_)
 rfl
theorem Od (b : List UInt8) (hb : b.length < 2 ^ 40) (wide : Bool) (h19 : 19 ≤ b.length) (x y k : UInt8) (hx : (byteCells b)[16]? = some [.int .u8 x.toNat]) (hy : (byteCells b)[17]? = some [.int .u8 y.toNat]) (hk : (byteCells b)[18]? = some [.int .u8 k.toNat]) (n : Nat) (hn : n = rd ((b.drop 16).take 2)) (q : ¬ n < 19) (k1 : ¬ k.toNat < 1) (k5 : ¬ k.toNat > 5) (qb : ef (k.toNat : Nat) (n : Nat) = false) (ql : b.length < n) (g1 g2 : Nat) (T : List (Nat × AV)) (H : aq) (c : Nat) : Ev G ⟨[.code (suf 3 cz.body)], ⟨(0, .sl 1 (byteCells b)) :: (1, .bool wide) :: (4, .ref 68 g1 0) :: (6, .ref 70 g2 0) :: (7, .int .i64 0) :: T, (68, some (g1, .cells ap.enc)) :: (70, some (g2, .cells ap.enc)) :: H, c⟩, [.cell 4 (some 27), .t 5, .cell 6 (some 27), .t 7], 0⟩ (kd (ap, 0, ap, 3)) := by
 have hbl := au b
 have hx8 := x.toNat_lt
 have hy8 := y.toNat_lt
 have hk8 := k.toNat_lt
 have hr : n < 256 ^ 2 := by rw [hn]; exact cn (by simp; omega)
 have hg : ah G 110 [.sl 1 (byteCells b), .int .i64 16, .int .i64 2] [] ⟨.tup [.int .u64 (n : Nat), .bool true], []⟩ := by
  rw [hn]; exact fQ b hb 16 2 (by omega) (by omega) (by omega) (by omega)
 have hN : ah G 198 [.int .i64 1, .int .i64 2, .sl 1 [[.int .u8 x.toNat], [.int .u8 y.toNat]]] [] ⟨.agg (bc 1 2 [x, y]).enc, []⟩ := il 1 2 [x, y]
 have hB := mi (k.toNat : Nat) (n : Nat) (by omega)
 rw [qb] at hB
 clear hn
 refine wk3 ?_
 repeat' (first | refine ab ?_ | refine kX [] [(113, _, _)] trivial ⟨rfl, pz trivial⟩ (hN) ?_ | (refine aa ?_ ?_ <;> intro h))
 refine bm [] [(68, some (_, .cells ap.enc)), (70, some (_, .cells ap.enc))] trivial ⟨⟨rfl, leA⟩, ⟨rfl, .refl _, .refl _, .refl _, .refl _, .refl _, LeP.nil 2, LeP.nil 2, .refl _, LeP.nil 2, .refl _, .refl _, .refl _, .refl _, .refl _, .refl _, .refl _, .refl _, .refl _, LeP.nil 1, .refl _, .refl _, LeP.nil 1, LeP.nil 2, LeP.nil 2, .refl _, .refl _, LeP.nil 1, trivial⟩, trivial⟩ ?_
 refine ax ?_
 repeat ((conv => whnf); refine frB ?_)
 rfl
theorem Oc (b : List UInt8) (hb : b.length < 2 ^ 40) (wide : Bool) (h19 : 19 ≤ b.length) (x y k : UInt8) (hx : (byteCells b)[16]? = some [.int .u8 x.toNat]) (hy : (byteCells b)[17]? = some [.int .u8 y.toNat]) (hk : (byteCells b)[18]? = some [.int .u8 k.toNat]) (n : Nat) (hn : n = rd ((b.drop 16).take 2)) (q : ¬ n < 19) (k1 : ¬ k.toNat < 1) (k5 : ¬ k.toNat > 5) (qb : ef (k.toNat : Nat) (n : Nat) = false) (ql : ¬ b.length < n) (d : List UInt8) (hd : d = (b.take n).drop 19) (t : Ret) (K : ∀ (g1 g2 g3 : Nat) (T : List (Nat × AV)) (H : aq) (c : Nat), Ev G ⟨[.code (suf 9 cz.body)], ⟨(14, .sl 1 (byteCells d)) :: (5, .int .i64 (n : Nat)) :: (12, .int .i64 (k.toNat : Nat)) :: (13, .ref 77 g3 0) :: (1, .bool wide) :: (4, .ref 68 g1 0) :: (6, .ref 70 g2 0) :: (7, .int .i64 0) :: T, (77, some (g3, .cells (bc 1 2 [x, y]).enc)) :: (68, some (g1, .cells ap.enc)) :: (70, some (g2, .cells ap.enc)) :: H, c⟩, [.cell 4 (some 27), .t 5, .cell 6 (some 27), .t 7], 0⟩ t) (g1 g2 : Nat) (T : List (Nat × AV)) (H : aq) (c : Nat) : Ev G ⟨[.code (suf 3 cz.body)], ⟨(0, .sl 1 (byteCells b)) :: (1, .bool wide) :: (4, .ref 68 g1 0) :: (6, .ref 70 g2 0) :: (7, .int .i64 0) :: T, (68, some (g1, .cells ap.enc)) :: (70, some (g2, .cells ap.enc)) :: H, c⟩, [.cell 4 (some 27), .t 5, .cell 6 (some 27), .t 7], 0⟩ t := by
 have hbl := au b
 have hx8 := x.toNat_lt
 have hy8 := y.toNat_lt
 have hk8 := k.toNat_lt
 have hr : n < 256 ^ 2 := by rw [hn]; exact cn (by simp; omega)
 have hg : ah G 110 [.sl 1 (byteCells b), .int .i64 16, .int .i64 2] [] ⟨.tup [.int .u64 (n : Nat), .bool true], []⟩ := by
  rw [hn]; exact fQ b hb 16 2 (by omega) (by omega) (by omega) (by omega)
 have hN : ah G 198 [.int .i64 1, .int .i64 2, .sl 1 [[.int .u8 x.toNat], [.int .u8 y.toNat]]] [] ⟨.agg (bc 1 2 [x, y]).enc, []⟩ := il 1 2 [x, y]
 have hB := mi (k.toNat : Nat) (n : Nat) (by omega)
 rw [qb] at hB
 have hcut : List.take (((n : Nat) : Int).toNat - Int.toNat 19) (List.drop (Int.toNat 19) (byteCells b)) = byteCells d := by
  rw [hd, List.drop_take]; simp [byteCells]
 clear hn
 refine aG (b := suf 4 cz.body) ?_
 refine wd1 ?_
 repeat' (first | refine ab ?_ | refine kX [] [(113, _, _)] trivial ⟨rfl, pz trivial⟩ (hN) ?_ | (refine aa ?_ ?_ <;> intro h))
 refine aG (b := suf 5 cz.body) ?_
 refine wd1 ?_
 repeat' (first | refine ab ?_ | refine kX [] [(113, _, _)] trivial ⟨rfl, pz trivial⟩ (hN) ?_ | (refine aa ?_ ?_ <;> intro h))
 refine aG (b := suf 6 cz.body) ?_
 refine wd1 ?_
 repeat' (first | refine ab ?_ | refine kX [] [(113, _, _)] trivial ⟨rfl, pz trivial⟩ (hN) ?_ | (refine aa ?_ ?_ <;> intro h))
 refine aG (b := suf 7 cz.body) ?_
 refine wd1 ?_
 repeat' (first | refine ab ?_ | refine kX [] [(113, _, _)] trivial ⟨rfl, pz trivial⟩ (hN) ?_ | (refine aa ?_ ?_ <;> intro h))
 refine aG (b := suf 8 cz.body) ?_
 refine wd1 ?_
 repeat' (first | refine ab ?_ | refine kX [] [(113, _, _)] trivial ⟨rfl, pz trivial⟩ (hN) ?_ | (refine aa ?_ ?_ <;> intro h))
 refine aG (b := suf 9 cz.body) ?_
 refine wd1 ?_
 repeat' (first | refine ab ?_ | refine kX [] [(113, _, _)] trivial ⟨rfl, pz trivial⟩ (hN) ?_ | (refine aa ?_ ?_ <;> intro h))
 rw [hcut]
 refine ag [14, 5, 12, 13, 1, 4, 6, 7] [77, 68, 70] ?_
 exact K _ _ _ _ _ _
end Go.AM.IR
namespace Go.AM.IR
theorem cl {a b : AV} (h : a = b) : LeP Any a b := h ▸ LeP.refl _
theorem jD (m f : PMsg) (e : Int) (n : Nat) (g1 g2 : Nat) (T : List (Nat × AV)) (H : aq) (c : Nat) : Ev G ⟨[.code (suf 11 cz.body)], ⟨(4, .ref 68 g1 0) :: (5, .int .i64 (n : Nat)) :: (6, .ref 70 g2 0) :: (7, .int .i64 e) :: T, (68, some (g1, .cells m.enc)) :: (70, some (g2, .cells f.enc)) :: H, c⟩, [.cell 4 (some 27), .t 5, .cell 6 (some 27), .t 7], 0⟩ (kd (lW n (m, f, e))) := by
 unfold lW
 by_cases h : e = 0
 ·subst h
  rw [if_pos rfl]
  refine wk3 ?_
  repeat' (first | refine ab ?_ | (refine aa ?_ ?_ <;> intro h))
  refine bm [] [(70, some (_, .cells ap.enc))] trivial ⟨⟨rfl, leA⟩, trivial⟩ ?_
  refine ax ?_
  repeat ((conv => whnf); refine frB ?_)
  rfl
 ·rw [if_neg h]
  refine wk3 ?_
  repeat' (first | refine ab ?_ | (refine aa ?_ ?_ <;> intro h))
  refine bm [] [(68, some (_, .cells ap.enc))] trivial ⟨⟨rfl, leA⟩, trivial⟩ ?_
  refine ax ?_
  repeat ((conv => whnf); refine frB ?_)
  rfl
theorem Ob (d : List UInt8) (wide : Bool) (x y : UInt8) (n : Nat) (m f : PMsg) (e : Int) (h : ah G 200 [.sl 1 (byteCells d)] [] ⟨.tup [.agg m.enc, .agg f.enc, .int .i64 e], []⟩) (t : Ret) (K : ∀ (g1 g2 : Nat) (T : List (Nat × AV)) (H : aq) (c : Nat), Ev G ⟨[.code (suf 11 cz.body)], ⟨(4, .ref 68 g1 0) :: (5, .int .i64 (n : Nat)) :: (6, .ref 70 g2 0) :: (7, .int .i64 e) :: T, (68, some (g1, .cells m.enc)) :: (70, some (g2, .cells f.enc)) :: H, c⟩, [.cell 4 (some 27), .t 5, .cell 6 (some 27), .t 7], 0⟩ t) (g1 g2 g3 : Nat) (T : List (Nat × AV)) (H : aq) (c : Nat) : Ev G ⟨[.code (suf 9 cz.body)], ⟨(14, .sl 1 (byteCells d)) :: (5, .int .i64 (n : Nat)) :: (12, .int .i64 1) :: (13, .ref 77 g3 0) :: (1, .bool wide) :: (4, .ref 68 g1 0) :: (6, .ref 70 g2 0) :: (7, .int .i64 0) :: T, (77, some (g3, .cells (bc 1 2 [x, y]).enc)) :: (68, some (g1, .cells ap.enc)) :: (70, some (g2, .cells ap.enc)) :: H, c⟩, [.cell 4 (some 27), .t 5, .cell 6 (some 27), .t 7], 0⟩ t := by
 refine aG (b := suf 10 cz.body) ?_
 refine wd1 ?_
 repeat' (first | refine ab ?_ | (refine aa ?_ ?_ <;> intro h))
 refine aG (b := suf 11 cz.body) ?_
 refine wd1 ?_
 repeat' (first | refine ab ?_ | (refine aa ?_ ?_ <;> intro h))
 refine ag [4, 5, 6, 7] [68, 70] ?_
 exact K _ _ _ _ _
theorem Oa (d : List UInt8) (wide : Bool) (x y : UInt8) (n : Nat) (m f : PMsg) (e : Int) (h : ah G 201 [.sl 1 (byteCells d), .bool wide] [] ⟨.tup [.agg m.enc, .agg f.enc, .int .i64 e], []⟩) (t : Ret) (K : ∀ (g1 g2 : Nat) (T : List (Nat × AV)) (H : aq) (c : Nat), Ev G ⟨[.code (suf 11 cz.body)], ⟨(4, .ref 68 g1 0) :: (5, .int .i64 (n : Nat)) :: (6, .ref 70 g2 0) :: (7, .int .i64 e) :: T, (68, some (g1, .cells m.enc)) :: (70, some (g2, .cells f.enc)) :: H, c⟩, [.cell 4 (some 27), .t 5, .cell 6 (some 27), .t 7], 0⟩ t) (g1 g2 g3 : Nat) (T : List (Nat × AV)) (H : aq) (c : Nat) : Ev G ⟨[.code (suf 9 cz.body)], ⟨(14, .sl 1 (byteCells d)) :: (5, .int .i64 (n : Nat)) :: (12, .int .i64 2) :: (13, .ref 77 g3 0) :: (1, .bool wide) :: (4, .ref 68 g1 0) :: (6, .ref 70 g2 0) :: (7, .int .i64 0) :: T, (77, some (g3, .cells (bc 1 2 [x, y]).enc)) :: (68, some (g1, .cells ap.enc)) :: (70, some (g2, .cells ap.enc)) :: H, c⟩, [.cell 4 (some 27), .t 5, .cell 6 (some 27), .t 7], 0⟩ t := by
 refine aG (b := suf 10 cz.body) ?_
 refine wd1 ?_
 repeat' (first | refine ab ?_ | (refine aa ?_ ?_ <;> intro h))
 refine aG (b := suf 11 cz.body) ?_
 refine wd1 ?_
 repeat' (first | refine ab ?_ | (refine aa ?_ ?_ <;> intro h))
 refine ag [4, 5, 6, 7] [68, 70] ?_
 exact K _ _ _ _ _
theorem N9 (c0 s0 : UInt8) (r : List UInt8) (hr : r.length < 2 ^ 40) (wide : Bool) (x y : UInt8) (n : Nat) (e : Int) (hc : ah G 144 [.agg (bc (c0.toNat : Nat) (s0.toNat : Nat) r).enc] [] ⟨.int .i64 e, []⟩) (t : Ret) (K : ∀ (g1 g2 : Nat) (T : List (Nat × AV)) (H : aq) (c : Nat), Ev G ⟨[.code (suf 11 cz.body)], ⟨(4, .ref 68 g1 0) :: (5, .int .i64 (n : Nat)) :: (6, .ref 70 g2 0) :: (7, .int .i64 e) :: T, (68, some (g1, .cells (bc (c0.toNat : Nat) (s0.toNat : Nat) r).enc)) :: (70, some (g2, .cells (if e = 0 then ap else bc 1 2 [x, y]).enc)) :: H, c⟩, [.cell 4 (some 27), .t 5, .cell 6 (some 27), .t 7], 0⟩ t) (g1 g2 g3 : Nat) (T : List (Nat × AV)) (H : aq) (c : Nat) : Ev G ⟨[.code (suf 9 cz.body)], ⟨(14, .sl 1 (byteCells (c0 :: s0 :: r))) :: (5, .int .i64 (n : Nat)) :: (12, .int .i64 3) :: (13, .ref 77 g3 0) :: (1, .bool wide) :: (4, .ref 68 g1 0) :: (6, .ref 70 g2 0) :: (7, .int .i64 0) :: T, (77, some (g3, .cells (bc 1 2 [x, y]).enc)) :: (68, some (g1, .cells ap.enc)) :: (70, some (g2, .cells ap.enc)) :: H, c⟩, [.cell 4 (some 27), .t 5, .cell 6 (some 27), .t 7], 0⟩ t := by
 have hrl := au r
 have hcl : (byteCells (c0 :: s0 :: r)).length = r.length + 2 := by rw [au]; rfl
 have h08 := c0.toNat_lt
 have hs8 := s0.toNat_lt
 have hcut : List.take ((byteCells (c0 :: s0 :: r)).length - Int.toNat 2) (List.drop (Int.toNat 2) (byteCells (c0 :: s0 :: r))) = byteCells r := by
  rw [List.take_of_length_le (by rw [List.length_drop]; exact Nat.le_refl _)]; rfl
 have hc2 : ah G 144 [.agg [.int .i64 3, .int .i64 0, .int .i64 0, .int .i64 0, .int .u32 0, nilV, nilV, .int .i64 0, nilV, .int .u32 0, .bool false, .int .i64 0, .bool false, .int .i64 0, .bool false, .bool false, .int .i64 0, .int .u32 0, nilV, .bool false, .int .u32 0, nilV, nilV, nilV, .int .i64 (c0.toNat : Nat), .int .i64 (s0.toNat : Nat), .sl 1 (List.take ((byteCells (c0 :: s0 :: r)).length - Int.toNat 2) (List.drop (Int.toNat 2) (byteCells (c0 :: s0 :: r))))]] [] ⟨.int .i64 e, []⟩ := by
  rw [hcut]
  exact iq rfl hc ⟨LeP.agg leA, trivial⟩
 by_cases h : e = 0
 ·subst h
  rw [if_pos rfl] at K
  refine aG (b := suf 10 cz.body) ?_
  refine wd1 ?_
  repeat' (first | refine ab ?_ | (refine aa ?_ ?_ <;> intro h))
  refine aG (b := suf 11 cz.body) ?_
  refine wd1 ?_
  repeat' (first | refine ab ?_ | refine kZ [(179, _, _)] ⟨rfl, pz trivial⟩ (hc2) ?_ | refine ox ?_ | (refine aa ?_ ?_ <;> intro h))
  refine d8 [(179, _, _)] [4, 5, 6, 7] [68, 70] ⟨rfl, frP, trivial⟩ ?_; repeat ((conv => whnf); first | refine frA ?_ | intro T H)
  refine bm [] [(68, some (_, .cells (bc (c0.toNat : Nat) (s0.toNat : Nat) r).enc))] trivial ⟨⟨rfl, .refl _, .refl _, .refl _, .refl _, .refl _, LeP.nil 2, LeP.nil 2, .refl _, LeP.nil 2, .refl _, .refl _, .refl _, .refl _, .refl _, .refl _, .refl _, .refl _, .refl _, LeP.nil 1, .refl _, .refl _, LeP.nil 1, LeP.nil 2, LeP.nil 2, .refl _, .refl _, cl (by rw [List.nil_append, hcut]; rfl), trivial⟩, trivial⟩ ?_
  refine ag [4, 5, 6, 7] [68, 70] ?_
  exact K _ _ _ _ _
 ·rw [if_neg h] at K
  refine aG (b := suf 10 cz.body) ?_
  refine wd1 ?_
  repeat' (first | refine ab ?_ | (refine aa ?_ ?_ <;> intro h))
  refine aG (b := suf 11 cz.body) ?_
  refine wd1 ?_
  repeat' (first | refine ab ?_ | refine kZ [(179, _, _)] ⟨rfl, pz trivial⟩ (hc2) ?_ | refine ox ?_ | (refine aa ?_ ?_ <;> intro h))
  refine d8 [(179, _, _)] [4, 5, 6, 7] [68, 70] ⟨rfl, frP, trivial⟩ ?_; repeat ((conv => whnf); first | refine frA ?_ | intro T H)
  refine bm [] [(68, some (_, .cells (bc (c0.toNat : Nat) (s0.toNat : Nat) r).enc))] trivial ⟨⟨rfl, .refl _, .refl _, .refl _, .refl _, .refl _, LeP.nil 2, LeP.nil 2, .refl _, LeP.nil 2, .refl _, .refl _, .refl _, .refl _, .refl _, .refl _, .refl _, .refl _, .refl _, LeP.nil 1, .refl _, .refl _, LeP.nil 1, LeP.nil 2, LeP.nil 2, .refl _, .refl _, cl (by rw [List.nil_append, hcut]; rfl), trivial⟩, trivial⟩ ?_
  refine ag [4, 5, 6, 7] [68, 70] ?_
  exact K _ _ _ _ _
theorem N8 (d : List UInt8) (wide : Bool) (x y : UInt8) (n : Nat) (t : Ret) (K : ∀ (g1 g2 : Nat) (T : List (Nat × AV)) (H : aq) (c : Nat), Ev G ⟨[.code (suf 11 cz.body)], ⟨(4, .ref 68 g1 0) :: (5, .int .i64 (n : Nat)) :: (6, .ref 70 g2 0) :: (7, .int .i64 0) :: T, (68, some (g1, .cells ({ ap with kind := 4 } : PMsg).enc)) :: (70, some (g2, .cells ap.enc)) :: H, c⟩, [.cell 4 (some 27), .t 5, .cell 6 (some 27), .t 7], 0⟩ t) (g1 g2 g3 : Nat) (T : List (Nat × AV)) (H : aq) (c : Nat) : Ev G ⟨[.code (suf 9 cz.body)], ⟨(14, .sl 1 (byteCells d)) :: (5, .int .i64 (n : Nat)) :: (12, .int .i64 4) :: (13, .ref 77 g3 0) :: (1, .bool wide) :: (4, .ref 68 g1 0) :: (6, .ref 70 g2 0) :: (7, .int .i64 0) :: T, (77, some (g3, .cells (bc 1 2 [x, y]).enc)) :: (68, some (g1, .cells ap.enc)) :: (70, some (g2, .cells ap.enc)) :: H, c⟩, [.cell 4 (some 27), .t 5, .cell 6 (some 27), .t 7], 0⟩ t := by
 refine aG (b := suf 10 cz.body) ?_
 refine wd1 ?_
 repeat' (first | refine ab ?_ | (refine aa ?_ ?_ <;> intro h))
 refine aG (b := suf 11 cz.body) ?_
 refine wd1 ?_
 repeat' (first | refine ab ?_ | (refine aa ?_ ?_ <;> intro h))
 refine bm [] [(68, some (_, .cells ({ ap with kind := 4 } : PMsg).enc))] trivial ⟨⟨rfl, leA⟩, trivial⟩ ?_
 refine ag [4, 5, 6, 7] [68, 70] ?_
 exact K _ _ _ _ _
theorem N7 (d : List UInt8) (wide : Bool) (x y : UInt8) (n : Nat) (t : Ret) (K : ∀ (g1 g2 : Nat) (T : List (Nat × AV)) (H : aq) (c : Nat), Ev G ⟨[.code (suf 11 cz.body)], ⟨(4, .ref 68 g1 0) :: (5, .int .i64 (n : Nat)) :: (6, .ref 70 g2 0) :: (7, .int .i64 (if d = [0, 1, 0, 1] then 0 else 2)) :: T, (68, some (g1, .cells ({ ap with kind := 5 } : PMsg).enc)) :: (70, some (g2, .cells (if d = [0, 1, 0, 1] then ap else bc 1 2 [x, y]).enc)) :: H, c⟩, [.cell 4 (some 27), .t 5, .cell 6 (some 27), .t 7], 0⟩ t) (g1 g2 g3 : Nat) (T : List (Nat × AV)) (H : aq) (c : Nat) : Ev G ⟨[.code (suf 9 cz.body)], ⟨(14, .sl 1 (byteCells d)) :: (5, .int .i64 (n : Nat)) :: (12, .int .i64 5) :: (13, .ref 77 g3 0) :: (1, .bool wide) :: (4, .ref 68 g1 0) :: (6, .ref 70 g2 0) :: (7, .int .i64 0) :: T, (77, some (g3, .cells (bc 1 2 [x, y]).enc)) :: (68, some (g1, .cells ap.enc)) :: (70, some (g2, .cells ap.enc)) :: H, c⟩, [.cell 4 (some 27), .t 5, .cell 6 (some 27), .t 7], 0⟩ t := by
 by_cases h : d = [0, 1, 0, 1]
 ·rw [if_pos h, if_pos h] at K
  subst h
  refine aG (b := suf 10 cz.body) ?_
  refine wd1 ?_
  repeat' (first | refine ab ?_ | (refine aa ?_ ?_ <;> intro h))
  refine aG (b := suf 11 cz.body) ?_
  refine wd1 ?_
  repeat' (first | refine ab ?_ | refine zBv (l := [0, 1, 0, 1]) rfl rfl ?_ | (refine aa ?_ ?_ <;> intro h))
  refine bm [] [(68, some (_, .cells ({ ap with kind := 5 } : PMsg).enc))] trivial ⟨⟨rfl, leA⟩, trivial⟩ ?_
  refine ag [4, 5, 6, 7] [68, 70] ?_
  exact K _ _ _ _ _
 ·rw [if_neg h, if_neg h] at K
  have hs : (d == [0, 1, 0, 1]) = false := by simpa using h
  have hs2 : (d != [0, 1, 0, 1]) = true := by simpa using h
  refine aG (b := suf 10 cz.body) ?_
  refine wd1 ?_
  repeat' (first | refine ab ?_ | (refine aa ?_ ?_ <;> intro h))
  refine aG (b := suf 11 cz.body) ?_
  refine wd1 ?_
  repeat' (first | refine ab ?_ | refine zBv (l := [0, 1, 0, 1]) rfl rfl ?_ | (refine aa ?_ ?_ <;> intro h))
  refine bm [] [(68, some (_, .cells ({ ap with kind := 5 } : PMsg).enc))] trivial ⟨⟨rfl, leA⟩, trivial⟩ ?_
  refine ag [4, 5, 6, 7] [68, 70] ?_
  exact K _ _ _ _ _
end Go.AM.IR
namespace Go.AM.IR
theorem KU (c s : Int) (d : List UInt8) : LenO (bc c s d) ∧ LenB (bc c s d).attrs ∧ (bc c s d).okP := ⟨⟨⟨by simp [bc, ap], by simp [bc, ap], by simp [bc, ap], io⟩, by simp [bc, ap, capT]⟩, wt, ⟨by simp [bc, ap], by simp [bc, ap]⟩⟩
theorem aqn (b : List UInt8) (h : 19 ≤ b.length) : ∃ x y k : UInt8, (byteCells b)[16]? = some [.int .u8 x.toNat] ∧ (byteCells b)[17]? = some [.int .u8 y.toNat] ∧ (byteCells b)[18]? = some [.int .u8 k.toNat] ∧ (b.drop 16).take 2 = [x, y] ∧ (b.drop 18).take 1 = [k] ∧ mp b = k.toNat := by
 have l : (b.drop 16).length = b.length - 16 := List.length_drop
 obtain ⟨x, y, k, r, e⟩ : ∃ x y k r, b.drop 16 = x :: y :: k :: r := by
  match h : b.drop 16 with
  | x :: y :: k :: r => exact ⟨x, y, k, r, rfl⟩
  | [] => rw [h] at l; simp at l; omega
  | [_] => rw [h] at l; simp at l; omega
  | [_, _] => rw [h] at l; simp at l; omega
 have e18 : b.drop 18 = k :: r := by rw [show b.drop 18 = (b.drop 16).drop 2 from by rw [List.drop_drop], e]; rfl
 have at_ : ∀ i, b[16 + i]? = (b.drop 16)[i]? := fun i => by rw [List.getElem?_drop]
 refine ⟨x, y, k, ?_, ?_, ?_, by rw [e]; rfl, by rw [e18]; rfl, ?_⟩
 ·simp only [byteCells, List.getElem?_map]; rw [at_ 0, e]; rfl
 ·simp only [byteCells, List.getElem?_map]; rw [at_ 1, e]; rfl
 ·simp only [byteCells, List.getElem?_map]; rw [at_ 2, e]; rfl
 ·unfold mp; rw [e18]; simp [rd]
theorem NU (b : List UInt8) (hb : b.length < 2 ^ 28) (wide : Bool) : ah G 194 [.sl 1 (byteCells b), .bool wide] [] (kd (JW wide b)) := by
 unfold JW
 by_cases h : b.length < 19
 ·rw [if_pos h]; exact Sw b (by omega) wide h
 ·rw [if_neg h]
  refine Sv b (by omega) wide (by omega) _ (fun ha => ?_) (fun ha => by rw [if_pos ha])
  rw [if_neg (by rw [ha]; simp)]
  intro g1 g2 T H c
  obtain ⟨x, y, k, hx, hy, hk, e2, e1, ek⟩ := aqn b (by omega)
  rw [e2, e1, ek]
  have hn : nC b = rd ((b.drop 16).take 2) := rfl
  generalize hL : nC b = n at *
  have hr : n < 256 ^ 2 := by rw [hn]; exact cn (by simp; omega)
  by_cases q1 : n < 19
  ·rw [if_pos q1]; exact Ol b (by omega) wide (by omega) x y k hx hy hk n hn q1 g1 g2 T H c
  ·rw [if_neg q1]
   by_cases q2 : k.toNat < 1 ∨ k.toNat > 5
   ·rw [if_pos q2]; exact Oh b (by omega) wide (by omega) x y k hx hy hk n hn q1 q2 g1 g2 T H c
   ·rw [if_neg q2]
    have k1 : ¬ k.toNat < 1 := fun q => q2 (.inl q)
    have k5 : ¬ k.toNat > 5 := fun q => q2 (.inr q)
    by_cases q3 : ef (k.toNat : Nat) (n : Nat) = true
    ·rw [if_pos q3]; exact Og b (by omega) wide (by omega) x y k hx hy hk n hn q1 k1 k5 q3 g1 g2 T H c
    ·rw [if_neg q3]
     have q3' : ef (k.toNat : Nat) (n : Nat) = false := by simpa using q3
     by_cases q4 : b.length < n
     ·rw [if_pos q4]; exact Od b (by omega) wide (by omega) x y k hx hy hk n hn q1 k1 k5 q3' q4 g1 g2 T H c
     ·rw [if_neg q4]
      refine Oc b (by omega) wide (by omega) x y k hx hy hk n hn q1 k1 k5 q3' q4 _ rfl _ ?_ g1 g2 T H c
      intro g1 g2 g3 T H c
      have hd : ((b.take n).drop 19).length = n - 19 := by rw [List.length_drop, List.length_take]; omega
      generalize (b.take n).drop 19 = d at *
      simp only [ef, decide_eq_false_iff_not] at q3'
      unfold JX
      have hkk : k.toNat = 1 ∨ k.toNat = 2 ∨ k.toNat = 3 ∨ k.toNat = 4 ∨ k.toNat = 5 := by omega
      rcases hkk with hkk | hkk | hkk | hkk | hkk
      ·rw [hkk, if_pos (show ((1 : Nat) : Int) = 1 from rfl)]
       exact Ob d wide x y n _ _ _ (Zh d (by omega) (by omega)) _ (fun g1 g2 T H c => jD _ _ _ n g1 g2 T H c) g1 g2 g3 T H c
      ·rw [hkk, if_neg (show ¬ (((2 : Nat) : Int) = 1) by decide), if_pos (show ((2 : Nat) : Int) = 2 from rfl)]
       exact Oa d wide x y n _ _ _ (Zf d (by omega) (by omega) wide) _ (fun g1 g2 T H c => jD _ _ _ n g1 g2 T H c) g1 g2 g3 T H c
      ·rw [hkk, if_neg (show ¬ (((3 : Nat) : Int) = 1) by decide), if_neg (show ¬ (((3 : Nat) : Int) = 2) by decide), if_pos (show ((3 : Nat) : Int) = 3 from rfl)]
       obtain ⟨c0, s0, r, rfl⟩ : ∃ c0 s0 r, d = c0 :: s0 :: r := by
        match d, hd with
        | c0 :: s0 :: r, _ => exact ⟨c0, s0, r, rfl⟩
        | [], hd => simp at hd; omega
        | [_], hd => simp at hd; omega
       have en : nA (c0 :: s0 :: r) = bc (c0.toNat : Nat) (s0.toNat : Nat) r := by simp [nA, rd]
       rw [en]
       obtain ⟨l1, l2, l3⟩ := KU (c0.toNat : Nat) (s0.toNat : Nat) r
       have hc := fK _ l1 l2 l3
       refine N9 c0 s0 r (by simp at hd; omega) wide x y n _ hc _ (fun g1 g2 T H c => ?_) g1 g2 g3 T H c
       have := jD (bc (c0.toNat : Nat) (s0.toNat : Nat) r) (if bh (bc (c0.toNat : Nat) (s0.toNat : Nat) r) = 0 then ap else bc 1 2 [x, y]) (bh (bc (c0.toNat : Nat) (s0.toNat : Nat) r)) n g1 g2 T H c
       rw [show lW n (bc (c0.toNat : Nat) (s0.toNat : Nat) r, (if bh (bc (c0.toNat : Nat) (s0.toNat : Nat) r) = 0 then ap else bc 1 2 [x, y]), bh (bc (c0.toNat : Nat) (s0.toNat : Nat) r)) = lW n (if bh (bc (c0.toNat : Nat) (s0.toNat : Nat) r) = 0 then (bc (c0.toNat : Nat) (s0.toNat : Nat) r, ap, 0) else (ap, bc 1 2 [x, y], bh (bc (c0.toNat : Nat) (s0.toNat : Nat) r))) from by unfold lW; split <;> simp_all] at this
       exact this
      ·rw [hkk, if_neg (show ¬ (((4 : Nat) : Int) = 1) by decide), if_neg (show ¬ (((4 : Nat) : Int) = 2) by decide), if_neg (show ¬ (((4 : Nat) : Int) = 3) by decide), if_neg (fun q => absurd q.1 (by decide))]
       exact N8 d wide x y n _ (fun g1 g2 T H c => jD _ _ _ n g1 g2 T H c) g1 g2 g3 T H c
      ·rw [hkk, if_neg (show ¬ (((5 : Nat) : Int) = 1) by decide), if_neg (show ¬ (((5 : Nat) : Int) = 2) by decide), if_neg (show ¬ (((5 : Nat) : Int) = 3) by decide)]
       refine N7 d wide x y n _ (fun g1 g2 T H c => ?_) g1 g2 g3 T H c
       have := jD { ap with kind := 5 } (if d = [0, 1, 0, 1] then ap else bc 1 2 [x, y]) (if d = [0, 1, 0, 1] then 0 else 2) n g1 g2 T H c
       rw [show lW n (({ ap with kind := 5 } : PMsg), (if d = [0, 1, 0, 1] then ap else bc 1 2 [x, y]), (if d = [0, 1, 0, 1] then (0 : Int) else 2)) = lW n (if ((5 : Nat) : Int) = 5 ∧ d ≠ [0, 1, 0, 1] then (ap, bc 1 2 [x, y], 2) else ({ ap with kind := ((5 : Nat) : Int) }, ap, 0)) from by
        by_cases hz : d = [0, 1, 0, 1]
        ·simp [hz, lW]
        ·simp [hz, lW]] at this
       exact this
end Go.AM.IR
