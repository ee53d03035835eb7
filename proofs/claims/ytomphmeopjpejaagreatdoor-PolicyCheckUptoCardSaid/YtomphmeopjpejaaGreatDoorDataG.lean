/- What the functions of this program give, on the abstract machine. -/
import Derived.Test.YtomphmeopjpejaaGreatDoorDataF
import Derived.Test.YtomphmeopjpejaaGreatDoorDataB
import Derived.Test.YtomphmeopjpejaaGreatDoorDataC
set_option linter.unusedVariables false
set_option linter.unusedSimpArgs false
set_option maxHeartbeats 4000000
set_option maxRecDepth 20000
namespace Go.AM.IR
def fh (f : Nat) (s : List UInt8) (lv : Int) (n : Nat) : Option (Rx × Nat) → Prop
 | some (x, m) => am G0 f [.ref 0 0 0, .int .i64 lv] [.cells [.str s, .int .i64 (n : Int)]] (rpR s (.agg x.enc) m)
 | none => ∃ m, am G0 f [.ref 0 0 0, .int .i64 lv] [.cells [.str s, .int .i64 (n : Int)]] (pnR s m)
theorem fm {s : List UInt8} {n : Nat} {c : UInt8} (h : pk s n = c) (hc : c ≠ 0) : n < s.length := by
 rcases Nat.lt_or_ge n s.length with q | q
 ·exact q
 ·rw [pk, List.getElem?_eq_none q] at h; exact absurd h.symm hc
theorem fy {a b : UInt8} (h : ¬ a = b) : ¬ (a.toNat : Int) = (b.toNat : Int) := fun q => h (UInt8.toNat_inj.1 (by omega))
theorem uC (s : List UInt8) (hs : s.length < 2 ^ 40) (alt : PR) (lv : Int) (hl : lv ≤ 32) (hl0 : 0 ≤ lv) (hp : Pos s alt) (hA : ∀ n, n ≤ s.length → fh 579 s (lv + 1) n (alt n)) (n : Nat) (hn : n ≤ s.length) : fh 653 s lv n (bJ s (dy s) alt n) := by
 have h1 := dv s hs n hn
 have hbl := (pk s n).toNat_lt
 unfold bJ
 simp only [dw (show (46 : UInt8) ≠ 0 by decide), dw (show (33 : UInt8) ≠ 0 by decide), dw (show (40 : UInt8) ≠ 0 by decide), dw (show (41 : UInt8) ≠ 0 by decide), dw (show (91 : UInt8) ≠ 0 by decide), dw (show (93 : UInt8) ≠ 0 by decide), dw (show (45 : UInt8) ≠ 0 by decide), decide_eq_true_eq]
 by_cases c1 : pk s n = 46
 ·rw [if_pos c1]
  have hlt := fm c1 (by decide)
  rw [c1] at h1
  show am G0 653 _ _ (rpR s (.agg (Rx.mk 2 0 0 []).enc) (n + 1))
  rw [e0]
  refine aa (F := f653) rfl rfl (ag 300 _ _ _ _ ?_)
  repeat' (first | refine ae ?_ | refine kX [(0, _, _)] [] ⟨rfl, trivial⟩ trivial (h1) ?_ | (refine ab ?_ ?_ <;> intro h))
  refine cY [] [(68, some (_, .cells ([.int .i64 2, .int .i64 0, .int .i64 0, .sl 4 []])))] trivial ⟨⟨rfl, leA⟩, trivial⟩ ?_
  (conv => whnf); first | refine aP [(0, _, _)] [] [true] ?_ | refine aQ [(0, _, _)] [] [true] ?_
  refine bI ?_
  rfl
 rw [if_neg c1]
 have d1 : ¬ ((pk s n).toNat : Int) = 46 := fy c1
 by_cases c2 : pk s n = 33
 ·rw [if_pos c2]
  have hlt := fm c2 (by decide)
  rw [c2] at h1
  show am G0 653 _ _ (rpR s (.agg (Rx.mk 4 0 0 []).enc) (n + 1))
  rw [e0]
  refine aa (F := f653) rfl rfl (ag 300 _ _ _ _ ?_)
  repeat' (first | refine ae ?_ | refine kX [(0, _, _)] [] ⟨rfl, trivial⟩ trivial (h1) ?_ | (refine ab ?_ ?_ <;> intro h))
  refine cY [] [(68, some (_, .cells ([.int .i64 4, .int .i64 0, .int .i64 0, .sl 4 []])))] trivial ⟨⟨rfl, leA⟩, trivial⟩ ?_
  (conv => whnf); first | refine aP [(0, _, _)] [] [true] ?_ | refine aQ [(0, _, _)] [] [true] ?_
  refine bI ?_
  rfl
 rw [if_neg c2]
 have d2 : ¬ ((pk s n).toNat : Int) = 33 := fy c2
 by_cases c3 : pk s n = 40
 ·rw [if_pos c3]
  have hlt := fm c3 (by decide)
  rw [c3] at h1
  have h2 := dv s hs (n + 1) (by omega)
  have hbl2 := (pk s (n + 1)).toNat_lt
  by_cases c4 : pk s (n + 1) = 41
  ·rw [if_pos c4]
   have hlt2 := fm c4 (by decide)
   rw [c4] at h2
   show am G0 653 _ _ (rpR s (.agg (Rx.mk 0 0 0 []).enc) (n + 1 + 1))
   rw [e0]
   refine aa (F := f653) rfl rfl (ag 300 _ _ _ _ ?_)
   repeat' (first | refine ae ?_ | refine kX [(0, _, _)] [] ⟨rfl, trivial⟩ trivial (h1) ?_ | refine kX [(0, _, _)] [] ⟨rfl, trivial⟩ trivial (h2) ?_ | (refine ab ?_ ?_ <;> intro h))
   refine cY [] [(68, some (_, .cells ([.int .i64 0, .int .i64 0, .int .i64 0, .sl 4 []])))] trivial ⟨⟨rfl, leA⟩, trivial⟩ ?_
   (conv => whnf); first | refine aP [(0, _, _)] [] [true] ?_ | refine aQ [(0, _, _)] [] [true] ?_
   refine bI ?_
   rfl
  rw [if_neg c4]
  have d4 : ¬ ((pk s (n + 1)).toNat : Int) = 41 := fy c4
  have hq := hA (n + 1) (by omega)
  cases ha : alt (n + 1) with
  | none =>
   rw [ha] at hq
   obtain ⟨m, hq⟩ := hq
   refine ⟨m, ?_⟩
   generalize pk s (n + 1) = b2 at *
   refine aa (F := f653) rfl rfl (ag 300 _ _ _ _ ?_)
   repeat' (first | refine ae ?_ | refine kX [(0, _, _)] [] ⟨rfl, trivial⟩ trivial (h1) ?_ | refine kX [(0, _, _)] [] ⟨rfl, trivial⟩ trivial (h2) ?_ | (refine ab ?_ ?_ <;> intro h))
   (conv => whnf)
   refine CallG.stop ?_
   refine cj 579 hq (fun Q hr hg => ?_)
   refine kX [(0, _, _)] [] ⟨rfl, trivial⟩ trivial hg ?_ (hE := by rw [hr]; rfl)
   rfl
  | some q =>
   obtain ⟨x, m⟩ := q
   rw [ha] at hq
   obtain ⟨p1, p2, p3⟩ := hp (n + 1) x m (by omega) ha
   have h3 := jD s hs m p2 41 (by decide)
   obtain ⟨k, lo, hi, l⟩ := x
   change am G0 579 _ _ (rpR s (.agg (Rx.mk k lo hi l).enc) m) at hq
   rw [aW] at hq
   rw [dw (show (41 : UInt8) ≠ 0 by decide)] at h3
   generalize pk s (n + 1) = b2 at *
   dsimp only
   by_cases c5 : pk s m = 41
   ·have hlt3 := fm c5 (by decide)
    rw [if_pos c5]
    rw [if_pos (by simpa using c5)] at h3
    show am G0 653 _ _ (rpR s (.agg (Rx.mk k lo hi l).enc) (m + 1))
    rw [aW]
    refine aa (F := f653) rfl rfl (ag 300 _ _ _ _ ?_)
    repeat' (first | refine ae ?_ | refine kX [(0, _, _)] [] ⟨rfl, trivial⟩ trivial (h1) ?_ | refine kX [(0, _, _)] [] ⟨rfl, trivial⟩ trivial (h2) ?_ | refine kX [(0, _, _)] [] ⟨rfl, trivial⟩ trivial (hq) ?_ | refine kX [(0, _, _)] [] ⟨rfl, trivial⟩ trivial (h3) ?_ | (refine ab ?_ ?_ <;> intro h))
    (conv => whnf); first | refine aP [(0, _, _)] [] [true] ?_ | refine aQ [(0, _, _)] [] [true] ?_
    refine bI ?_
    rfl
   ·rw [if_neg c5]
    rw [if_neg (by simpa using c5)] at h3
    refine ⟨m, ?_⟩
    refine aa (F := f653) rfl rfl (ag 300 _ _ _ _ ?_)
    repeat' (first | refine ae ?_ | refine kX [(0, _, _)] [] ⟨rfl, trivial⟩ trivial (h1) ?_ | refine kX [(0, _, _)] [] ⟨rfl, trivial⟩ trivial (h2) ?_ | refine kX [(0, _, _)] [] ⟨rfl, trivial⟩ trivial (hq) ?_ | (refine ab ?_ ?_ <;> intro h))
    (conv => whnf)
    refine CallG.stop ?_
    refine cj 658 h3 (fun Q hr hg => ?_)
    refine kX [(0, _, _)] [] ⟨rfl, trivial⟩ trivial hg ?_ (hE := by rw [hr]; rfl)
    rfl
 rw [if_neg c3]
 have d3 : ¬ ((pk s n).toNat : Int) = 40 := fy c3
 by_cases c6 : pk s n = 91
 ·rw [if_pos c6]
  have hlt := fm c6 (by decide)
  rw [c6] at h1
  have h2 := jv s hs (n + 1) (by omega)
  cases ha : dy s (n + 1) with
  | none =>
   rw [ha] at h2
   refine ⟨rF s (n + 1), ?_⟩
   refine aa (F := f653) rfl rfl (ag 300 _ _ _ _ ?_)
   repeat' (first | refine ae ?_ | refine kX [(0, _, _)] [] ⟨rfl, trivial⟩ trivial (h1) ?_ | (refine ab ?_ ?_ <;> intro h))
   (conv => whnf)
   refine CallG.stop ?_
   refine cj 657 h2 (fun Q hr hg => ?_)
   refine kX [(0, _, _)] [] ⟨rfl, trivial⟩ trivial hg ?_ (hE := by rw [hr]; rfl)
   rfl
  | some q =>
   obtain ⟨a, m⟩ := q
   rw [ha] at h2
   obtain ⟨p1, p2⟩ := gM s (n + 1) a m (by omega) ha
   have h3 := jD s hs m p2 45 (by decide)
   rw [dw (show (45 : UInt8) ≠ 0 by decide)] at h3
   dsimp only
   change am G0 657 _ _ (rpR s (.int .i64 a) m) at h2
   by_cases c7 : pk s m = 45
   ·have hlt3 := fm c7 (by decide)
    rw [if_pos c7]
    rw [if_pos (by simpa using c7)] at h3
    have h4 := jv s hs (m + 1) (by omega)
    cases hb : dy s (m + 1) with
    | none =>
     rw [hb] at h4
     refine ⟨rF s (m + 1), ?_⟩
     refine aa (F := f653) rfl rfl (ag 300 _ _ _ _ ?_)
     repeat' (first | refine ae ?_ | refine kX [(0, _, _)] [] ⟨rfl, trivial⟩ trivial (h1) ?_ | refine kX [(0, _, _)] [] ⟨rfl, trivial⟩ trivial (h2) ?_ | refine kX [(0, _, _)] [] ⟨rfl, trivial⟩ trivial (h3) ?_ | (refine ab ?_ ?_ <;> intro h))
     (conv => whnf)
     refine CallG.stop ?_
     refine cj 657 h4 (fun Q hr hg => ?_)
     refine kX [(0, _, _)] [] ⟨rfl, trivial⟩ trivial hg ?_ (hE := by rw [hr]; rfl)
     rfl
    | some q =>
     obtain ⟨b, k⟩ := q
     rw [hb] at h4
     obtain ⟨q1, q2⟩ := gM s (m + 1) b k (by omega) hb
     have h5 := jD s hs k q2 93 (by decide)
     rw [dw (show (93 : UInt8) ≠ 0 by decide)] at h5
     dsimp only
     change am G0 657 _ _ (rpR s (.int .i64 b) k) at h4
     by_cases c8 : pk s k = 93
     ·have hlt4 := fm c8 (by decide)
      rw [if_pos c8]
      rw [if_pos (by simpa using c8)] at h5
      show am G0 653 _ _ (rpR s (.agg (Rx.mk 1 a b []).enc) (k + 1))
      rw [e0]
      refine aa (F := f653) rfl rfl (ag 300 _ _ _ _ ?_)
      repeat' (first | refine ae ?_ | refine kX [(0, _, _)] [] ⟨rfl, trivial⟩ trivial (h1) ?_ | refine kX [(0, _, _)] [] ⟨rfl, trivial⟩ trivial (h2) ?_ | refine kX [(0, _, _)] [] ⟨rfl, trivial⟩ trivial (h3) ?_ | refine kX [(0, _, _)] [] ⟨rfl, trivial⟩ trivial (h4) ?_ | refine kX [(0, _, _)] [] ⟨rfl, trivial⟩ trivial (h5) ?_ | (refine ab ?_ ?_ <;> intro h))
      refine cY [] [(68, some (_, .cells ([.int .i64 1, .int .i64 a, .int .i64 b, .sl 4 []])))] trivial ⟨⟨rfl, leA⟩, trivial⟩ ?_
      (conv => whnf); first | refine aP [(0, _, _)] [] [true] ?_ | refine aQ [(0, _, _)] [] [true] ?_
      refine bI ?_
      rfl
     ·rw [if_neg c8]
      rw [if_neg (by simpa using c8)] at h5
      refine ⟨k, ?_⟩
      refine aa (F := f653) rfl rfl (ag 300 _ _ _ _ ?_)
      repeat' (first | refine ae ?_ | refine kX [(0, _, _)] [] ⟨rfl, trivial⟩ trivial (h1) ?_ | refine kX [(0, _, _)] [] ⟨rfl, trivial⟩ trivial (h2) ?_ | refine kX [(0, _, _)] [] ⟨rfl, trivial⟩ trivial (h3) ?_ | refine kX [(0, _, _)] [] ⟨rfl, trivial⟩ trivial (h4) ?_ | (refine ab ?_ ?_ <;> intro h))
      (conv => whnf)
      refine CallG.stop ?_
      refine cj 658 h5 (fun Q hr hg => ?_)
      refine kX [(0, _, _)] [] ⟨rfl, trivial⟩ trivial hg ?_ (hE := by rw [hr]; rfl)
      rfl
   ·rw [if_neg c7]
    rw [if_neg (by simpa using c7)] at h3
    refine ⟨m, ?_⟩
    refine aa (F := f653) rfl rfl (ag 300 _ _ _ _ ?_)
    repeat' (first | refine ae ?_ | refine kX [(0, _, _)] [] ⟨rfl, trivial⟩ trivial (h1) ?_ | refine kX [(0, _, _)] [] ⟨rfl, trivial⟩ trivial (h2) ?_ | (refine ab ?_ ?_ <;> intro h))
    (conv => whnf)
    refine CallG.stop ?_
    refine cj 658 h3 (fun Q hr hg => ?_)
    refine kX [(0, _, _)] [] ⟨rfl, trivial⟩ trivial hg ?_ (hE := by rw [hr]; rfl)
    rfl
 rw [if_neg c6]
 have d6 : ¬ ((pk s n).toNat : Int) = 91 := fy c6
 have h2 := jv s hs n hn
 generalize pk s n = b1 at *
 cases ha : dy s n with
 | none =>
  rw [ha] at h2
  refine ⟨rF s n, ?_⟩
  refine aa (F := f653) rfl rfl (ag 300 _ _ _ _ ?_)
  repeat' (first | refine ae ?_ | refine kX [(0, _, _)] [] ⟨rfl, trivial⟩ trivial (h1) ?_ | (refine ab ?_ ?_ <;> intro h))
  (conv => whnf)
  refine CallG.stop ?_
  refine cj 657 h2 (fun Q hr hg => ?_)
  refine kX [(0, _, _)] [] ⟨rfl, trivial⟩ trivial hg ?_ (hE := by rw [hr]; rfl)
  rfl
 | some q =>
  obtain ⟨a, m⟩ := q
  rw [ha] at h2
  obtain ⟨p1, p2⟩ := gM s n a m hn ha
  dsimp only
  change am G0 657 _ _ (rpR s (.int .i64 a) m) at h2
  show am G0 653 _ _ (rpR s (.agg (Rx.mk 1 a a []).enc) (m))
  rw [e0]
  refine aa (F := f653) rfl rfl (ag 300 _ _ _ _ ?_)
  repeat' (first | refine ae ?_ | refine kX [(0, _, _)] [] ⟨rfl, trivial⟩ trivial (h1) ?_ | refine kX [(0, _, _)] [] ⟨rfl, trivial⟩ trivial (h2) ?_ | (refine ab ?_ ?_ <;> intro h))
  refine cY [] [(68, some (_, .cells ([.int .i64 1, .int .i64 a, .int .i64 a, .sl 4 []])))] trivial ⟨⟨rfl, leA⟩, trivial⟩ ?_
  (conv => whnf); first | refine aP [(0, _, _)] [] [true] ?_ | refine aQ [(0, _, _)] [] [true] ?_
  refine bI ?_
  rfl
theorem uj (s : List UInt8) (hs : s.length < 2 ^ 40) (atom : PR) (lv : Int) (hp : Pos s atom) (n : Nat) (hn : n ≤ s.length) (hA : fh 653 s lv n (atom n)) : fh 646 s lv n (cz s atom n) := by
 unfold cz
 cases ha : atom n with
 | none =>
  rw [ha] at hA
  obtain ⟨m, hq⟩ := hA
  refine ⟨m, ?_⟩
  refine aa (F := f646) rfl rfl (ag 300 _ _ _ _ ?_)
  repeat' (first | refine ae ?_ | (refine ab ?_ ?_ <;> intro h))
  (conv => whnf)
  refine CallG.stop ?_
  refine cj 653 hq (fun Q hr hg => ?_)
  refine kX [(0, _, _)] [] ⟨rfl, trivial⟩ trivial hg ?_ (hE := by rw [hr]; rfl)
  rfl
 | some q =>
  obtain ⟨x, m⟩ := q
  rw [ha] at hA
  obtain ⟨p1, p2, p3⟩ := hp n x m hn ha
  have h2 := dv s hs m p2
  have hbl := (pk s m).toNat_lt
  obtain ⟨k, lo, hi, l⟩ := x
  change am G0 653 _ _ (rpR s (.agg (Rx.mk k lo hi l).enc) m) at hA
  rw [aW] at hA
  dsimp only
  simp only [dw (show (42 : UInt8) ≠ 0 by decide), dw (show (43 : UInt8) ≠ 0 by decide), dw (show (63 : UInt8) ≠ 0 by decide), decide_eq_true_eq]
  by_cases c0 : pk s m = 42
  ·rw [if_pos c0]
   have hlt := fm c0 (by decide)
   rw [c0] at h2
   show am G0 646 _ _ (rpR s (.agg (Rx.mk 5 0 0 [Rx.mk k lo hi l]).enc) (m + 1))
   rw [aW, List.map_cons, List.map_nil, aW]
   refine aa (F := f646) rfl rfl (ag 300 _ _ _ _ ?_)
   repeat' (first | refine ae ?_ | refine kX [(0, _, _)] [] ⟨rfl, trivial⟩ trivial (hA) ?_ | refine kX [(0, _, _)] [] ⟨rfl, trivial⟩ trivial (h2) ?_ | (refine ab ?_ ?_ <;> intro h))
   refine nw [(92, _, _)] [4] [68] [0] ⟨rfl, frP, trivial⟩ ?_; repeat ((conv => whnf); first | refine frA ?_ | intro T H)
   (conv => whnf); first | refine aP [(0, _, _)] [] [true] ?_ | refine aQ [(0, _, _)] [] [true] ?_
   refine bI ?_
   rfl
  rw [if_neg c0]
  have d0 : ¬ ((pk s m).toNat : Int) = 42 := fy c0
  by_cases c1 : pk s m = 43
  ·rw [if_pos c1]
   have hlt := fm c1 (by decide)
   rw [c1] at h2
   show am G0 646 _ _ (rpR s (.agg (Rx.mk 6 0 0 [Rx.mk k lo hi l]).enc) (m + 1))
   rw [aW, List.map_cons, List.map_nil, aW]
   refine aa (F := f646) rfl rfl (ag 300 _ _ _ _ ?_)
   repeat' (first | refine ae ?_ | refine kX [(0, _, _)] [] ⟨rfl, trivial⟩ trivial (hA) ?_ | refine kX [(0, _, _)] [] ⟨rfl, trivial⟩ trivial (h2) ?_ | (refine ab ?_ ?_ <;> intro h))
   refine nw [(92, _, _)] [4] [68] [0] ⟨rfl, frP, trivial⟩ ?_; repeat ((conv => whnf); first | refine frA ?_ | intro T H)
   (conv => whnf); first | refine aP [(0, _, _)] [] [true] ?_ | refine aQ [(0, _, _)] [] [true] ?_
   refine bI ?_
   rfl
  rw [if_neg c1]
  have d1 : ¬ ((pk s m).toNat : Int) = 43 := fy c1
  by_cases c2 : pk s m = 63
  ·rw [if_pos c2]
   have hlt := fm c2 (by decide)
   rw [c2] at h2
   show am G0 646 _ _ (rpR s (.agg (Rx.mk 7 0 0 [Rx.mk k lo hi l]).enc) (m + 1))
   rw [aW, List.map_cons, List.map_nil, aW]
   refine aa (F := f646) rfl rfl (ag 300 _ _ _ _ ?_)
   repeat' (first | refine ae ?_ | refine kX [(0, _, _)] [] ⟨rfl, trivial⟩ trivial (hA) ?_ | refine kX [(0, _, _)] [] ⟨rfl, trivial⟩ trivial (h2) ?_ | (refine ab ?_ ?_ <;> intro h))
   refine nw [(92, _, _)] [4] [68] [0] ⟨rfl, frP, trivial⟩ ?_; repeat ((conv => whnf); first | refine frA ?_ | intro T H)
   (conv => whnf); first | refine aP [(0, _, _)] [] [true] ?_ | refine aQ [(0, _, _)] [] [true] ?_
   refine bI ?_
   rfl
  rw [if_neg c2]
  have d2 : ¬ ((pk s m).toNat : Int) = 63 := fy c2
  show am G0 646 _ _ (rpR s (.agg (Rx.mk k lo hi l).enc) m)
  rw [aW]
  generalize pk s m = b1 at *
  refine aa (F := f646) rfl rfl (ag 300 _ _ _ _ ?_)
  repeat' (first | refine ae ?_ | refine kX [(0, _, _)] [] ⟨rfl, trivial⟩ trivial (hA) ?_ | refine kX [(0, _, _)] [] ⟨rfl, trivial⟩ trivial (h2) ?_ | (refine ab ?_ ?_ <;> intro h))
  (conv => whnf); first | refine aP [(0, _, _)] [] [true] ?_ | refine aQ [(0, _, _)] [] [true] ?_
  refine bI ?_
  rfl
end Go.AM.IR
namespace Go.AM.IR
def Jn (s : List UInt8) : Option (Rx × Nat) → Ret → Prop
 | some (x, m), t => t = rpR s (.agg x.enc) m
 | none, t => ∃ m, t = pnR s m
theorem zq {f : Nat} {s : List UInt8} {lv : Int} {n : Nat} {o : Option (Rx × Nat)} {t : Ret} (h : Jn s o t) (g : am G0 f [.ref 0 0 0, .int .i64 lv] [.cells [.str s, .int .i64 (n : Int)]] t) : fh f s lv n o := by
 cases o with
 | none => obtain ⟨m, rfl⟩ := h; exact ⟨m, g⟩
 | some p => obtain ⟨x, m⟩ := p; obtain rfl : t = _ := h; exact g
def qR (s : List UInt8) (item : PR) (c : UInt8) (f : Nat) (acc : List Rx) (m : Nat) : Option (List Rx × Nat) := if chr s m c then cJ s item c f acc (m + 1) else some (acc, m)
theorem kY {s : List UInt8} {item : PR} {c : UInt8} {f : Nat} {acc : List Rx} {n : Nat} {x : Rx} {m : Nat} (h : item n = some (x, m)) : cJ s item c (f + 1) acc n = qR s item c f (acc ++ [x]) m := by
 rw [cJ, h]; rfl
theorem kW {s : List UInt8} {item : PR} {c : UInt8} {f : Nat} {acc : List Rx} {n : Nat} (h : item n = none) : cJ s item c (f + 1) acc n = none := by
 rw [cJ, h]
theorem pB (s : List UInt8) (hs : s.length < 2 ^ 32) (item : PR) (lv : Int) (hp : Pos s item) (hA : ∀ n, n ≤ s.length → fh 646 s lv n (item n)) : ∀ (f : Nat) (acc : List Rx) (m : Nat) (hf : s.length < f + (m + 1)) (hm : m ≤ s.length) (hne : acc ≠ []) (hac : acc.length + f ≤ s.length + 1), ∃ t, Jn s (dP 3 (qR s item 32 f acc m)) t ∧ ∀ (T : List (Nat × AV)) (H : ay) (c g g4 : Nat) (es : List (List AV)) (k : Nat) (hes : es = acc.map Rx.enc) (hk : k = acc.length), Ev G0 ⟨JQ, ⟨(1, .int .i64 lv) :: (0, .ref 0 0 0) :: (5, .vs 89 g k) :: (4, .ref 68 g4 0) :: T, (0, some (0, .cells [.str s, .int .i64 (m : Int)])) :: (68, some (g4, .cells [.int .i64 0, .int .i64 0, .int .i64 0, .con (.slice none 0 0)])) :: (89, some (g, .vec 4 es)) :: H, c⟩, [.cell 4 (some 4)], 1⟩ t
 | f, acc, m, hf, hm, hne, hac => by
  have h1 := dv s (by omega) m hm
  have hbl := (pk s m).toNat_lt
  have hl : (acc.map Rx.enc).length = acc.length := by simp
  unfold qR
  simp only [dw (show (32 : UInt8) ≠ 0 by decide), decide_eq_true_eq]
  by_cases c1 : pk s m = 32
  ·rw [if_pos c1]
   rw [c1] at h1
   have hlt := fm c1 (by decide)
   have hq := hA (m + 1) (by omega)
   obtain ⟨f', rfl⟩ : ∃ f', f = f' + 1 := ⟨f - 1, by omega⟩
   cases ha : item (m + 1) with
   | none =>
    rw [ha] at hq
    obtain ⟨m', hq⟩ := hq
    rw [kW ha]
    refine ⟨_, ⟨m', rfl⟩, fun T H c g g4 es k hes hk => ?_⟩
    subst hes hk
    refine evl ?_
    repeat' (first | refine ae ?_ | refine kX [(0, _, _)] [] ⟨rfl, trivial⟩ trivial (h1) ?_ | (refine ab ?_ ?_ <;> intro h))
    (conv => whnf)
    refine CallG.stop ?_
    refine cj 646 hq (fun Q hr hg => ?_)
    refine kX [(0, _, _)] [] ⟨rfl, trivial⟩ trivial hg ?_ (hE := by rw [hr]; rfl)
    rfl
   | some p =>
    obtain ⟨x, m'⟩ := p
    rw [ha] at hq
    obtain ⟨p1, p2, _⟩ := hp _ _ _ (by omega) ha
    rw [kY ha]
    have hpx := bx x
    have hax : (acc ++ [x]).map Rx.enc = acc.map Rx.enc ++ [x.enc] := by simp
    obtain ⟨t, h2, h3⟩ := pB s hs item lv hp hA f' (acc ++ [x]) m' (by omega) p2 (by simp) (by simp; omega)
    refine ⟨t, h2, fun T H c g g4 es k hes hk => ?_⟩
    subst hes hk
    rw [hax] at h3
    simp only [fh] at hq
    generalize hxe : x.enc = xe at *
    obtain ⟨k, lo, hi, l⟩ := x
    rw [aW] at hxe
    subst hxe
    refine evl ?_
    repeat' (first | refine ae ?_ | refine kX [(0, _, _)] [] ⟨rfl, trivial⟩ trivial (h1) ?_ | refine kX [(0, _, _)] [] ⟨rfl, trivial⟩ trivial (hq) ?_ | (refine ab ?_ ?_ <;> intro h))
    refine aA [1, 0, 5, 4] [0, 68, 89] ?_
    exact h3 _ _ _ _ _ _ _ rfl (by simp)
  ·rw [if_neg c1]
   have d1 : ¬ ((pk s m).toNat : Int) = 32 := fy c1
   generalize pk s m = b1 at *
   cases acc with
   | nil => exact absurd rfl hne
   | cons x r =>
    cases r with
    | nil =>
     refine ⟨rpR s (.agg x.enc) m, rfl, fun T H c g g4 es k hes hk => ?_⟩
     obtain rfl : es = [x.enc] := hes
     obtain rfl : k = 1 := hk
     generalize hxe : x.enc = xe at *
     obtain ⟨k, lo, hi, l⟩ := x
     rw [aW] at hxe
     subst hxe
     refine evl ?_
     repeat' (first | refine ae ?_ | refine kX [(0, _, _)] [] ⟨rfl, trivial⟩ trivial (h1) ?_ | refine And.intro (show Int.toNat 0 < 0 + 1 from Nat.one_pos) ?_ | (refine ab ?_ ?_ <;> intro h))
     (conv => whnf); first | refine aP [(0, _, _)] [] [true] ?_ | refine aQ [(0, _, _)] [] [true] ?_
     refine bI ?_
     rfl
    | cons y q =>
     refine ⟨rpR s (.agg (Rx.mk 3 0 0 (x :: y :: q)).enc) m, rfl, fun T H c g g4 es k hes hk => ?_⟩
     subst hes hk
     rw [aW]
     have hl2 : (x :: y :: q).length = q.length + 2 := rfl
     refine evl ?_
     repeat' (first | refine ae ?_ | refine kX [(0, _, _)] [] ⟨rfl, trivial⟩ trivial (h1) ?_ | (refine ab ?_ ?_ <;> intro h))
     refine gZ [(89, _, _)] [4] [0, 68] ⟨rfl, frP, trivial⟩ ?_; repeat ((conv => whnf); first | refine frA ?_ | intro T H)
     (conv => whnf); first | refine aP [(0, _, _)] [] [true] ?_ | refine aQ [(0, _, _)] [] [true] ?_
     refine bI ?_
     rfl
theorem yh (s : List UInt8) (hs : s.length < 2 ^ 32) (item : PR) (lv : Int) (hp : Pos s item) (hA : ∀ n, n ≤ s.length → fh 646 s lv n (item n)) (n : Nat) (hn : n ≤ s.length) : fh 624 s lv n (dP 3 (cJ s item 32 (s.length + 1) [] n)) := by
 have hq := hA n hn
 cases ha : item n with
 | none =>
  rw [ha] at hq
  obtain ⟨m', hq⟩ := hq
  rw [kW ha]
  refine ⟨m', ?_⟩
  refine aa (F := f624) rfl rfl (ag 300 _ _ _ _ ?_)
  repeat' (first | refine ae ?_ | (refine ab ?_ ?_ <;> intro h))
  (conv => whnf)
  refine CallG.stop ?_
  refine cj 646 hq (fun Q hr hg => ?_)
  refine kX [(0, _, _)] [] ⟨rfl, trivial⟩ trivial hg ?_ (hE := by rw [hr]; rfl)
  rfl
 | some p =>
  obtain ⟨x, m⟩ := p
  rw [ha] at hq
  obtain ⟨p1, p2, _⟩ := hp _ _ _ hn ha
  rw [kY ha]
  have hpx := bx x
  obtain ⟨t, h1, h2⟩ := pB s hs item lv hp hA s.length [x] m (by omega) p2 (by simp) (by simp; omega)
  refine zq h1 ?_
  simp only [fh] at hq
  generalize hxe : x.enc = xe at *
  obtain ⟨k, lo, hi, l⟩ := x
  rw [aW] at hxe
  have h3 := fun T H c g g4 => h2 T H c g g4 _ _ rfl rfl
  subst hxe
  simp only [List.map_cons, List.map_nil, aW, List.length_cons, List.length_nil] at h3
  refine aa (F := f624) rfl rfl (ag 300 _ _ _ _ ?_)
  repeat' (first | refine ae ?_ | refine kX [(0, _, _)] [] ⟨rfl, trivial⟩ trivial (hq) ?_ | (refine ab ?_ ?_ <;> intro h))
  (conv => whnf)
  refine Ij 73 89 [(1, _), (0, _), (5, .vs 89 _ _), (4, _)] [(0, _), (68, _)] rfl puL (by decide) ⟨rfl, rfl, (by show AV.ren _ (.vs 73 _ _) = _; simp only [AV.ren, φM, and_self, if_true]; rfl), rfl, trivial⟩ ⟨⟨by decide, by decide, rfl⟩, ⟨by decide, by decide, rfl⟩, trivial⟩ ?_
  intro T H
  refine aA [1, 0, 5, 4] [0, 68, 89] ?_
  exact h3 _ _ _ _ _
theorem pD (s : List UInt8) (hs : s.length < 2 ^ 32) (item : PR) (lv : Int) (hp : Pos s item) (hA : ∀ n, n ≤ s.length → fh 624 s lv n (item n)) : ∀ (f : Nat) (acc : List Rx) (m : Nat) (hf : s.length < f + (m + 1)) (hm : m ≤ s.length) (hne : acc ≠ []) (hac : acc.length + f ≤ s.length + 1), ∃ t, Jn s (dP 4 (qR s item 124 f acc m)) t ∧ ∀ (T : List (Nat × AV)) (H : ay) (c g g4 : Nat) (es : List (List AV)) (k : Nat) (hes : es = acc.map Rx.enc) (hk : k = acc.length), Ev G0 ⟨JY, ⟨(1, .int .i64 lv) :: (0, .ref 0 0 0) :: (5, .vs 93 g k) :: (4, .ref 68 g4 0) :: T, (0, some (0, .cells [.str s, .int .i64 (m : Int)])) :: (68, some (g4, .cells [.int .i64 0, .int .i64 0, .int .i64 0, .con (.slice none 0 0)])) :: (93, some (g, .vec 4 es)) :: H, c⟩, [.cell 4 (some 4)], 1⟩ t
 | f, acc, m, hf, hm, hne, hac => by
  have h1 := dv s (by omega) m hm
  have hbl := (pk s m).toNat_lt
  have hl : (acc.map Rx.enc).length = acc.length := by simp
  unfold qR
  simp only [dw (show (124 : UInt8) ≠ 0 by decide), decide_eq_true_eq]
  by_cases c1 : pk s m = 124
  ·rw [if_pos c1]
   rw [c1] at h1
   have hlt := fm c1 (by decide)
   have hq := hA (m + 1) (by omega)
   obtain ⟨f', rfl⟩ : ∃ f', f = f' + 1 := ⟨f - 1, by omega⟩
   cases ha : item (m + 1) with
   | none =>
    rw [ha] at hq
    obtain ⟨m', hq⟩ := hq
    rw [kW ha]
    refine ⟨_, ⟨m', rfl⟩, fun T H c g g4 es k hes hk => ?_⟩
    subst hes hk
    refine evl ?_
    repeat' (first | refine ae ?_ | refine kX [(0, _, _)] [] ⟨rfl, trivial⟩ trivial (h1) ?_ | (refine ab ?_ ?_ <;> intro h))
    (conv => whnf)
    refine CallG.stop ?_
    refine cj 624 hq (fun Q hr hg => ?_)
    refine kX [(0, _, _)] [] ⟨rfl, trivial⟩ trivial hg ?_ (hE := by rw [hr]; rfl)
    rfl
   | some p =>
    obtain ⟨x, m'⟩ := p
    rw [ha] at hq
    obtain ⟨p1, p2, _⟩ := hp _ _ _ (by omega) ha
    rw [kY ha]
    have hpx := bx x
    have hax : (acc ++ [x]).map Rx.enc = acc.map Rx.enc ++ [x.enc] := by simp
    obtain ⟨t, h2, h3⟩ := pD s hs item lv hp hA f' (acc ++ [x]) m' (by omega) p2 (by simp) (by simp; omega)
    refine ⟨t, h2, fun T H c g g4 es k hes hk => ?_⟩
    subst hes hk
    rw [hax] at h3
    simp only [fh] at hq
    generalize hxe : x.enc = xe at *
    obtain ⟨k, lo, hi, l⟩ := x
    rw [aW] at hxe
    subst hxe
    refine evl ?_
    repeat' (first | refine ae ?_ | refine kX [(0, _, _)] [] ⟨rfl, trivial⟩ trivial (h1) ?_ | refine kX [(0, _, _)] [] ⟨rfl, trivial⟩ trivial (hq) ?_ | (refine ab ?_ ?_ <;> intro h))
    refine aA [1, 0, 5, 4] [0, 68, 93] ?_
    exact h3 _ _ _ _ _ _ _ rfl (by simp)
  ·rw [if_neg c1]
   have d1 : ¬ ((pk s m).toNat : Int) = 124 := fy c1
   generalize pk s m = b1 at *
   cases acc with
   | nil => exact absurd rfl hne
   | cons x r =>
    cases r with
    | nil =>
     refine ⟨rpR s (.agg x.enc) m, rfl, fun T H c g g4 es k hes hk => ?_⟩
     obtain rfl : es = [x.enc] := hes
     obtain rfl : k = 1 := hk
     generalize hxe : x.enc = xe at *
     obtain ⟨k, lo, hi, l⟩ := x
     rw [aW] at hxe
     subst hxe
     refine evl ?_
     repeat' (first | refine ae ?_ | refine kX [(0, _, _)] [] ⟨rfl, trivial⟩ trivial (h1) ?_ | refine And.intro (show Int.toNat 0 < 0 + 1 from Nat.one_pos) ?_ | (refine ab ?_ ?_ <;> intro h))
     (conv => whnf); first | refine aP [(0, _, _)] [] [true] ?_ | refine aQ [(0, _, _)] [] [true] ?_
     refine bI ?_
     rfl
    | cons y q =>
     refine ⟨rpR s (.agg (Rx.mk 4 0 0 (x :: y :: q)).enc) m, rfl, fun T H c g g4 es k hes hk => ?_⟩
     subst hes hk
     rw [aW]
     have hl2 : (x :: y :: q).length = q.length + 2 := rfl
     refine evl ?_
     repeat' (first | refine ae ?_ | refine kX [(0, _, _)] [] ⟨rfl, trivial⟩ trivial (h1) ?_ | (refine ab ?_ ?_ <;> intro h))
     refine gZ [(93, _, _)] [4] [0, 68] ⟨rfl, frP, trivial⟩ ?_; repeat ((conv => whnf); first | refine frA ?_ | intro T H)
     (conv => whnf); first | refine aP [(0, _, _)] [] [true] ?_ | refine aQ [(0, _, _)] [] [true] ?_
     refine bI ?_
     rfl
theorem yi (s : List UInt8) (hs : s.length < 2 ^ 32) (item : PR) (lv : Int) (hl : lv ≤ 32) (hp : Pos s item) (hA : ∀ n, n ≤ s.length → fh 624 s lv n (item n)) (n : Nat) (hn : n ≤ s.length) : fh 579 s lv n (dP 4 (cJ s item 124 (s.length + 1) [] n)) := by
 have hq := hA n hn
 cases ha : item n with
 | none =>
  rw [ha] at hq
  obtain ⟨m', hq⟩ := hq
  rw [kW ha]
  refine ⟨m', ?_⟩
  refine aa (F := f579) rfl rfl (ag 300 _ _ _ _ ?_)
  repeat' (first | refine ae ?_ | (refine ab ?_ ?_ <;> intro h))
  (conv => whnf)
  refine CallG.stop ?_
  refine cj 624 hq (fun Q hr hg => ?_)
  refine kX [(0, _, _)] [] ⟨rfl, trivial⟩ trivial hg ?_ (hE := by rw [hr]; rfl)
  rfl
 | some p =>
  obtain ⟨x, m⟩ := p
  rw [ha] at hq
  obtain ⟨p1, p2, _⟩ := hp _ _ _ hn ha
  rw [kY ha]
  have hpx := bx x
  obtain ⟨t, h1, h2⟩ := pD s hs item lv hp hA s.length [x] m (by omega) p2 (by simp) (by simp; omega)
  refine zq h1 ?_
  simp only [fh] at hq
  generalize hxe : x.enc = xe at *
  obtain ⟨k, lo, hi, l⟩ := x
  rw [aW] at hxe
  have h3 := fun T H c g g4 => h2 T H c g g4 _ _ rfl rfl
  subst hxe
  simp only [List.map_cons, List.map_nil, aW, List.length_cons, List.length_nil] at h3
  refine aa (F := f579) rfl rfl (ag 300 _ _ _ _ ?_)
  repeat' (first | refine ae ?_ | refine kX [(0, _, _)] [] ⟨rfl, trivial⟩ trivial (hq) ?_ | (refine ab ?_ ?_ <;> intro h))
  (conv => whnf)
  refine Ij 77 93 [(1, _), (0, _), (5, .vs 93 _ _), (4, _)] [(0, _), (68, _)] rfl puL (by decide) ⟨rfl, rfl, (by show AV.ren _ (.vs 77 _ _) = _; simp only [AV.ren, φM, and_self, if_true]; rfl), rfl, trivial⟩ ⟨⟨by decide, by decide, rfl⟩, ⟨by decide, by decide, rfl⟩, trivial⟩ ?_
  intro T H
  refine aA [1, 0, 5, 4] [0, 68, 93] ?_
  exact h3 _ _ _ _ _
end Go.AM.IR
namespace Go.AM.IR
theorem mT (s : List UInt8) (hs : s.length < 2 ^ 32) : ∀ (k : Nat) (lv : Int) (hk : lv + k = 33) (h0 : 0 ≤ lv) (n : Nat) (hn : n ≤ s.length), fh 579 s lv n (bL s (dy s) k n)
 | 0, lv, hk, h0, n, hn => by
  obtain rfl : lv = 33 := by omega
  refine ⟨n, ?_⟩
  refine aa (F := f579) rfl rfl (ag 300 _ _ _ _ ?_)
  repeat' (first | refine ae ?_ | (refine ab ?_ ?_ <;> intro h))
  refine gY ?_
  rfl
 | k + 1, lv, hk, h0, n, hn => by
  have ih := fun n hn => mT s hs k (lv + 1) (by omega) (by omega) n hn
  have pa := kO hs (gM s) k
  have h1 := fun n hn => uC s (by omega) (bL s (dy s) k) lv (by omega) h0 pa ih n hn
  have pt := oZ (gM s) pa
  have h2 := fun n hn => uj s (by omega) (bJ s (dy s) (bL s (dy s) k)) lv pt n hn (h1 n hn)
  have pi := gV pt
  have h3 := fun n hn => yh s hs (cz s (bJ s (dy s) (bL s (dy s) k))) lv pi h2 n hn
  have ps := m8 hs pi
  exact yi s hs (fP s (cz s (bJ s (dy s) (bL s (dy s) k)))) lv (by omega) ps h3 n hn
end Go.AM.IR
