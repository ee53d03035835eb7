/- What the functions of this program give, on the abstract machine. -/
import Derived.Test.YtomphmeopjpejaaGreatDoorDataM
set_option linter.unusedVariables false
set_option linter.unusedSimpArgs false
set_option maxHeartbeats 4000000
set_option maxRecDepth 20000
namespace Go.AM.IR
def dk (l : List (List UInt8)) (k : List UInt8) : Bool := l.any fun x => decide (x = k)
abbrev NmL := List UInt8
theorem n5 (l : List NmL) (k : List UInt8) (hl : l.length < 2 ^ 40) (ln : Int) (hln : ln = l.length) : ∀ (rest done : List NmL)  (T : List (Nat × AV)) (H : ay) (c : Nat) (n : Int) (e : l = done ++ rest) (hn : n = done.length) , Ev G ⟨JP, ⟨(7, .sl 1 (l.map aX)) :: (8, .int .i64 ln) :: (9, .int .i64 n) :: (1, .str k) :: T, H, c⟩, [.t 4], 0⟩ (⟨.bool (dk rest k), []⟩)
 | [], done,  T, H, c, n, e, hn => by
  have hd : l.length = done.length := by simp [e]
  have hll : (l.map aX).length = l.length := by simp
  refine evl ?_
  repeat' (first | refine ae ?_ | (refine ab ?_ ?_ <;> intro h))
  refine ah ?_; rfl
 | x :: r, done,  T, H, c, n, e, hn => by
  have hd : l.length = done.length + (r.length + 1) := by simp [e]
  have hll : (l.map aX).length = l.length := by simp
  have hx : (l.map aX)[n.toNat]? = some (aX x) := by simp [e, hn]
  by_cases h : x = k
  ·rw [show dk (x :: r) k = true from by simp [dk, h]]
   refine evl ?_
   repeat' ((conv => whnf); first | refine DP h ?_ | refine a7 ?_ | (refine ab ?_ ?_ <;> intro h))
   refine ah ?_; rfl
  ·rw [show dk (x :: r) k = dk r k from by simp [dk, h]]
   refine evl ?_
   repeat' ((conv => whnf); first | refine DQ h ?_ | refine a7 ?_ | (refine ab ?_ ?_ <;> intro h))
   refine aA [7, 8, 9, 1] [] ?_; exact n5 l k hl ln hln r (done ++ [x])  _ _ _ (n + 1) (by simp [e]) (by simp [hn] <;> omega)
theorem jG (l : List (List UInt8)) (hl : l.length < 2 ^ 40) (k : List UInt8) : am G 630 [.sl 1 (l.map aX), .str k] [] ⟨.bool (dk l k), []⟩ := by
 have m1 : (l.map aX).length = l.length := by simp
 refine aa (F := f630) rfl rfl (ag 300 _ _ _ _ ?_)
 repeat' (first | refine ae ?_ | (refine ab ?_ ?_ <;> intro h))
 refine aA [7, 8, 9, 1] [] ?_
 rw [m1]
 exact n5 l k hl _ rfl l [] _ _ _ 0 rfl rfl
structure Kn where
 a : List (List UInt8)
 b : List (List UInt8)
 c : List (List UInt8)
 d : List (List UInt8)
def Kn.enc (k : Kn) : List AV := [.sl 1 (k.a.map aX), .sl 1 (k.b.map aX), .sl 1 (k.c.map aX), .sl 1 (k.d.map aX)]
structure Kn.fit (k : Kn) : Prop where
 a : k.a.length < 2 ^ 40
 b : k.b.length < 2 ^ 40
 c : k.c.length < 2 ^ 40
 d : k.d.length < 2 ^ 40
def mtN (l : List (List UInt8)) (m : Mat) : Int := if m.n = 0 ∧ m.pfx.addr = 0 ∧ m.pfx.len = 0 then (if dk l m.name = true then 0 else 6) else 1
def mtH (m : Mat) : Int := if m.name = [] ∧ m.n = 0 then (if bb m.pfx = true then 0 else 1) else 1
def mtR (lo hi : Int) (m : Mat) : Int := if m.name = [] ∧ m.pfx.addr = 0 ∧ m.pfx.len = 0 then (if lo ≤ m.n ∧ m.n ≤ hi then 0 else 5) else 1
def mtE (k : Kn) (m : Mat) : Int := if m.kind = 1 then mtN k.a m else if m.kind = 2 then mtN k.b m else if m.kind = 3 then mtN k.c m else if m.kind = 7 then mtH m else
 if m.kind = 4 then mtR 1 7 m else if m.kind = 6 then mtR 0 16777216 m else if m.kind = 8 then mtR 0 2000 m else if m.kind = 5 then mtR 0 4294967295 m else 15
theorem yv (k : Kn) (hk : k.fit) (m : Mat) (hp : m.pfx.ok) : am G 594 [.agg k.enc, .agg m.enc] [] ⟨.int .i64 (mtE k m), []⟩ := by
 have h1 : am G 178 [.agg [.int .u32 m.pfx.addr, .int .i64 m.pfx.len]] [] ⟨.bool (bb m.pfx), []⟩ := ku m.pfx hp
 have h2 := jG k.a hk.a m.name
 have h3 := jG k.b hk.b m.name
 have h4 := jG k.c hk.c m.name
 have w (lo hi : Int) := e7 m.n lo hi
 obtain ⟨kind, name, n, ⟨pa, pl⟩, neg⟩ := m
 dsimp only at *
 by_cases k1 : kind = 1
 ·subst k1
  rw [mtE, if_pos rfl, mtN]
  dsimp only
  generalize dk k.a name = B at *
  by_cases c1 : n = 0 ∧ pa = 0 ∧ pl = 0
  ·obtain ⟨rfl, rfl, rfl⟩ := c1
   rw [if_pos ⟨rfl, rfl, rfl⟩]
   cases B
   ·refine aa (F := f594) rfl rfl (ag 300 _ _ _ _ ?_)
    repeat' (first | refine ae ?_ | (refine ab ?_ ?_ <;> intro h))
    all_goals (refine ah ?_; rfl)
   ·refine aa (F := f594) rfl rfl (ag 300 _ _ _ _ ?_)
    repeat' (first | refine ae ?_ | (refine ab ?_ ?_ <;> intro h))
    all_goals (refine ah ?_; rfl)
  ·rw [if_neg c1]
   refine aa (F := f594) rfl rfl (ag 300 _ _ _ _ ?_)
   repeat' (first | refine ae ?_ | (refine ab ?_ ?_ <;> intro h))
   all_goals try (exfalso; first | omega | (simp_all; done))
   all_goals (refine ah ?_; rfl)
 by_cases k2 : kind = 2
 ·subst k2
  rw [mtE, if_neg k1, if_pos rfl, mtN]
  dsimp only
  generalize dk k.b name = B at *
  by_cases c1 : n = 0 ∧ pa = 0 ∧ pl = 0
  ·obtain ⟨rfl, rfl, rfl⟩ := c1
   rw [if_pos ⟨rfl, rfl, rfl⟩]
   cases B
   ·refine aa (F := f594) rfl rfl (ag 300 _ _ _ _ ?_)
    repeat' (first | refine ae ?_ | (refine ab ?_ ?_ <;> intro h))
    all_goals (refine ah ?_; rfl)
   ·refine aa (F := f594) rfl rfl (ag 300 _ _ _ _ ?_)
    repeat' (first | refine ae ?_ | (refine ab ?_ ?_ <;> intro h))
    all_goals (refine ah ?_; rfl)
  ·rw [if_neg c1]
   refine aa (F := f594) rfl rfl (ag 300 _ _ _ _ ?_)
   repeat' (first | refine ae ?_ | (refine ab ?_ ?_ <;> intro h))
   all_goals try (exfalso; first | omega | (simp_all; done))
   all_goals (refine ah ?_; rfl)
 by_cases k3 : kind = 3
 ·subst k3
  rw [mtE, if_neg k1, if_neg k2, if_pos rfl, mtN]
  dsimp only
  generalize dk k.c name = B at *
  by_cases c1 : n = 0 ∧ pa = 0 ∧ pl = 0
  ·obtain ⟨rfl, rfl, rfl⟩ := c1
   rw [if_pos ⟨rfl, rfl, rfl⟩]
   cases B
   ·refine aa (F := f594) rfl rfl (ag 300 _ _ _ _ ?_)
    repeat' (first | refine ae ?_ | (refine ab ?_ ?_ <;> intro h))
    all_goals (refine ah ?_; rfl)
   ·refine aa (F := f594) rfl rfl (ag 300 _ _ _ _ ?_)
    repeat' (first | refine ae ?_ | (refine ab ?_ ?_ <;> intro h))
    all_goals (refine ah ?_; rfl)
  ·rw [if_neg c1]
   refine aa (F := f594) rfl rfl (ag 300 _ _ _ _ ?_)
   repeat' (first | refine ae ?_ | (refine ab ?_ ?_ <;> intro h))
   all_goals try (exfalso; first | omega | (simp_all; done))
   all_goals (refine ah ?_; rfl)
 by_cases k7 : kind = 7
 ·subst k7
  rw [mtE, if_neg k1, if_neg k2, if_neg k3, if_pos rfl, mtH]
  dsimp only
  by_cases c1 : name = [] ∧ n = 0
  ·obtain ⟨rfl, rfl⟩ := c1
   rw [if_pos ⟨rfl, rfl⟩]
   generalize bb ⟨pa, pl⟩ = B at *
   cases B
   ·refine aa (F := f594) rfl rfl (ag 300 _ _ _ _ ?_)
    repeat' (first | refine ae ?_ | (refine ab ?_ ?_ <;> intro h))
    all_goals (refine ah ?_; rfl)
   ·refine aa (F := f594) rfl rfl (ag 300 _ _ _ _ ?_)
    repeat' (first | refine ae ?_ | (refine ab ?_ ?_ <;> intro h))
    all_goals (refine ah ?_; rfl)
  ·rw [if_neg c1]
   refine aa (F := f594) rfl rfl (ag 300 _ _ _ _ ?_)
   repeat' (first | refine ae ?_ | (refine ab ?_ ?_ <;> intro h))
   all_goals try (exfalso; first | omega | (simp_all; done))
   all_goals (refine ah ?_; rfl)
 by_cases k4 : kind = 4
 ·subst k4
  have h5 := w 1 7
  rw [mtE, if_neg k1, if_neg k2, if_neg k3, if_neg k7, if_pos rfl, mtR]
  dsimp only
  by_cases c1 : name = [] ∧ pa = 0 ∧ pl = 0
  ·obtain ⟨rfl, rfl, rfl⟩ := c1
   rw [if_pos ⟨rfl, rfl, rfl⟩]
   by_cases c2 : 1 ≤ n ∧ n ≤ 7
   ·rw [decide_eq_true c2.1, decide_eq_true c2.2] at h5
    rw [if_pos c2]
    refine aa (F := f594) rfl rfl (ag 300 _ _ _ _ ?_)
    repeat' (first | refine ae ?_ | (refine ab ?_ ?_ <;> intro h))
    all_goals (refine ah ?_; rfl)
   ·have e : (decide (1 ≤ n) && decide (n ≤ 7)) = false := by rw [← Bool.decide_and, decide_eq_false c2]
    rw [e] at h5
    rw [if_neg c2]
    refine aa (F := f594) rfl rfl (ag 300 _ _ _ _ ?_)
    repeat' (first | refine ae ?_ | (refine ab ?_ ?_ <;> intro h))
    all_goals (refine ah ?_; rfl)
  ·rw [if_neg c1]
   refine aa (F := f594) rfl rfl (ag 300 _ _ _ _ ?_)
   repeat' (first | refine ae ?_ | (refine ab ?_ ?_ <;> intro h))
   all_goals try (exfalso; first | omega | (simp_all; done))
   all_goals (refine ah ?_; rfl)
 by_cases k6 : kind = 6
 ·subst k6
  have h5 := w 0 16777216
  rw [mtE, if_neg k1, if_neg k2, if_neg k3, if_neg k7, if_neg k4, if_pos rfl, mtR]
  dsimp only
  by_cases c1 : name = [] ∧ pa = 0 ∧ pl = 0
  ·obtain ⟨rfl, rfl, rfl⟩ := c1
   rw [if_pos ⟨rfl, rfl, rfl⟩]
   by_cases c2 : 0 ≤ n ∧ n ≤ 16777216
   ·rw [decide_eq_true c2.1, decide_eq_true c2.2] at h5
    rw [if_pos c2]
    refine aa (F := f594) rfl rfl (ag 300 _ _ _ _ ?_)
    repeat' (first | refine ae ?_ | (refine ab ?_ ?_ <;> intro h))
    all_goals (refine ah ?_; rfl)
   ·have e : (decide (0 ≤ n) && decide (n ≤ 16777216)) = false := by rw [← Bool.decide_and, decide_eq_false c2]
    rw [e] at h5
    rw [if_neg c2]
    refine aa (F := f594) rfl rfl (ag 300 _ _ _ _ ?_)
    repeat' (first | refine ae ?_ | (refine ab ?_ ?_ <;> intro h))
    all_goals (refine ah ?_; rfl)
  ·rw [if_neg c1]
   refine aa (F := f594) rfl rfl (ag 300 _ _ _ _ ?_)
   repeat' (first | refine ae ?_ | (refine ab ?_ ?_ <;> intro h))
   all_goals try (exfalso; first | omega | (simp_all; done))
   all_goals (refine ah ?_; rfl)
 by_cases k8 : kind = 8
 ·subst k8
  have h5 := w 0 2000
  rw [mtE, if_neg k1, if_neg k2, if_neg k3, if_neg k7, if_neg k4, if_neg k6, if_pos rfl, mtR]
  dsimp only
  by_cases c1 : name = [] ∧ pa = 0 ∧ pl = 0
  ·obtain ⟨rfl, rfl, rfl⟩ := c1
   rw [if_pos ⟨rfl, rfl, rfl⟩]
   by_cases c2 : 0 ≤ n ∧ n ≤ 2000
   ·rw [decide_eq_true c2.1, decide_eq_true c2.2] at h5
    rw [if_pos c2]
    refine aa (F := f594) rfl rfl (ag 300 _ _ _ _ ?_)
    repeat' (first | refine ae ?_ | (refine ab ?_ ?_ <;> intro h))
    all_goals (refine ah ?_; rfl)
   ·have e : (decide (0 ≤ n) && decide (n ≤ 2000)) = false := by rw [← Bool.decide_and, decide_eq_false c2]
    rw [e] at h5
    rw [if_neg c2]
    refine aa (F := f594) rfl rfl (ag 300 _ _ _ _ ?_)
    repeat' (first | refine ae ?_ | (refine ab ?_ ?_ <;> intro h))
    all_goals (refine ah ?_; rfl)
  ·rw [if_neg c1]
   refine aa (F := f594) rfl rfl (ag 300 _ _ _ _ ?_)
   repeat' (first | refine ae ?_ | (refine ab ?_ ?_ <;> intro h))
   all_goals try (exfalso; first | omega | (simp_all; done))
   all_goals (refine ah ?_; rfl)
 by_cases k5 : kind = 5
 ·subst k5
  have h5 := w 0 4294967295
  rw [mtE, if_neg k1, if_neg k2, if_neg k3, if_neg k7, if_neg k4, if_neg k6, if_neg k8, if_pos rfl, mtR]
  dsimp only
  by_cases c1 : name = [] ∧ pa = 0 ∧ pl = 0
  ·obtain ⟨rfl, rfl, rfl⟩ := c1
   rw [if_pos ⟨rfl, rfl, rfl⟩]
   by_cases c2 : 0 ≤ n ∧ n ≤ 4294967295
   ·rw [decide_eq_true c2.1, decide_eq_true c2.2] at h5
    rw [if_pos c2]
    refine aa (F := f594) rfl rfl (ag 300 _ _ _ _ ?_)
    repeat' (first | refine ae ?_ | (refine ab ?_ ?_ <;> intro h))
    all_goals (refine ah ?_; rfl)
   ·have e : (decide (0 ≤ n) && decide (n ≤ 4294967295)) = false := by rw [← Bool.decide_and, decide_eq_false c2]
    rw [e] at h5
    rw [if_neg c2]
    refine aa (F := f594) rfl rfl (ag 300 _ _ _ _ ?_)
    repeat' (first | refine ae ?_ | (refine ab ?_ ?_ <;> intro h))
    all_goals (refine ah ?_; rfl)
  ·rw [if_neg c1]
   refine aa (F := f594) rfl rfl (ag 300 _ _ _ _ ?_)
   repeat' (first | refine ae ?_ | (refine ab ?_ ?_ <;> intro h))
   all_goals try (exfalso; first | omega | (simp_all; done))
   all_goals (refine ah ?_; rfl)
 rw [mtE, if_neg k1, if_neg k2, if_neg k3, if_neg k7, if_neg k4, if_neg k6, if_neg k8, if_neg k5]
 refine aa (F := f594) rfl rfl (ag 300 _ _ _ _ ?_)
 repeat' (first | refine ae ?_ | (refine ab ?_ ?_ <;> intro h))
 all_goals (refine ah ?_; rfl)
end Go.AM.IR
