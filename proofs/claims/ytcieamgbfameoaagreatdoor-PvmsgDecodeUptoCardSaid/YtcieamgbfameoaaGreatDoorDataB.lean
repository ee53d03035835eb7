/- What the functions of this program give, on the abstract machine. -/
import Derived.Test.YtcieamgbfameoaaGreatDoorDataA
import Derived.Test.YtcieamgbfameoaaGreatDoorMachineB
set_option linter.unusedVariables false
set_option linter.unusedSimpArgs false
set_option maxHeartbeats 4000000
set_option maxRecDepth 20000
namespace Go.AM.IR
@[simp] theorem alx (l : List UInt8) : ba (byteCells l) = true := bJ l
theorem kR (x y : List UInt8) : ah G 98 [.sl 1 (byteCells x), .sl 1 (byteCells y)] [] ⟨.bool (decide (x = y)), []⟩ := by
 rw [show decide (x = y) = (x == y) from by by_cases h : x = y <;> simp [h]]
 refine ae (F := f98) rfl rfl (az 300 _ _ _ _ ?_)
 repeat' (first | refine ab ?_ | (refine aa ?_ ?_ <;> intro h))
 all_goals try exact dnA
structure LenC (a : Attrs) : Prop where
 path : a.path.length < 2 ^ 40
 segs : ∀ s ∈ a.path, s.as.length < 2 ^ 40
 comms : a.comms.length < 2 ^ 40
 clusters : a.clusters.length < 2 ^ 40
 unknown : a.unknown.length < 2 ^ 40
theorem tl (a b : Attrs) (ha : LenC a) (hb : LenC b) (hlen : a.unknown.length = b.unknown.length) : ∀ (r1 d1 r2 d2 : List TLV) (T : List (Nat × AV)) (H : aq) (c : Nat) (n : Int) (e1 : a.unknown = d1 ++ r1) (e2 : b.unknown = d2 ++ r2) (hn1 : n = d1.length) (hn2 : n = d2.length),
  Ev G ⟨Qp, ⟨(122, .int .i64 n) :: (3, .ref 67 2 0) :: (2, .ref 66 1 0) :: (121, .int .i64 a.unknown.length) :: T, (66, some (1, .cells a.enc)) :: (67, some (2, .cells b.enc)) :: H, c⟩, [.t 4], 0⟩ ⟨.bool (decide (r1 = r2)), []⟩
 | [], d1, [], d2, T, H, c, n, e1, e2, hn1, hn2 => by
  have hul := ha.unknown
  have hd : a.unknown.length = d1.length := by simp [e1]
  refine evl ?_
  repeat' (first | refine ab ?_ | (refine aa ?_ ?_ <;> intro h))
  all_goals try exact dnA
 | x :: r1, d1, y :: r2, d2, T, H, c, n, e1, e2, hn1, hn2 => by
  have hul := ha.unknown
  have hd : a.unknown.length = d1.length + (r1.length + 1) := by simp [e1]
  have hx : (a.unknown.map TLV.enc)[n.toNat]? = some x.enc := by simp [e1, hn1]
  have hy : (b.unknown.map TLV.enc)[n.toNat]? = some y.enc := by simp [e2, hn2]
  have hee : (x = y) ↔ (x.kind = y.kind ∧ x.value = y.value) := by cases x; cases y; simp
  refine evl ?_
  repeat' (first | refine ab ?_ | (refine aa ?_ ?_ <;> intro h))
  all_goals try (refine ax ?_; first | rfl | (simp [hee, Bool.cond_eq_ite, *]; done) | (simp [hee, Bool.cond_eq_ite, *]; omega))
  rw [show (decide (x :: r1 = y :: r2)) = (decide (r1 = r2)) from by simp [hee, *]]
  refine ag [122, 3, 2, 121] [66, 67] ?_; exact tl a b ha hb hlen r1 (d1 ++ [x]) r2 (d2 ++ [y]) _ _ _ (n + 1) (by simp [e1]) (by simp [e2]) (by simp [hn1]) (by simp; omega)
 | [], d1, y :: r2, d2, T, H, c, n, e1, e2, hn1, hn2 => by
  exfalso; rw [e1, e2] at hlen; simp at hlen; omega
 | x :: r1, d1, [], d2, T, H, c, n, e1, e2, hn1, hn2 => by
  exfalso; rw [e1, e2] at hlen; simp at hlen; omega
theorem oB (a b : Attrs) (ha : LenC a) (hb : LenC b) : ah G 72 [.agg a.enc, .agg b.enc] [] ⟨.bool (decide (a = b)), []⟩ := by
 have hab : (a = b) ↔ (a.origin = b.origin ∧ a.path = b.path ∧ a.nextHop = b.nextHop ∧ a.hasMED = b.hasMED ∧ a.med = b.med ∧ a.hasPref = b.hasPref ∧ a.pref = b.pref ∧ a.atomic = b.atomic ∧ a.hasAggr = b.hasAggr ∧ a.aggrAS = b.aggrAS ∧ a.aggrAddr = b.aggrAddr ∧ a.comms = b.comms ∧ a.hasOrig = b.hasOrig ∧ a.orig = b.orig ∧ a.clusters = b.clusters ∧ a.unknown = b.unknown) := by cases a; cases b; simp
 have l1 : (a.unknown.map TLV.enc).length = a.unknown.length := by simp
 have l2 : (b.unknown.map TLV.enc).length = b.unknown.length := by simp
 by_cases hlen : a.unknown.length = b.unknown.length
 ·refine ae (F := f72) rfl rfl (az 300 _ _ _ _ ?_)
  repeat' (first | refine ab ?_ | refine kV (ob _ _ ha.path hb.path ha.segs hb.segs) ?_ | refine kV (j8 _ _ ha.comms hb.comms) ?_ | refine kV (j8 _ _ ha.clusters hb.clusters) ?_ | (refine aa ?_ ?_ <;> intro h))
  all_goals try (refine ax ?_; first | rfl | (simp [hab, Bool.cond_eq_ite, *]; done) | (simp [hab, Bool.cond_eq_ite, *]; omega))
  refine ag [122, 3, 2, 121] [66, 67] ?_
  rw [l1, show decide (a = b) = (decide (a.unknown = b.unknown)) from by simp [hab, *]]
  exact tl a b ha hb hlen a.unknown [] b.unknown [] _ _ _ 0 rfl rfl rfl rfl
 ·have hne : ¬ a.unknown = b.unknown := fun h => hlen (by rw [h])
  rw [show decide (a = b) = false from by simp [hab, hne]]
  refine ae (F := f72) rfl rfl (az 300 _ _ _ _ ?_)
  repeat' (first | refine ab ?_ | refine kV (ob _ _ ha.path hb.path ha.segs hb.segs) ?_ | refine kV (j8 _ _ ha.comms hb.comms) ?_ | refine kV (j8 _ _ ha.clusters hb.clusters) ?_ | (refine aa ?_ ?_ <;> intro h))
  all_goals try exact dnA
theorem tn (a b : Attrs) (ha : LenC a) (hb : LenC b) (hlen : a.unknown.length = b.unknown.length) : ∀ (r1 d1 r2 d2 : List TLV) (T : List (Nat × AV)) (H : aq) (c : Nat) (n : Int) (e1 : a.unknown = d1 ++ r1) (e2 : b.unknown = d2 ++ r2) (hn1 : n = d1.length) (hn2 : n = d2.length),
  Ev G ⟨Qq, ⟨(106, .int .i64 n) :: (3, .ref 67 2 0) :: (2, .ref 66 1 0) :: (105, .int .i64 a.unknown.length) :: T, (66, some (1, .cells a.enc)) :: (67, some (2, .cells b.enc)) :: H, c⟩, [.t 4], 0⟩ ⟨.bool ((decide (r1 = r2) && (decide (a.comms = b.comms) && decide (a.clusters = b.clusters)))), []⟩
 | [], d1, [], d2, T, H, c, n, e1, e2, hn1, hn2 => by
  have hul := ha.unknown
  have hd : a.unknown.length = d1.length := by simp [e1]
  refine evl ?_
  repeat' (first | refine ab ?_ | refine kV (kR _ _) ?_ | refine kV (gg _ _ ha.comms hb.comms) ?_ | refine kV (gg _ _ ha.clusters hb.clusters) ?_ | (refine aa ?_ ?_ <;> intro h))
  all_goals try exact dnA
 | x :: r1, d1, y :: r2, d2, T, H, c, n, e1, e2, hn1, hn2 => by
  have hul := ha.unknown
  have hd : a.unknown.length = d1.length + (r1.length + 1) := by simp [e1]
  have hx : (a.unknown.map TLV.enc)[n.toNat]? = some x.enc := by simp [e1, hn1]
  have hy : (b.unknown.map TLV.enc)[n.toNat]? = some y.enc := by simp [e2, hn2]
  have hee : (x = y) ↔ (x.kind = y.kind ∧ x.value = y.value) := by cases x; cases y; simp
  refine evl ?_
  repeat' (first | refine ab ?_ | refine kV (kR _ _) ?_ | refine kV (gg _ _ ha.comms hb.comms) ?_ | refine kV (gg _ _ ha.clusters hb.clusters) ?_ | (refine aa ?_ ?_ <;> intro h))
  all_goals try (refine ax ?_; first | rfl | (simp [hee, Bool.cond_eq_ite, *]; done) | (simp [hee, Bool.cond_eq_ite, *]; omega))
  rw [show ((decide (x :: r1 = y :: r2) && (decide (a.comms = b.comms) && decide (a.clusters = b.clusters)))) = ((decide (r1 = r2) && (decide (a.comms = b.comms) && decide (a.clusters = b.clusters)))) from by simp [hee, *]]
  refine ag [106, 3, 2, 105] [66, 67] ?_; exact tn a b ha hb hlen r1 (d1 ++ [x]) r2 (d2 ++ [y]) _ _ _ (n + 1) (by simp [e1]) (by simp [e2]) (by simp [hn1]) (by simp; omega)
 | [], d1, y :: r2, d2, T, H, c, n, e1, e2, hn1, hn2 => by
  exfalso; rw [e1, e2] at hlen; simp at hlen; omega
 | x :: r1, d1, [], d2, T, H, c, n, e1, e2, hn1, hn2 => by
  exfalso; rw [e1, e2] at hlen; simp at hlen; omega
theorem oC (a b : Attrs) (ha : LenC a) (hb : LenC b) : ah G 70 [.agg a.enc, .agg b.enc] [] ⟨.bool (decide (a = b)), []⟩ := by
 have hab : (a = b) ↔ (a.origin = b.origin ∧ a.path = b.path ∧ a.nextHop = b.nextHop ∧ a.hasMED = b.hasMED ∧ a.med = b.med ∧ a.hasPref = b.hasPref ∧ a.pref = b.pref ∧ a.atomic = b.atomic ∧ a.hasAggr = b.hasAggr ∧ a.aggrAS = b.aggrAS ∧ a.aggrAddr = b.aggrAddr ∧ a.comms = b.comms ∧ a.hasOrig = b.hasOrig ∧ a.orig = b.orig ∧ a.clusters = b.clusters ∧ a.unknown = b.unknown) := by cases a; cases b; simp
 have l1 : (a.unknown.map TLV.enc).length = a.unknown.length := by simp
 have l2 : (b.unknown.map TLV.enc).length = b.unknown.length := by simp
 by_cases hlen : a.unknown.length = b.unknown.length
 ·refine ae (F := f70) rfl rfl (az 300 _ _ _ _ ?_)
  repeat' (first | refine ab ?_ | refine kV (oA _ _ ha.path hb.path ha.segs hb.segs) ?_ | refine kV (gg _ _ ha.comms hb.comms) ?_ | refine kV (gg _ _ ha.clusters hb.clusters) ?_ | (refine aa ?_ ?_ <;> intro h))
  all_goals try (refine ax ?_; first | rfl | (simp [hab, Bool.cond_eq_ite, *]; done) | (simp [hab, Bool.cond_eq_ite, *]; omega))
  refine ag [106, 3, 2, 105] [66, 67] ?_
  rw [l1, show decide (a = b) = ((decide (a.unknown = b.unknown) && (decide (a.comms = b.comms) && decide (a.clusters = b.clusters)))) from by simp [hab, *]; rw [Bool.eq_iff_iff]; simp [and_comm, and_assoc, and_left_comm]]
  exact tn a b ha hb hlen a.unknown [] b.unknown [] _ _ _ 0 rfl rfl rfl rfl
 ·have hne : ¬ a.unknown = b.unknown := fun h => hlen (by rw [h])
  rw [show decide (a = b) = false from by simp [hab, hne]]
  refine ae (F := f70) rfl rfl (az 300 _ _ _ _ ?_)
  repeat' (first | refine ab ?_ | refine kV (oA _ _ ha.path hb.path ha.segs hb.segs) ?_ | refine kV (gg _ _ ha.comms hb.comms) ?_ | refine kV (gg _ _ ha.clusters hb.clusters) ?_ | (refine aa ?_ ?_ <;> intro h))
  all_goals try exact dnA
end Go.AM.IR
namespace Go.AM.IR
deriving instance DecidableEq for PMsg
theorem qj (a b : List Cap) (ha : a.length < 2 ^ 40) (hlen : a.length = b.length) : ∀ (r1 d1 r2 d2 : List Cap) (T : List (Nat × AV)) (H : aq) (c : Nat) (n : Int) (e1 : a = d1 ++ r1) (e2 : b = d2 ++ r2) (hn1 : n = d1.length) (hn2 : n = d2.length),
  Ev G ⟨Ru, ⟨(13, .int .i64 n) :: (1, .sl 2 (b.map Cap.enc)) :: (0, .sl 2 (a.map Cap.enc)) :: (12, .int .i64 a.length) :: T, H, c⟩, [.t 4], 0⟩ ⟨.bool (decide (r1 = r2)), []⟩
 | [], d1, [], d2, T, H, c, n, e1, e2, hn1, hn2 => by
  have hd : a.length = d1.length := by simp [e1]
  refine evl ?_
  repeat' (first | refine ab ?_ | (refine aa ?_ ?_ <;> intro h))
  all_goals try exact dnA
 | x :: r1, d1, y :: r2, d2, T, H, c, n, e1, e2, hn1, hn2 => by
  have hd : a.length = d1.length + (r1.length + 1) := by simp [e1]
  have hx : (a.map Cap.enc)[n.toNat]? = some x.enc := by simp [e1, hn1]
  have hy : (b.map Cap.enc)[n.toNat]? = some y.enc := by simp [e2, hn2]
  have hee : (x = y) ↔ (x.code = y.code ∧ x.value = y.value) := by cases x; cases y; simp
  refine evl ?_
  repeat' (first | refine ab ?_ | (refine aa ?_ ?_ <;> intro h))
  all_goals try (refine ax ?_; first | rfl | (simp [hee, Bool.cond_eq_ite, *]; done) | (simp [hee, Bool.cond_eq_ite, *]; omega))
  rw [show (decide (x :: r1 = y :: r2)) = (decide (r1 = r2)) from by simp [hee, *]]
  refine ag [13, 1, 0, 12] [] ?_; exact qj a b ha hlen r1 (d1 ++ [x]) r2 (d2 ++ [y]) _ _ _ (n + 1) (by simp [e1]) (by simp [e2]) (by simp [hn1]) (by simp; omega)
 | [], d1, y :: r2, d2, T, H, c, n, e1, e2, hn1, hn2 => by
  exfalso; rw [e1, e2] at hlen; simp at hlen; omega
 | x :: r1, d1, [], d2, T, H, c, n, e1, e2, hn1, hn2 => by
  exfalso; rw [e1, e2] at hlen; simp at hlen; omega
theorem qW (a b : List Cap) (ha : a.length < 2 ^ 40) : ah G 138 [.sl 2 (a.map Cap.enc), .sl 2 (b.map Cap.enc)] [] ⟨.bool (decide (a = b)), []⟩ := by
 have l1 : (a.map Cap.enc).length = a.length := by simp
 have l2 : (b.map Cap.enc).length = b.length := by simp
 by_cases hlen : a.length = b.length
 ·refine ae (F := JH) rfl rfl (az 300 _ _ _ _ ?_)
  repeat' (first | refine ab ?_ | (refine aa ?_ ?_ <;> intro h))
  refine ag [13, 1, 0, 12] [] ?_
  rw [l1]
  exact qj a b ha hlen a [] b [] _ _ _ 0 rfl rfl rfl rfl
 ·have hne : ¬ a = b := fun h => hlen (by rw [h])
  rw [show decide (a = b) = false from by simp [hne]]
  refine ae (F := JH) rfl rfl (az 300 _ _ _ _ ?_)
  repeat' (first | refine ab ?_ | (refine aa ?_ ?_ <;> intro h))
  all_goals try exact dnA
theorem rt (a b : List Pfx) (ha : a.length < 2 ^ 40) (hlen : a.length = b.length) : ∀ (r1 d1 r2 d2 : List Pfx) (T : List (Nat × AV)) (H : aq) (c : Nat) (n : Int) (e1 : a = d1 ++ r1) (e2 : b = d2 ++ r2) (hn1 : n = d1.length) (hn2 : n = d2.length),
  Ev G ⟨Rn, ⟨(13, .int .i64 n) :: (1, .sl 2 (b.map Pfx.enc)) :: (0, .sl 2 (a.map Pfx.enc)) :: (12, .int .i64 a.length) :: T, H, c⟩, [.t 4], 0⟩ ⟨.bool (decide (r1 = r2)), []⟩
 | [], d1, [], d2, T, H, c, n, e1, e2, hn1, hn2 => by
  have hd : a.length = d1.length := by simp [e1]
  refine evl ?_
  repeat' (first | refine ab ?_ | (refine aa ?_ ?_ <;> intro h))
  all_goals try exact dnA
 | x :: r1, d1, y :: r2, d2, T, H, c, n, e1, e2, hn1, hn2 => by
  have hd : a.length = d1.length + (r1.length + 1) := by simp [e1]
  have hx : (a.map Pfx.enc)[n.toNat]? = some x.enc := by simp [e1, hn1]
  have hy : (b.map Pfx.enc)[n.toNat]? = some y.enc := by simp [e2, hn2]
  have hee : (x = y) ↔ (x.addr = y.addr ∧ x.len = y.len) := by cases x; cases y; simp
  refine evl ?_
  repeat' (first | refine ab ?_ | (refine aa ?_ ?_ <;> intro h))
  all_goals try (refine ax ?_; first | rfl | (simp [hee, Bool.cond_eq_ite, *]; done) | (simp [hee, Bool.cond_eq_ite, *]; omega))
  rw [show (decide (x :: r1 = y :: r2)) = (decide (r1 = r2)) from by simp [hee, *]]
  refine ag [13, 1, 0, 12] [] ?_; exact rt a b ha hlen r1 (d1 ++ [x]) r2 (d2 ++ [y]) _ _ _ (n + 1) (by simp [e1]) (by simp [e2]) (by simp [hn1]) (by simp; omega)
 | [], d1, y :: r2, d2, T, H, c, n, e1, e2, hn1, hn2 => by
  exfalso; rw [e1, e2] at hlen; simp at hlen; omega
 | x :: r1, d1, [], d2, T, H, c, n, e1, e2, hn1, hn2 => by
  exfalso; rw [e1, e2] at hlen; simp at hlen; omega
theorem lF (a b : List Pfx) (ha : a.length < 2 ^ 40) : ah G 139 [.sl 2 (a.map Pfx.enc), .sl 2 (b.map Pfx.enc)] [] ⟨.bool (decide (a = b)), []⟩ := by
 have l1 : (a.map Pfx.enc).length = a.length := by simp
 have l2 : (b.map Pfx.enc).length = b.length := by simp
 by_cases hlen : a.length = b.length
 ·refine ae (F := JG) rfl rfl (az 300 _ _ _ _ ?_)
  repeat' (first | refine ab ?_ | (refine aa ?_ ?_ <;> intro h))
  refine ag [13, 1, 0, 12] [] ?_
  rw [l1]
  exact rt a b ha hlen a [] b [] _ _ _ 0 rfl rfl rfl rfl
 ·have hne : ¬ a = b := fun h => hlen (by rw [h])
  rw [show decide (a = b) = false from by simp [hne]]
  refine ae (F := JG) rfl rfl (az 300 _ _ _ _ ?_)
  repeat' (first | refine ab ?_ | (refine aa ?_ ?_ <;> intro h))
  all_goals try exact dnA
end Go.AM.IR
namespace Go.AM.IR
structure LenM (m : PMsg) : Prop where
 caps : m.caps.length < 2 ^ 40
 withdrawn : m.withdrawn.length < 2 ^ 40
 reach : m.reach.length < 2 ^ 40
 attrs : LenC m.attrs
theorem yy (m : PMsg) (h : LenM m) : ah G 126 [.agg m.enc, .agg m.enc] [] ⟨.bool true, []⟩ := by
 have h1 := qW m.caps m.caps h.caps
 have h2 := lF m.withdrawn m.withdrawn h.withdrawn
 have h3 := lF m.reach m.reach h.reach
 have h4 := oC m.attrs m.attrs h.attrs h.attrs
 rw [show decide (m.caps = m.caps) = true from by simp] at h1
 rw [show decide (m.withdrawn = m.withdrawn) = true from by simp] at h2
 rw [show decide (m.reach = m.reach) = true from by simp] at h3
 rw [show decide (m.attrs = m.attrs) = true from by simp] at h4
 refine ae (F := Ry) rfl rfl (az 300 _ _ _ _ ?_)
 repeat' (first | refine ab ?_ | (refine aa ?_ ?_ <;> intro h))
 all_goals try exact dnA
theorem KW : LenM ap := ⟨by simp [ap], by simp [ap], by simp [ap], ⟨by simp [ap, zeroA], by simp [ap, zeroA], by simp [ap, zeroA], by simp [ap, zeroA], by simp [ap, zeroA]⟩⟩
def nilV : AV := .con (.slice none 0 0)
end Go.AM.IR
namespace Go.AM.IR
attribute [local simp] bJ
theorem rn (a b : List Pfx) (ha : a.length < 2 ^ 40) (hlen : a.length = b.length) : ∀ (r1 d1 r2 d2 : List Pfx) (T : List (Nat × AV)) (H : aq) (c : Nat) (n : Int) (e1 : a = d1 ++ r1) (e2 : b = d2 ++ r2) (hn1 : n = d1.length) (hn2 : n = d2.length),
  Ev G ⟨Rj, ⟨(13, .int .i64 n) :: (1, .sl 2 (b.map Pfx.enc)) :: (0, .sl 2 (a.map Pfx.enc)) :: (12, .int .i64 a.length) :: T, H, c⟩, [.t 4], 0⟩ ⟨.bool (decide (r1 = r2)), []⟩
 | [], d1, [], d2, T, H, c, n, e1, e2, hn1, hn2 => by
  have hd : a.length = d1.length := by simp [e1]
  refine evl ?_
  repeat' (first | refine ab ?_ | (refine aa ?_ ?_ <;> intro h))
  all_goals try exact dnA
 | x :: r1, d1, y :: r2, d2, T, H, c, n, e1, e2, hn1, hn2 => by
  have hd : a.length = d1.length + (r1.length + 1) := by simp [e1]
  have hx : (a.map Pfx.enc)[n.toNat]? = some x.enc := by simp [e1, hn1]
  have hy : (b.map Pfx.enc)[n.toNat]? = some y.enc := by simp [e2, hn2]
  have hee : (x = y) ↔ (x.addr = y.addr ∧ x.len = y.len) := by cases x; cases y; simp
  refine evl ?_
  repeat' (first | refine ab ?_ | (refine aa ?_ ?_ <;> intro h))
  all_goals try (refine ax ?_; first | rfl | (simp [hee, Bool.cond_eq_ite, *]; done) | (simp [hee, Bool.cond_eq_ite, *]; omega))
  rw [show (decide (x :: r1 = y :: r2)) = (decide (r1 = r2)) from by simp [hee, *]]
  refine ag [13, 1, 0, 12] [] ?_; exact rn a b ha hlen r1 (d1 ++ [x]) r2 (d2 ++ [y]) _ _ _ (n + 1) (by simp [e1]) (by simp [e2]) (by simp [hn1]) (by simp; omega)
 | [], d1, y :: r2, d2, T, H, c, n, e1, e2, hn1, hn2 => by
  exfalso; rw [e1, e2] at hlen; simp at hlen; omega
 | x :: r1, d1, [], d2, T, H, c, n, e1, e2, hn1, hn2 => by
  exfalso; rw [e1, e2] at hlen; simp at hlen; omega
theorem lD (a b : List Pfx) (ha : a.length < 2 ^ 40) : ah G 169 [.sl 2 (a.map Pfx.enc), .sl 2 (b.map Pfx.enc)] [] ⟨.bool (decide (a = b)), []⟩ := by
 have l1 : (a.map Pfx.enc).length = a.length := by simp
 have l2 : (b.map Pfx.enc).length = b.length := by simp
 by_cases hlen : a.length = b.length
 ·refine ae (F := JE) rfl rfl (az 300 _ _ _ _ ?_)
  repeat' (first | refine ab ?_ | (refine aa ?_ ?_ <;> intro h))
  refine ag [13, 1, 0, 12] [] ?_
  rw [l1]
  exact rn a b ha hlen a [] b [] _ _ _ 0 rfl rfl rfl rfl
 ·have hne : ¬ a = b := fun h => hlen (by rw [h])
  rw [show decide (a = b) = false from by simp [hne]]
  refine ae (F := JE) rfl rfl (az 300 _ _ _ _ ?_)
  repeat' (first | refine ab ?_ | (refine aa ?_ ?_ <;> intro h))
  all_goals try exact dnA
def qx (m : PMsg) : PMsg := { ap with kind := m.kind, version := m.version, as := m.as, hold := m.hold, router := m.router, caps := m.caps }
theorem w6 (m : PMsg) (hk : m.kind = 1) : ah G 157 [.agg m.enc] [] ⟨.agg (qx m).enc, []⟩ := by
 refine ae (F := vD) rfl rfl (az 300 _ _ _ _ ?_)
 repeat' (first | refine ab ?_ | (refine aa ?_ ?_ <;> intro h))
 refine bm [] [(66, some (_, .cells ((qx m).enc)))] trivial ⟨⟨rfl, leA⟩, trivial⟩ ?_
 refine ax ?_; (conv => whnf); refine Go.AM.finC ?_
 rfl
theorem qi (a b : PMsg) (ha : LenM a) (hb : LenM b) (hlen : a.caps.length = b.caps.length) : ∀ (r1 d1 r2 d2 : List Cap) (T : List (Nat × AV)) (H : aq) (c : Nat) (n : Int) (e1 : a.caps = d1 ++ r1) (e2 : b.caps = d2 ++ r2) (hn1 : n = d1.length) (hn2 : n = d2.length),
  Ev G ⟨Rm, ⟨(74, .int .i64 n) :: (3, .ref 67 2 0) :: (2, .ref 66 1 0) :: (73, .int .i64 a.caps.length) :: T, (66, some (1, .cells a.enc)) :: (67, some (2, .cells b.enc)) :: H, c⟩, [.t 4], 0⟩ ⟨.bool (decide (r1 = r2 ∧ a.withdrawn = b.withdrawn ∧ a.attrs = b.attrs ∧ a.reach = b.reach)), []⟩
 | [], d1, [], d2, T, H, c, n, e1, e2, hn1, hn2 => by
  have hd : a.caps.length = d1.length := by simp [e1]
  have h2 := lD a.withdrawn b.withdrawn ha.withdrawn
  have h3 := lD a.reach b.reach ha.reach
  have h4 := oB a.attrs b.attrs ha.attrs hb.attrs
  refine evl ?_
  repeat' (first | refine ab ?_ | (refine aa ?_ ?_ <;> intro h))
  all_goals try exact dnA
 | x :: r1, d1, y :: r2, d2, T, H, c, n, e1, e2, hn1, hn2 => by
  have hd : a.caps.length = d1.length + (r1.length + 1) := by simp [e1]
  have hx : (a.caps.map Cap.enc)[n.toNat]? = some x.enc := by simp [e1, hn1]
  have hy : (b.caps.map Cap.enc)[n.toNat]? = some y.enc := by simp [e2, hn2]
  have hll : (a.caps.map Cap.enc).length = a.caps.length := by simp
  have hl2 : (b.caps.map Cap.enc).length = b.caps.length := by simp
  have hee : (x = y) ↔ (x.code = y.code ∧ x.value = y.value) := by cases x; cases y; simp
  have hl40 := ha.caps
  refine evl ?_
  repeat' (first | refine ab ?_ | (refine aa ?_ ?_ <;> intro h))
  all_goals try (refine ax ?_; first | rfl | (simp [hee, Bool.cond_eq_ite, *]; done) | (simp [hee, Bool.cond_eq_ite, *]; omega))
  rw [show (decide (x :: r1 = y :: r2 ∧ a.withdrawn = b.withdrawn ∧ a.attrs = b.attrs ∧ a.reach = b.reach)) = (decide (r1 = r2 ∧ a.withdrawn = b.withdrawn ∧ a.attrs = b.attrs ∧ a.reach = b.reach)) from by simp [hee, *]]
  refine ag [74, 3, 2, 73] [66, 67] ?_; exact qi a b ha hb hlen r1 (d1 ++ [x]) r2 (d2 ++ [y]) _ _ _ (n + 1) (by simp [e1]) (by simp [e2]) (by simp [hn1]) (by simp; omega)
 | [], d1, y :: r2, d2, T, H, c, n, e1, e2, hn1, hn2 => by
  exfalso; rw [e1, e2] at hlen; simp at hlen; omega
 | x :: r1, d1, [], d2, T, H, c, n, e1, e2, hn1, hn2 => by
  exfalso; rw [e1, e2] at hlen; simp at hlen; omega
theorem PMsg.eq_iff (a b : PMsg) : a = b ↔ a.kind = b.kind ∧ a.version = b.version ∧ a.as = b.as ∧ a.hold = b.hold ∧ a.router = b.router ∧ a.code = b.code ∧ a.sub = b.sub ∧ a.data = b.data ∧ a.caps = b.caps ∧ a.withdrawn = b.withdrawn ∧ a.attrs = b.attrs ∧ a.reach = b.reach := by
 cases a; cases b; simp only [PMsg.mk.injEq]
 constructor
 ·rintro ⟨h1, h2, h3, h4, h5, h6, h7, h8, h9, h10, h11, h12⟩; exact ⟨h1, h2, h3, h4, h5, h10, h11, h12, h6, h7, h8, h9⟩
 ·rintro ⟨h1, h2, h3, h4, h5, h6, h7, h8, h9, h10, h11, h12⟩; exact ⟨h1, h2, h3, h4, h5, h9, h10, h11, h12, h6, h7, h8⟩
end Go.AM.IR
namespace Go.AM.IR
attribute [local simp] bJ
end Go.AM.IR
namespace Go.AM.IR
attribute [local simp] bJ
theorem w9 (a b : PMsg) (ha : LenM a) (hb : LenM b) : ah G 156 [.agg a.enc, .agg b.enc] [] ⟨.bool (decide (a = b)), []⟩ := by
 have l1 : (a.caps.map Cap.enc).length = a.caps.length := by simp
 have l2 : (b.caps.map Cap.enc).length = b.caps.length := by simp
 have hee := PMsg.eq_iff a b
 by_cases hlen : a.caps.length = b.caps.length
 ·refine ae (F := JF) rfl rfl (az 300 _ _ _ _ ?_)
  repeat' (first | refine ab ?_ | (refine aa ?_ ?_ <;> intro h))
  all_goals try (refine ax ?_; first | rfl | (simp [hee, Bool.cond_eq_ite, *]; done) | (simp [hee, Bool.cond_eq_ite, *]; omega))
  rw [show decide (a = b) = decide (a.caps = b.caps ∧ a.withdrawn = b.withdrawn ∧ a.attrs = b.attrs ∧ a.reach = b.reach) from by simp [hee, *]]
  refine ag [74, 3, 2, 73] [66, 67] ?_
  rw [l1]
  exact qi a b ha hb hlen a.caps [] b.caps [] _ _ _ 0 rfl rfl rfl rfl
 ·have hne : ¬ a = b := fun h => hlen (by rw [h])
  rw [show decide (a = b) = false from by simp [hne]]
  refine ae (F := JF) rfl rfl (az 300 _ _ _ _ ?_)
  repeat' (first | refine ab ?_ | (refine aa ?_ ?_ <;> intro h))
  all_goals try exact dnA
end Go.AM.IR
namespace Go.AM.IR
def jU (b : UInt8) : List AV := [.int .u8 (b.toNat : Int)]
def rd (l : List UInt8) : Nat := l.foldl (fun x b => x * 256 + b.toNat) 0
theorem CY (l : List UInt8) (x : UInt8) : rd (l ++ [x]) = rd l * 256 + x.toNat := by simp [rd]
theorem Jl (l : List UInt8) : rd l < 256 ^ l.length := by
 suffices h : ∀ (l : List UInt8) (a k : Nat), a < 256 ^ k → l.foldl (fun x b => x * 256 + b.toNat) a < 256 ^ (k + l.length) by
  have := h l 0 0 (by simp); simpa [rd] using this
 intro l
 induction l with
 | nil => intro a k h; simpa using h
 | cons x r ih =>
  intro a k h
  have hx := x.toNat_lt
  have := ih (a * 256 + x.toNat) (k + 1) (by rw [Nat.pow_succ]; omega)
  simpa [Nat.add_assoc, Nat.add_comm 1] using this
theorem cn {l : List UInt8} {n : Nat} (h : l.length ≤ n) : rd l < 256 ^ n := Nat.lt_of_lt_of_le (Jl l) (Nat.pow_le_pow_right (by omega) h)
theorem Om (b : List UInt8) (i k n : Nat) (h : n = i + k) : ((byteCells b).drop i).take (n - i) = ((b.drop i).take k).map jU := by
 subst h
 rw [show byteCells b = b.map jU from rfl, ← List.map_drop, ← List.map_take, show i + k - i = k from by omega]
theorem rI (l : List UInt8) (h4 : l.length ≤ 4) (hl : l.length < 2 ^ 40) (ln : Int) (hln : ln = l.length) : ∀ (rest done : List UInt8) (x0 : Int) (T : List (Nat × AV)) (H : aq) (c : Nat) (n : Int) (e : l = done ++ rest) (hn : n = done.length) (hx0 : x0 = (rd done : Nat)), Ev G ⟨RT, ⟨(34, .sl 1 (l.map jU)) :: (35, .int .i64 ln) :: (36, .int .i64 n) :: (8, .int .u64 x0) :: T, H, c⟩, [.t 6, .t 7], 0⟩ ⟨.tup [.int .u64 (rd l : Nat), .bool true], []⟩
 | [], done, x0, T, H, c, n, e, hn, hx0 => by
  have hd : l.length = done.length := by simp [e]
  have hll : (l.map jU).length = l.length := by simp
  obtain rfl : l = done := by simpa using e
  subst hx0
  refine evl ?_
  repeat' (first | refine ab ?_ | (refine aa ?_ ?_ <;> intro h))
  all_goals try exact dnA
 | x :: r, done, x0, T, H, c, n, e, hn, hx0 => by
  have hd : l.length = done.length + (r.length + 1) := by simp [e]
  have hll : (l.map jU).length = l.length := by simp
  have hx : (l.map jU)[n.toNat]? = some (jU x) := by simp [e, hn]
  have hb := x.toNat_lt
  have hr := cn (l := done) (n := 3) (by omega)
  refine evl ?_
  repeat' ((conv => whnf); first | refine alF ?_ | refine Zw (x := rd done) (c := x.toNat) ?_ hb (by omega) (by omega) rfl | refine dz ?_ | (refine aa ?_ ?_ <;> intro h))
  refine ag [34, 35, 36, 8] [] ?_; exact rI l h4 hl ln hln r (done ++ [x]) _ _ _ _ (n + 1) (by simp [e]) (by simp [hn] <;> omega) (by rw [CY])
theorem rH (l : List UInt8) (h4 : l.length ≤ 4) (hl : l.length < 2 ^ 40) (ln : Int) (hln : ln = l.length) : ∀ (rest done : List UInt8) (x0 : Int) (T : List (Nat × AV)) (H : aq) (c : Nat) (n : Int) (e : l = done ++ rest) (hn : n = done.length) (hx0 : x0 = (rd done : Nat)), Ev G ⟨RJ, ⟨(34, .sl 1 (l.map jU)) :: (35, .int .i64 ln) :: (36, .int .i64 n) :: (8, .int .u64 x0) :: T, H, c⟩, [.t 6, .t 7], 0⟩ ⟨.tup [.int .u64 (rd l : Nat), .bool true], []⟩
 | [], done, x0, T, H, c, n, e, hn, hx0 => by
  have hd : l.length = done.length := by simp [e]
  have hll : (l.map jU).length = l.length := by simp
  obtain rfl : l = done := by simpa using e
  subst hx0
  refine evl ?_
  repeat' (first | refine ab ?_ | (refine aa ?_ ?_ <;> intro h))
  all_goals try exact dnA
 | x :: r, done, x0, T, H, c, n, e, hn, hx0 => by
  have hd : l.length = done.length + (r.length + 1) := by simp [e]
  have hll : (l.map jU).length = l.length := by simp
  have hx : (l.map jU)[n.toNat]? = some (jU x) := by simp [e, hn]
  have hb := x.toNat_lt
  have hr := cn (l := done) (n := 3) (by omega)
  refine evl ?_
  repeat' ((conv => whnf); first | refine zMU ?_ | refine zAU ?_ | refine dz ?_ | (refine aa ?_ ?_ <;> intro h))
  refine ag [34, 35, 36, 8] [] ?_; exact rH l h4 hl ln hln r (done ++ [x]) _ _ _ _ (n + 1) (by simp [e]) (by simp [hn] <;> omega) (by rw [CY]; omega)
theorem fQ (b : List UInt8) (hb : b.length < 2 ^ 40) (i k : Int) (h0 : 0 ≤ i) (h1 : 0 ≤ k) (h4 : k ≤ 4) (h : i + k ≤ b.length) : ah G 110 [.sl 1 (byteCells b), .int .i64 i, .int .i64 k] [] ⟨.tup [.int .u64 (rd ((b.drop i.toNat).take k.toNat) : Nat), .bool true], []⟩ := by
 have hbl := au b
 have hl : ((b.drop i.toNat).take k.toNat).length = k.toNat := by simp; omega
 refine ae (F := RU) rfl rfl (az 300 _ _ _ _ ?_)
 repeat' (first | refine ab ?_ | (refine aa ?_ ?_ <;> intro h))
 rw [Om b i.toNat k.toNat (i + k).toNat (by omega)]
 refine ag [34, 35, 36, 8] [] ?_
 exact rI _ (by omega) (by omega) _ (by simp) _ [] _ _ _ _ 0 rfl rfl rfl
theorem y5 (b : List UInt8) (hb : b.length < 2 ^ 40) (i k : Int) (h0 : 0 ≤ i) (h1 : 0 ≤ k) (h4 : k ≤ 4) (h : i + k ≤ b.length) : ah G 113 [.sl 1 (byteCells b), .int .i64 i, .int .i64 k] [] ⟨.tup [.int .u64 (rd ((b.drop i.toNat).take k.toNat) : Nat), .bool true], []⟩ := by
 have hbl := au b
 have hl : ((b.drop i.toNat).take k.toNat).length = k.toNat := by simp; omega
 refine ae (F := RK) rfl rfl (az 300 _ _ _ _ ?_)
 repeat' (first | refine ab ?_ | (refine aa ?_ ?_ <;> intro h))
 rw [Om b i.toNat k.toNat (i + k).toNat (by omega)]
 refine ag [34, 35, 36, 8] [] ?_
 exact rH _ (by omega) (by omega) _ (by simp) _ [] _ _ _ _ 0 rfl rfl rfl
theorem CZ (x : UInt8) (l : List UInt8) : rd (x :: l) = x.toNat * 256 ^ l.length + rd l := by
 suffices h : ∀ (l : List UInt8) (a : Nat), l.foldl (fun x b => x * 256 + b.toNat) a = a * 256 ^ l.length + rd l by
  have := h l x.toNat; simpa [rd] using this
 intro l
 induction l with
 | nil => intro a; simp [rd]
 | cons y r ih =>
  intro a
  have h1 := ih (a * 256 + y.toNat)
  have h2 := ih y.toNat
  simp only [List.foldl_cons, rd, Nat.zero_mul, Nat.zero_add, List.length_cons, Nat.pow_succ] at h1 h2 ⊢
  rw [h1, h2, Nat.add_mul, Nat.mul_assoc, Nat.mul_comm 256 _]
  omega
theorem BC : ∀ (j y x : Nat), be j (y * 256 ^ j + x) = be j x
 | 0, _, _ => rfl
 | j + 1, y, x => by
  have h := BC j (y * 256) x
  rw [show y * 256 ^ (j + 1) = y * 256 * 256 ^ j from by rw [Nat.pow_succ, Nat.mul_comm (256 ^ j) 256, Nat.mul_assoc]]
  simp only [be]
  rw [h]
  congr 1
  rw [Nat.add_comm, Nat.add_mul_div_right _ _ (Nat.pow_pos (by omega))]
  apply UInt8.toNat_inj.1
  simp
theorem J7 : ∀ l : List UInt8, be l.length (rd l) = l
 | [] => rfl
 | x :: l => by
  have h := J7 l
  have hl := Jl l
  rw [CZ, List.length_cons]
  simp only [be]
  rw [BC, h]
  congr 1
  rw [Nat.add_comm, Nat.add_mul_div_right _ _ (Nat.pow_pos (by omega)), Nat.div_eq_of_lt hl, Nat.zero_add]
  simp
theorem OA {l : List UInt8} {n : Nat} (h : l.length = n) : be n (rd l) = l := by subst h; exact J7 l
theorem g5 : ∀ (w x : Nat), x < 256 ^ w → rd (be w x) = x
 | 0, x, h => by simp at h; subst h; rfl
 | w + 1, x, h => by
  have h2 : x / 256 ^ w < 256 := Nat.div_lt_of_lt_mul (by rw [Nat.pow_succ] at h; exact h)
  have hm := Nat.mod_lt x (Nat.pow_pos (n := w) (show 0 < 256 by omega))
  have hx := Nat.div_add_mod x (256 ^ w)
  simp only [be]
  rw [CZ, bu]
  have e : be w x = be w (x % 256 ^ w) := by
   have := BC w (x / 256 ^ w) (x % 256 ^ w)
   rwa [Nat.mul_comm, hx] at this
  rw [e, g5 w _ hm]
  simp only [UInt8.toNat_ofNat']
  rw [Nat.mod_eq_of_lt (by omega), Nat.mul_comm]
  omega
end Go.AM.IR
