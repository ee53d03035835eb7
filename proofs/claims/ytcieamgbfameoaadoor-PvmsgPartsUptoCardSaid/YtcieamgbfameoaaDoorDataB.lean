/- What the functions of this program give, on the abstract machine. -/
import Derived.Test.YtcieamgbfameoaaDoorDataA
import Derived.Test.YtcieamgbfameoaaDoorMachineC
set_option linter.unusedVariables false
set_option linter.unusedSimpArgs false
set_option maxHeartbeats 4000000
set_option maxRecDepth 20000
namespace Go.AM.IR
@[simp] theorem pure_bytesL (l : List UInt8) : pureLL (byteCells l) = true := pureLL_bytes l
structure LenC (a : Attrs) : Prop where
  path : a.path.length < 2 ^ 40
  segs : ∀ s ∈ a.path, s.as.length < 2 ^ 40
  comms : a.comms.length < 2 ^ 40
  clusters : a.clusters.length < 2 ^ 40
  unknown : a.unknown.length < 2 ^ 40
theorem unk_loop72 (a b : Attrs) (ha : LenC a) (hb : LenC b) (hlen : a.unknown.length = b.unknown.length) : ∀ (r1 d1 r2 d2 : List TLV) (T : List (Nat × AV)) (H : Heap) (c : Nat) (n : Int) (e1 : a.unknown = d1 ++ r1) (e2 : b.unknown = d2 ++ r2) (hn1 : n = d1.length) (hn2 : n = d2.length),
   Ev G ⟨f72x11LH, ⟨(122, .int .i64 n) :: (3, .ref 67 2 0) :: (2, .ref 66 1 0) :: (121, .int .i64 a.unknown.length) :: T, (66, some (1, .cells a.enc)) :: (67, some (2, .cells b.enc)) :: H, c⟩, [.t 4], 0⟩ ⟨.bool (decide (r1 = r2)), []⟩
  | [], d1, [], d2, T, H, c, n, e1, e2, hn1, hn2 => by
    have hul := ha.unknown
    have hd : a.unknown.length = d1.length := by simp [e1]
    refine ev_loop' (W_ok 300 _ _ _ _ ?_)
    repeat' (first | refine stpA ?_ | (refine condS ?_ ?_ <;> intro h))
    all_goals try ((first | refine fin1 ?_ | refine fin0 ?_); first | rfl | (simp [Bool.cond_eq_ite, *]; done) | (simp [Bool.cond_eq_ite, *]; omega))
  | x :: r1, d1, y :: r2, d2, T, H, c, n, e1, e2, hn1, hn2 => by
    have hul := ha.unknown
    have hd : a.unknown.length = d1.length + (r1.length + 1) := by simp [e1]
    have hx : (a.unknown.map TLV.enc)[n.toNat]? = some x.enc := by simp [e1, hn1]
    have hy : (b.unknown.map TLV.enc)[n.toNat]? = some y.enc := by simp [e2, hn2]
    have hee : (x = y) ↔ (x.kind = y.kind ∧ x.value = y.value) := by cases x; cases y; simp
    refine ev_loop' (W_ok 300 _ _ _ _ ?_)
    repeat' (first | refine stpA ?_ | (refine condS ?_ ?_ <;> intro h))
    all_goals try ((first | refine fin1 ?_ | refine fin0 ?_); first | rfl | (simp [hee, Bool.cond_eq_ite, *]; done) | (simp [hee, Bool.cond_eq_ite, *]; omega))
    rw [show (decide (x :: r1 = y :: r2)) = (decide (r1 = r2)) from by simp [hee, *]]
    refine ev_keep [122, 3, 2, 121] [66, 67] ?_; exact unk_loop72 a b ha hb hlen r1 (d1 ++ [x]) r2 (d2 ++ [y]) _ _ _ (n + 1) (by simp [e1]) (by simp [e2]) (by simp [hn1]) (by simp; omega)
  | [], d1, y :: r2, d2, T, H, c, n, e1, e2, hn1, hn2 => by
    exfalso; rw [e1, e2] at hlen; simp at hlen; omega
  | x :: r1, d1, [], d2, T, H, c, n, e1, e2, hn1, hn2 => by
    exfalso; rw [e1, e2] at hlen; simp at hlen; omega
theorem same_gives72 (a b : Attrs) (ha : LenC a) (hb : LenC b) : Gives G 72 [.agg a.enc, .agg b.enc] [] ⟨.bool (decide (a = b)), []⟩ := by
  have hab : (a = b) ↔ (a.origin = b.origin ∧ a.path = b.path ∧ a.nextHop = b.nextHop ∧ a.hasMED = b.hasMED ∧ a.med = b.med ∧ a.hasPref = b.hasPref ∧ a.pref = b.pref ∧ a.atomic = b.atomic ∧ a.hasAggr = b.hasAggr ∧ a.aggrAS = b.aggrAS ∧ a.aggrAddr = b.aggrAddr ∧ a.comms = b.comms ∧ a.hasOrig = b.hasOrig ∧ a.orig = b.orig ∧ a.clusters = b.clusters ∧ a.unknown = b.unknown) := by cases a; cases b; simp
  have l1 : (a.unknown.map TLV.enc).length = a.unknown.length := by simp
  have l2 : (b.unknown.map TLV.enc).length = b.unknown.length := by simp
  by_cases hlen : a.unknown.length = b.unknown.length
  · refine gives_code (F := f72) rfl rfl (W_ok 300 _ _ _ _ ?_)
    repeat' (first | refine stpA ?_ | refine kV (same_gives103 _ _ ha.path hb.path ha.segs hb.segs) ?_ | refine kV (eq_gives104 _ _ ha.comms hb.comms) ?_ | refine kV (eq_gives104 _ _ ha.clusters hb.clusters) ?_ | (refine condS ?_ ?_ <;> intro h))
    all_goals try ((first | refine fin1 ?_ | refine fin0 ?_); first | rfl | (simp [hab, Bool.cond_eq_ite, *]; done) | (simp [hab, Bool.cond_eq_ite, *]; omega))
    refine ev_keep [122, 3, 2, 121] [66, 67] ?_
    rw [l1, show decide (a = b) = (decide (a.unknown = b.unknown)) from by simp [hab, *]]
    exact unk_loop72 a b ha hb hlen a.unknown [] b.unknown [] _ _ _ 0 rfl rfl rfl rfl
  · have hne : ¬ a.unknown = b.unknown := fun h => hlen (by rw [h])
    rw [show decide (a = b) = false from by simp [hab, hne]]
    refine gives_code (F := f72) rfl rfl (W_ok 300 _ _ _ _ ?_)
    repeat' (first | refine stpA ?_ | refine kV (same_gives103 _ _ ha.path hb.path ha.segs hb.segs) ?_ | refine kV (eq_gives104 _ _ ha.comms hb.comms) ?_ | refine kV (eq_gives104 _ _ ha.clusters hb.clusters) ?_ | (refine condS ?_ ?_ <;> intro h))
    all_goals try ((first | refine fin1 ?_ | refine fin0 ?_); first | rfl | (simp [Bool.cond_eq_ite, *]; done) | (simp [Bool.cond_eq_ite, *]; omega))
end Go.AM.IR
set_option maxHeartbeats 4000000
set_option maxRecDepth 20000
namespace Go.AM.IR
deriving instance DecidableEq for PMsg
theorem pfx_loop139 (a b : List Pfx) (ha : a.length < 2 ^ 40) (hlen : a.length = b.length) : ∀ (r1 d1 r2 d2 : List Pfx) (T : List (Nat × AV)) (H : Heap) (c : Nat) (n : Int) (e1 : a = d1 ++ r1) (e2 : b = d2 ++ r2) (hn1 : n = d1.length) (hn2 : n = d2.length),
   Ev G ⟨f139x9LH, ⟨(13, .int .i64 n) :: (1, .sl 2 (b.map Pfx.enc)) :: (0, .sl 2 (a.map Pfx.enc)) :: (12, .int .i64 a.length) :: T, H, c⟩, [.t 4], 0⟩ ⟨.bool (decide (r1 = r2)), []⟩
  | [], d1, [], d2, T, H, c, n, e1, e2, hn1, hn2 => by
    have hd : a.length = d1.length := by simp [e1]
    refine ev_loop' (W_ok 300 _ _ _ _ ?_)
    repeat' (first | refine stpA ?_ | (refine condS ?_ ?_ <;> intro h))
    all_goals try ((first | refine fin1 ?_ | refine fin0 ?_); first | rfl | (simp [Bool.cond_eq_ite, *]; done) | (simp [Bool.cond_eq_ite, *]; omega))
  | x :: r1, d1, y :: r2, d2, T, H, c, n, e1, e2, hn1, hn2 => by
    have hd : a.length = d1.length + (r1.length + 1) := by simp [e1]
    have hx : (a.map Pfx.enc)[n.toNat]? = some x.enc := by simp [e1, hn1]
    have hy : (b.map Pfx.enc)[n.toNat]? = some y.enc := by simp [e2, hn2]
    have hee : (x = y) ↔ (x.addr = y.addr ∧ x.len = y.len) := by cases x; cases y; simp
    refine ev_loop' (W_ok 300 _ _ _ _ ?_)
    repeat' (first | refine stpA ?_ | (refine condS ?_ ?_ <;> intro h))
    all_goals try ((first | refine fin1 ?_ | refine fin0 ?_); first | rfl | (simp [hee, Bool.cond_eq_ite, *]; done) | (simp [hee, Bool.cond_eq_ite, *]; omega))
    rw [show (decide (x :: r1 = y :: r2)) = (decide (r1 = r2)) from by simp [hee, *]]
    refine ev_keep [13, 1, 0, 12] [] ?_; exact pfx_loop139 a b ha hlen r1 (d1 ++ [x]) r2 (d2 ++ [y]) _ _ _ (n + 1) (by simp [e1]) (by simp [e2]) (by simp [hn1]) (by simp; omega)
  | [], d1, y :: r2, d2, T, H, c, n, e1, e2, hn1, hn2 => by
    exfalso; rw [e1, e2] at hlen; simp at hlen; omega
  | x :: r1, d1, [], d2, T, H, c, n, e1, e2, hn1, hn2 => by
    exfalso; rw [e1, e2] at hlen; simp at hlen; omega
theorem samePfx_gives139 (a b : List Pfx) (ha : a.length < 2 ^ 40) : Gives G 139 [.sl 2 (a.map Pfx.enc), .sl 2 (b.map Pfx.enc)] [] ⟨.bool (decide (a = b)), []⟩ := by
  have l1 : (a.map Pfx.enc).length = a.length := by simp
  have l2 : (b.map Pfx.enc).length = b.length := by simp
  by_cases hlen : a.length = b.length
  · refine gives_code (F := f139) rfl rfl (W_ok 300 _ _ _ _ ?_)
    repeat' (first | refine stpA ?_ | (refine condS ?_ ?_ <;> intro h))
    refine ev_keep [13, 1, 0, 12] [] ?_
    rw [l1]
    exact pfx_loop139 a b ha hlen a [] b [] _ _ _ 0 rfl rfl rfl rfl
  · have hne : ¬ a = b := fun h => hlen (by rw [h])
    rw [show decide (a = b) = false from by simp [hne]]
    refine gives_code (F := f139) rfl rfl (W_ok 300 _ _ _ _ ?_)
    repeat' (first | refine stpA ?_ | (refine condS ?_ ?_ <;> intro h))
    all_goals try ((first | refine fin1 ?_ | refine fin0 ?_); first | rfl | (simp [Bool.cond_eq_ite, *]; done) | (simp [Bool.cond_eq_ite, *]; omega))
end Go.AM.IR
set_option maxHeartbeats 4000000
set_option maxRecDepth 20000
namespace Go.AM.IR
structure LenM (m : PMsg) : Prop where
  caps : m.caps.length < 2 ^ 40
  withdrawn : m.withdrawn.length < 2 ^ 40
  reach : m.reach.length < 2 ^ 40
  attrs : LenC m.attrs
theorem lenM_zero : LenM zeroM := ⟨by simp [zeroM], by simp [zeroM], by simp [zeroM], ⟨by simp [zeroM, zeroA], by simp [zeroM, zeroA], by simp [zeroM, zeroA], by simp [zeroM, zeroA], by simp [zeroM, zeroA]⟩⟩
def nilV : AV := .con (.slice none 0 0)
end Go.AM.IR
set_option maxHeartbeats 4000000
set_option maxRecDepth 20000
namespace Go.AM.IR
attribute [local simp] pureLL_bytes
theorem pfx_loop169 (a b : List Pfx) (ha : a.length < 2 ^ 40) (hlen : a.length = b.length) : ∀ (r1 d1 r2 d2 : List Pfx) (T : List (Nat × AV)) (H : Heap) (c : Nat) (n : Int) (e1 : a = d1 ++ r1) (e2 : b = d2 ++ r2) (hn1 : n = d1.length) (hn2 : n = d2.length),
   Ev G ⟨f169x9LH, ⟨(13, .int .i64 n) :: (1, .sl 2 (b.map Pfx.enc)) :: (0, .sl 2 (a.map Pfx.enc)) :: (12, .int .i64 a.length) :: T, H, c⟩, [.t 4], 0⟩ ⟨.bool (decide (r1 = r2)), []⟩
  | [], d1, [], d2, T, H, c, n, e1, e2, hn1, hn2 => by
    have hd : a.length = d1.length := by simp [e1]
    refine ev_loop' (W_ok 300 _ _ _ _ ?_)
    repeat' (first | refine stpA ?_ | (refine condS ?_ ?_ <;> intro h))
    all_goals try ((first | refine fin1 ?_ | refine fin0 ?_); first | rfl | (simp [Bool.cond_eq_ite, *]; done) | (simp [Bool.cond_eq_ite, *]; omega))
  | x :: r1, d1, y :: r2, d2, T, H, c, n, e1, e2, hn1, hn2 => by
    have hd : a.length = d1.length + (r1.length + 1) := by simp [e1]
    have hx : (a.map Pfx.enc)[n.toNat]? = some x.enc := by simp [e1, hn1]
    have hy : (b.map Pfx.enc)[n.toNat]? = some y.enc := by simp [e2, hn2]
    have hee : (x = y) ↔ (x.addr = y.addr ∧ x.len = y.len) := by cases x; cases y; simp
    refine ev_loop' (W_ok 300 _ _ _ _ ?_)
    repeat' (first | refine stpA ?_ | (refine condS ?_ ?_ <;> intro h))
    all_goals try ((first | refine fin1 ?_ | refine fin0 ?_); first | rfl | (simp [hee, Bool.cond_eq_ite, *]; done) | (simp [hee, Bool.cond_eq_ite, *]; omega))
    rw [show (decide (x :: r1 = y :: r2)) = (decide (r1 = r2)) from by simp [hee, *]]
    refine ev_keep [13, 1, 0, 12] [] ?_; exact pfx_loop169 a b ha hlen r1 (d1 ++ [x]) r2 (d2 ++ [y]) _ _ _ (n + 1) (by simp [e1]) (by simp [e2]) (by simp [hn1]) (by simp; omega)
  | [], d1, y :: r2, d2, T, H, c, n, e1, e2, hn1, hn2 => by
    exfalso; rw [e1, e2] at hlen; simp at hlen; omega
  | x :: r1, d1, [], d2, T, H, c, n, e1, e2, hn1, hn2 => by
    exfalso; rw [e1, e2] at hlen; simp at hlen; omega
theorem samePfx_gives169 (a b : List Pfx) (ha : a.length < 2 ^ 40) : Gives G 169 [.sl 2 (a.map Pfx.enc), .sl 2 (b.map Pfx.enc)] [] ⟨.bool (decide (a = b)), []⟩ := by
  have l1 : (a.map Pfx.enc).length = a.length := by simp
  have l2 : (b.map Pfx.enc).length = b.length := by simp
  by_cases hlen : a.length = b.length
  · refine gives_code (F := f169) rfl rfl (W_ok 300 _ _ _ _ ?_)
    repeat' (first | refine stpA ?_ | (refine condS ?_ ?_ <;> intro h))
    refine ev_keep [13, 1, 0, 12] [] ?_
    rw [l1]
    exact pfx_loop169 a b ha hlen a [] b [] _ _ _ 0 rfl rfl rfl rfl
  · have hne : ¬ a = b := fun h => hlen (by rw [h])
    rw [show decide (a = b) = false from by simp [hne]]
    refine gives_code (F := f169) rfl rfl (W_ok 300 _ _ _ _ ?_)
    repeat' (first | refine stpA ?_ | (refine condS ?_ ?_ <;> intro h))
    all_goals try ((first | refine fin1 ?_ | refine fin0 ?_); first | rfl | (simp [Bool.cond_eq_ite, *]; done) | (simp [Bool.cond_eq_ite, *]; omega))
def usedO (m : PMsg) : PMsg := { zeroM with kind := m.kind, version := m.version, as := m.as, hold := m.hold, router := m.router, caps := m.caps }
theorem used_gives157 (m : PMsg) (hk : m.kind = 1) : Gives G 157 [.agg m.enc] [] ⟨.agg (usedO m).enc, []⟩ := by
  refine gives_code (F := f157) rfl rfl (W_ok 300 _ _ _ _ ?_)
  repeat' (first | refine stpA ?_ | (refine condS ?_ ?_ <;> intro h))
  refine ev_le [] [(66, some (_, .cells ((usedO m).enc)))] trivial ⟨⟨rfl, (by repeat' (first | exact trivial | exact LeP.refl _ | exact LeP.nil _ | refine LeP.sl ?_ | refine ⟨?_, ?_⟩))⟩, trivial⟩ ?_
  (first | refine fin1 ?_ | refine fin0 ?_); (conv => whnf); refine Go.AM.finC ?_
  rfl
theorem caps_loop156 (a b : PMsg) (ha : LenM a) (hb : LenM b) (hlen : a.caps.length = b.caps.length) : ∀ (r1 d1 r2 d2 : List Cap) (T : List (Nat × AV)) (H : Heap) (c : Nat) (n : Int) (e1 : a.caps = d1 ++ r1) (e2 : b.caps = d2 ++ r2) (hn1 : n = d1.length) (hn2 : n = d2.length),
   Ev G ⟨f156x9LH, ⟨(74, .int .i64 n) :: (3, .ref 67 2 0) :: (2, .ref 66 1 0) :: (73, .int .i64 a.caps.length) :: T, (66, some (1, .cells a.enc)) :: (67, some (2, .cells b.enc)) :: H, c⟩, [.t 4], 0⟩ ⟨.bool (decide (r1 = r2 ∧ a.withdrawn = b.withdrawn ∧ a.attrs = b.attrs ∧ a.reach = b.reach)), []⟩
  | [], d1, [], d2, T, H, c, n, e1, e2, hn1, hn2 => by
    have hd : a.caps.length = d1.length := by simp [e1]
    have h2 := samePfx_gives169 a.withdrawn b.withdrawn ha.withdrawn
    have h3 := samePfx_gives169 a.reach b.reach ha.reach
    have h4 := same_gives72 a.attrs b.attrs ha.attrs hb.attrs
    refine ev_loop' (W_ok 300 _ _ _ _ ?_)
    repeat' (first | refine stpA ?_ | (refine condS ?_ ?_ <;> intro h))
    all_goals try ((first | refine fin1 ?_ | refine fin0 ?_); first | rfl | (simp [Bool.cond_eq_ite, *]; done) | (simp [Bool.cond_eq_ite, *]; omega))
  | x :: r1, d1, y :: r2, d2, T, H, c, n, e1, e2, hn1, hn2 => by
    have hd : a.caps.length = d1.length + (r1.length + 1) := by simp [e1]
    have hx : (a.caps.map Cap.enc)[n.toNat]? = some x.enc := by simp [e1, hn1]
    have hy : (b.caps.map Cap.enc)[n.toNat]? = some y.enc := by simp [e2, hn2]
    have hll : (a.caps.map Cap.enc).length = a.caps.length := by simp
    have hl2 : (b.caps.map Cap.enc).length = b.caps.length := by simp
    have hee : (x = y) ↔ (x.code = y.code ∧ x.value = y.value) := by cases x; cases y; simp
    have hl40 := ha.caps
    refine ev_loop' (W_ok 300 _ _ _ _ ?_)
    repeat' (first | refine stpA ?_ | (refine condS ?_ ?_ <;> intro h))
    all_goals try ((first | refine fin1 ?_ | refine fin0 ?_); first | rfl | (simp [hee, Bool.cond_eq_ite, *]; done) | (simp [hee, Bool.cond_eq_ite, *]; omega))
    rw [show (decide (x :: r1 = y :: r2 ∧ a.withdrawn = b.withdrawn ∧ a.attrs = b.attrs ∧ a.reach = b.reach)) = (decide (r1 = r2 ∧ a.withdrawn = b.withdrawn ∧ a.attrs = b.attrs ∧ a.reach = b.reach)) from by simp [hee, *]]
    refine ev_keep [74, 3, 2, 73] [66, 67] ?_; exact caps_loop156 a b ha hb hlen r1 (d1 ++ [x]) r2 (d2 ++ [y]) _ _ _ (n + 1) (by simp [e1]) (by simp [e2]) (by simp [hn1]) (by simp; omega)
  | [], d1, y :: r2, d2, T, H, c, n, e1, e2, hn1, hn2 => by
    exfalso; rw [e1, e2] at hlen; simp at hlen; omega
  | x :: r1, d1, [], d2, T, H, c, n, e1, e2, hn1, hn2 => by
    exfalso; rw [e1, e2] at hlen; simp at hlen; omega
theorem PMsg.eq_iff (a b : PMsg) : a = b ↔ a.kind = b.kind ∧ a.version = b.version ∧ a.as = b.as ∧ a.hold = b.hold ∧ a.router = b.router ∧ a.code = b.code ∧ a.sub = b.sub ∧ a.data = b.data ∧ a.caps = b.caps ∧ a.withdrawn = b.withdrawn ∧ a.attrs = b.attrs ∧ a.reach = b.reach := by
  cases a; cases b; simp only [PMsg.mk.injEq]
  constructor
  · rintro ⟨h1, h2, h3, h4, h5, h6, h7, h8, h9, h10, h11, h12⟩; exact ⟨h1, h2, h3, h4, h5, h10, h11, h12, h6, h7, h8, h9⟩
  · rintro ⟨h1, h2, h3, h4, h5, h6, h7, h8, h9, h10, h11, h12⟩; exact ⟨h1, h2, h3, h4, h5, h9, h10, h11, h12, h6, h7, h8⟩
end Go.AM.IR
set_option maxHeartbeats 4000000
set_option maxRecDepth 20000
namespace Go.AM.IR
attribute [local simp] pureLL_bytes
end Go.AM.IR
set_option maxHeartbeats 4000000
set_option maxRecDepth 20000
namespace Go.AM.IR
attribute [local simp] pureLL_bytes
theorem same_gives156 (a b : PMsg) (ha : LenM a) (hb : LenM b) : Gives G 156 [.agg a.enc, .agg b.enc] [] ⟨.bool (decide (a = b)), []⟩ := by
  have l1 : (a.caps.map Cap.enc).length = a.caps.length := by simp
  have l2 : (b.caps.map Cap.enc).length = b.caps.length := by simp
  have hee := PMsg.eq_iff a b
  by_cases hlen : a.caps.length = b.caps.length
  · refine gives_code (F := f156) rfl rfl (W_ok 300 _ _ _ _ ?_)
    repeat' (first | refine stpA ?_ | (refine condS ?_ ?_ <;> intro h))
    all_goals try ((first | refine fin1 ?_ | refine fin0 ?_); first | rfl | (simp [hee, Bool.cond_eq_ite, *]; done) | (simp [hee, Bool.cond_eq_ite, *]; omega))
    rw [show decide (a = b) = decide (a.caps = b.caps ∧ a.withdrawn = b.withdrawn ∧ a.attrs = b.attrs ∧ a.reach = b.reach) from by simp [hee, *]]
    refine ev_keep [74, 3, 2, 73] [66, 67] ?_
    rw [l1]
    exact caps_loop156 a b ha hb hlen a.caps [] b.caps [] _ _ _ 0 rfl rfl rfl rfl
  · have hne : ¬ a = b := fun h => hlen (by rw [h])
    rw [show decide (a = b) = false from by simp [hne]]
    refine gives_code (F := f156) rfl rfl (W_ok 300 _ _ _ _ ?_)
    repeat' (first | refine stpA ?_ | (refine condS ?_ ?_ <;> intro h))
    all_goals try ((first | refine fin1 ?_ | refine fin0 ?_); first | rfl | (simp [Bool.cond_eq_ite, *]; done) | (simp [Bool.cond_eq_ite, *]; omega))
end Go.AM.IR
set_option maxHeartbeats 4000000
set_option maxRecDepth 20000
namespace Go.AM.IR
def encY (b : UInt8) : List AV := [.int .u8 (b.toNat : Int)]
def rd (l : List UInt8) : Nat := l.foldl (fun x b => x * 256 + b.toNat) 0
theorem rd_snoc (l : List UInt8) (x : UInt8) : rd (l ++ [x]) = rd l * 256 + x.toNat := by simp [rd]
theorem rd_lt (l : List UInt8) : rd l < 256 ^ l.length := by
  suffices h : ∀ (l : List UInt8) (a k : Nat), a < 256 ^ k → l.foldl (fun x b => x * 256 + b.toNat) a < 256 ^ (k + l.length) by
    have := h l 0 0 (by simp); simpa [rd] using this
  intro l
  induction l with
  | nil => intro a k h; simpa using h
  | cons x r ih =>
    intro a k h
    have hx := x.toNat_lt
    have := ih (a * 256 + x.toNat) (k + 1) (by rw [Nat.pow_succ]; omega)
    simpa [Nat.add_assoc, Nat.add_comm 1] using this
theorem rd_le {l : List UInt8} {n : Nat} (h : l.length ≤ n) : rd l < 256 ^ n := Nat.lt_of_lt_of_le (rd_lt l) (Nat.pow_le_pow_right (by omega) h)
theorem cut_eq (b : List UInt8) (i k n : Nat) (h : n = i + k) : ((byteCells b).drop i).take (n - i) = ((b.drop i).take k).map encY := by
  subst h
  rw [show byteCells b = b.map encY from rfl, ← List.map_drop, ← List.map_take, show i + k - i = k from by omega]
theorem get_loop110 (l : List UInt8) (h4 : l.length ≤ 4) (hl : l.length < 2 ^ 40) (ln : Int) (hln : ln = l.length) : ∀ (rest done : List UInt8) (x0 : Int) (T : List (Nat × AV)) (H : Heap) (c : Nat) (n : Int) (e : l = done ++ rest) (hn : n = done.length) (hx0 : x0 = (rd done : Nat)), Ev G ⟨f110x9LH, ⟨(34, .sl 1 (l.map encY)) :: (35, .int .i64 ln) :: (36, .int .i64 n) :: (8, .int .u64 x0) :: T, H, c⟩, [.t 6, .t 7], 0⟩ ⟨.tup [.int .u64 (rd l : Nat), .bool true], []⟩
  | [], done, x0, T, H, c, n, e, hn, hx0 => by
    have hd : l.length = done.length := by simp [e]
    have hll : (l.map encY).length = l.length := by simp
    obtain rfl : l = done := by simpa using e
    subst hx0
    refine ev_loop' (W_ok 300 _ _ _ _ ?_)
    repeat' (first | refine stpA ?_ | (refine condS ?_ ?_ <;> intro h))
    all_goals try ((first | refine fin1 ?_ | refine fin0 ?_); first | rfl | (simp [Bool.cond_eq_ite, *]; done) | (simp [Bool.cond_eq_ite, *]; omega))
  | x :: r, done, x0, T, H, c, n, e, hn, hx0 => by
    have hd : l.length = done.length + (r.length + 1) := by simp [e]
    have hll : (l.map encY).length = l.length := by simp
    have hx : (l.map encY)[n.toNat]? = some (encY x) := by simp [e, hn]
    have hb := x.toNat_lt
    have hr := rd_le (l := done) (n := 3) (by omega)
    refine ev_loop' (W_ok 300 _ _ _ _ ?_)
    repeat' ((conv => whnf); first | refine zShl8 ?_ | refine zOr256 (x := rd done) (c := x.toNat) ?_ hb (by omega) (by omega) rfl | refine bslP (by first | rfl | (simp [pureL, pureLL, AV.pure]; done) | fail) rfl ?_ | refine TakeC.full (by first | rfl | omega | (simp; done) | (simp; omega) | fail) ?_ | refine zBs ?_ | refine zBn ?_ | refine zBv rfl rfl ?_ | refine zN ?_ | refine zC ?_ | refine zC4 ?_ | refine zOr16 ?_ | refine zC1 ?_ | refine zByte ?_ | refine zMaxL ?_ | refine zMaxR ?_ | refine zMinL ?_ | refine zMinR ?_ | refine zShr ?_ | refine zC8 ?_ | refine zQ ?_ | refine zR ?_ | refine zS ?_ | refine zA ?_ | refine zM ?_ | refine xr rfl ?_ | refine ai rfl ?_ | refine condT ?_ | refine condF ?_ | refine condG1 ?_ | refine condG0 ?_ | refine cD ?_ | refine dD ?_ | refine cB ?_ | refine dB ?_ | refine cN ?_ | refine dN ?_ | refine cV ?_ | refine dV ?_ | refine cE ?_ | refine dE ?_ | refine condX0 ?_ | refine condX1 ?_ | refine condNot ?_ | refine condAnd ?_ | refine condOr ?_ | refine aO ?_ | refine aB ?_ | refine aR ?_ | refine aR ?_ (by simp; omega) | refine xr (by assumption) ?_ | refine ai (by assumption) ?_ | refine kV (by assumption) ?_ | refine kN (by assumption) ?_ | refine callW (by assumption) ?_ | refine condD (fun h => ?_) (fun h => ?_) | refine condB (fun h => ?_) (fun h => ?_) | refine condN (fun h => ?_) (fun h => ?_) | refine condE (fun h => ?_) (fun h => ?_) | refine condV (fun h => ?_) (fun h => ?_))
    refine ev_keep [34, 35, 36, 8] [] ?_; exact get_loop110 l h4 hl ln hln r (done ++ [x]) _ _ _ _ (n + 1) (by simp [e]) (by simp [hn] <;> omega) (by rw [rd_snoc])
theorem get_gives110 (b : List UInt8) (hb : b.length < 2 ^ 40) (i k : Int) (h0 : 0 ≤ i) (h1 : 0 ≤ k) (h4 : k ≤ 4) (h : i + k ≤ b.length) : Gives G 110 [.sl 1 (byteCells b), .int .i64 i, .int .i64 k] [] ⟨.tup [.int .u64 (rd ((b.drop i.toNat).take k.toNat) : Nat), .bool true], []⟩ := by
  have hbl := byteCells_length b
  have hl : ((b.drop i.toNat).take k.toNat).length = k.toNat := by simp; omega
  refine gives_code (F := f110) rfl rfl (W_ok 300 _ _ _ _ ?_)
  repeat' (first | refine stpA ?_ | (refine condS ?_ ?_ <;> intro h))
  rw [cut_eq b i.toNat k.toNat (i + k).toNat (by omega)]
  refine ev_keep [34, 35, 36, 8] [] ?_
  exact get_loop110 _ (by omega) (by omega) _ (by simp) _ [] _ _ _ _ 0 rfl rfl rfl
theorem rd_cons (x : UInt8) (l : List UInt8) : rd (x :: l) = x.toNat * 256 ^ l.length + rd l := by
  suffices h : ∀ (l : List UInt8) (a : Nat), l.foldl (fun x b => x * 256 + b.toNat) a = a * 256 ^ l.length + rd l by
    have := h l x.toNat; simpa [rd] using this
  intro l
  induction l with
  | nil => intro a; simp [rd]
  | cons y r ih =>
    intro a
    have h1 := ih (a * 256 + y.toNat)
    have h2 := ih y.toNat
    simp only [List.foldl_cons, rd, Nat.zero_mul, Nat.zero_add, List.length_cons, Nat.pow_succ] at h1 h2 ⊢
    rw [h1, h2, Nat.add_mul, Nat.mul_assoc, Nat.mul_comm 256 _]
    omega
theorem be_add : ∀ (j y x : Nat), be j (y * 256 ^ j + x) = be j x
  | 0, _, _ => rfl
  | j + 1, y, x => by
    have h := be_add j (y * 256) x
    rw [show y * 256 ^ (j + 1) = y * 256 * 256 ^ j from by rw [Nat.pow_succ, Nat.mul_comm (256 ^ j) 256, Nat.mul_assoc]]
    simp only [be]
    rw [h]
    congr 1
    rw [Nat.add_comm, Nat.add_mul_div_right _ _ (Nat.pow_pos (by omega))]
    apply UInt8.toNat_inj.1
    simp
theorem be_rd : ∀ l : List UInt8, be l.length (rd l) = l
  | [] => rfl
  | x :: l => by
    have h := be_rd l
    have hl := rd_lt l
    rw [rd_cons, List.length_cons]
    simp only [be]
    rw [be_add, h]
    congr 1
    rw [Nat.add_comm, Nat.add_mul_div_right _ _ (Nat.pow_pos (by omega)), Nat.div_eq_of_lt hl, Nat.zero_add]
    simp
theorem be_rd' {l : List UInt8} {n : Nat} (h : l.length = n) : be n (rd l) = l := by subst h; exact be_rd l
theorem rd_be : ∀ (w x : Nat), x < 256 ^ w → rd (be w x) = x
  | 0, x, h => by simp at h; subst h; rfl
  | w + 1, x, h => by
    have h2 : x / 256 ^ w < 256 := Nat.div_lt_of_lt_mul (by rw [Nat.pow_succ] at h; exact h)
    have hm := Nat.mod_lt x (Nat.pow_pos (n := w) (show 0 < 256 by omega))
    have hx := Nat.div_add_mod x (256 ^ w)
    simp only [be]
    rw [rd_cons, be_length]
    have e : be w x = be w (x % 256 ^ w) := by
      have := be_add w (x / 256 ^ w) (x % 256 ^ w)
      rwa [Nat.mul_comm, hx] at this
    rw [e, rd_be w _ hm]
    simp only [UInt8.toNat_ofNat']
    rw [Nat.mod_eq_of_lt (by omega), Nat.mul_comm]
    omega
end Go.AM.IR
