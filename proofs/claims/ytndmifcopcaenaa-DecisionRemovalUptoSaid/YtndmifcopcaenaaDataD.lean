/- What the functions of this program give, on the abstract machine. -/
import Derived.Test.YtndmifcopcaenaaDataA
import Derived.Test.YtndmifcopcaenaaMachineB
import Derived.Test.YtndmifcopcaenaaDataB
import Derived.Test.YtndmifcopcaenaaDataC
set_option linter.unusedVariables false
set_option linter.unusedSimpArgs false
set_option linter.unusedSectionVars false
namespace Go.AM.IR

theorem lift_enc {α : Type} {e : List AV → Prop} {enc : α → List AV} {Q : α → Prop} (h : ∀ x, e x → ∃ a, x = enc a ∧ Q a) : ∀ es : List (List AV), (∀ x ∈ es, e x) → ∃ l : List α, es = l.map enc ∧ ∀ a ∈ l, Q a
  | [], _ => ⟨[], rfl, by simp⟩
  | x :: r, hx => by
    obtain ⟨a, rfl, ha⟩ := h x (hx x (by simp))
    obtain ⟨l, rfl, hl⟩ := lift_enc h r fun y hy => hx y (by simp [hy])
    exact ⟨a :: l, rfl, by simpa using ⟨ha, hl⟩⟩

def okI (x : Int) : Prop := -9223372036854775808 ≤ x ∧ x ≤ 9223372036854775807
def okU (x : Int) : Prop := 0 ≤ x ∧ x ≤ 4294967295

theorem T_i64 {as : List AV} (h : Ty.T (.int .i64) as) : ∃ x, as = encI x ∧ okI x := by
  obtain ⟨n, rfl, h1, h2⟩ := h
  exact ⟨n, rfl, by simpa [IntKind.min, IntKind.max, IntKind.signed, IntKind.bits, okI] using And.intro h1 h2⟩
theorem T_u32 {as : List AV} (h : Ty.T (.int .u32) as) : ∃ x, as = encU x ∧ okU x := by
  obtain ⟨n, rfl, h1, h2⟩ := h
  exact ⟨n, rfl, by simpa [IntKind.min, IntKind.max, IntKind.signed, IntKind.bits, okU] using And.intro h1 h2⟩
theorem T_u8 {as : List AV} (h : Ty.T (.int .u8) as) : ∃ b : UInt8, as = [.int .u8 b.toNat] ∧ True := by
  obtain ⟨n, rfl, h1, h2⟩ := h
  have h1 : 0 ≤ n := by simpa [IntKind.min, IntKind.signed] using h1
  have h2 : n ≤ 255 := by simpa [IntKind.max, IntKind.signed, IntKind.bits] using h2
  refine ⟨UInt8.ofNat n.toNat, ?_, trivial⟩
  have : ((UInt8.ofNat n.toNat).toNat : Int) = n := by simp; omega
  rw [this]
theorem T_sl {α : Type} {τ : Ty} {enc : α → List AV} {Q : α → Prop} (h : ∀ x, τ.T x → ∃ a, x = enc a ∧ Q a) {as : List AV} (hs : Ty.T (.sl τ) as) : ∃ l : List α, as = [.sl τ.cells (l.map enc)] ∧ ∀ a ∈ l, Q a := by
  obtain ⟨es, rfl, h1, _⟩ := hs
  obtain ⟨l, rfl, h2⟩ := lift_enc h es h1
  exact ⟨l, rfl, h2⟩
theorem T_bytes {as : List AV} (hs : Ty.T (.sl (.int .u8)) as) : ∃ l : List UInt8, as = [.sl 1 (byteCells l)] := by
  obtain ⟨l, rfl, _⟩ := T_sl (fun x => T_u8) hs
  exact ⟨l, rfl⟩

def tSeg : Ty := .st [.int .i64, .sl (.int .i64)]
def tTLV : Ty := .st [.int .i64, .sl (.int .u8)]
def tAttrs : Ty := .st [.int .i64, .sl tSeg, .int .u32, .bool, .int .i64, .bool, .int .i64, .bool, .bool, .int .i64, .int .u32, .sl (.int .u32), .bool, .int .u32, .sl (.int .u32), .sl tTLV]
def tRoute : Ty := .st [.st [.int .u32, .int .i64], tAttrs, .int .i64, .int .i64, .int .u32, .bool]
def tIGP : Ty := .st [.int .u32, .int .i64]

structure Seg.ok (s : Seg) : Prop where
  kind : okI s.kind
  as : ∀ x ∈ s.as, okI x
theorem T_seg {as : List AV} (h : tSeg.T as) : ∃ s : Seg, as = s.enc ∧ s.ok := by
  simp only [tSeg, Ty.T.eq_5, TT] at h
  obtain ⟨a1, b1, rfl, h1, a2, b2, rfl, h2, rfl⟩ := h
  obtain ⟨x1, rfl, k1⟩ := T_i64 h1
  obtain ⟨x2, rfl, k2⟩ := T_sl (fun x => T_i64) h2
  exact ⟨⟨x1, x2⟩, rfl, k1, k2⟩
structure TLV.ok (s : TLV) : Prop where
  kind : okI s.kind
theorem T_tlv {as : List AV} (h : tTLV.T as) : ∃ s : TLV, as = s.enc ∧ s.ok := by
  simp only [tTLV, Ty.T.eq_5, TT] at h
  obtain ⟨a1, b1, rfl, h1, a2, b2, rfl, h2, rfl⟩ := h
  obtain ⟨x1, rfl, k1⟩ := T_i64 h1
  obtain ⟨x2, rfl⟩ := T_bytes h2
  exact ⟨⟨x1, x2⟩, rfl, ⟨k1⟩⟩
structure IGP.ok (s : IGP) : Prop where
  addr : okU s.addr
  cost : okI s.cost
theorem T_igp {as : List AV} (h : tIGP.T as) : ∃ s : IGP, as = s.enc ∧ s.ok := by
  simp only [tIGP, Ty.T.eq_5, TT] at h
  obtain ⟨a1, b1, rfl, h1, a2, b2, rfl, h2, rfl⟩ := h
  obtain ⟨x1, rfl, k1⟩ := T_u32 h1
  obtain ⟨x2, rfl, k2⟩ := T_i64 h2
  exact ⟨⟨x1, x2⟩, rfl, k1, k2⟩
structure Attrs.ok (a : Attrs) : Prop where
  origin : okI a.origin
  path : ∀ s ∈ a.path, s.ok
  nextHop : okU a.nextHop
  med : okI a.med
  pref : okI a.pref
  aggrAS : okI a.aggrAS
  aggrAddr : okU a.aggrAddr
  comms : ∀ x ∈ a.comms, okU x
  orig : okU a.orig
  clusters : ∀ x ∈ a.clusters, okU x
  unknown : ∀ x ∈ a.unknown, x.ok
theorem T_attrs {as : List AV} (h : tAttrs.T as) : ∃ s : Attrs, as = s.enc ∧ s.ok := by
  simp only [tAttrs, Ty.T.eq_5, TT] at h
  obtain ⟨a1, b1, rfl, h1, a2, b2, rfl, h2, a3, b3, rfl, h3, a4, b4, rfl, h4, a5, b5, rfl, h5, a6, b6, rfl, h6, a7, b7, rfl, h7, a8, b8, rfl, h8, a9, b9, rfl, h9, a10, b10, rfl, h10, a11, b11, rfl, h11, a12, b12, rfl, h12, a13, b13, rfl, h13, a14, b14, rfl, h14, a15, b15, rfl, h15, a16, b16, rfl, h16, rfl⟩ := h
  obtain ⟨x1, rfl, k1⟩ := T_i64 h1
  obtain ⟨x2, rfl, k2⟩ := T_sl (fun x => T_seg) h2
  obtain ⟨x3, rfl, k3⟩ := T_u32 h3
  obtain ⟨x4, rfl⟩ := h4
  obtain ⟨x5, rfl, k5⟩ := T_i64 h5
  obtain ⟨x6, rfl⟩ := h6
  obtain ⟨x7, rfl, k7⟩ := T_i64 h7
  obtain ⟨x8, rfl⟩ := h8
  obtain ⟨x9, rfl⟩ := h9
  obtain ⟨x10, rfl, k10⟩ := T_i64 h10
  obtain ⟨x11, rfl, k11⟩ := T_u32 h11
  obtain ⟨x12, rfl, k12⟩ := T_sl (fun x => T_u32) h12
  obtain ⟨x13, rfl⟩ := h13
  obtain ⟨x14, rfl, k14⟩ := T_u32 h14
  obtain ⟨x15, rfl, k15⟩ := T_sl (fun x => T_u32) h15
  obtain ⟨x16, rfl, k16⟩ := T_sl (fun x => T_tlv) h16
  exact ⟨⟨x1, x2, x3, x4, x5, x6, x7, x8, x9, x10, x11, x12, x13, x14, x15, x16⟩, rfl, k1, k2, k3, k5, k7, k10, k11, k12, k14, k15, k16⟩
structure PVRoute.ok (r : PVRoute) : Prop where
  paddr : okU r.paddr
  plen : okI r.plen
  attrs : r.attrs.ok
  peer : okI r.peer
  kind : okI r.kind
  router : okU r.router
theorem T_route {as : List AV} (h : tRoute.T as) : ∃ s : PVRoute, as = s.enc ∧ s.ok := by
  simp only [tRoute, Ty.T.eq_5, TT] at h
  obtain ⟨a1, b1, rfl, ⟨a0, b0, rfl, h0, a00, b00, rfl, h00, rfl⟩, a2, b2, rfl, h2, a3, b3, rfl, h3, a4, b4, rfl, h4, a5, b5, rfl, h5, a6, b6, rfl, h6, rfl⟩ := h
  obtain ⟨x0, rfl, k0⟩ := T_u32 h0
  obtain ⟨x00, rfl, k00⟩ := T_i64 h00
  obtain ⟨x2, rfl, k2⟩ := T_attrs h2
  obtain ⟨x3, rfl, k3⟩ := T_i64 h3
  obtain ⟨x4, rfl, k4⟩ := T_i64 h4
  obtain ⟨x5, rfl, k5⟩ := T_u32 h5
  obtain ⟨x6, rfl⟩ := h6
  exact ⟨⟨x0, x00, x2, x3, x4, x5, x6⟩, rfl, k0, k00, k2, k3, k4, k5⟩
end Go.AM.IR
namespace Go.AM.IR
set_option maxHeartbeats 2000000
theorem bkLL_map_le {α : Type} (f : α → List AV) (g : α → Nat) (h : ∀ x, g x ≤ bkL (f x)) : ∀ l : List α, (l.map g).sum ≤ bkLL (l.map f)
  | [] => by simp
  | x :: r => by
    have := bkLL_map_le f g h r
    have := h x
    simp only [List.map_cons, List.sum_cons, bkLL]
    omega
theorem sum_one {α : Type} : ∀ l : List α, (l.map fun _ => 1).sum = l.length
  | [] => rfl
  | x :: r => by simp only [List.map_cons, List.sum_cons, List.length_cons, sum_one r]; omega
theorem len_bk {α : Type} (f : α → List AV) (h : ∀ x, 1 ≤ bkL (f x)) (l : List α) : l.length ≤ bkLL (l.map f) := by
  have := bkLL_map_le f (fun _ => 1) h l
  rwa [sum_one] at this
theorem mem_bk {α : Type} (f : α → List AV) : ∀ (l : List α) (x : α), x ∈ l → bkL (f x) ≤ bkLL (l.map f)
  | y :: r, x, h => by
    simp only [List.map_cons, bkLL]
    rcases List.mem_cons.1 h with rfl | h
    · omega
    · have := mem_bk f r x h; omega
theorem bk_bytes (l : List UInt8) : l.length ≤ bkLL (byteCells l) := len_bk (f := fun b : UInt8 => [AV.int .u8 (b.toNat : Int)]) (fun _ => by simp [bkL, AV.bk]) l
theorem seg_bk (s : Seg) : s.as.length + 1 ≤ bkL s.enc := by
  have := len_bk encI (fun _ => by simp [encI, bkL, AV.bk]) s.as
  simp only [Seg.enc, bkL, AV.bk]; omega
theorem tlv_bk (s : TLV) : s.value.length + 1 ≤ bkL s.enc := by
  have := bk_bytes s.value
  simp only [TLV.enc, bkL, AV.bk]; omega
theorem flat_len : ∀ l : List Seg, (flatS l).length = (l.map fun s => s.as.length).sum
  | [] => rfl
  | s :: r => by
    have := flat_len r
    simp only [flatS, List.flatMap_cons, List.length_append, List.map_cons, List.sum_cons] at this ⊢
    omega
theorem unk_le : ∀ l : List TLV, unkS l ≤ ((l.map fun t => t.value.length).sum : Nat)
  | [] => by simp [unkS]
  | t :: r => by
    have := unk_le r
    simp only [unkS, List.map_cons, List.sum_cons] at this ⊢
    omega
theorem ab_of (a : Attrs) (h : bkL a.enc ≤ 1048576) : AB a := by
  simp only [Attrs.enc, bkL, AV.bk] at h
  have h1 := len_bk Seg.enc (fun s => by have := seg_bk s; omega) a.path
  have h2 := bkLL_map_le Seg.enc (fun s => s.as.length) (fun s => by have := seg_bk s; omega) a.path
  have h3 := len_bk encU (fun _ => by simp [encU, bkL, AV.bk]) a.comms
  have h4 := len_bk encU (fun _ => by simp [encU, bkL, AV.bk]) a.clusters
  have h5 := len_bk TLV.enc (fun s => by have := tlv_bk s; omega) a.unknown
  have h6 := bkLL_map_le TLV.enc (fun t => t.value.length) (fun s => by have := tlv_bk s; omega) a.unknown
  have h7 := unk_le a.unknown
  rw [← flat_len] at h2
  generalize bkLL (a.path.map Seg.enc) = z1 at *
  generalize bkLL (a.comms.map encU) = z2 at *
  generalize bkLL (a.clusters.map encU) = z3 at *
  refine ⟨by omega, by omega, by omega, by omega, by omega, fun t ht => ?_, by omega⟩
  have := mem_bk TLV.enc a.unknown t ht
  have := tlv_bk t
  omega
theorem route_bk (r : PVRoute) : bkL r.attrs.enc ≤ bkL r.enc ∧ 1 ≤ bkL r.enc := by
  simp only [PVRoute.enc, Attrs.enc, bkL, AV.bk]; omega
theorem fit_of (r : PVRoute) (ho : r.ok) (h : bkL r.enc ≤ 1048576) : Fit r := by
  have := route_bk r
  refine ⟨ab_of r.attrs (by omega), ⟨?_⟩⟩
  have h1 := ho.attrs.orig
  have h2 := ho.router
  unfold okU at h1 h2
  omega
theorem fits_of (l : List PVRoute) (ho : ∀ r ∈ l, r.ok) (h : bkLL (l.map PVRoute.enc) ≤ 1048576) : (∀ r ∈ l, Fit r) ∧ l.length ≤ 1048576 := by
  refine ⟨fun r hr => fit_of r (ho r hr) ?_, ?_⟩
  · have := mem_bk PVRoute.enc l r hr; omega
  · have := len_bk PVRoute.enc (fun r => (route_bk r).2) l; omega
theorem igps_len (l : List IGP) (h : bkLL (l.map IGP.enc) ≤ 1048576) : l.length ≤ 1048576 := by
  have := len_bk IGP.enc (fun r => by simp [IGP.enc, bkL, AV.bk]) l; omega
end Go.AM.IR
namespace Go.AM.IR
set_option maxHeartbeats 8000000
set_option maxRecDepth 100000
section
variable (l : List PVRoute) (hl : l.length < 2 ^ 30) (hfit : ∀ r ∈ l, Fit r) (cs : List IGP) (hcs : cs.length < 2 ^ 40)
include hl hfit hcs
theorem law6_gives (k : Int) : Gives G 6 [.sl 22 (l.map PVRoute.enc), .int .i64 k, .sl 2 (cs.map IGP.enc)] [] ⟨.bool true, []⟩ := by
  have e0 := large_gives11 l (by omega) (fun r hr => (hfit r hr).ab)
  have ed := dist_gives18 l (by omega)
  have e1 := best_gives14 l (by omega) hfit cs hcs
  have hlm : (l.map PVRoute.enc).length = l.length := by simp
  have hcm : (cs.map IGP.enc).length = cs.length := by simp
  have pl : pureL [AV.sl 22 (l.map PVRoute.enc), AV.sl 2 (cs.map IGP.enc)] = true := by simp [pureL, AV.pure]
  generalize largeS l = L at *
  cases L with
  | true =>
    refine gives_code (F := f6) rfl rfl (W_ok 100 _ _ _ _ ?_)
    repeat (first | refine Exists.intro _ (And.intro (unA_neg_i64 (by omega) (by omega)) ?_) | refine Exists.intro _ (And.intro (binA_quo_i64 (by omega) (by omega) (by omega)) ?_) | refine Exists.intro _ (And.intro (binA_rem_i64 (by omega) (by omega)) ?_) | refine Exists.intro _ (And.intro (binA_sub_i64 (by omega) (by omega)) ?_) | refine Exists.intro _ (And.intro (binA_add_i64 (by omega) (by omega)) ?_) | refine Exists.intro _ (And.intro (conv_i64 (by omega) (by omega)) ?_) | refine Exists.intro _ (And.intro rfl ?_) | refine And.intro rfl ?_ | refine condT ?_ | refine condF ?_ | refine condG1 ?_ | refine condG0 ?_ | refine condDT (by omega) ?_ | refine condDF (by omega) ?_ | refine condBT (by omega) ?_ | refine condBF (by omega) ?_ | refine condNT (by omega) ?_ | refine condNF (by omega) ?_ | refine And.intro (by omega) ?_ | refine And.intro (ble_of (by omega)) ?_ | refine And.intro (room_le (by omega)) ?_ | refine Exists.intro _ (And.intro (by assumption) ?_))
    refine callV (e0) (by simp [pureL, AV.pure]) (by simp [AV.dry, dryL]) ?_
    repeat (first | refine Exists.intro _ (And.intro (unA_neg_i64 (by omega) (by omega)) ?_) | refine Exists.intro _ (And.intro (binA_quo_i64 (by omega) (by omega) (by omega)) ?_) | refine Exists.intro _ (And.intro (binA_rem_i64 (by omega) (by omega)) ?_) | refine Exists.intro _ (And.intro (binA_sub_i64 (by omega) (by omega)) ?_) | refine Exists.intro _ (And.intro (binA_add_i64 (by omega) (by omega)) ?_) | refine Exists.intro _ (And.intro (conv_i64 (by omega) (by omega)) ?_) | refine Exists.intro _ (And.intro rfl ?_) | refine And.intro rfl ?_ | refine condT ?_ | refine condF ?_ | refine condG1 ?_ | refine condG0 ?_ | refine condDT (by omega) ?_ | refine condDF (by omega) ?_ | refine condBT (by omega) ?_ | refine condBF (by omega) ?_ | refine condNT (by omega) ?_ | refine condNF (by omega) ?_ | refine And.intro (by omega) ?_ | refine And.intro (ble_of (by omega)) ?_ | refine And.intro (room_le (by omega)) ?_ | refine Exists.intro _ (And.intro (by assumption) ?_))
    refine callV (awake_gives) (by simp [pureL, AV.pure]) (by simp [AV.dry, dryL]) ?_
    repeat (first | refine Exists.intro _ (And.intro (unA_neg_i64 (by omega) (by omega)) ?_) | refine Exists.intro _ (And.intro (binA_quo_i64 (by omega) (by omega) (by omega)) ?_) | refine Exists.intro _ (And.intro (binA_rem_i64 (by omega) (by omega)) ?_) | refine Exists.intro _ (And.intro (binA_sub_i64 (by omega) (by omega)) ?_) | refine Exists.intro _ (And.intro (binA_add_i64 (by omega) (by omega)) ?_) | refine Exists.intro _ (And.intro (conv_i64 (by omega) (by omega)) ?_) | refine Exists.intro _ (And.intro rfl ?_) | refine And.intro rfl ?_ | refine condT ?_ | refine condF ?_ | refine condG1 ?_ | refine condG0 ?_ | refine condDT (by omega) ?_ | refine condDF (by omega) ?_ | refine condBT (by omega) ?_ | refine condBF (by omega) ?_ | refine condNT (by omega) ?_ | refine condNF (by omega) ?_ | refine And.intro (by omega) ?_ | refine And.intro (ble_of (by omega)) ?_ | refine And.intro (room_le (by omega)) ?_ | refine Exists.intro _ (And.intro (by assumption) ?_))
    rfl
  | false =>
    by_cases h1 : (l.length : Int) > 40
    · refine gives_code (F := f6) rfl rfl (W_ok 100 _ _ _ _ ?_)
      repeat (first | refine Exists.intro _ (And.intro (unA_neg_i64 (by omega) (by omega)) ?_) | refine Exists.intro _ (And.intro (binA_quo_i64 (by omega) (by omega) (by omega)) ?_) | refine Exists.intro _ (And.intro (binA_rem_i64 (by omega) (by omega)) ?_) | refine Exists.intro _ (And.intro (binA_sub_i64 (by omega) (by omega)) ?_) | refine Exists.intro _ (And.intro (binA_add_i64 (by omega) (by omega)) ?_) | refine Exists.intro _ (And.intro (conv_i64 (by omega) (by omega)) ?_) | refine Exists.intro _ (And.intro rfl ?_) | refine And.intro rfl ?_ | refine condT ?_ | refine condF ?_ | refine condG1 ?_ | refine condG0 ?_ | refine condDT (by omega) ?_ | refine condDF (by omega) ?_ | refine condBT (by omega) ?_ | refine condBF (by omega) ?_ | refine condNT (by omega) ?_ | refine condNF (by omega) ?_ | refine And.intro (by omega) ?_ | refine And.intro (ble_of (by omega)) ?_ | refine And.intro (room_le (by omega)) ?_ | refine Exists.intro _ (And.intro (by assumption) ?_))
      refine callV (e0) (by simp [pureL, AV.pure]) (by simp [AV.dry, dryL]) ?_
      repeat (first | refine Exists.intro _ (And.intro (unA_neg_i64 (by omega) (by omega)) ?_) | refine Exists.intro _ (And.intro (binA_quo_i64 (by omega) (by omega) (by omega)) ?_) | refine Exists.intro _ (And.intro (binA_rem_i64 (by omega) (by omega)) ?_) | refine Exists.intro _ (And.intro (binA_sub_i64 (by omega) (by omega)) ?_) | refine Exists.intro _ (And.intro (binA_add_i64 (by omega) (by omega)) ?_) | refine Exists.intro _ (And.intro (conv_i64 (by omega) (by omega)) ?_) | refine Exists.intro _ (And.intro rfl ?_) | refine And.intro rfl ?_ | refine condT ?_ | refine condF ?_ | refine condG1 ?_ | refine condG0 ?_ | refine condDT (by omega) ?_ | refine condDF (by omega) ?_ | refine condBT (by omega) ?_ | refine condBF (by omega) ?_ | refine condNT (by omega) ?_ | refine condNF (by omega) ?_ | refine And.intro (by omega) ?_ | refine And.intro (ble_of (by omega)) ?_ | refine And.intro (room_le (by omega)) ?_ | refine Exists.intro _ (And.intro (by assumption) ?_))
      refine callV (awake_gives) (by simp [pureL, AV.pure]) (by simp [AV.dry, dryL]) ?_
      repeat (first | refine Exists.intro _ (And.intro (unA_neg_i64 (by omega) (by omega)) ?_) | refine Exists.intro _ (And.intro (binA_quo_i64 (by omega) (by omega) (by omega)) ?_) | refine Exists.intro _ (And.intro (binA_rem_i64 (by omega) (by omega)) ?_) | refine Exists.intro _ (And.intro (binA_sub_i64 (by omega) (by omega)) ?_) | refine Exists.intro _ (And.intro (binA_add_i64 (by omega) (by omega)) ?_) | refine Exists.intro _ (And.intro (conv_i64 (by omega) (by omega)) ?_) | refine Exists.intro _ (And.intro rfl ?_) | refine And.intro rfl ?_ | refine condT ?_ | refine condF ?_ | refine condG1 ?_ | refine condG0 ?_ | refine condDT (by omega) ?_ | refine condDF (by omega) ?_ | refine condBT (by omega) ?_ | refine condBF (by omega) ?_ | refine condNT (by omega) ?_ | refine condNF (by omega) ?_ | refine And.intro (by omega) ?_ | refine And.intro (ble_of (by omega)) ?_ | refine And.intro (room_le (by omega)) ?_ | refine Exists.intro _ (And.intro (by assumption) ?_))
      rfl
    · by_cases h2 : (cs.length : Int) > 3000
      · refine gives_code (F := f6) rfl rfl (W_ok 100 _ _ _ _ ?_)
        repeat (first | refine Exists.intro _ (And.intro (unA_neg_i64 (by omega) (by omega)) ?_) | refine Exists.intro _ (And.intro (binA_quo_i64 (by omega) (by omega) (by omega)) ?_) | refine Exists.intro _ (And.intro (binA_rem_i64 (by omega) (by omega)) ?_) | refine Exists.intro _ (And.intro (binA_sub_i64 (by omega) (by omega)) ?_) | refine Exists.intro _ (And.intro (binA_add_i64 (by omega) (by omega)) ?_) | refine Exists.intro _ (And.intro (conv_i64 (by omega) (by omega)) ?_) | refine Exists.intro _ (And.intro rfl ?_) | refine And.intro rfl ?_ | refine condT ?_ | refine condF ?_ | refine condG1 ?_ | refine condG0 ?_ | refine condDT (by omega) ?_ | refine condDF (by omega) ?_ | refine condBT (by omega) ?_ | refine condBF (by omega) ?_ | refine condNT (by omega) ?_ | refine condNF (by omega) ?_ | refine And.intro (by omega) ?_ | refine And.intro (ble_of (by omega)) ?_ | refine And.intro (room_le (by omega)) ?_ | refine Exists.intro _ (And.intro (by assumption) ?_))
        refine callV (e0) (by simp [pureL, AV.pure]) (by simp [AV.dry, dryL]) ?_
        repeat (first | refine Exists.intro _ (And.intro (unA_neg_i64 (by omega) (by omega)) ?_) | refine Exists.intro _ (And.intro (binA_quo_i64 (by omega) (by omega) (by omega)) ?_) | refine Exists.intro _ (And.intro (binA_rem_i64 (by omega) (by omega)) ?_) | refine Exists.intro _ (And.intro (binA_sub_i64 (by omega) (by omega)) ?_) | refine Exists.intro _ (And.intro (binA_add_i64 (by omega) (by omega)) ?_) | refine Exists.intro _ (And.intro (conv_i64 (by omega) (by omega)) ?_) | refine Exists.intro _ (And.intro rfl ?_) | refine And.intro rfl ?_ | refine condT ?_ | refine condF ?_ | refine condG1 ?_ | refine condG0 ?_ | refine condDT (by omega) ?_ | refine condDF (by omega) ?_ | refine condBT (by omega) ?_ | refine condBF (by omega) ?_ | refine condNT (by omega) ?_ | refine condNF (by omega) ?_ | refine And.intro (by omega) ?_ | refine And.intro (ble_of (by omega)) ?_ | refine And.intro (room_le (by omega)) ?_ | refine Exists.intro _ (And.intro (by assumption) ?_))
        refine callV (awake_gives) (by simp [pureL, AV.pure]) (by simp [AV.dry, dryL]) ?_
        repeat (first | refine Exists.intro _ (And.intro (unA_neg_i64 (by omega) (by omega)) ?_) | refine Exists.intro _ (And.intro (binA_quo_i64 (by omega) (by omega) (by omega)) ?_) | refine Exists.intro _ (And.intro (binA_rem_i64 (by omega) (by omega)) ?_) | refine Exists.intro _ (And.intro (binA_sub_i64 (by omega) (by omega)) ?_) | refine Exists.intro _ (And.intro (binA_add_i64 (by omega) (by omega)) ?_) | refine Exists.intro _ (And.intro (conv_i64 (by omega) (by omega)) ?_) | refine Exists.intro _ (And.intro rfl ?_) | refine And.intro rfl ?_ | refine condT ?_ | refine condF ?_ | refine condG1 ?_ | refine condG0 ?_ | refine condDT (by omega) ?_ | refine condDF (by omega) ?_ | refine condBT (by omega) ?_ | refine condBF (by omega) ?_ | refine condNT (by omega) ?_ | refine condNF (by omega) ?_ | refine And.intro (by omega) ?_ | refine And.intro (ble_of (by omega)) ?_ | refine And.intro (room_le (by omega)) ?_ | refine Exists.intro _ (And.intro (by assumption) ?_))
        rfl
      · by_cases h3 : k < 0
        · refine gives_code (F := f6) rfl rfl (W_ok 100 _ _ _ _ ?_)
          repeat (first | refine Exists.intro _ (And.intro (unA_neg_i64 (by omega) (by omega)) ?_) | refine Exists.intro _ (And.intro (binA_quo_i64 (by omega) (by omega) (by omega)) ?_) | refine Exists.intro _ (And.intro (binA_rem_i64 (by omega) (by omega)) ?_) | refine Exists.intro _ (And.intro (binA_sub_i64 (by omega) (by omega)) ?_) | refine Exists.intro _ (And.intro (binA_add_i64 (by omega) (by omega)) ?_) | refine Exists.intro _ (And.intro (conv_i64 (by omega) (by omega)) ?_) | refine Exists.intro _ (And.intro rfl ?_) | refine And.intro rfl ?_ | refine condT ?_ | refine condF ?_ | refine condG1 ?_ | refine condG0 ?_ | refine condDT (by omega) ?_ | refine condDF (by omega) ?_ | refine condBT (by omega) ?_ | refine condBF (by omega) ?_ | refine condNT (by omega) ?_ | refine condNF (by omega) ?_ | refine And.intro (by omega) ?_ | refine And.intro (ble_of (by omega)) ?_ | refine And.intro (room_le (by omega)) ?_ | refine Exists.intro _ (And.intro (by assumption) ?_))
          refine callV (e0) (by simp [pureL, AV.pure]) (by simp [AV.dry, dryL]) ?_
          repeat (first | refine Exists.intro _ (And.intro (unA_neg_i64 (by omega) (by omega)) ?_) | refine Exists.intro _ (And.intro (binA_quo_i64 (by omega) (by omega) (by omega)) ?_) | refine Exists.intro _ (And.intro (binA_rem_i64 (by omega) (by omega)) ?_) | refine Exists.intro _ (And.intro (binA_sub_i64 (by omega) (by omega)) ?_) | refine Exists.intro _ (And.intro (binA_add_i64 (by omega) (by omega)) ?_) | refine Exists.intro _ (And.intro (conv_i64 (by omega) (by omega)) ?_) | refine Exists.intro _ (And.intro rfl ?_) | refine And.intro rfl ?_ | refine condT ?_ | refine condF ?_ | refine condG1 ?_ | refine condG0 ?_ | refine condDT (by omega) ?_ | refine condDF (by omega) ?_ | refine condBT (by omega) ?_ | refine condBF (by omega) ?_ | refine condNT (by omega) ?_ | refine condNF (by omega) ?_ | refine And.intro (by omega) ?_ | refine And.intro (ble_of (by omega)) ?_ | refine And.intro (room_le (by omega)) ?_ | refine Exists.intro _ (And.intro (by assumption) ?_))
          refine callV (awake_gives) (by simp [pureL, AV.pure]) (by simp [AV.dry, dryL]) ?_
          repeat (first | refine Exists.intro _ (And.intro (unA_neg_i64 (by omega) (by omega)) ?_) | refine Exists.intro _ (And.intro (binA_quo_i64 (by omega) (by omega) (by omega)) ?_) | refine Exists.intro _ (And.intro (binA_rem_i64 (by omega) (by omega)) ?_) | refine Exists.intro _ (And.intro (binA_sub_i64 (by omega) (by omega)) ?_) | refine Exists.intro _ (And.intro (binA_add_i64 (by omega) (by omega)) ?_) | refine Exists.intro _ (And.intro (conv_i64 (by omega) (by omega)) ?_) | refine Exists.intro _ (And.intro rfl ?_) | refine And.intro rfl ?_ | refine condT ?_ | refine condF ?_ | refine condG1 ?_ | refine condG0 ?_ | refine condDT (by omega) ?_ | refine condDF (by omega) ?_ | refine condBT (by omega) ?_ | refine condBF (by omega) ?_ | refine condNT (by omega) ?_ | refine condNF (by omega) ?_ | refine And.intro (by omega) ?_ | refine And.intro (ble_of (by omega)) ?_ | refine And.intro (room_le (by omega)) ?_ | refine Exists.intro _ (And.intro (by assumption) ?_))
          rfl
        · by_cases h4 : k ≥ l.length
          · refine gives_code (F := f6) rfl rfl (W_ok 100 _ _ _ _ ?_)
            repeat (first | refine Exists.intro _ (And.intro (unA_neg_i64 (by omega) (by omega)) ?_) | refine Exists.intro _ (And.intro (binA_quo_i64 (by omega) (by omega) (by omega)) ?_) | refine Exists.intro _ (And.intro (binA_rem_i64 (by omega) (by omega)) ?_) | refine Exists.intro _ (And.intro (binA_sub_i64 (by omega) (by omega)) ?_) | refine Exists.intro _ (And.intro (binA_add_i64 (by omega) (by omega)) ?_) | refine Exists.intro _ (And.intro (conv_i64 (by omega) (by omega)) ?_) | refine Exists.intro _ (And.intro rfl ?_) | refine And.intro rfl ?_ | refine condT ?_ | refine condF ?_ | refine condG1 ?_ | refine condG0 ?_ | refine condDT (by omega) ?_ | refine condDF (by omega) ?_ | refine condBT (by omega) ?_ | refine condBF (by omega) ?_ | refine condNT (by omega) ?_ | refine condNF (by omega) ?_ | refine And.intro (by omega) ?_ | refine And.intro (ble_of (by omega)) ?_ | refine And.intro (room_le (by omega)) ?_ | refine Exists.intro _ (And.intro (by assumption) ?_))
            refine callV (e0) (by simp [pureL, AV.pure]) (by simp [AV.dry, dryL]) ?_
            repeat (first | refine Exists.intro _ (And.intro (unA_neg_i64 (by omega) (by omega)) ?_) | refine Exists.intro _ (And.intro (binA_quo_i64 (by omega) (by omega) (by omega)) ?_) | refine Exists.intro _ (And.intro (binA_rem_i64 (by omega) (by omega)) ?_) | refine Exists.intro _ (And.intro (binA_sub_i64 (by omega) (by omega)) ?_) | refine Exists.intro _ (And.intro (binA_add_i64 (by omega) (by omega)) ?_) | refine Exists.intro _ (And.intro (conv_i64 (by omega) (by omega)) ?_) | refine Exists.intro _ (And.intro rfl ?_) | refine And.intro rfl ?_ | refine condT ?_ | refine condF ?_ | refine condG1 ?_ | refine condG0 ?_ | refine condDT (by omega) ?_ | refine condDF (by omega) ?_ | refine condBT (by omega) ?_ | refine condBF (by omega) ?_ | refine condNT (by omega) ?_ | refine condNF (by omega) ?_ | refine And.intro (by omega) ?_ | refine And.intro (ble_of (by omega)) ?_ | refine And.intro (room_le (by omega)) ?_ | refine Exists.intro _ (And.intro (by assumption) ?_))
            refine callV (awake_gives) (by simp [pureL, AV.pure]) (by simp [AV.dry, dryL]) ?_
            repeat (first | refine Exists.intro _ (And.intro (unA_neg_i64 (by omega) (by omega)) ?_) | refine Exists.intro _ (And.intro (binA_quo_i64 (by omega) (by omega) (by omega)) ?_) | refine Exists.intro _ (And.intro (binA_rem_i64 (by omega) (by omega)) ?_) | refine Exists.intro _ (And.intro (binA_sub_i64 (by omega) (by omega)) ?_) | refine Exists.intro _ (And.intro (binA_add_i64 (by omega) (by omega)) ?_) | refine Exists.intro _ (And.intro (conv_i64 (by omega) (by omega)) ?_) | refine Exists.intro _ (And.intro rfl ?_) | refine And.intro rfl ?_ | refine condT ?_ | refine condF ?_ | refine condG1 ?_ | refine condG0 ?_ | refine condDT (by omega) ?_ | refine condDF (by omega) ?_ | refine condBT (by omega) ?_ | refine condBF (by omega) ?_ | refine condNT (by omega) ?_ | refine condNF (by omega) ?_ | refine And.intro (by omega) ?_ | refine And.intro (ble_of (by omega)) ?_ | refine And.intro (room_le (by omega)) ?_ | refine Exists.intro _ (And.intro (by assumption) ?_))
            rfl
          · cases hd : distL [] l with
            | false =>
              rw [hd] at ed
              refine gives_code (F := f6) rfl rfl (W_ok 100 _ _ _ _ ?_)
              repeat (first | refine Exists.intro _ (And.intro (unA_neg_i64 (by omega) (by omega)) ?_) | refine Exists.intro _ (And.intro (binA_quo_i64 (by omega) (by omega) (by omega)) ?_) | refine Exists.intro _ (And.intro (binA_rem_i64 (by omega) (by omega)) ?_) | refine Exists.intro _ (And.intro (binA_sub_i64 (by omega) (by omega)) ?_) | refine Exists.intro _ (And.intro (binA_add_i64 (by omega) (by omega)) ?_) | refine Exists.intro _ (And.intro (conv_i64 (by omega) (by omega)) ?_) | refine Exists.intro _ (And.intro rfl ?_) | refine And.intro rfl ?_ | refine condT ?_ | refine condF ?_ | refine condG1 ?_ | refine condG0 ?_ | refine condDT (by omega) ?_ | refine condDF (by omega) ?_ | refine condBT (by omega) ?_ | refine condBF (by omega) ?_ | refine condNT (by omega) ?_ | refine condNF (by omega) ?_ | refine And.intro (by omega) ?_ | refine And.intro (ble_of (by omega)) ?_ | refine And.intro (room_le (by omega)) ?_ | refine Exists.intro _ (And.intro (by assumption) ?_))
              refine callV (e0) (by simp [pureL, AV.pure]) (by simp [AV.dry, dryL]) ?_
              repeat (first | refine Exists.intro _ (And.intro (unA_neg_i64 (by omega) (by omega)) ?_) | refine Exists.intro _ (And.intro (binA_quo_i64 (by omega) (by omega) (by omega)) ?_) | refine Exists.intro _ (And.intro (binA_rem_i64 (by omega) (by omega)) ?_) | refine Exists.intro _ (And.intro (binA_sub_i64 (by omega) (by omega)) ?_) | refine Exists.intro _ (And.intro (binA_add_i64 (by omega) (by omega)) ?_) | refine Exists.intro _ (And.intro (conv_i64 (by omega) (by omega)) ?_) | refine Exists.intro _ (And.intro rfl ?_) | refine And.intro rfl ?_ | refine condT ?_ | refine condF ?_ | refine condG1 ?_ | refine condG0 ?_ | refine condDT (by omega) ?_ | refine condDF (by omega) ?_ | refine condBT (by omega) ?_ | refine condBF (by omega) ?_ | refine condNT (by omega) ?_ | refine condNF (by omega) ?_ | refine And.intro (by omega) ?_ | refine And.intro (ble_of (by omega)) ?_ | refine And.intro (room_le (by omega)) ?_ | refine Exists.intro _ (And.intro (by assumption) ?_))
              refine callV (ed) (by simp [pureL, AV.pure]) (by simp [AV.dry, dryL]) ?_
              repeat (first | refine Exists.intro _ (And.intro (unA_neg_i64 (by omega) (by omega)) ?_) | refine Exists.intro _ (And.intro (binA_quo_i64 (by omega) (by omega) (by omega)) ?_) | refine Exists.intro _ (And.intro (binA_rem_i64 (by omega) (by omega)) ?_) | refine Exists.intro _ (And.intro (binA_sub_i64 (by omega) (by omega)) ?_) | refine Exists.intro _ (And.intro (binA_add_i64 (by omega) (by omega)) ?_) | refine Exists.intro _ (And.intro (conv_i64 (by omega) (by omega)) ?_) | refine Exists.intro _ (And.intro rfl ?_) | refine And.intro rfl ?_ | refine condT ?_ | refine condF ?_ | refine condG1 ?_ | refine condG0 ?_ | refine condDT (by omega) ?_ | refine condDF (by omega) ?_ | refine condBT (by omega) ?_ | refine condBF (by omega) ?_ | refine condNT (by omega) ?_ | refine condNF (by omega) ?_ | refine And.intro (by omega) ?_ | refine And.intro (ble_of (by omega)) ?_ | refine And.intro (room_le (by omega)) ?_ | refine Exists.intro _ (And.intro (by assumption) ?_))
              refine callV (awake_gives) (by simp [pureL, AV.pure]) (by simp [AV.dry, dryL]) ?_
              repeat (first | refine Exists.intro _ (And.intro (unA_neg_i64 (by omega) (by omega)) ?_) | refine Exists.intro _ (And.intro (binA_quo_i64 (by omega) (by omega) (by omega)) ?_) | refine Exists.intro _ (And.intro (binA_rem_i64 (by omega) (by omega)) ?_) | refine Exists.intro _ (And.intro (binA_sub_i64 (by omega) (by omega)) ?_) | refine Exists.intro _ (And.intro (binA_add_i64 (by omega) (by omega)) ?_) | refine Exists.intro _ (And.intro (conv_i64 (by omega) (by omega)) ?_) | refine Exists.intro _ (And.intro rfl ?_) | refine And.intro rfl ?_ | refine condT ?_ | refine condF ?_ | refine condG1 ?_ | refine condG0 ?_ | refine condDT (by omega) ?_ | refine condDF (by omega) ?_ | refine condBT (by omega) ?_ | refine condBF (by omega) ?_ | refine condNT (by omega) ?_ | refine condNF (by omega) ?_ | refine And.intro (by omega) ?_ | refine And.intro (ble_of (by omega)) ?_ | refine And.intro (room_le (by omega)) ?_ | refine Exists.intro _ (And.intro (by assumption) ?_))
              rfl
            | true =>
              rw [hd] at ed
              have hn := (distinct_iff l).1 hd
              cases hB : bestS l cs with
              | none =>
                rw [hB] at e1
                refine gives_code (F := f6) rfl rfl (W_ok 150 _ _ _ _ ?_)
                repeat (first | refine Exists.intro _ (And.intro (unA_neg_i64 (by omega) (by omega)) ?_) | refine Exists.intro _ (And.intro (binA_quo_i64 (by omega) (by omega) (by omega)) ?_) | refine Exists.intro _ (And.intro (binA_rem_i64 (by omega) (by omega)) ?_) | refine Exists.intro _ (And.intro (binA_sub_i64 (by omega) (by omega)) ?_) | refine Exists.intro _ (And.intro (binA_add_i64 (by omega) (by omega)) ?_) | refine Exists.intro _ (And.intro (conv_i64 (by omega) (by omega)) ?_) | refine Exists.intro _ (And.intro rfl ?_) | refine And.intro rfl ?_ | refine condT ?_ | refine condF ?_ | refine condG1 ?_ | refine condG0 ?_ | refine condDT (by omega) ?_ | refine condDF (by omega) ?_ | refine condBT (by omega) ?_ | refine condBF (by omega) ?_ | refine condNT (by omega) ?_ | refine condNF (by omega) ?_ | refine And.intro (by omega) ?_ | refine And.intro (ble_of (by omega)) ?_ | refine And.intro (room_le (by omega)) ?_ | refine Exists.intro _ (And.intro (by assumption) ?_))
                refine callV (e0) (by simp [pureL, AV.pure]) (by simp [AV.dry, dryL]) ?_
                repeat (first | refine Exists.intro _ (And.intro (unA_neg_i64 (by omega) (by omega)) ?_) | refine Exists.intro _ (And.intro (binA_quo_i64 (by omega) (by omega) (by omega)) ?_) | refine Exists.intro _ (And.intro (binA_rem_i64 (by omega) (by omega)) ?_) | refine Exists.intro _ (And.intro (binA_sub_i64 (by omega) (by omega)) ?_) | refine Exists.intro _ (And.intro (binA_add_i64 (by omega) (by omega)) ?_) | refine Exists.intro _ (And.intro (conv_i64 (by omega) (by omega)) ?_) | refine Exists.intro _ (And.intro rfl ?_) | refine And.intro rfl ?_ | refine condT ?_ | refine condF ?_ | refine condG1 ?_ | refine condG0 ?_ | refine condDT (by omega) ?_ | refine condDF (by omega) ?_ | refine condBT (by omega) ?_ | refine condBF (by omega) ?_ | refine condNT (by omega) ?_ | refine condNF (by omega) ?_ | refine And.intro (by omega) ?_ | refine And.intro (ble_of (by omega)) ?_ | refine And.intro (room_le (by omega)) ?_ | refine Exists.intro _ (And.intro (by assumption) ?_))
                refine callV (ed) (by simp [pureL, AV.pure]) (by simp [AV.dry, dryL]) ?_
                repeat (first | refine Exists.intro _ (And.intro (unA_neg_i64 (by omega) (by omega)) ?_) | refine Exists.intro _ (And.intro (binA_quo_i64 (by omega) (by omega) (by omega)) ?_) | refine Exists.intro _ (And.intro (binA_rem_i64 (by omega) (by omega)) ?_) | refine Exists.intro _ (And.intro (binA_sub_i64 (by omega) (by omega)) ?_) | refine Exists.intro _ (And.intro (binA_add_i64 (by omega) (by omega)) ?_) | refine Exists.intro _ (And.intro (conv_i64 (by omega) (by omega)) ?_) | refine Exists.intro _ (And.intro rfl ?_) | refine And.intro rfl ?_ | refine condT ?_ | refine condF ?_ | refine condG1 ?_ | refine condG0 ?_ | refine condDT (by omega) ?_ | refine condDF (by omega) ?_ | refine condBT (by omega) ?_ | refine condBF (by omega) ?_ | refine condNT (by omega) ?_ | refine condNF (by omega) ?_ | refine And.intro (by omega) ?_ | refine And.intro (ble_of (by omega)) ?_ | refine And.intro (room_le (by omega)) ?_ | refine Exists.intro _ (And.intro (by assumption) ?_))
                refine callV e1 pl rfl ?_
                repeat (first | refine Exists.intro _ (And.intro (unA_neg_i64 (by omega) (by omega)) ?_) | refine Exists.intro _ (And.intro (binA_quo_i64 (by omega) (by omega) (by omega)) ?_) | refine Exists.intro _ (And.intro (binA_rem_i64 (by omega) (by omega)) ?_) | refine Exists.intro _ (And.intro (binA_sub_i64 (by omega) (by omega)) ?_) | refine Exists.intro _ (And.intro (binA_add_i64 (by omega) (by omega)) ?_) | refine Exists.intro _ (And.intro (conv_i64 (by omega) (by omega)) ?_) | refine Exists.intro _ (And.intro rfl ?_) | refine And.intro rfl ?_ | refine condT ?_ | refine condF ?_ | refine condG1 ?_ | refine condG0 ?_ | refine condDT (by omega) ?_ | refine condDF (by omega) ?_ | refine condBT (by omega) ?_ | refine condBF (by omega) ?_ | refine condNT (by omega) ?_ | refine condNF (by omega) ?_ | refine And.intro (by omega) ?_ | refine And.intro (ble_of (by omega)) ?_ | refine And.intro (room_le (by omega)) ?_ | refine Exists.intro _ (And.intro (by assumption) ?_))
                refine callV (awake_gives) (by simp [pureL, AV.pure]) (by simp [AV.dry, dryL]) ?_
                repeat (first | refine Exists.intro _ (And.intro (unA_neg_i64 (by omega) (by omega)) ?_) | refine Exists.intro _ (And.intro (binA_quo_i64 (by omega) (by omega) (by omega)) ?_) | refine Exists.intro _ (And.intro (binA_rem_i64 (by omega) (by omega)) ?_) | refine Exists.intro _ (And.intro (binA_sub_i64 (by omega) (by omega)) ?_) | refine Exists.intro _ (And.intro (binA_add_i64 (by omega) (by omega)) ?_) | refine Exists.intro _ (And.intro (conv_i64 (by omega) (by omega)) ?_) | refine Exists.intro _ (And.intro rfl ?_) | refine And.intro rfl ?_ | refine condT ?_ | refine condF ?_ | refine condG1 ?_ | refine condG0 ?_ | refine condDT (by omega) ?_ | refine condDF (by omega) ?_ | refine condBT (by omega) ?_ | refine condBF (by omega) ?_ | refine condNT (by omega) ?_ | refine condNF (by omega) ?_ | refine And.intro (by omega) ?_ | refine And.intro (ble_of (by omega)) ?_ | refine And.intro (room_le (by omega)) ?_ | refine Exists.intro _ (And.intro (by assumption) ?_))
                rfl
              | some a =>
                rw [hB] at e1
                by_cases hak : (a : Int) = k
                · refine gives_code (F := f6) rfl rfl (W_ok 150 _ _ _ _ ?_)
                  repeat (first | refine Exists.intro _ (And.intro (unA_neg_i64 (by omega) (by omega)) ?_) | refine Exists.intro _ (And.intro (binA_quo_i64 (by omega) (by omega) (by omega)) ?_) | refine Exists.intro _ (And.intro (binA_rem_i64 (by omega) (by omega)) ?_) | refine Exists.intro _ (And.intro (binA_sub_i64 (by omega) (by omega)) ?_) | refine Exists.intro _ (And.intro (binA_add_i64 (by omega) (by omega)) ?_) | refine Exists.intro _ (And.intro (conv_i64 (by omega) (by omega)) ?_) | refine Exists.intro _ (And.intro rfl ?_) | refine And.intro rfl ?_ | refine condT ?_ | refine condF ?_ | refine condG1 ?_ | refine condG0 ?_ | refine condDT (by omega) ?_ | refine condDF (by omega) ?_ | refine condBT (by omega) ?_ | refine condBF (by omega) ?_ | refine condNT (by omega) ?_ | refine condNF (by omega) ?_ | refine And.intro (by omega) ?_ | refine And.intro (ble_of (by omega)) ?_ | refine And.intro (room_le (by omega)) ?_ | refine Exists.intro _ (And.intro (by assumption) ?_))
                  refine callV (e0) (by simp [pureL, AV.pure]) (by simp [AV.dry, dryL]) ?_
                  repeat (first | refine Exists.intro _ (And.intro (unA_neg_i64 (by omega) (by omega)) ?_) | refine Exists.intro _ (And.intro (binA_quo_i64 (by omega) (by omega) (by omega)) ?_) | refine Exists.intro _ (And.intro (binA_rem_i64 (by omega) (by omega)) ?_) | refine Exists.intro _ (And.intro (binA_sub_i64 (by omega) (by omega)) ?_) | refine Exists.intro _ (And.intro (binA_add_i64 (by omega) (by omega)) ?_) | refine Exists.intro _ (And.intro (conv_i64 (by omega) (by omega)) ?_) | refine Exists.intro _ (And.intro rfl ?_) | refine And.intro rfl ?_ | refine condT ?_ | refine condF ?_ | refine condG1 ?_ | refine condG0 ?_ | refine condDT (by omega) ?_ | refine condDF (by omega) ?_ | refine condBT (by omega) ?_ | refine condBF (by omega) ?_ | refine condNT (by omega) ?_ | refine condNF (by omega) ?_ | refine And.intro (by omega) ?_ | refine And.intro (ble_of (by omega)) ?_ | refine And.intro (room_le (by omega)) ?_ | refine Exists.intro _ (And.intro (by assumption) ?_))
                  refine callV (ed) (by simp [pureL, AV.pure]) (by simp [AV.dry, dryL]) ?_
                  repeat (first | refine Exists.intro _ (And.intro (unA_neg_i64 (by omega) (by omega)) ?_) | refine Exists.intro _ (And.intro (binA_quo_i64 (by omega) (by omega) (by omega)) ?_) | refine Exists.intro _ (And.intro (binA_rem_i64 (by omega) (by omega)) ?_) | refine Exists.intro _ (And.intro (binA_sub_i64 (by omega) (by omega)) ?_) | refine Exists.intro _ (And.intro (binA_add_i64 (by omega) (by omega)) ?_) | refine Exists.intro _ (And.intro (conv_i64 (by omega) (by omega)) ?_) | refine Exists.intro _ (And.intro rfl ?_) | refine And.intro rfl ?_ | refine condT ?_ | refine condF ?_ | refine condG1 ?_ | refine condG0 ?_ | refine condDT (by omega) ?_ | refine condDF (by omega) ?_ | refine condBT (by omega) ?_ | refine condBF (by omega) ?_ | refine condNT (by omega) ?_ | refine condNF (by omega) ?_ | refine And.intro (by omega) ?_ | refine And.intro (ble_of (by omega)) ?_ | refine And.intro (room_le (by omega)) ?_ | refine Exists.intro _ (And.intro (by assumption) ?_))
                  refine callV e1 pl rfl ?_
                  repeat (first | refine Exists.intro _ (And.intro (unA_neg_i64 (by omega) (by omega)) ?_) | refine Exists.intro _ (And.intro (binA_quo_i64 (by omega) (by omega) (by omega)) ?_) | refine Exists.intro _ (And.intro (binA_rem_i64 (by omega) (by omega)) ?_) | refine Exists.intro _ (And.intro (binA_sub_i64 (by omega) (by omega)) ?_) | refine Exists.intro _ (And.intro (binA_add_i64 (by omega) (by omega)) ?_) | refine Exists.intro _ (And.intro (conv_i64 (by omega) (by omega)) ?_) | refine Exists.intro _ (And.intro rfl ?_) | refine And.intro rfl ?_ | refine condT ?_ | refine condF ?_ | refine condG1 ?_ | refine condG0 ?_ | refine condDT (by omega) ?_ | refine condDF (by omega) ?_ | refine condBT (by omega) ?_ | refine condBF (by omega) ?_ | refine condNT (by omega) ?_ | refine condNF (by omega) ?_ | refine And.intro (by omega) ?_ | refine And.intro (ble_of (by omega)) ?_ | refine And.intro (room_le (by omega)) ?_ | refine Exists.intro _ (And.intro (by assumption) ?_))
                  refine callV (awake_gives) (by simp [pureL, AV.pure]) (by simp [AV.dry, dryL]) ?_
                  repeat (first | refine Exists.intro _ (And.intro (unA_neg_i64 (by omega) (by omega)) ?_) | refine Exists.intro _ (And.intro (binA_quo_i64 (by omega) (by omega) (by omega)) ?_) | refine Exists.intro _ (And.intro (binA_rem_i64 (by omega) (by omega)) ?_) | refine Exists.intro _ (And.intro (binA_sub_i64 (by omega) (by omega)) ?_) | refine Exists.intro _ (And.intro (binA_add_i64 (by omega) (by omega)) ?_) | refine Exists.intro _ (And.intro (conv_i64 (by omega) (by omega)) ?_) | refine Exists.intro _ (And.intro rfl ?_) | refine And.intro rfl ?_ | refine condT ?_ | refine condF ?_ | refine condG1 ?_ | refine condG0 ?_ | refine condDT (by omega) ?_ | refine condDF (by omega) ?_ | refine condBT (by omega) ?_ | refine condBF (by omega) ?_ | refine condNT (by omega) ?_ | refine condNF (by omega) ?_ | refine And.intro (by omega) ?_ | refine And.intro (ble_of (by omega)) ?_ | refine And.intro (room_le (by omega)) ?_ | refine Exists.intro _ (And.intro (by assumption) ?_))
                  rfl
                · obtain ⟨kn, rfl⟩ : ∃ kn : Nat, k = kn := ⟨k.toNat, by omega⟩
                  have hkl : kn < l.length := by omega
                  have hxk : l[kn]? = some (l.getD kn default) := by rw [List.getD_eq_getElem?_getD, List.getElem?_eq_getElem hkl]; rfl
                  have fin := law6_end l hl hfit cs hcs hn a kn hkl hB
                  have key := grp_loopN l hl hfit cs kn a (l.getD kn default) hxk
                  generalize l.getD kn default = x at *
                  have fx := hfit x (List.mem_of_getElem? hxk)
                  have e2 := first_gives19 x.attrs.path fx.rb.path
                  have hxe : (l.map PVRoute.enc)[((kn : Int)).toNat]? = some x.enc := by simp [hxk]
                  refine gives_code (F := f6) rfl rfl (W_ok 200 _ _ _ _ ?_)
                  repeat (first | refine Exists.intro _ (And.intro (unA_neg_i64 (by omega) (by omega)) ?_) | refine Exists.intro _ (And.intro (binA_quo_i64 (by omega) (by omega) (by omega)) ?_) | refine Exists.intro _ (And.intro (binA_rem_i64 (by omega) (by omega)) ?_) | refine Exists.intro _ (And.intro (binA_sub_i64 (by omega) (by omega)) ?_) | refine Exists.intro _ (And.intro (binA_add_i64 (by omega) (by omega)) ?_) | refine Exists.intro _ (And.intro (conv_i64 (by omega) (by omega)) ?_) | refine Exists.intro _ (And.intro rfl ?_) | refine And.intro rfl ?_ | refine condT ?_ | refine condF ?_ | refine condG1 ?_ | refine condG0 ?_ | refine condDT (by omega) ?_ | refine condDF (by omega) ?_ | refine condBT (by omega) ?_ | refine condBF (by omega) ?_ | refine condNT (by omega) ?_ | refine condNF (by omega) ?_ | refine And.intro (by omega) ?_ | refine And.intro (ble_of (by omega)) ?_ | refine And.intro (room_le (by omega)) ?_ | refine Exists.intro _ (And.intro (by assumption) ?_))
                  refine callV (e0) (by simp [pureL, AV.pure]) (by simp [AV.dry, dryL]) ?_
                  repeat (first | refine Exists.intro _ (And.intro (unA_neg_i64 (by omega) (by omega)) ?_) | refine Exists.intro _ (And.intro (binA_quo_i64 (by omega) (by omega) (by omega)) ?_) | refine Exists.intro _ (And.intro (binA_rem_i64 (by omega) (by omega)) ?_) | refine Exists.intro _ (And.intro (binA_sub_i64 (by omega) (by omega)) ?_) | refine Exists.intro _ (And.intro (binA_add_i64 (by omega) (by omega)) ?_) | refine Exists.intro _ (And.intro (conv_i64 (by omega) (by omega)) ?_) | refine Exists.intro _ (And.intro rfl ?_) | refine And.intro rfl ?_ | refine condT ?_ | refine condF ?_ | refine condG1 ?_ | refine condG0 ?_ | refine condDT (by omega) ?_ | refine condDF (by omega) ?_ | refine condBT (by omega) ?_ | refine condBF (by omega) ?_ | refine condNT (by omega) ?_ | refine condNF (by omega) ?_ | refine And.intro (by omega) ?_ | refine And.intro (ble_of (by omega)) ?_ | refine And.intro (room_le (by omega)) ?_ | refine Exists.intro _ (And.intro (by assumption) ?_))
                  refine callV (ed) (by simp [pureL, AV.pure]) (by simp [AV.dry, dryL]) ?_
                  repeat (first | refine Exists.intro _ (And.intro (unA_neg_i64 (by omega) (by omega)) ?_) | refine Exists.intro _ (And.intro (binA_quo_i64 (by omega) (by omega) (by omega)) ?_) | refine Exists.intro _ (And.intro (binA_rem_i64 (by omega) (by omega)) ?_) | refine Exists.intro _ (And.intro (binA_sub_i64 (by omega) (by omega)) ?_) | refine Exists.intro _ (And.intro (binA_add_i64 (by omega) (by omega)) ?_) | refine Exists.intro _ (And.intro (conv_i64 (by omega) (by omega)) ?_) | refine Exists.intro _ (And.intro rfl ?_) | refine And.intro rfl ?_ | refine condT ?_ | refine condF ?_ | refine condG1 ?_ | refine condG0 ?_ | refine condDT (by omega) ?_ | refine condDF (by omega) ?_ | refine condBT (by omega) ?_ | refine condBF (by omega) ?_ | refine condNT (by omega) ?_ | refine condNF (by omega) ?_ | refine And.intro (by omega) ?_ | refine And.intro (ble_of (by omega)) ?_ | refine And.intro (room_le (by omega)) ?_ | refine Exists.intro _ (And.intro (by assumption) ?_))
                  refine callV e1 pl rfl ?_
                  repeat (first | refine Exists.intro _ (And.intro (unA_neg_i64 (by omega) (by omega)) ?_) | refine Exists.intro _ (And.intro (binA_quo_i64 (by omega) (by omega) (by omega)) ?_) | refine Exists.intro _ (And.intro (binA_rem_i64 (by omega) (by omega)) ?_) | refine Exists.intro _ (And.intro (binA_sub_i64 (by omega) (by omega)) ?_) | refine Exists.intro _ (And.intro (binA_add_i64 (by omega) (by omega)) ?_) | refine Exists.intro _ (And.intro (conv_i64 (by omega) (by omega)) ?_) | refine Exists.intro _ (And.intro rfl ?_) | refine And.intro rfl ?_ | refine condT ?_ | refine condF ?_ | refine condG1 ?_ | refine condG0 ?_ | refine condDT (by omega) ?_ | refine condDF (by omega) ?_ | refine condBT (by omega) ?_ | refine condBF (by omega) ?_ | refine condNT (by omega) ?_ | refine condNF (by omega) ?_ | refine And.intro (by omega) ?_ | refine And.intro (ble_of (by omega)) ?_ | refine And.intro (room_le (by omega)) ?_ | refine Exists.intro _ (And.intro (by assumption) ?_))
                  refine callV (e2) (by simp [pureL, AV.pure]) (by simp [AV.dry, dryL]) ?_
                  repeat (first | refine Exists.intro _ (And.intro (unA_neg_i64 (by omega) (by omega)) ?_) | refine Exists.intro _ (And.intro (binA_quo_i64 (by omega) (by omega) (by omega)) ?_) | refine Exists.intro _ (And.intro (binA_rem_i64 (by omega) (by omega)) ?_) | refine Exists.intro _ (And.intro (binA_sub_i64 (by omega) (by omega)) ?_) | refine Exists.intro _ (And.intro (binA_add_i64 (by omega) (by omega)) ?_) | refine Exists.intro _ (And.intro (conv_i64 (by omega) (by omega)) ?_) | refine Exists.intro _ (And.intro rfl ?_) | refine And.intro rfl ?_ | refine condT ?_ | refine condF ?_ | refine condG1 ?_ | refine condG0 ?_ | refine condDT (by omega) ?_ | refine condDF (by omega) ?_ | refine condBT (by omega) ?_ | refine condBF (by omega) ?_ | refine condNT (by omega) ?_ | refine condNF (by omega) ?_ | refine And.intro (by omega) ?_ | refine And.intro (ble_of (by omega)) ?_ | refine And.intro (room_le (by omega)) ?_ | refine Exists.intro _ (And.intro (by assumption) ?_))
                  refine ev_keep [73, 74, 75, 0, 1, 2, 7, 10, 11, 9] [] ?_
                  simp only [hlm]
                  exact key (fun T H c g m es hm hes => fin T H c g m es hm hes) l [] _ _ _ 0 rfl rfl rfl
end
theorem law5_all (ass : List (List AV)) (h : ArgsT [.sl tRoute, .sl (.int .i64), .sl tIGP] ass) (hb : bkLL ass ≤ 1048576) : Gives G 5 (argsA [.sl tRoute, .sl (.int .i64), .sl tIGP] ass) [] ⟨.bool true, []⟩ := by
  obtain ⟨a, s1, rfl, h1, h⟩ := argsT_cons h
  obtain ⟨b, s2, rfl, h2, h⟩ := argsT_cons h
  obtain ⟨c, s3, rfl, h3, h⟩ := argsT_cons h
  obtain rfl := argsT_nil h
  obtain ⟨l, rfl, k1⟩ := T_sl (fun x => T_route) h1
  obtain ⟨p, rfl, _⟩ := T_sl (fun x => T_i64) h2
  obtain ⟨cs, rfl, _⟩ := T_sl (fun x => T_igp) h3
  simp only [bkLL, bkL, AV.bk] at hb
  have hl := fits_of l k1 (by omega)
  have hc := igps_len cs (by omega)
  exact law5_gives l (by omega) hl.1 cs (by omega) p
theorem law6_all (ass : List (List AV)) (h : ArgsT [.sl tRoute, .int .i64, .sl tIGP] ass) (hb : bkLL ass ≤ 1048576) : Gives G 6 (argsA [.sl tRoute, .int .i64, .sl tIGP] ass) [] ⟨.bool true, []⟩ := by
  obtain ⟨a, s1, rfl, h1, h⟩ := argsT_cons h
  obtain ⟨b, s2, rfl, h2, h⟩ := argsT_cons h
  obtain ⟨c, s3, rfl, h3, h⟩ := argsT_cons h
  obtain rfl := argsT_nil h
  obtain ⟨l, rfl, k1⟩ := T_sl (fun x => T_route) h1
  obtain ⟨k, rfl, _⟩ := T_i64 h2
  obtain ⟨cs, rfl, _⟩ := T_sl (fun x => T_igp) h3
  simp only [bkLL, bkL, AV.bk] at hb
  have hl := fits_of l k1 (by omega)
  have hc := igps_len cs (by omega)
  exact law6_gives l (by omega) hl.1 cs (by omega) k
end Go.AM.IR
