/- What the functions of this program give, on the abstract machine. -/
import Derived.Test.YtcieamgbfameoaaDoorDataB
import Derived.Test.YtcieamgbfameoaaDoorDataA
import Derived.KernelRfl
import Derived.Test.YtcieamgbfameoaaDoorMachineB
set_option linter.unusedVariables false
set_option linter.unusedSimpArgs false
set_option maxHeartbeats 4000000
set_option maxRecDepth 20000
namespace Go.AM.IR
attribute [local simp] pureLL_bytes
def capT : List Cap → Int
  | [] => 0
  | c :: r => (2 + c.value.length) + capT r
end Go.AM.IR
namespace Go.AM.IR
end Go.AM.IR
set_option maxHeartbeats 4000000
set_option maxRecDepth 20000
namespace Go.AM.IR
theorem sizeS_le {a : Attrs} (h : AB a) : LenB a where
  path := h.path
  segs s hs := by
    have h1 := h.flat
    have h2 : s.as.length ≤ (flatS a.path).length := by
      unfold flatS
      obtain ⟨p, q, e⟩ := List.append_of_mem hs
      rw [e]; simp; omega
    omega
  comms := h.comms
  clusters := h.clusters
  unknown := h.unknown
  vals := h.vals
end Go.AM.IR
namespace Go.AM.IR
set_option maxHeartbeats 2000000
theorem bkLL_map_le {α : Type} (f : α → List AV) (g : α → Nat) (h : ∀ x, g x ≤ bkL (f x)) : ∀ l : List α, (l.map g).sum ≤ bkLL (l.map f)
  | [] => by simp
  | x :: r => by
    have := bkLL_map_le f g h r
    have := h x
    simp only [List.map_cons, List.sum_cons, bkLL]
    omega
theorem sum_one {α : Type} : ∀ l : List α, (l.map fun _ => 1).sum = l.length
  | [] => rfl
  | x :: r => by simp only [List.map_cons, List.sum_cons, List.length_cons, sum_one r]; omega
theorem len_bk {α : Type} (f : α → List AV) (h : ∀ x, 1 ≤ bkL (f x)) (l : List α) : l.length ≤ bkLL (l.map f) := by
  have := bkLL_map_le f (fun _ => 1) h l
  rwa [sum_one] at this
theorem mem_bk {α : Type} (f : α → List AV) : ∀ (l : List α) (x : α), x ∈ l → bkL (f x) ≤ bkLL (l.map f)
  | y :: r, x, h => by
    simp only [List.map_cons, bkLL]
    rcases List.mem_cons.1 h with rfl | h
    · omega
    · have := mem_bk f r x h; omega
theorem bk_bytes (l : List UInt8) : l.length ≤ bkLL (byteCells l) := len_bk (f := fun b : UInt8 => [AV.int .u8 (b.toNat : Int)]) (fun _ => by simp [bkL, AV.bk]) l
theorem seg_bk (s : Seg) : s.as.length + 1 ≤ bkL s.enc := by
  have := len_bk encI (fun _ => by simp [encI, bkL, AV.bk]) s.as
  simp only [Seg.enc, bkL, AV.bk]; omega
theorem tlv_bk (s : TLV) : s.value.length + 1 ≤ bkL s.enc := by
  have := bk_bytes s.value
  simp only [TLV.enc, bkL, AV.bk]; omega
theorem flat_len : ∀ l : List Seg, (flatS l).length = (l.map fun s => s.as.length).sum
  | [] => rfl
  | s :: r => by
    have := flat_len r
    simp only [flatS, List.flatMap_cons, List.length_append, List.map_cons, List.sum_cons] at this ⊢
    omega
theorem unk_le : ∀ l : List TLV, unkS l ≤ ((l.map fun t => t.value.length).sum : Nat)
  | [] => by simp [unkS]
  | t :: r => by
    have := unk_le r
    simp only [unkS, List.map_cons, List.sum_cons] at this ⊢
    omega
theorem ab_of (a : Attrs) (h : bkL a.enc ≤ 1048576) : AB a := by
  simp only [Attrs.enc, bkL, AV.bk] at h
  have h1 := len_bk Seg.enc (fun s => by have := seg_bk s; omega) a.path
  have h2 := bkLL_map_le Seg.enc (fun s => s.as.length) (fun s => by have := seg_bk s; omega) a.path
  have h3 := len_bk encU (fun _ => by simp [encU, bkL, AV.bk]) a.comms
  have h4 := len_bk encU (fun _ => by simp [encU, bkL, AV.bk]) a.clusters
  have h5 := len_bk TLV.enc (fun s => by have := tlv_bk s; omega) a.unknown
  have h6 := bkLL_map_le TLV.enc (fun t => t.value.length) (fun s => by have := tlv_bk s; omega) a.unknown
  have h7 := unk_le a.unknown
  rw [← flat_len] at h2
  generalize bkLL (a.path.map Seg.enc) = z1 at *
  generalize bkLL (a.comms.map encU) = z2 at *
  generalize bkLL (a.clusters.map encU) = z3 at *
  refine ⟨by omega, by omega, by omega, by omega, by omega, fun t ht => ?_, by omega⟩
  have := mem_bk TLV.enc a.unknown t ht
  have := tlv_bk t
  omega
end Go.AM.IR
set_option maxHeartbeats 4000000
set_option maxRecDepth 20000
namespace Go.AM.IR
attribute [local simp] pureLL_bytes
structure LenO (m : PMsg) : Prop where
  len : LenM m
  capT : capT m.caps < 2 ^ 50
structure AM (m : PMsg) : Prop where
  attrs : AB m.attrs
  caps : m.caps.length < 2 ^ 40
  withdrawn : m.withdrawn.length < 2 ^ 40
  reach : m.reach.length < 2 ^ 40
  data : m.data.length < 2 ^ 40
  capT : capT m.caps < 2 ^ 50
theorem cap_bk (c : Cap) : c.value.length + 1 ≤ bkL c.enc := by
  have := bk_bytes c.value
  simp only [Cap.enc, bkL, AV.bk]; omega
theorem capT_bk : ∀ l : List Cap, capT l ≤ 2 * l.length + ((l.map fun t => t.value.length).sum : Nat)
  | [] => by simp [capT]
  | c :: r => by
    have := capT_bk r
    simp only [capT, List.map_cons, List.sum_cons, List.length_cons] at this ⊢
    omega
theorem cap1 (s : Cap) : 1 ≤ bkL s.enc := by have := cap_bk s; omega
theorem cap2 (s : Cap) : s.value.length ≤ bkL s.enc := by have := cap_bk s; omega
theorem pfx1 (s : Pfx) : 1 ≤ bkL s.enc := by simp [Pfx.enc, bkL, AV.bk]
theorem am_of (m : PMsg) (h : bkL m.enc ≤ 1048576) : AM m := by
  have h0 : bkL m.attrs.enc ≤ bkL m.enc := by simp only [PMsg.enc, Attrs.enc, bkL, AV.bk]; omega
  have ha := ab_of m.attrs (Nat.le_trans h0 h)
  have h1 := len_bk Cap.enc cap1 m.caps
  have h2 := bkLL_map_le Cap.enc (fun t => t.value.length) cap2 m.caps
  have h3 := len_bk Pfx.enc pfx1 m.withdrawn
  have h4 := len_bk Pfx.enc pfx1 m.reach
  have h5 := bk_bytes m.data
  have h6 := capT_bk m.caps
  clear h0
  simp only [PMsg.enc, bkL, AV.bk] at h
  generalize bkLL (m.caps.map Cap.enc) = z1 at *
  generalize bkLL (m.withdrawn.map Pfx.enc) = z2 at *
  generalize bkLL (m.reach.map Pfx.enc) = z3 at *
  generalize bkLL (byteCells m.data) = z4 at *
  generalize bkLL (m.attrs.path.map Seg.enc) = z5 at *
  generalize bkLL (m.attrs.comms.map encU) = z6 at *
  generalize bkLL (m.attrs.clusters.map encU) = z7 at *
  generalize bkLL (m.attrs.unknown.map TLV.enc) = z8 at *
  generalize (m.caps.map fun t => t.value.length).sum = z9 at *
  exact ⟨ha, by omega, by omega, by omega, by omega, by omega⟩
theorem AM.lenO {m : PMsg} (h : AM m) : LenO m := by
  have := sizeS_le h.attrs
  exact ⟨⟨h.caps, h.withdrawn, h.reach, ⟨this.path, this.segs, this.comms, this.clusters, this.unknown⟩⟩, h.capT⟩
def largeM (m : PMsg) : Bool := decide (sizeS m.attrs > 3000 ∨ m.withdrawn.length > 30000 ∨ m.reach.length > 30000 ∨ m.caps.length > 400 ∨ m.data.length > 70000)
theorem large_gives130 (m : PMsg) (h : AM m) : Gives G 130 [.agg m.enc] [] ⟨.bool (largeM m), []⟩ := by
  have h1 := large_gives21 m.attrs h.attrs
  have l1 : (m.caps.map Cap.enc).length = m.caps.length := by simp
  have l2 : (m.withdrawn.map Pfx.enc).length = m.withdrawn.length := by simp
  have l3 : (m.reach.map Pfx.enc).length = m.reach.length := by simp
  have l4 := byteCells_length m.data
  refine gives_code (F := f130) rfl rfl (W_ok 300 _ _ _ _ ?_)
  repeat' ((conv => whnf); first | refine bslP (by first | rfl | (simp [pureL, pureLL, AV.pure]; done) | fail) rfl ?_ | refine TakeC.full (by first | rfl | omega | (simp; done) | (simp; omega) | fail) ?_ | refine zBs ?_ | refine zBn ?_ | refine zBv rfl rfl ?_ | refine zN ?_ | refine zC ?_ | refine zC4 ?_ | refine zOr16 ?_ | refine zC1 ?_ | refine zByte ?_ | refine zMaxL ?_ | refine zMaxR ?_ | refine zMinL ?_ | refine zMinR ?_ | refine zShr ?_ | refine zC8 ?_ | refine zQ ?_ | refine zR ?_ | refine zS ?_ | refine zA ?_ | refine zM ?_ | refine xr rfl ?_ | refine ai rfl ?_ | refine condT ?_ | refine condF ?_ | refine condG1 ?_ | refine condG0 ?_ | refine cD ?_ | refine dD ?_ | refine cB ?_ | refine dB ?_ | refine cN ?_ | refine dN ?_ | refine cV ?_ | refine dV ?_ | refine cE ?_ | refine dE ?_ | refine condX0 ?_ | refine condX1 ?_ | refine condNot ?_ | refine condAnd ?_ | refine condOr ?_ | refine aO ?_ | refine aB ?_ | refine aR ?_ | refine aR ?_ (by simp; omega) | refine xr (by assumption) ?_ | refine ai (by assumption) ?_ | refine kV (h1) ?_ | refine condD (fun h => ?_) (fun h => ?_) | refine condB (fun h => ?_) (fun h => ?_) | refine condN (fun h => ?_) (fun h => ?_) | refine condE (fun h => ?_) (fun h => ?_) | refine condV (fun h => ?_) (fun h => ?_))
  all_goals (try simp only [l1, l2, l3, l4] at *)
  all_goals (try (first | refine ev_fin (And.intro (by first | rfl | (simp [AV.pure, pureL]; done) | fail) ?_) | refine ev_fin0 (And.intro (by first | rfl | (simp [AV.pure, pureL]; done) | fail) ?_)))
  all_goals (refine rBl ?_; rw [largeM, Bool.eq_iff_iff]; simp only [decide_eq_true_eq, true_iff, false_iff, Bool.false_eq_true, Bool.true_eq_false]; omega)
end Go.AM.IR
set_option maxHeartbeats 4000000
set_option maxRecDepth 20000
namespace Go.AM.IR
theorem awake192_gives : Gives G 192 [] [] ⟨.bool true, []⟩ := gives_run 100000 rfl rfl (by kernel_rfl)
end Go.AM.IR
set_option maxHeartbeats 4000000
set_option maxRecDepth 20000
namespace Go.AM.IR
theorem AM.lenM {m : PMsg} (h : AM m) : LenM m := h.lenO.len
theorem law191_gives (a b : PMsg) (ha : AM a) (hb : AM b) : Gives G 191 [.agg a.enc, .agg b.enc] [] ⟨.bool true, []⟩ := by
  have l1 := large_gives130 a ha
  have l2 := large_gives130 b hb
  have s1 := same_gives156 a b ha.lenM hb.lenM
  have s2 := same_gives126 a b ha.lenM hb.lenM
  have s3 := same_gives156 a a ha.lenM ha.lenM
  rw [show decide (a = a) = true from by simp] at s3
  generalize decide (a = b) = d at *
  cases d
  · refine gives_code (F := f191) rfl rfl (W_ok 300 _ _ _ _ ?_)
    repeat' ((conv => whnf); first | refine bslP (by first | rfl | (simp [pureL, pureLL, AV.pure]; done) | fail) rfl ?_ | refine TakeC.full (by first | rfl | omega | (simp; done) | (simp; omega) | fail) ?_ | refine zBs ?_ | refine zBn ?_ | refine zBv rfl rfl ?_ | refine zN ?_ | refine zC ?_ | refine zC4 ?_ | refine zOr16 ?_ | refine zC1 ?_ | refine zByte ?_ | refine zMaxL ?_ | refine zMaxR ?_ | refine zMinL ?_ | refine zMinR ?_ | refine zShr ?_ | refine zC8 ?_ | refine zQ ?_ | refine zR ?_ | refine zS ?_ | refine zA ?_ | refine zM ?_ | refine xr rfl ?_ | refine ai rfl ?_ | refine condT ?_ | refine condF ?_ | refine condG1 ?_ | refine condG0 ?_ | refine cD ?_ | refine dD ?_ | refine cB ?_ | refine dB ?_ | refine cN ?_ | refine dN ?_ | refine cV ?_ | refine dV ?_ | refine cE ?_ | refine dE ?_ | refine condX0 ?_ | refine condX1 ?_ | refine condNot ?_ | refine condAnd ?_ | refine condOr ?_ | refine aO ?_ | refine aB ?_ | refine aR ?_ | refine aR ?_ (by simp; omega) | refine xr (by assumption) ?_ | refine ai (by assumption) ?_ | refine kV (l1) ?_ | refine kV (l2) ?_ | refine kV (s3) ?_ | refine kV (s1) ?_ | refine kV (s2) ?_ | refine kV (awake192_gives) ?_ | refine condD (fun h => ?_) (fun h => ?_) | refine condB (fun h => ?_) (fun h => ?_) | refine condN (fun h => ?_) (fun h => ?_) | refine condE (fun h => ?_) (fun h => ?_) | refine condV (fun h => ?_) (fun h => ?_))
    all_goals ((first | refine ev_fin (And.intro (by first | rfl | (simp [AV.pure, pureL]; done) | fail) ?_) | refine ev_fin0 (And.intro (by first | rfl | (simp [AV.pure, pureL]; done) | fail) ?_)); rfl)
  · refine gives_code (F := f191) rfl rfl (W_ok 300 _ _ _ _ ?_)
    repeat' ((conv => whnf); first | refine bslP (by first | rfl | (simp [pureL, pureLL, AV.pure]; done) | fail) rfl ?_ | refine TakeC.full (by first | rfl | omega | (simp; done) | (simp; omega) | fail) ?_ | refine zBs ?_ | refine zBn ?_ | refine zBv rfl rfl ?_ | refine zN ?_ | refine zC ?_ | refine zC4 ?_ | refine zOr16 ?_ | refine zC1 ?_ | refine zByte ?_ | refine zMaxL ?_ | refine zMaxR ?_ | refine zMinL ?_ | refine zMinR ?_ | refine zShr ?_ | refine zC8 ?_ | refine zQ ?_ | refine zR ?_ | refine zS ?_ | refine zA ?_ | refine zM ?_ | refine xr rfl ?_ | refine ai rfl ?_ | refine condT ?_ | refine condF ?_ | refine condG1 ?_ | refine condG0 ?_ | refine cD ?_ | refine dD ?_ | refine cB ?_ | refine dB ?_ | refine cN ?_ | refine dN ?_ | refine cV ?_ | refine dV ?_ | refine cE ?_ | refine dE ?_ | refine condX0 ?_ | refine condX1 ?_ | refine condNot ?_ | refine condAnd ?_ | refine condOr ?_ | refine aO ?_ | refine aB ?_ | refine aR ?_ | refine aR ?_ (by simp; omega) | refine xr (by assumption) ?_ | refine ai (by assumption) ?_ | refine kV (l1) ?_ | refine kV (l2) ?_ | refine kV (s3) ?_ | refine kV (s1) ?_ | refine kV (s2) ?_ | refine kV (awake192_gives) ?_ | refine condD (fun h => ?_) (fun h => ?_) | refine condB (fun h => ?_) (fun h => ?_) | refine condN (fun h => ?_) (fun h => ?_) | refine condE (fun h => ?_) (fun h => ?_) | refine condV (fun h => ?_) (fun h => ?_))
    all_goals ((first | refine ev_fin (And.intro (by first | rfl | (simp [AV.pure, pureL]; done) | fail) ?_) | refine ev_fin0 (And.intro (by first | rfl | (simp [AV.pure, pureL]; done) | fail) ?_)); rfl)
theorem law191_all (ass : List (List AV)) (h : ArgsT [tMsg, tMsg] ass) (hb : bkLL ass ≤ 1048576) : Gives G 191 (argsA [tMsg, tMsg] ass) [] ⟨.bool true, []⟩ := by
  obtain ⟨x, s1, rfl, h1, h⟩ := argsT_cons h
  obtain ⟨y, s2, rfl, h2, h⟩ := argsT_cons h
  obtain rfl := argsT_nil h
  obtain ⟨a, rfl, _⟩ := T_msg h1
  obtain ⟨b, rfl, _⟩ := T_msg h2
  simp only [bkLL] at hb
  generalize hx : bkL a.enc = x at hb
  generalize hy : bkL b.enc = y at hb
  exact law191_gives a b (am_of a (by omega)) (am_of b (by omega))
end Go.AM.IR
