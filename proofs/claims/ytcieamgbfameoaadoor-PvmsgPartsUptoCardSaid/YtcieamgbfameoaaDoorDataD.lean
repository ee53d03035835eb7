/- What the functions of this program give, on the abstract machine. -/
import Derived.Test.YtcieamgbfameoaaDoorDataC
import Derived.Test.YtcieamgbfameoaaDoorDataB
import Derived.Test.YtcieamgbfameoaaDoorDataA
import Derived.Test.YtcieamgbfameoaaDoorMachineC
set_option linter.unusedVariables false
set_option linter.unusedSimpArgs false
set_option maxHeartbeats 4000000
set_option maxRecDepth 20000
namespace Go.AM.IR
attribute [local simp] pureLL_bytes
def openX (m : PMsg) : Int :=
  if m.version ≠ 4 then 12 else if m.as < 1 ∨ m.as > 4294967295 then 5 else if m.hold ≠ 0 ∧ (m.hold < 3 ∨ m.hold > 65535) then 21 else if m.router = 0 then 1 else capsE m.as none 0 false m.caps
theorem open_gives158 (m : PMsg) (h : LenO m) : Gives G 158 [.agg m.enc] [] ⟨.int .i64 (openX m), []⟩ := by
  have hc := caps_gives170 m h.len.caps h.capT
  generalize hce : capsE m.as none 0 false m.caps = ce at hc
  refine gives_code (F := f158) rfl rfl (W_ok 300 _ _ _ _ ?_)
  repeat' (first | refine stpA ?_ | (refine condS ?_ ?_ <;> intro h))
  all_goals try ((first | refine fin1 ?_ | refine fin0 ?_); first | rfl | (simp [openX, Bool.cond_eq_ite, *]; done) | (simp [openX, Bool.cond_eq_ite, *]; omega) | (unfold openX; repeat' split; all_goals first | rfl | (exfalso; omega) | (simp_all; done) | (simp_all; omega)))
def usedU (m : PMsg) : PMsg := { zeroM with kind := m.kind, withdrawn := m.withdrawn, attrs := m.attrs, reach := m.reach }
def usedN (m : PMsg) : PMsg := { zeroM with kind := m.kind, code := m.code, sub := m.sub, data := m.data }
def usedZ (m : PMsg) : PMsg := { zeroM with kind := m.kind }
def usedM (m : PMsg) : PMsg := if m.kind = 1 then usedO m else if m.kind = 2 then usedU m else if m.kind = 3 then usedN m else usedZ m
theorem used_all157 (m : PMsg) : Gives G 157 [.agg m.enc] [] ⟨.agg (usedM m).enc, []⟩ := by
  by_cases h1 : m.kind = 1
  · rw [usedM, if_pos h1]; exact used_gives157 m h1
  · by_cases h2 : m.kind = 2
    · rw [usedM, if_neg h1, if_pos h2]
      refine gives_code (F := f157) rfl rfl (W_ok 300 _ _ _ _ ?_)
      repeat' (first | refine stpA ?_ | (refine condS ?_ ?_ <;> intro h))
      refine ev_le [] [(66, some (_, .cells ((usedU m).enc)))] trivial ⟨⟨rfl, (by repeat' (first | exact trivial | exact LeP.refl _ | exact LeP.nil _ | refine LeP.sl ?_ | refine ⟨?_, ?_⟩))⟩, trivial⟩ ?_
      (first | refine fin1 ?_ | refine fin0 ?_); (conv => whnf); refine Go.AM.finC ?_
      rfl
    · by_cases h3 : m.kind = 3
      · rw [usedM, if_neg h1, if_neg h2, if_pos h3]
        refine gives_code (F := f157) rfl rfl (W_ok 300 _ _ _ _ ?_)
        repeat' (first | refine stpA ?_ | (refine condS ?_ ?_ <;> intro h))
        refine ev_le [] [(66, some (_, .cells ((usedN m).enc)))] trivial ⟨⟨rfl, (by repeat' (first | exact trivial | exact LeP.refl _ | exact LeP.nil _ | refine LeP.sl ?_ | refine ⟨?_, ?_⟩))⟩, trivial⟩ ?_
        (first | refine fin1 ?_ | refine fin0 ?_); (conv => whnf); refine Go.AM.finC ?_
        rfl
      · rw [usedM, if_neg h1, if_neg h2, if_neg h3]
        refine gives_code (F := f157) rfl rfl (W_ok 300 _ _ _ _ ?_)
        repeat' (first | refine stpA ?_ | (refine condS ?_ ?_ <;> intro h))
        refine ev_le [] [(66, some (_, .cells ((usedZ m).enc)))] trivial ⟨⟨rfl, (by repeat' (first | exact trivial | exact LeP.refl _ | exact LeP.nil _ | refine LeP.sl ?_ | refine ⟨?_, ?_⟩))⟩, trivial⟩ ?_
        (first | refine fin1 ?_ | refine fin0 ?_); (conv => whnf); refine Go.AM.finC ?_
        rfl
theorem lenM_usedM (m : PMsg) (h : LenM m) : LenM (usedM m) := by
  unfold usedM
  repeat' split
  · exact ⟨h.caps, by simp [usedO, zeroM], by simp [usedO, zeroM], lenC_zero⟩
  · exact ⟨by simp [usedU, zeroM], h.withdrawn, h.reach, h.attrs⟩
  · exact ⟨by simp [usedN, zeroM], by simp [usedN, zeroM], by simp [usedN, zeroM], lenC_zero⟩
  · exact ⟨by simp [usedZ, zeroM], by simp [usedZ, zeroM], by simp [usedZ, zeroM], lenC_zero⟩
theorem used_eq (m : PMsg) : decide (m = usedM m) = unusedS m := by
  have ho : unO m = decide (m.version = 0 ∧ m.as = 0 ∧ m.hold = 0 ∧ m.router = 0 ∧ m.caps = []) := by simp [unO]
  have hu : unU m = decide (m.withdrawn = [] ∧ m.reach = [] ∧ m.attrs = zeroA) := by simp [unU]
  have hn : unN m = decide (m.code = 0 ∧ m.sub = 0 ∧ m.data = []) := by simp [unN]
  rw [Bool.eq_iff_iff, decide_eq_true_eq, PMsg.eq_iff, unusedS, ho, hu, hn]
  simp only [Bool.and_eq_true, Bool.or_eq_true, decide_eq_true_eq]
  by_cases h1 : m.kind = 1
  · rw [usedM, if_pos h1]
    simp only [usedO, zeroM, h1, true_and, or_true]
    constructor
    · rintro ⟨q1, q2, q3, q4, q5, q6⟩; exact ⟨Or.inl ⟨q4, q6, q5⟩, Or.inl ⟨q1, q2, q3⟩⟩
    · rintro ⟨q1 | q1, q2 | q2⟩
      · exact ⟨q2.1, q2.2.1, q2.2.2, q1.1, q1.2.2, q1.2.1⟩
      all_goals (exfalso; omega)
  · by_cases h2 : m.kind = 2
    · rw [usedM, if_neg h1, if_pos h2]
      simp only [usedU, zeroM, h2, true_and, or_true, and_true]
      constructor
      · rintro ⟨q1, q2, q3, q4, q5, q6, q7, q8⟩; exact ⟨Or.inl ⟨q1, q2, q3, q4, q8⟩, Or.inl ⟨q5, q6, q7⟩⟩
      · rintro ⟨q1 | q1, q2 | q2⟩
        · exact ⟨q1.1, q1.2.1, q1.2.2.1, q1.2.2.2.1, q2.1, q2.2.1, q2.2.2, q1.2.2.2.2⟩
        all_goals (exfalso; omega)
    · by_cases h3 : m.kind = 3
      · rw [usedM, if_neg h1, if_neg h2, if_pos h3]
        simp only [usedN, zeroM, h3, true_and, or_true, and_true]
        constructor
        · rintro ⟨q1, q2, q3, q4, q5, q6, q7, q8⟩; exact ⟨Or.inl ⟨q1, q2, q3, q4, q5⟩, Or.inl ⟨q6, q8, q7⟩⟩
        · rintro ⟨q1 | q1, q2 | q2⟩
          · exact ⟨q1.1, q1.2.1, q1.2.2.1, q1.2.2.2.1, q1.2.2.2.2, q2.1, q2.2.2, q2.2.1⟩
          all_goals (exfalso; omega)
      · rw [usedM, if_neg h1, if_neg h2, if_neg h3]
        simp only [usedZ, zeroM, true_and, h1, h2, h3, or_false]
        constructor
        · rintro ⟨q1, q2, q3, q4, q5, q6, q7, q8, q9, q10, q11⟩; exact ⟨⟨⟨q1, q2, q3, q4, q8⟩, ⟨q9, q11, q10⟩⟩, ⟨q5, q6, q7⟩⟩
        · rintro ⟨⟨⟨q1, q2, q3, q4, q8⟩, ⟨q9, q11, q10⟩⟩, ⟨q5, q6, q7⟩⟩; exact ⟨q1, q2, q3, q4, q5, q6, q7, q8, q9, q10, q11⟩
def noteE (m : PMsg) : Int := if m.code < 1 ∨ m.code > 6 ∨ m.sub < 0 ∨ m.sub > 255 then 5 else if (m.data.length : Int) > 65514 then 4 else 0
def checkM (m : PMsg) : Int :=
  if m.kind < 1 ∨ m.kind > 5 then 15 else if unusedS m = false then 1 else if m.kind = 1 then openX m else if m.kind = 2 then updE m else if m.kind = 3 then noteE m else 0
theorem check_gives144 (m : PMsg) (h : LenO m) (hb : LenB m.attrs) (ho : m.okP) : Gives G 144 [.agg m.enc] [] ⟨.int .i64 (checkM m), []⟩ := by
  have h1 := used_all157 m
  have h2 := same_gives156 m (usedM m) h.len (lenM_usedM m h.len)
  rw [used_eq m] at h2
  have h3 := open_gives158 m h
  have h4 := upd_gives159 m h.len hb ho
  have hbl := byteCells_length m.data
  unfold checkM noteE
  generalize openX m = oe at *
  generalize updE m = ue at *
  generalize hon : unusedS m = b at *
  by_cases k0 : m.kind < 1 ∨ m.kind > 5
  · rw [if_pos k0]
    refine gives_code (F := f144) rfl rfl (W_ok 300 _ _ _ _ ?_)
    repeat' (first | refine stpA ?_ | (refine condS ?_ ?_ <;> intro h))
    all_goals ((first | refine fin1 ?_ | refine fin0 ?_); first | rfl | (exfalso; omega))
  · rw [if_neg k0]
    have k1 : ¬ m.kind < 1 := by omega
    have k2 : ¬ m.kind > 5 := by omega
    cases b
    · rw [if_pos rfl]
      refine gives_code (F := f144) rfl rfl (W_ok 300 _ _ _ _ ?_)
      repeat' (first | refine stpA ?_ | (refine condS ?_ ?_ <;> intro h))
      (first | refine fin1 ?_ | refine fin0 ?_); rfl
    · rw [if_neg (by simp)]
      by_cases e1 : m.kind = 1
      · rw [if_pos e1]
        refine gives_code (F := f144) rfl rfl (W_ok 300 _ _ _ _ ?_)
        repeat' (first | refine stpA ?_ | (refine condS ?_ ?_ <;> intro h))
        (first | refine fin1 ?_ | refine fin0 ?_); rfl
      · by_cases e2 : m.kind = 2
        · rw [if_neg e1, if_pos e2]
          refine gives_code (F := f144) rfl rfl (W_ok 300 _ _ _ _ ?_)
          repeat' (first | refine stpA ?_ | (refine condS ?_ ?_ <;> intro h))
          (first | refine fin1 ?_ | refine fin0 ?_); rfl
        · rw [if_neg e1, if_neg e2]
          by_cases e3 : m.kind = 3
          · rw [if_pos e3]
            refine gives_code (F := f144) rfl rfl (W_ok 300 _ _ _ _ ?_)
            repeat' (first | refine stpA ?_ | (refine condS ?_ ?_ <;> intro h))
            all_goals (try simp only [hbl] at *)
            all_goals (try (first | refine fin1 ?_ | refine fin0 ?_))
            all_goals first | rfl | (rw [if_pos (by omega)]) | (rw [if_neg (by omega), if_pos (by omega)]) | (rw [if_neg (by omega), if_neg (by omega)])
          · rw [if_neg e3]
            refine gives_code (F := f144) rfl rfl (W_ok 300 _ _ _ _ ?_)
            repeat' (first | refine stpA ?_ | (refine condS ?_ ?_ <;> intro h))
            (first | refine fin1 ?_ | refine fin0 ?_); rfl
end Go.AM.IR
set_option maxHeartbeats 4000000
set_option maxRecDepth 20000
namespace Go.AM.IR
def len8 (n : Int) : Nat := (n.toNat + 7) / 8
def pack1 (p : Pfx) : List UInt8 := UInt8.ofNat p.len.toNat :: be (len8 p.len) (p.addr.toNat / 256 ^ (4 - len8 p.len))
def packP (l : List Pfx) : List UInt8 := l.flatMap pack1
theorem be_take (x k : Nat) (hk : k ≤ 4) : (be 4 x).take k = be k (x / 256 ^ (4 - k)) := by
  have h : k = 0 ∨ k = 1 ∨ k = 2 ∨ k = 3 ∨ k = 4 := by omega
  rcases h with rfl | rfl | rfl | rfl | rfl <;> simp [be, Nat.div_div_eq_div_mul]
theorem len8_le {n : Int} (h : n ≤ 32) : len8 n ≤ 4 := by unfold len8; omega
theorem pack1_length (p : Pfx) : (pack1 p).length = 1 + len8 p.len := by simp [pack1]; omega
theorem packP_length {l : List Pfx} (h : ∀ p ∈ l, p.len ≤ 32) : (packP l).length ≤ 5 * l.length := by
  induction l with
  | nil => simp [packP]
  | cons p l ih =>
    have := ih (fun q hq => h q (by simp [hq]))
    have h1 := pack1_length p
    have h2 := len8_le (h p (by simp))
    simp only [packP, List.flatMap_cons, List.length_append, List.length_cons] at *
    omega
def pfxB (n : Nat) (r : List UInt8) : Pfx := ⟨((rd (r.take (len8 n)) * 256 ^ (4 - len8 n) : Nat) : Int), (n : Int)⟩
def unP : Nat → List UInt8 → Option (List Pfx)
  | _, [] => some []
  | 0, _ :: _ => none
  | f + 1, n :: r => if n.toNat > 32 ∨ r.length < len8 n.toNat then none else
      if validP (pfxB n.toNat r) = true then (unP f (r.drop (len8 n.toNat))).map (pfxB n.toNat r :: ·) else none
theorem valid_mul {p : Pfx} (h : p.ok) (v : validP p = true) : 0 ≤ p.len ∧ p.len ≤ 32 ∧ p.addr.toNat = p.addr.toNat / 256 ^ (4 - len8 p.len) * 256 ^ (4 - len8 p.len) ∧ p.addr.toNat < 4294967296 := by
  unfold validP at v
  rw [decide_eq_true_eq] at v
  obtain ⟨a, b, c⟩ := v
  have ha := h.addr
  unfold okU at ha
  refine ⟨a, b, ?_, by omega⟩
  have hd : 256 ^ (4 - len8 p.len) ∣ 2 ^ (32 - p.len.toNat) := by
    rw [show (256 : Nat) = 2 ^ 8 from rfl, ← Nat.pow_mul]
    exact Nat.pow_dvd_pow 2 (by unfold len8; omega)
  have hx : p.addr.toNat = keepN p.addr.toNat p.len.toNat := by omega
  have hdv : 256 ^ (4 - len8 p.len) ∣ p.addr.toNat := by
    rw [hx]; unfold keepN
    exact Nat.dvd_trans hd (Nat.dvd_mul_left _ _)
  exact (Nat.div_mul_cancel hdv).symm
theorem pfxB_back {p : Pfx} (h : p.ok) (v : validP p = true) (r : List UInt8) : pfxB p.len.toNat (be (len8 p.len) (p.addr.toNat / 256 ^ (4 - len8 p.len)) ++ r) = p := by
  obtain ⟨a, b, c, d⟩ := valid_mul h v
  have ha := h.addr
  unfold okU at ha
  have e8 : len8 ((p.len.toNat : Nat) : Int) = len8 p.len := by rw [Int.toNat_of_nonneg a]
  unfold pfxB
  rw [e8, List.take_left' (by simp), rd_be _ _ (by
    rw [Nat.div_lt_iff_lt_mul (Nat.pow_pos (by omega)), ← Nat.pow_add]
    have := len8_le b
    rw [show len8 p.len + (4 - len8 p.len) = 4 by omega]; exact d), ← c]
  cases p
  simp only at *
  congr 1 <;> omega
theorem unP_pack : ∀ (l : List Pfx) (f : Nat), (∀ p ∈ l, p.ok ∧ validP p = true) → (packP l).length ≤ f → unP f (packP l) = some l
  | [], f, _, _ => by cases f <;> rfl
  | p :: l, 0, h, hf => by
    have := pack1_length p
    simp only [packP, List.flatMap_cons, List.length_append] at hf; omega
  | p :: l, f + 1, h, hf => by
    obtain ⟨ho, hv⟩ := h p (by simp)
    obtain ⟨a, b, c, d⟩ := valid_mul ho hv
    have e : packP (p :: l) = UInt8.ofNat p.len.toNat :: (be (len8 p.len) (p.addr.toNat / 256 ^ (4 - len8 p.len)) ++ packP l) := by simp [packP, pack1]
    have hn : (UInt8.ofNat p.len.toNat).toNat = p.len.toNat := by simp; omega
    have e8 : len8 ((p.len.toNat : Nat) : Int) = len8 p.len := by rw [Int.toNat_of_nonneg a]
    have hlen : (be (len8 p.len) (p.addr.toNat / 256 ^ (4 - len8 p.len)) ++ packP l).length ≤ f := by rw [e] at hf; simp at hf; simp; omega
    rw [e, unP, hn, e8, if_neg (by simp; omega), pfxB_back ho hv, if_pos hv, List.drop_left' (by simp), unP_pack l f (fun q hq => h q (by simp [hq])) (by simp at hlen; omega)]
    rfl
theorem pack_unP : ∀ (f : Nat) (b : List UInt8) (l : List Pfx), unP f b = some l → packP l = b ∧ ∀ p ∈ l, p.ok ∧ validP p = true
  | f, [], l, h => by
    have : l = [] := by cases f <;> simpa [unP] using h.symm
    subst this
    simp [packP]
  | 0, _ :: _, l, h => by simp [unP] at h
  | f + 1, n :: r, l, h => by
    have hnl := n.toNat_lt
    rw [unP] at h
    split at h
    · cases h
    · rename_i hc
      split at h
      · rename_i hv
        obtain ⟨l', h1, rfl⟩ := Option.map_eq_some_iff.1 h
        obtain ⟨i1, i2⟩ := pack_unP f _ l' h1
        have hl4 : len8 (n.toNat : Int) ≤ 4 := len8_le (by omega)
        have hrd : rd (r.take (len8 n.toNat)) < 256 ^ len8 n.toNat := rd_le (by simp; omega)
        have hx : rd (r.take (len8 n.toNat)) * 256 ^ (4 - len8 n.toNat) < 4294967296 := by
          have h2 := Nat.mul_lt_mul_of_pos_right hrd (Nat.pow_pos (n := 4 - len8 (n.toNat : Int)) (show 0 < 256 by omega))
          rw [← Nat.pow_add, show len8 (n.toNat : Int) + (4 - len8 (n.toNat : Int)) = 4 by omega] at h2
          exact h2
        refine ⟨?_, fun p hp => ?_⟩
        · have e1 : packP (pfxB n.toNat r :: l') = pack1 (pfxB n.toNat r) ++ packP l' := by simp [packP]
          rw [e1, i1]
          unfold pack1 pfxB
          simp only [Int.toNat_natCast]
          rw [Nat.mul_div_cancel _ (Nat.pow_pos (by omega)), be_rd' (by simp; omega)]
          simp
        · rcases List.mem_cons.1 hp with rfl | hp
          · exact ⟨⟨by unfold okU pfxB; simp only; omega, by unfold okI pfxB; simp only; omega⟩, hv⟩
          · exact i2 p hp
      · cases h
end Go.AM.IR
set_option maxHeartbeats 4000000
set_option maxRecDepth 20000
namespace Go.AM.IR
theorem pfx_valid : ∀ (l : List Pfx) (p : Option Pfx), pfxE p l = 0 → ∀ x ∈ l, validP x = true
  | [], _, _ => by simp
  | x :: r, p, h => by
    unfold pfxE at h
    split at h
    · cases h
    · rename_i hv
      split at h
      · cases h
      · intro y hy
        rcases List.mem_cons.1 hy with rfl | hy
        · simpa using hv
        · exact pfx_valid r _ h y hy
theorem caps_valid (as : Int) : ∀ (l : List Cap) (p : Option Int) (n : Int) (w : Bool), capsE as p n w l = 0 → (∀ c ∈ l, 1 ≤ c.code ∧ c.code ≤ 255) ∧ n + capT l ≤ 253
  | [], p, n, w, h => by
    unfold capsE at h
    split at h
    · cases h
    · refine ⟨by simp, ?_⟩
      simp only [capT]; omega
  | c :: r, p, n, w, h => by
    unfold capsE at h
    split at h
    · cases h
    · split at h
      · cases h
      · split at h
        · cases h
        · split at h
          · cases h
          · obtain ⟨h1, h2⟩ := caps_valid as r _ _ _ h
            refine ⟨fun x hx => ?_, by simp only [capT]; omega⟩
            rcases List.mem_cons.1 hx with rfl | hx
            · omega
            · exact h1 x hx
theorem capT_mem : ∀ {l : List Cap} {c : Cap}, c ∈ l → (c.value.length : Int) + 2 ≤ capT l
  | x :: r, c, h => by
    have hn := capT_nonneg r
    rcases List.mem_cons.1 h with rfl | h
    · simp only [capT]; omega
    · have := capT_mem h; simp only [capT]; omega
structure OpenOk (m : PMsg) : Prop where
  version : m.version = 4
  as : 1 ≤ m.as ∧ m.as ≤ 4294967295
  hold : 0 ≤ m.hold ∧ m.hold ≤ 65535
  caps : (∀ c ∈ m.caps, 1 ≤ c.code ∧ c.code ≤ 255) ∧ capT m.caps ≤ 253
  rest : m.withdrawn = [] ∧ m.reach = [] ∧ m.attrs = zeroA ∧ m.code = 0 ∧ m.sub = 0 ∧ m.data = []
theorem check_parts {m : PMsg} (h : checkM m = 0) : 1 ≤ m.kind ∧ m.kind ≤ 5 ∧ unusedS m = true ∧ (m.kind = 1 → openX m = 0) ∧ (m.kind = 2 → updE m = 0) ∧ (m.kind = 3 → noteE m = 0) := by
  unfold checkM at h
  split at h
  · cases h
  · split at h
    · cases h
    · rename_i h1 h2
      refine ⟨by omega, by omega, by simpa using h2, fun hk => ?_, fun hk => ?_, fun hk => ?_⟩
      · rw [if_pos hk] at h; exact h
      · rw [if_neg (by omega), if_pos hk] at h; exact h
      · rw [if_neg (by omega), if_neg (by omega), if_pos hk] at h; exact h
theorem unO_iff (m : PMsg) : unO m = true ↔ m.version = 0 ∧ m.as = 0 ∧ m.hold = 0 ∧ m.router = 0 ∧ m.caps = [] := by simp [unO]
theorem unU_iff (m : PMsg) : unU m = true ↔ m.withdrawn = [] ∧ m.reach = [] ∧ m.attrs = zeroA := by simp [unU]
theorem unN_iff (m : PMsg) : unN m = true ↔ m.code = 0 ∧ m.sub = 0 ∧ m.data = [] := by simp [unN]
theorem unused_iff (m : PMsg) : unusedS m = true ↔ (unO m = true ∨ m.kind = 1) ∧ (unU m = true ∨ m.kind = 2) ∧ (unN m = true ∨ m.kind = 3) := by
  simp only [unusedS, Bool.and_eq_true, Bool.or_eq_true, decide_eq_true_eq, and_assoc]
theorem open_ok {m : PMsg} (h : checkM m = 0) (hk : m.kind = 1) : OpenOk m := by
  obtain ⟨_, _, hu, ho, _⟩ := check_parts h
  obtain ⟨_, u2, u3⟩ := (unused_iff m).1 hu
  have u2 := (unU_iff m).1 (u2.resolve_right (by omega))
  have u3 := (unN_iff m).1 (u3.resolve_right (by omega))
  have ho := ho hk
  unfold openX at ho
  split at ho
  · cases ho
  · split at ho
    · cases ho
    · split at ho
      · cases ho
      · split at ho
        · cases ho
        · obtain ⟨c1, c2⟩ := caps_valid _ _ _ _ _ ho
          exact ⟨by omega, by omega, by omega, ⟨c1, by omega⟩, u2.1, u2.2.1, u2.2.2, u3.1, u3.2.1, u3.2.2⟩
structure UpdOk (m : PMsg) : Prop where
  withdrawn : ∀ p ∈ m.withdrawn, validP p = true
  reach : ∀ p ∈ m.reach, validP p = true
  attrs : m.reach ≠ [] → checkS m.attrs = 0
  zero : m.reach = [] → m.attrs = zeroA
  rest : m.version = 0 ∧ m.as = 0 ∧ m.hold = 0 ∧ m.router = 0 ∧ m.caps = [] ∧ m.code = 0 ∧ m.sub = 0 ∧ m.data = []
theorem upd_ok {m : PMsg} (h : checkM m = 0) (hk : m.kind = 2) : UpdOk m := by
  obtain ⟨_, _, hu, _, ho, _⟩ := check_parts h
  obtain ⟨u1, _, u3⟩ := (unused_iff m).1 hu
  have u1 := (unO_iff m).1 (u1.resolve_right (by omega))
  have u3 := (unN_iff m).1 (u3.resolve_right (by omega))
  have ho := ho hk
  have h1 : pfxE none m.withdrawn = 0 := by
    by_cases q : pfxE none m.withdrawn = 0
    · exact q
    · unfold updE at ho; rw [if_pos q] at ho; exact ho
  have h2 : pfxE none m.reach = 0 := by
    by_cases q : pfxE none m.reach = 0
    · exact q
    · unfold updE at ho; rw [if_neg (by simp [h1]), if_pos q] at ho; exact ho
  have h3 : tailU m = 0 := by
    unfold updE at ho; rw [if_neg (by simp [h1]), if_neg (by simp [h2])] at ho
    split at ho
    · cases ho
    · exact ho
  refine ⟨pfx_valid _ _ h1, pfx_valid _ _ h2, fun hr => ?_, fun hr => ?_, u1.1, u1.2.1, u1.2.2.1, u1.2.2.2.1, u1.2.2.2.2, u3.1, u3.2.1, u3.2.2⟩
  · unfold tailU at h3
    rw [if_pos (List.length_pos_iff.2 hr)] at h3; exact h3
  · unfold tailU at h3
    rw [if_neg (by simp [hr])] at h3
    split at h3
    · assumption
    · cases h3
structure NoteOk (m : PMsg) : Prop where
  code : 1 ≤ m.code ∧ m.code ≤ 6
  sub : 0 ≤ m.sub ∧ m.sub ≤ 255
  data : m.data.length ≤ 65514
  rest : m.version = 0 ∧ m.as = 0 ∧ m.hold = 0 ∧ m.router = 0 ∧ m.caps = [] ∧ m.withdrawn = [] ∧ m.reach = [] ∧ m.attrs = zeroA
theorem note_ok {m : PMsg} (h : checkM m = 0) (hk : m.kind = 3) : NoteOk m := by
  obtain ⟨_, _, hu, _, _, ho⟩ := check_parts h
  obtain ⟨u1, u2, _⟩ := (unused_iff m).1 hu
  have u1 := (unO_iff m).1 (u1.resolve_right (by omega))
  have u2 := (unU_iff m).1 (u2.resolve_right (by omega))
  have ho := ho hk
  unfold noteE at ho
  split at ho
  · cases ho
  · split at ho
    · cases ho
    · exact ⟨by omega, by omega, by omega, u1.1, u1.2.1, u1.2.2.1, u1.2.2.2.1, u1.2.2.2.2, u2.1, u2.2.1, u2.2.2⟩
theorem zero_ok {m : PMsg} (h : checkM m = 0) (hk : 4 ≤ m.kind) : m = { zeroM with kind := m.kind } := by
  obtain ⟨_, _, hu, _⟩ := check_parts h
  obtain ⟨u1, u2, u3⟩ := (unused_iff m).1 hu
  have u1 := (unO_iff m).1 (u1.resolve_right (by omega))
  have u2 := (unU_iff m).1 (u2.resolve_right (by omega))
  have u3 := (unN_iff m).1 (u3.resolve_right (by omega))
  rw [PMsg.eq_iff]
  simp only [zeroM]
  exact ⟨trivial, u1.1, u1.2.1, u1.2.2.1, u1.2.2.2.1, u3.1, u3.2.1, u3.2.2, u1.2.2.2.2, u2.1, u2.2.2, u2.2.1⟩
end Go.AM.IR
set_option maxHeartbeats 4000000
set_option maxRecDepth 20000
namespace Go.AM.IR
def wd (wide : Bool) : Nat := if wide = true then 4 else 2
theorem width_gives96 (wide : Bool) : Gives G 96 [.bool wide] [] ⟨.int .i64 (wd wide : Nat), []⟩ := by
  cases wide
  · refine gives_code (F := f96) rfl rfl (W_ok 300 _ _ _ _ ?_)
    repeat' (first | refine stpA ?_ | (refine condS ?_ ?_ <;> intro h))
    all_goals try ((first | refine fin1 ?_ | refine fin0 ?_); first | rfl | (simp [Bool.cond_eq_ite, *]; done) | (simp [Bool.cond_eq_ite, *]; omega))
  · refine gives_code (F := f96) rfl rfl (W_ok 300 _ _ _ _ ?_)
    repeat' (first | refine stpA ?_ | (refine condS ?_ ?_ <;> intro h))
    all_goals try ((first | refine fin1 ?_ | refine fin0 ?_); first | rfl | (simp [Bool.cond_eq_ite, *]; done) | (simp [Bool.cond_eq_ite, *]; omega))
theorem number_gives85 (m : Nat) (hm : m < 2 ^ 63) : Gives G 85 [.int .i64 (m : Int)] [] (rB (be 4 m)) := by
  refine gives_code (F := f85) rfl rfl (W_ok 300 _ _ _ _ ?_)
  repeat' (first | refine stpA ?_ | refine kN (put0_gives109 4 m (by omega)) ?_ | (refine condS ?_ ?_ <;> intro h))
  exact ev_retB 69 ⟨_, _, _, rfl, rfl, rfl, rfl⟩
theorem number85 (n : Int) (h0 : 0 ≤ n) (h1 : n < 2 ^ 63) : Gives G 85 [.int .i64 n] [] (rB (be 4 n.toNat)) := by
  have h := number_gives85 n.toNat (by omega)
  rwa [show ((n.toNat : Nat) : Int) = n from by omega] at h
def badN (wide bad : Bool) (n : Int) : Bool := bad || (!wide && decide (n > 65535))
theorem as_gives86 (n : Nat) (h1 : n < 2 ^ 63) (wide bad : Bool) (b : List UInt8) : Gives G 86 [.ref 0 0 0, .int .i64 (n : Int)] [.cells [.vs 1 0 b.length, .bool wide, .bool bad], .vec 1 (byteCells b)]
    ⟨.vs 2 0 (be (wd wide) n).length, [(true, .cells [.vs 1 0 b.length, .bool wide, .bool (badN wide bad n)]), (true, .vec 1 (byteCells b)), (false, .vec 1 (byteCells (be (wd wide) n)))]⟩ := by
  have hw : wd wide ≤ 8 := by unfold wd; split <;> omega
  have hp := put0_gives109 (wd wide) n hw
  have hq := width_gives96 wide
  generalize wd wide = w at *
  refine gives_code (F := f86) rfl rfl (W_ok 300 _ _ _ _ ?_)
  repeat' (first | refine stpA ?_ | (refine condS ?_ ?_ <;> intro h))
  all_goals ((conv => whnf); first | refine finX1 [(0, _, _), (1, _, _)] [(94, _, _)] [true, true] ?_ | refine finX0 [(0, _, _), (1, _, _)] [(94, _, _)] [true, true] ?_)
  all_goals (simp [flB, Blk.renX, renXL, AV.renX, zidx, badN, *]; exact ⟨rfl, rfl⟩)
theorem fm_length : ∀ l : List Int, (l.flatMap fun x => be 4 x.toNat).length = 4 * l.length
  | [] => rfl
  | x :: r => by
    have := fm_length r
    simp [be_length] at this ⊢; omega
theorem words_loop87 (l : List Int) (h0 : ∀ x ∈ l, 0 ≤ x ∧ x ≤ 4294967295) (hl : l.length < 2 ^ 40) (ln : Int) (hln : ln = l.length) : ∀ (rest done : List Int) (g m : Nat) (es : List (List AV)) (T : List (Nat × AV)) (H : Heap) (c : Nat) (n : Int) (e : l = done ++ rest) (hn : n = done.length) (hm : m = 4 * done.length) (hes : es = byteCells (done.flatMap fun x => be 4 x.toNat)), Ev G ⟨f87x7LH, ⟨(6, .sl 1 (l.map encU)) :: (7, .int .i64 ln) :: (8, .int .i64 n) :: (3, .vs 69 g m) :: T, (69, some (g, .vec 1 es)) :: H, c⟩, [.t 2], 0⟩ (rB (l.flatMap fun x => be 4 x.toNat))
  | [], done, g, m, es, T, H, c, n, e, hn, hm, hes => by
    have hd : l.length = done.length := by simp [e]
    have hll : (l.map encU).length = l.length := by simp
    obtain rfl : l = done := by simpa using e
    refine ev_loop' (W_ok 300 _ _ _ _ ?_)
    repeat' (first | refine stpA ?_ | (refine condS ?_ ?_ <;> intro h))
    refine ev_retB 69 ⟨_, _, _, rfl, rfl, ?_, hes⟩
    rw [hm, fm_length]
  | x :: r, done, g, m, es, T, H, c, n, e, hn, hm, hes => by
    have hd : l.length = done.length + (r.length + 1) := by simp [e]
    have hll : (l.map encU).length = l.length := by simp
    have hx : (l.map encU)[n.toNat]? = some (encU x) := by simp [e, hn]
    have hx0 := h0 x (by simp [e])
    have hel : m = es.length := by
      rw [hm, hes]; simp only [byteCells_length, fm_length]
    have hbl : (byteCells (be 4 x.toNat)).length = 4 := by simp [be_length]
    refine ev_loop' (W_ok 300 _ _ _ _ ?_)
    repeat' (first | refine stpA ?_ | refine kN (number85 x (by omega) (by omega)) ?_ | (refine condS ?_ ?_ <;> intro h))
    refine ev_keep [6, 7, 8, 3] [69] ?_; exact words_loop87 l h0 hl ln hln r (done ++ [x]) _ _ _ _ _ _ (n + 1) (by simp [e]) (by simp [hn] <;> omega) (by simp [hm, be_length]; omega) (by rw [hes]; simp)
theorem words_gives87 (l : List Int) (hl : l.length < 2 ^ 40) (h0 : ∀ x ∈ l, 0 ≤ x ∧ x ≤ 4294967295) : Gives G 87 [.sl 1 (l.map encU)] [] (rB (l.flatMap fun x => be 4 x.toNat)) := by
  refine gives_code (F := f87) rfl rfl (W_ok 300 _ _ _ _ ?_)
  repeat' (first | refine stpA ?_ | (refine condS ?_ ?_ <;> intro h))
  refine ev_nil 69 1 [(3, .vs 69 _ 0)] [] ⟨LeP.nilV _ _ _, trivial⟩ trivial ?_
  refine ev_keep [6, 7, 8, 3] [69] ?_
  exact words_loop87 l h0 hl _ (by simp) l [] _ 0 _ _ _ _ 0 rfl rfl rfl rfl
def flagL : List UInt8 := [224, 64, 64, 64, 128, 64, 64, 192, 192, 128, 128]
def flagS (k : Int) : UInt8 := if k > 10 then 224 else flagL.getD k.toNat 0
theorem flag_gives94 (k : Int) (h0 : 0 ≤ k) : Gives G 94 [.int .i64 k] [] ⟨.int .u8 (flagS k).toNat, []⟩ := by
  by_cases h : k > 10
  · rw [show flagS k = 224 from by simp [flagS, h]]
    refine gives_code (F := f94) rfl rfl (W_ok 300 _ _ _ _ ?_)
    repeat' (first | refine stpA ?_ | (refine condS ?_ ?_ <;> intro h))
    all_goals try ((first | refine fin1 ?_ | refine fin0 ?_); first | rfl | (simp [Bool.cond_eq_ite, *]; done) | (simp [Bool.cond_eq_ite, *]; omega))
  · have h2 : k = 0 ∨ k = 1 ∨ k = 2 ∨ k = 3 ∨ k = 4 ∨ k = 5 ∨ k = 6 ∨ k = 7 ∨ k = 8 ∨ k = 9 ∨ k = 10 := by omega
    rcases h2 with rfl | rfl | rfl | rfl | rfl | rfl | rfl | rfl | rfl | rfl | rfl
    all_goals
      refine gives_code (F := f94) rfl rfl (W_ok 300 _ _ _ _ ?_)
      repeat' (first | refine stpA ?_ | (refine condS ?_ ?_ <;> intro h))
      all_goals try ((first | refine fin1 ?_ | refine fin0 ?_); first | rfl | (simp [Bool.cond_eq_ite, *]; done) | (simp [Bool.cond_eq_ite, *]; omega))
end Go.AM.IR
set_option maxHeartbeats 4000000
set_option maxRecDepth 20000
namespace Go.AM.IR
def asB (w : Nat) (l : List Int) : List UInt8 := l.flatMap fun n => be w n.toNat
def segB (w : Nat) (s : Seg) : List UInt8 := UInt8.ofNat s.kind.toNat :: UInt8.ofNat s.as.length :: asB w s.as
def pathB (w : Nat) (p : List Seg) : List UInt8 := p.flatMap (segB w)
def badL (wide bad : Bool) (l : List Int) : Bool := l.foldl (badN wide) bad
def badP (wide bad : Bool) (p : List Seg) : Bool := p.foldl (fun b s => badL wide b s.as) bad
theorem asB_length (w : Nat) : ∀ l : List Int, (asB w l).length = w * l.length
  | [] => rfl
  | x :: r => by
    have := asB_length w r
    simp only [asB, List.flatMap_cons, List.length_append, be_length, List.length_cons, Nat.mul_add] at this ⊢
    omega
theorem u8_int {k : Int} (h : 0 ≤ k) (h2 : k ≤ 255) : ((UInt8.ofNat k.toNat).toNat : Int) = k := by simp; omega
theorem u8_nat {k : Nat} (h2 : k ≤ 255) : ((UInt8.ofNat k).toNat : Int) = k := by simp; omega
theorem wd_le (wide : Bool) : wd wide ≤ 4 := by unfold wd; split <;> omega
theorem wd_mul (wide : Bool) (n : Nat) : wd wide * n ≤ 4 * n := Nat.mul_le_mul_right _ (wd_le wide)
theorem as_loop84 (l : List Int) (p : List Seg) (lp i : Int) (wide : Bool) (b : List UInt8) (acc0 : List UInt8) (bd0 : Bool) (R : Ret) (h0 : ∀ x ∈ l, 0 ≤ x ∧ x < 2 ^ 63) (hB : acc0.length + 4 * l.length < 2 ^ 40) (h1 : 0 ≤ i) (h2 : i < 2 ^ 40) (go : ∀ (T : List (Nat × AV)) (H : Heap) (c g m : Nat) (es : List (List AV)) (bd : Bool), m = (acc0 ++ asB (wd wide) l).length → es = byteCells (acc0 ++ asB (wd wide) l) → bd = badL wide bd0 l → Ev G ⟨f84x13LH, ⟨(10, .sl 2 (p.map Seg.enc)) :: (11, .int .i64 lp) :: (12, .int .i64 (i + 1)) :: (0, .ref 0 0 0) :: (5, .vs 69 g m) :: T, (0, some (0, .cells [.vs 1 0 b.length, .bool wide, .bool bd])) :: (1, some (0, .vec 1 (byteCells b))) :: (69, some (g, .vec 1 es)) :: H, c⟩, [.t 4], 2⟩ R) (hl : l.length < 2 ^ 40) (ln : Int) (hln : ln = l.length) : ∀ (rest done : List Int) (g m : Nat) (es : List (List AV)) (bd : Bool) (T : List (Nat × AV)) (H : Heap) (c : Nat) (n : Int) (e : l = done ++ rest) (hn : n = done.length) (hm : m = (acc0 ++ asB (wd wide) done).length) (hes : es = byteCells (acc0 ++ asB (wd wide) done)) (hbd : bd = badL wide bd0 done), Ev G ⟨f84x11LH, ⟨(27, .sl 1 (l.map encI)) :: (28, .int .i64 ln) :: (29, .int .i64 n) :: (10, .sl 2 (p.map Seg.enc)) :: (11, .int .i64 lp) :: (12, .int .i64 i) :: (0, .ref 0 0 0) :: (5, .vs 69 g m) :: T, (0, some (0, .cells [.vs 1 0 b.length, .bool wide, .bool bd])) :: (1, some (0, .vec 1 (byteCells b))) :: (69, some (g, .vec 1 es)) :: H, c⟩, [.t 4], 2⟩ R
  | [], done, g, m, es, bd, T, H, c, n, e, hn, hm, hes, hbd => by
    have hd : l.length = done.length := by simp [e]
    have hll : (l.map encI).length = l.length := by simp
    obtain rfl : l = done := by simpa using e
    refine ev_loop' (W_ok 300 _ _ _ _ ?_)
    repeat' (first | refine stpA ?_ | (refine condS ?_ ?_ <;> intro h))
    refine ev_keep [10, 11, 12, 0, 5] [0, 1, 69] ?_
    exact go _ _ _ g m es bd hm hes hbd
  | x :: r, done, g, m, es, bd, T, H, c, n, e, hn, hm, hes, hbd => by
    have hd : l.length = done.length + (r.length + 1) := by simp [e]
    have hll : (l.map encI).length = l.length := by simp
    have hx : (l.map encI)[n.toNat]? = some (encI x) := by simp [e, hn]
    have hx0 := h0 x (by simp [e])
    have hel : m = es.length := by rw [hm, hes]; simp
    have hw := wd_le wide
    have hml : m ≤ acc0.length + 4 * done.length := by
      have := wd_mul wide done.length
      rw [hm, List.length_append, asB_length]; omega
    have hbe : (byteCells (be (wd wide) x.toNat)).length = wd wide := by simp [be_length]
    have has : Gives G 86 [.ref 0 0 0, .int .i64 x] [.cells [.vs 1 0 b.length, .bool wide, .bool bd], .vec 1 (byteCells b)] ⟨.vs 2 0 (be (wd wide) x.toNat).length, [(true, .cells [.vs 1 0 b.length, .bool wide, .bool (badN wide bd x)]), (true, .vec 1 (byteCells b)), (false, .vec 1 (byteCells (be (wd wide) x.toNat)))]⟩ := by
      have h := as_gives86 x.toNat (by omega) wide bd b
      rwa [show ((x.toNat : Nat) : Int) = x from by omega] at h
    refine ev_loop' (W_ok 300 _ _ _ _ ?_)
    repeat' (first | refine stpA ?_ | refine kX [(0, _, _), (1, _, _)] [] ⟨rfl, rfl, trivial⟩ trivial (has) ?_ | (refine condS ?_ ?_ <;> intro h))
    refine ev_keep [27, 28, 29, 10, 11, 12, 0, 5] [0, 1, 69] ?_; exact as_loop84 l p lp i wide b acc0 bd0 R h0 hB h1 h2 go hl ln hln r (done ++ [x]) _ _ _ _ _ _ _ (n + 1) (by simp [e]) (by simp [hn] <;> omega) (by simp [hm, asB]; omega) (by rw [hes]; simp [asB]) (by simp [hbd, badL])
theorem path_loop84 (l : List Seg) (wide : Bool) (b : List UInt8) (bd0 : Bool) (h0 : ∀ s ∈ l, (0 ≤ s.kind ∧ s.kind ≤ 255) ∧ s.as.length ≤ 255 ∧ ∀ x ∈ s.as, 0 ≤ x ∧ x < 2 ^ 63) (hlen : l.length < 2 ^ 20) (hl : l.length < 2 ^ 40) (ln : Int) (hln : ln = l.length) : ∀ (rest done : List Seg) (g m : Nat) (es : List (List AV)) (bd : Bool) (T : List (Nat × AV)) (H : Heap) (c : Nat) (n : Int) (e : l = done ++ rest) (hn : n = done.length) (hm : m = (pathB (wd wide) done).length) (hes : es = byteCells (pathB (wd wide) done)) (hbd : bd = badP wide bd0 done) (hml : m ≤ 2000 * done.length), Ev G ⟨f84x13LH, ⟨(10, .sl 2 (l.map Seg.enc)) :: (11, .int .i64 ln) :: (12, .int .i64 n) :: (0, .ref 0 0 0) :: (5, .vs 69 g m) :: T, (0, some (0, .cells [.vs 1 0 b.length, .bool wide, .bool bd])) :: (1, some (0, .vec 1 (byteCells b))) :: (69, some (g, .vec 1 es)) :: H, c⟩, [.t 4], 2⟩ ⟨.vs 2 0 (pathB (wd wide) l).length, [(true, .cells [.vs 1 0 b.length, .bool wide, .bool (badP wide bd0 l)]), (true, .vec 1 (byteCells b)), (false, .vec 1 (byteCells (pathB (wd wide) l)))]⟩
  | [], done, g, m, es, bd, T, H, c, n, e, hn, hm, hes, hbd, hml => by
    have hd : l.length = done.length := by simp [e]
    have hll : (l.map Seg.enc).length = l.length := by simp
    obtain rfl : l = done := by simpa using e
    subst hes hm hbd
    refine ev_loop' (W_ok 300 _ _ _ _ ?_)
    repeat' (first | refine stpA ?_ | (refine condS ?_ ?_ <;> intro h))
    (conv => whnf); first | refine finX1 [(0, _, _), (1, _, _)] [(69, _, _)] [true, true] ?_ | refine finX0 [(0, _, _), (1, _, _)] [(69, _, _)] [true, true] ?_
    rfl
  | x :: r, done, g, m, es, bd, T, H, c, n, e, hn, hm, hes, hbd, hml => by
    have hd : l.length = done.length + (r.length + 1) := by simp [e]
    have hll : (l.map Seg.enc).length = l.length := by simp
    have hx : (l.map Seg.enc)[n.toNat]? = some (Seg.enc x) := by simp [e, hn]
    obtain ⟨⟨hk0, hk1⟩, hal, hx⟩ := h0 x (by simp [e])
    have hel : m = es.length := by rw [hm, hes]; simp
    have hxl : (x.as.map encI).length = x.as.length := by simp
    have e1 := u8_int hk0 hk1
    have e2 := u8_nat hal
    refine ev_loop' (W_ok 300 _ _ _ _ ?_)
    repeat' (first | refine stpA ?_ | (refine condS ?_ ?_ <;> intro h))
    refine ev_keep [27, 28, 29, 10, 11, 12, 0, 5] [0, 1, 69] ?_
    have hps : (pathB (wd wide) (done ++ [x])) = (pathB (wd wide) done ++ [UInt8.ofNat x.kind.toNat, UInt8.ofNat x.as.length]) ++ asB (wd wide) x.as := by simp [pathB, segB]
    have hwm := wd_mul wide x.as.length
    refine as_loop84 x.as l ln n wide b (pathB (wd wide) done ++ [UInt8.ofNat x.kind.toNat, UInt8.ofNat x.as.length]) bd _ hx (by simp; omega) (by omega) (by omega) ?_ (by omega) _ (by simp) x.as [] _ _ _ _ _ _ _ 0 rfl rfl ?_ ?_ rfl
    · intro T H c g m es bd' q1 q2 q3
      refine path_loop84 l wide b bd0 h0 hlen hl ln hln r (done ++ [x]) g m es bd' T H c (n + 1) (by simp [e]) (by simp [hn]) ?_ ?_ ?_ ?_
      · rw [q1, hps]
      · rw [q2, hps]
      · rw [q3, hbd]; simp [badP]
      · rw [q1]; simp [asB_length]; omega
    · simp [hm, asB]
    · rw [hes]; simp only [asB, List.flatMap_nil, List.append_nil, byteCells_append]; simp only [byteCells, List.map_cons, List.map_nil, e1, e2, hxl]
theorem path_gives84 (p : List Seg) (wide bad : Bool) (b : List UInt8) (h0 : ∀ s ∈ p, (0 ≤ s.kind ∧ s.kind ≤ 255) ∧ s.as.length ≤ 255 ∧ ∀ x ∈ s.as, 0 ≤ x ∧ x < 2 ^ 63) (hlen : p.length < 2 ^ 20) : Gives G 84 [.ref 0 0 0, .sl 2 (p.map Seg.enc)] [.cells [.vs 1 0 b.length, .bool wide, .bool bad], .vec 1 (byteCells b)]
    ⟨.vs 2 0 (pathB (wd wide) p).length, [(true, .cells [.vs 1 0 b.length, .bool wide, .bool (badP wide bad p)]), (true, .vec 1 (byteCells b)), (false, .vec 1 (byteCells (pathB (wd wide) p)))]⟩ := by
  refine gives_code (F := f84) rfl rfl (W_ok 300 _ _ _ _ ?_)
  repeat' (first | refine stpA ?_ | (refine condS ?_ ?_ <;> intro h))
  refine ev_nil 69 1 [(5, .vs 69 _ 0)] [] ⟨LeP.nilV _ _ _, trivial⟩ trivial ?_
  refine ev_keep [10, 11, 12, 0, 5] [0, 1, 69] ?_
  exact path_loop84 p wide b bad h0 hlen (by omega) _ (by simp) p [] _ 0 _ _ _ _ _ 0 rfl rfl rfl rfl rfl (by simp)
end Go.AM.IR
set_option maxHeartbeats 4000000
set_option maxRecDepth 20000
namespace Go.AM.IR
def putB (k : Int) (v : List UInt8) : List UInt8 := if v.length > 255 then (flagS k ||| 16) :: UInt8.ofNat k.toNat :: (be 2 v.length ++ v) else flagS k :: UInt8.ofNat k.toNat :: UInt8.ofNat v.length :: v
theorem retW_eq {n n' : Nat} {es es' : List (List AV)} {wide bad : Bool} (hn : n = n') (he : es = es') : (⟨.tup [], [(true, .cells [.vs 1 0 n, .bool wide, .bool bad]), (false, .vec 1 es)]⟩ : Ret) = ⟨.tup [], [(true, .cells [.vs 1 0 n', .bool wide, .bool bad]), (false, .vec 1 es')]⟩ := by subst hn he; rfl
theorem put_loop83 (l : List (List UInt8)) (k : Int) (wide bad : Bool) (b : List UInt8) (hk0 : 0 ≤ k) (hk1 : k ≤ 255) (hb : b.length < 2 ^ 38) (hc : (cat l).length < 2 ^ 38) (hl : l.length < 2 ^ 40) (ln : Int) (hln : ln = l.length) : ∀ (rest done : List (List UInt8)) (g m : Nat) (es : List (List AV)) (T : List (Nat × AV)) (H : Heap) (c : Nat) (n : Int) (e : l = done ++ rest) (hn : n = done.length) (hm : m = (cat done).length) (hes : es = byteCells (cat done)), Ev G ⟨f83x6LH, ⟨(9, .sl 1 (l.map bEnc)) :: (10, .int .i64 ln) :: (11, .int .i64 n) :: (0, .ref 0 0 0) :: (6, .vs 69 g m) :: (1, .int .i64 k) :: T, (0, some (0, .cells [.vs 1 0 b.length, .bool wide, .bool bad])) :: (1, some (0, .vec 1 (byteCells b))) :: (69, some (g, .vec 1 es)) :: H, c⟩, [], 2⟩ ⟨.tup [], [(true, .cells [.vs 1 0 (b ++ putB k (cat l)).length, .bool wide, .bool bad]), (false, .vec 1 (byteCells (b ++ putB k (cat l))))]⟩
  | [], done, g, m, es, T, H, c, n, e, hn, hm, hes => by
    have hd : l.length = done.length := by simp [e]
    have hll : (l.map bEnc).length = l.length := by simp
    obtain rfl : l = done := by simpa using e
    have hbl := byteCells_length b
    have hcl := byteCells_length (cat l)
    subst hes hm
    have e1 := u8_int hk0 hk1
    by_cases hlong : (cat l).length > 255
    · rw [show putB k (cat l) = (flagS k ||| 16) :: UInt8.ofNat k.toNat :: (be 2 (cat l).length ++ cat l) from by simp [putB, hlong]]
      have hput := put_gives109 (b ++ [flagS k ||| 16, UInt8.ofNat k.toNat]) (by simp; omega) 2 (cat l).length (by omega)
      have hB : byteCells (b ++ [flagS k ||| 16, UInt8.ofNat k.toNat]) = byteCells b ++ [[.int .u8 (flagS k ||| 16 : UInt8).toNat], [.int .u8 k]] := by simp [byteCells]; omega
      rw [hB] at hput
      refine ev_loop' (W_ok 300 _ _ _ _ ?_)
      repeat' (first | refine stpA ?_ | refine kV (flag_gives94 k hk0) ?_ | refine kX [] [(1, _, _)] trivial ⟨rfl, pz trivial⟩ (hput) ?_ | (refine condS ?_ ?_ <;> intro h))
      conv => whnf
      refine ev_mvP 108 1 [] [(0, some (0, .cells [.vs 1 _ _, .bool wide, .bool bad]))] rfl (by first | rfl | (simp [Blk.pure, pureLL, pureL, AV.pure]; done) | fail) (by decide) trivial ⟨⟨by decide, by decide, (by simp only [hlook, Nat.beq_refl, cond_true, Blk.ren, renL, AV.ren, φM, and_self, if_true]; rfl)⟩, trivial⟩ ?_
      intro T H
      (conv => whnf); first | refine finX1 [(0, _, _), (1, _, _)] [] [true, false] ?_ | refine finX0 [(0, _, _), (1, _, _)] [] [true, false] ?_
      exact retW_eq (by simp; omega) (by simp [byteCells])
    · rw [show putB k (cat l) = flagS k :: UInt8.ofNat k.toNat :: UInt8.ofNat (cat l).length :: cat l from by simp [putB, hlong]]
      have e2 := u8_nat (k := (cat l).length) (by omega)
      refine ev_loop' (W_ok 300 _ _ _ _ ?_)
      repeat' (first | refine stpA ?_ | refine kV (flag_gives94 k hk0) ?_ | (refine condS ?_ ?_ <;> intro h))
      (conv => whnf); first | refine finX1 [(0, _, _), (1, _, _)] [] [true, false] ?_ | refine finX0 [(0, _, _), (1, _, _)] [] [true, false] ?_
      exact retW_eq (by simp; omega) (by simp [byteCells]; omega)
  | x :: r, done, g, m, es, T, H, c, n, e, hn, hm, hes => by
    have hd : l.length = done.length + (r.length + 1) := by simp [e]
    have hll : (l.map bEnc).length = l.length := by simp
    have hx : (l.map bEnc)[n.toNat]? = some (bEnc x) := by simp [e, hn]
    have hcl : (cat l).length = (cat done).length + (x.length + (cat r).length) := by rw [e]; simp [cat]
    have hbl := byteCells_length x
    have hel : m = es.length := by rw [hm, hes]; simp
    refine ev_loop' (W_ok 300 _ _ _ _ ?_)
    repeat' (first | refine stpA ?_ | (refine condS ?_ ?_ <;> intro h))
    refine ev_keep [9, 10, 11, 0, 6, 1] [0, 1, 69] ?_; exact put_loop83 l k wide bad b hk0 hk1 hb hc hl ln hln r (done ++ [x]) _ _ _ _ _ _ (n + 1) (by simp [e]) (by simp [hn] <;> omega) (by simp [hm, cat]) (by rw [hes]; simp [cat])
theorem put_gives83 (l : List (List UInt8)) (k : Int) (wide bad : Bool) (b : List UInt8) (hl : l.length < 2 ^ 40) (hk0 : 0 ≤ k) (hk1 : k ≤ 255) (hb : b.length < 2 ^ 38) (hc : (cat l).length < 2 ^ 38) : Gives G 83 [.ref 0 0 0, .int .i64 k, .sl 1 (l.map bEnc)] [.cells [.vs 1 0 b.length, .bool wide, .bool bad], .vec 1 (byteCells b)]
    ⟨.tup [], [(true, .cells [.vs 1 0 (b ++ putB k (cat l)).length, .bool wide, .bool bad]), (false, .vec 1 (byteCells (b ++ putB k (cat l))))]⟩ := by
  refine gives_code (F := f83) rfl rfl (W_ok 300 _ _ _ _ ?_)
  repeat' (first | refine stpA ?_ | (refine condS ?_ ?_ <;> intro h))
  refine ev_nil 69 1 [(6, .vs 69 _ 0)] [] ⟨LeP.nilV _ _ _, trivial⟩ trivial ?_
  refine ev_keep [9, 10, 11, 0, 6, 1] [0, 1, 69] ?_
  exact put_loop83 l k wide bad b hk0 hk1 hb hc hl _ (by simp) l [] _ 0 _ _ _ _ 0 rfl rfl rfl rfl
end Go.AM.IR
set_option maxHeartbeats 4000000
set_option maxRecDepth 20000
namespace Go.AM.IR
def suf : Nat → ACode → ACode
  | 0, c => c
  | n + 1, .seq _ b => suf n b
  | _, c => c
structure EncV (a : Attrs) : Prop where
  origin : 0 ≤ a.origin ∧ a.origin ≤ 255
  segs : ∀ s ∈ a.path, (0 ≤ s.kind ∧ s.kind ≤ 255) ∧ s.as.length ≤ 255 ∧ ∀ x ∈ s.as, 0 ≤ x ∧ x < 2 ^ 63
  path : a.path.length < 2 ^ 20
  nextHop : 0 ≤ a.nextHop ∧ a.nextHop ≤ 4294967295
  med : 0 ≤ a.med ∧ a.med ≤ 4294967295
  pref : 0 ≤ a.pref ∧ a.pref ≤ 4294967295
  aggrAS : 0 ≤ a.aggrAS ∧ a.aggrAS ≤ 4294967295
  aggrAddr : 0 ≤ a.aggrAddr ∧ a.aggrAddr ≤ 4294967295
  comms : ∀ x ∈ a.comms, 0 ≤ x ∧ x ≤ 4294967295
  commsL : a.comms.length ≤ 255
  orig : 0 ≤ a.orig ∧ a.orig ≤ 4294967295
  clusters : ∀ x ∈ a.clusters, 0 ≤ x ∧ x ≤ 4294967295
  clustersL : a.clusters.length ≤ 64
  unknown : ∀ t ∈ a.unknown, (0 ≤ t.kind ∧ t.kind ≤ 255) ∧ t.value.length ≤ 255
  unknownL : a.unknown.length ≤ 64
def wordsB (l : List Int) : List UInt8 := l.flatMap fun x => be 4 x.toNat
def c13 (a : Attrs) : List UInt8 := a.unknown.flatMap fun t => putB t.kind t.value
def c12 (a : Attrs) : List UInt8 := if a.clusters.length > 0 then putB 10 (wordsB a.clusters) else []
def c11 (a : Attrs) : List UInt8 := if a.hasOrig = true then putB 9 (be 4 a.orig.toNat) else []
def c10 (a : Attrs) : List UInt8 := if a.comms.length > 0 then putB 8 (wordsB a.comms) else []
def c9 (a : Attrs) (w : Nat) : List UInt8 := if a.hasAggr = true then putB 7 (be w a.aggrAS.toNat ++ be 4 a.aggrAddr.toNat) else []
def c8 (a : Attrs) : List UInt8 := if a.atomic = true then putB 6 [] else []
def c7 (a : Attrs) : List UInt8 := if a.hasPref = true then putB 5 (be 4 a.pref.toNat) else []
def c6 (a : Attrs) : List UInt8 := if a.hasMED = true then putB 4 (be 4 a.med.toNat) else []
def c5 (a : Attrs) : List UInt8 := putB 3 (be 4 a.nextHop.toNat)
def c4 (a : Attrs) (w : Nat) : List UInt8 := putB 2 (pathB w a.path)
def c3 (a : Attrs) : List UInt8 := putB 1 [UInt8.ofNat a.origin.toNat]
theorem pathL_aux (w : Nat) (hw : w ≤ 4) : ∀ (p : List Seg), (∀ s ∈ p, s.as.length ≤ 255) → (pathB w p).length ≤ 1022 * p.length
  | [], _ => by simp [pathB]
  | s :: r, h => by
    have h1 := pathL_aux w hw r fun x hx => h x (by simp [hx])
    have h2 := h s (by simp)
    have h3 : w * s.as.length ≤ 4 * s.as.length := Nat.mul_le_mul_right _ hw
    simp only [pathB, List.flatMap_cons, List.length_append, segB, List.length_cons, asB_length] at h1 ⊢
    omega
theorem pathL (wide : Bool) (a : Attrs) (hv : EncV a) : (pathB (wd wide) a.path).length < 2 ^ 38 := by
  have := pathL_aux (wd wide) (wd_le wide) a.path fun s hs => (hv.segs s hs).2.1
  have := hv.path
  omega
def bdA (a : Attrs) (wide bad : Bool) : Bool := if a.hasAggr = true then badN wide bad a.aggrAS else bad
def encRet (bad : Bool) (b : List UInt8) : Ret := if bad = true then ⟨.tup [.con (.slice none 0 0), .int .i64 5], []⟩ else ⟨.tup [.vs 0 0 b.length, .int .i64 0], [(false, .vec 1 (byteCells b))]⟩
def r13 (a : Attrs) (w : Nat) : List UInt8 := c13 a
def r12 (a : Attrs) (w : Nat) : List UInt8 := c12 a ++ r13 a w
def r11 (a : Attrs) (w : Nat) : List UInt8 := c11 a ++ r12 a w
def r10 (a : Attrs) (w : Nat) : List UInt8 := c10 a ++ r11 a w
def r9 (a : Attrs) (w : Nat) : List UInt8 := c9 a w ++ r10 a w
def r8 (a : Attrs) (w : Nat) : List UInt8 := c8 a ++ r9 a w
def r7 (a : Attrs) (w : Nat) : List UInt8 := c7 a ++ r8 a w
def r6 (a : Attrs) (w : Nat) : List UInt8 := c6 a ++ r7 a w
def r5 (a : Attrs) (w : Nat) : List UInt8 := c5 a ++ r6 a w
def r4 (a : Attrs) (w : Nat) : List UInt8 := c4 a w ++ r5 a w
def r3 (a : Attrs) (w : Nat) : List UInt8 := c3 a ++ r4 a w
theorem unk_loop67 (l : List TLV) (a : Attrs) (wide bad : Bool) (gw : Nat) (hv : EncV a) (ha : a.unknown = l) (b0 : List UInt8) (hb : (b0 ++ c13 a).length < 2 ^ 37) (hl : l.length < 2 ^ 40) (ln : Int) (hln : ln = l.length) : ∀ (rest done : List TLV) (g n1 : Nat) (es : List (List AV)) (T : List (Nat × AV)) (H : Heap) (c : Nat) (n : Int) (e : l = done ++ rest) (hn : n = done.length) (hn1 : n1 = (b0 ++ done.flatMap fun t => putB t.kind t.value).length) (hes : es = byteCells (b0 ++ done.flatMap fun t => putB t.kind t.value)), Ev G ⟨f67x27LH, ⟨(102, .sl 2 (l.map TLV.enc)) :: (103, .int .i64 ln) :: (104, .int .i64 n) :: (7, .ref 81 gw 0) :: T, (81, some (gw, .cells [.vs 200 g n1, .bool wide, .bool bad])) :: (200, some (g, .vec 1 es)) :: H, c⟩, [.t 4, .t 5], 0⟩ (encRet bad (b0 ++ c13 a))
  | [], done, g, n1, es, T, H, c, n, e, hn, hn1, hes => by
    have hd : l.length = done.length := by simp [e]
    have hll : (l.map TLV.enc).length = l.length := by simp
    obtain rfl : l = done := by simpa using e
    subst hn1 hes
    cases bad
    · refine ev_loop' (W_ok 300 _ _ _ _ ?_)
      repeat' (first | refine stpA ?_ | (refine condS ?_ ?_ <;> intro h))
      refine ev_finN [(200, g, .vec 1 (byteCells _))] ⟨⟨rfl, (by simp [Blk.pure]), trivial⟩, rfl, rfl, (by simp), ?_⟩
      simp [AV.ren, renL, φR, encRet, c13, ha]
    · refine ev_loop' (W_ok 300 _ _ _ _ ?_)
      repeat' (first | refine stpA ?_ | (refine condS ?_ ?_ <;> intro h))
      (first | refine fin1 ?_ | refine fin0 ?_)
      rfl
  | x :: r, done, g, n1, es, T, H, c, n, e, hn, hn1, hes => by
    have hd : l.length = done.length + (r.length + 1) := by simp [e]
    have hll : (l.map TLV.enc).length = l.length := by simp
    have hx : (l.map TLV.enc)[n.toNat]? = some (TLV.enc x) := by simp [e, hn]
    obtain ⟨⟨hk0, hk1⟩, hxl⟩ := hv.unknown x (by rw [ha, e]; simp)
    subst hn1 hes
    have hb2 : (b0 ++ done.flatMap fun t => putB t.kind t.value).length ≤ (b0 ++ c13 a).length := by simp [c13, ha, e]
    have hput := put_gives83 [x.value] x.kind wide bad (b0 ++ done.flatMap fun t => putB t.kind t.value) (by simp) hk0 hk1 (by omega) (by simp [cat]; omega)
    rw [show cat [x.value] = x.value from by simp [cat]] at hput
    refine ev_loop' (W_ok 300 _ _ _ _ ?_)
    repeat' (first | refine stpA ?_ | refine kX [(81, _, _), (200, _, _)] [(177, _, _)] ⟨rfl, rfl, trivial⟩ ⟨rfl, pz trivial⟩ (hput) ?_ | (refine condS ?_ ?_ <;> intro h))
    refine ev_keep [102, 103, 104, 7] [81, 200] ?_; exact unk_loop67 l a wide bad gw hv ha b0 hb hl ln hln r (done ++ [x]) _ _ _ _ _ _ (n + 1) (by simp [e]) (by simp [hn] <;> omega) (by simp) (by simp)
theorem enc67_13 (a : Attrs) (hv : EncV a) (wide bad : Bool) (b : List UInt8) (T : List (Nat × AV)) (H : Heap) (c gw g : Nat) (hb : (b ++ r13 a (wd wide)).length < 2 ^ 37) : Ev G ⟨[.code (suf 13 f67.body)], ⟨(7, .ref 81 gw 0) :: (2, .ref 66 1 0) :: (1, .bool wide) :: T, (66, some (1, .cells a.enc)) :: (81, some (gw, .cells [.vs 200 g b.length, .bool wide, .bool bad])) :: (200, some (g, .vec 1 (byteCells b))) :: H, c⟩, [.t 4, .t 5], 0⟩ (encRet bad (b ++ r13 a (wd wide))) := by
  refine ev_seq (b := suf 14 f67.body) ?_
  refine W_ok 300 _ _ _ _ ?_
  repeat' (first | refine stpA ?_ | (refine condS ?_ ?_ <;> intro h))
  refine ev_keep [102, 103, 104, 7] [81, 200] ?_
  have hu := hv.unknownL
  exact unk_loop67 a.unknown a wide bad gw hv rfl b hb (by omega) _ (by simp) a.unknown [] g b.length (byteCells b) _ _ _ 0 rfl rfl (by simp) (by simp)
theorem enc67_12 (a : Attrs) (hv : EncV a) (wide bad : Bool) (b : List UInt8) (T : List (Nat × AV)) (H : Heap) (c gw g : Nat) (hb : (b ++ r12 a (wd wide)).length < 2 ^ 37) : Ev G ⟨[.code (suf 12 f67.body)], ⟨(7, .ref 81 gw 0) :: (2, .ref 66 1 0) :: (1, .bool wide) :: T, (66, some (1, .cells a.enc)) :: (81, some (gw, .cells [.vs 200 g b.length, .bool wide, .bool bad])) :: (200, some (g, .vec 1 (byteCells b))) :: H, c⟩, [.t 4, .t 5], 0⟩ (encRet (bad) (b ++ r12 a (wd wide))) := by
  have hf := hv.clusters
  have hcl := hv.clustersL
  have hcm := hv.commsL
  have hll1 : (a.clusters.map encU).length = a.clusters.length := by simp
  have hll2 : (a.comms.map encU).length = a.comms.length := by simp
  have hbl : b.length < 2 ^ 37 := by simp at hb; omega
  by_cases hc : a.clusters.length > 0
  · have hq : b ++ r12 a (wd wide) = (b ++ putB 10 (wordsB a.clusters)) ++ r13 a (wd wide) := by simp [r12, c12, hc]
    have hcat : cat [wordsB a.clusters] = wordsB a.clusters := by simp [cat]
    have hvl : (wordsB a.clusters).length < 2 ^ 38 := by first | (rw [be_length]; omega) | (rw [wordsB, fm_length]; omega)
    have hput := put_gives83 [wordsB a.clusters] 10 wide bad b (by simp) (by omega) (by omega) (by omega) (by rw [hcat]; exact hvl)
    rw [hcat] at hput
    rw [hq] at hb ⊢
    refine ev_seq (b := suf 13 f67.body) ?_
    refine W_okd 1 300 _ _ _ _ ?_
    repeat' (first | refine stpA ?_ | refine kN (words_gives87 a.clusters (by omega) hv.clusters) ?_ | refine kB [(162, _, _)] ⟨rfl, pz trivial⟩ ?_ | refine kX [(81, _, _), (200, _, _)] [(163, _, _)] ⟨rfl, rfl, trivial⟩ ⟨rfl, pz trivial⟩ (hput) ?_ | (refine condS ?_ ?_ <;> intro h))
    refine ev_keep [7, 2, 1] [66, 81, 200] ?_
    exact enc67_13 a hv wide bad _ _ _ _ _ _ hb
  · have hq : b ++ r12 a (wd wide) = b ++ r13 a (wd wide) := by simp [r12, c12, hc]
    rw [hq] at hb ⊢
    refine ev_seq (b := suf 13 f67.body) ?_
    try simp only [Bool.not_eq_true] at hc
    refine W_okd 1 300 _ _ _ _ ?_
    repeat' (first | refine stpA ?_ | (refine condS ?_ ?_ <;> intro h))
    refine ev_keep [7, 2, 1] [66, 81, 200] ?_
    exact enc67_13 a hv wide bad _ _ _ _ _ _ hb
theorem enc67_11 (a : Attrs) (hv : EncV a) (wide bad : Bool) (b : List UInt8) (T : List (Nat × AV)) (H : Heap) (c gw g : Nat) (hb : (b ++ r11 a (wd wide)).length < 2 ^ 37) : Ev G ⟨[.code (suf 11 f67.body)], ⟨(7, .ref 81 gw 0) :: (2, .ref 66 1 0) :: (1, .bool wide) :: T, (66, some (1, .cells a.enc)) :: (81, some (gw, .cells [.vs 200 g b.length, .bool wide, .bool bad])) :: (200, some (g, .vec 1 (byteCells b))) :: H, c⟩, [.t 4, .t 5], 0⟩ (encRet (bad) (b ++ r11 a (wd wide))) := by
  have hf := hv.orig
  have hcl := hv.clustersL
  have hcm := hv.commsL
  have hll1 : (a.clusters.map encU).length = a.clusters.length := by simp
  have hll2 : (a.comms.map encU).length = a.comms.length := by simp
  have hbl : b.length < 2 ^ 37 := by simp at hb; omega
  by_cases hc : a.hasOrig = true
  · have hq : b ++ r11 a (wd wide) = (b ++ putB 9 (be 4 a.orig.toNat)) ++ r12 a (wd wide) := by simp [r11, c11, hc]
    have hcat : cat [be 4 a.orig.toNat] = be 4 a.orig.toNat := by simp [cat]
    have hvl : (be 4 a.orig.toNat).length < 2 ^ 38 := by first | (rw [be_length]; omega) | (rw [wordsB, fm_length]; omega)
    have hput := put_gives83 [be 4 a.orig.toNat] 9 wide bad b (by simp) (by omega) (by omega) (by omega) (by rw [hcat]; exact hvl)
    rw [hcat] at hput
    rw [hq] at hb ⊢
    refine ev_seq (b := suf 12 f67.body) ?_
    refine W_okd 1 300 _ _ _ _ ?_
    repeat' (first | refine stpA ?_ | refine kN (number85 a.orig (by omega) (by omega)) ?_ | refine kB [(152, _, _)] ⟨rfl, pz trivial⟩ ?_ | refine kX [(81, _, _), (200, _, _)] [(153, _, _)] ⟨rfl, rfl, trivial⟩ ⟨rfl, pz trivial⟩ (hput) ?_ | (refine condS ?_ ?_ <;> intro h))
    refine ev_keep [7, 2, 1] [66, 81, 200] ?_
    exact enc67_12 a hv wide bad _ _ _ _ _ _ hb
  · have hq : b ++ r11 a (wd wide) = b ++ r12 a (wd wide) := by simp [r11, c11, hc]
    rw [hq] at hb ⊢
    refine ev_seq (b := suf 12 f67.body) ?_
    try simp only [Bool.not_eq_true] at hc
    refine W_okd 1 300 _ _ _ _ ?_
    repeat' (first | refine stpA ?_ | (refine condS ?_ ?_ <;> intro h))
    refine ev_keep [7, 2, 1] [66, 81, 200] ?_
    exact enc67_12 a hv wide bad _ _ _ _ _ _ hb
theorem enc67_10 (a : Attrs) (hv : EncV a) (wide bad : Bool) (b : List UInt8) (T : List (Nat × AV)) (H : Heap) (c gw g : Nat) (hb : (b ++ r10 a (wd wide)).length < 2 ^ 37) : Ev G ⟨[.code (suf 10 f67.body)], ⟨(7, .ref 81 gw 0) :: (2, .ref 66 1 0) :: (1, .bool wide) :: T, (66, some (1, .cells a.enc)) :: (81, some (gw, .cells [.vs 200 g b.length, .bool wide, .bool bad])) :: (200, some (g, .vec 1 (byteCells b))) :: H, c⟩, [.t 4, .t 5], 0⟩ (encRet (bad) (b ++ r10 a (wd wide))) := by
  have hf := hv.comms
  have hcl := hv.clustersL
  have hcm := hv.commsL
  have hll1 : (a.clusters.map encU).length = a.clusters.length := by simp
  have hll2 : (a.comms.map encU).length = a.comms.length := by simp
  have hbl : b.length < 2 ^ 37 := by simp at hb; omega
  by_cases hc : a.comms.length > 0
  · have hq : b ++ r10 a (wd wide) = (b ++ putB 8 (wordsB a.comms)) ++ r11 a (wd wide) := by simp [r10, c10, hc]
    have hcat : cat [wordsB a.comms] = wordsB a.comms := by simp [cat]
    have hvl : (wordsB a.comms).length < 2 ^ 38 := by first | (rw [be_length]; omega) | (rw [wordsB, fm_length]; omega)
    have hput := put_gives83 [wordsB a.comms] 8 wide bad b (by simp) (by omega) (by omega) (by omega) (by rw [hcat]; exact hvl)
    rw [hcat] at hput
    rw [hq] at hb ⊢
    refine ev_seq (b := suf 11 f67.body) ?_
    refine W_okd 1 300 _ _ _ _ ?_
    repeat' (first | refine stpA ?_ | refine kN (words_gives87 a.comms (by omega) hv.comms) ?_ | refine kB [(143, _, _)] ⟨rfl, pz trivial⟩ ?_ | refine kX [(81, _, _), (200, _, _)] [(144, _, _)] ⟨rfl, rfl, trivial⟩ ⟨rfl, pz trivial⟩ (hput) ?_ | (refine condS ?_ ?_ <;> intro h))
    refine ev_keep [7, 2, 1] [66, 81, 200] ?_
    exact enc67_11 a hv wide bad _ _ _ _ _ _ hb
  · have hq : b ++ r10 a (wd wide) = b ++ r11 a (wd wide) := by simp [r10, c10, hc]
    rw [hq] at hb ⊢
    refine ev_seq (b := suf 11 f67.body) ?_
    try simp only [Bool.not_eq_true] at hc
    refine W_okd 1 300 _ _ _ _ ?_
    repeat' (first | refine stpA ?_ | (refine condS ?_ ?_ <;> intro h))
    refine ev_keep [7, 2, 1] [66, 81, 200] ?_
    exact enc67_11 a hv wide bad _ _ _ _ _ _ hb
theorem enc67_9 (a : Attrs) (hv : EncV a) (wide bad : Bool) (b : List UInt8) (T : List (Nat × AV)) (H : Heap) (c gw g : Nat) (hb : (b ++ r9 a (wd wide)).length < 2 ^ 37) : Ev G ⟨[.code (suf 9 f67.body)], ⟨(7, .ref 81 gw 0) :: (2, .ref 66 1 0) :: (1, .bool wide) :: T, (66, some (1, .cells a.enc)) :: (81, some (gw, .cells [.vs 200 g b.length, .bool wide, .bool bad])) :: (200, some (g, .vec 1 (byteCells b))) :: H, c⟩, [.t 4, .t 5], 0⟩ (encRet (bdA a wide bad) (b ++ r9 a (wd wide))) := by
  have hf := hv.aggrAS
  have hf2 := hv.aggrAddr
  have hbl : b.length < 2 ^ 37 := by simp at hb; omega
  by_cases hc : a.hasAggr = true
  · have hq : b ++ r9 a (wd wide) = (b ++ putB 7 (be (wd wide) a.aggrAS.toNat ++ be 4 a.aggrAddr.toNat)) ++ r10 a (wd wide) := by simp [r9, c9, hc]
    have hbd : bdA a wide bad = badN wide bad a.aggrAS := by simp [bdA, hc]
    have hcat : cat [be (wd wide) a.aggrAS.toNat, be 4 a.aggrAddr.toNat] = be (wd wide) a.aggrAS.toNat ++ be 4 a.aggrAddr.toNat := by simp [cat]
    have has := as_gives86 a.aggrAS.toNat (by omega) wide bad b
    rw [show ((a.aggrAS.toNat : Nat) : Int) = a.aggrAS from by omega] at has
    have hput := put_gives83 [be (wd wide) a.aggrAS.toNat, be 4 a.aggrAddr.toNat] 7 wide (badN wide bad a.aggrAS) b (by simp) (by omega) (by omega) (by omega) (by rw [hcat]; simp; have := wd_le wide; omega)
    rw [hcat] at hput
    rw [hq] at hb ⊢
    rw [hbd]
    refine ev_seq (b := suf 10 f67.body) ?_
    refine W_okd 1 300 _ _ _ _ ?_
    repeat' (first | refine stpA ?_ | refine kX [(81, _, _), (200, _, _)] [] ⟨rfl, rfl, trivial⟩ trivial (has) ?_ | refine kN (number85 a.aggrAddr (by omega) (by omega)) ?_ | refine kB [(129, _, _), (133, _, _)] ⟨rfl, pz ⟨rfl, pz trivial⟩⟩ ?_ | refine kX [(81, _, _), (200, _, _)] [(134, _, _)] ⟨rfl, rfl, trivial⟩ ⟨rfl, pz trivial⟩ (hput) ?_ | (refine condS ?_ ?_ <;> intro h))
    refine ev_keep [7, 2, 1] [66, 81, 200] ?_
    exact enc67_10 a hv wide _ _ _ _ _ _ _ hb
  · have hq : b ++ r9 a (wd wide) = b ++ r10 a (wd wide) := by simp [r9, c9, hc]
    have hbd : bdA a wide bad = bad := by simp [bdA, hc]
    rw [hq] at hb ⊢
    rw [hbd]
    refine ev_seq (b := suf 10 f67.body) ?_
    try simp only [Bool.not_eq_true] at hc
    refine W_okd 1 300 _ _ _ _ ?_
    repeat' (first | refine stpA ?_ | (refine condS ?_ ?_ <;> intro h))
    refine ev_keep [7, 2, 1] [66, 81, 200] ?_
    exact enc67_10 a hv wide _ _ _ _ _ _ _ hb
theorem enc67_8 (a : Attrs) (hv : EncV a) (wide bad : Bool) (b : List UInt8) (T : List (Nat × AV)) (H : Heap) (c gw g : Nat) (hb : (b ++ r8 a (wd wide)).length < 2 ^ 37) : Ev G ⟨[.code (suf 8 f67.body)], ⟨(7, .ref 81 gw 0) :: (2, .ref 66 1 0) :: (1, .bool wide) :: T, (66, some (1, .cells a.enc)) :: (81, some (gw, .cells [.vs 200 g b.length, .bool wide, .bool bad])) :: (200, some (g, .vec 1 (byteCells b))) :: H, c⟩, [.t 4, .t 5], 0⟩ (encRet (bdA a wide bad) (b ++ r8 a (wd wide))) := by
  have hbl : b.length < 2 ^ 37 := by simp at hb; omega
  by_cases hc : a.atomic = true
  · have hq : b ++ r8 a (wd wide) = (b ++ putB 6 []) ++ r9 a (wd wide) := by simp [r8, c8, hc]
    have hput := gives_le rfl (put_gives83 [] 6 wide bad b (by simp) (by omega) (by omega) (by omega) (by simp [cat])) (show LLe Any [.ref 0 0 0, .int .i64 6, .con (.slice none 0 0)] _ from ⟨.refl _, .refl _, LeP.nil 1, trivial⟩)
    rw [show cat [] = [] from rfl] at hput
    rw [hq] at hb ⊢
    refine ev_seq (b := suf 9 f67.body) ?_
    refine W_okd 1 300 _ _ _ _ ?_
    repeat' (first | refine stpA ?_ | refine kX [(81, _, _), (200, _, _)] [] ⟨rfl, rfl, trivial⟩ trivial (hput) ?_ | (refine condS ?_ ?_ <;> intro h))
    refine ev_keep [7, 2, 1] [66, 81, 200] ?_
    exact enc67_9 a hv wide bad _ _ _ _ _ _ hb
  · have hq : b ++ r8 a (wd wide) = b ++ r9 a (wd wide) := by simp [r8, c8, hc]
    rw [hq] at hb ⊢
    refine ev_seq (b := suf 9 f67.body) ?_
    try simp only [Bool.not_eq_true] at hc
    refine W_okd 1 300 _ _ _ _ ?_
    repeat' (first | refine stpA ?_ | (refine condS ?_ ?_ <;> intro h))
    refine ev_keep [7, 2, 1] [66, 81, 200] ?_
    exact enc67_9 a hv wide bad _ _ _ _ _ _ hb
theorem enc67_7 (a : Attrs) (hv : EncV a) (wide bad : Bool) (b : List UInt8) (T : List (Nat × AV)) (H : Heap) (c gw g : Nat) (hb : (b ++ r7 a (wd wide)).length < 2 ^ 37) : Ev G ⟨[.code (suf 7 f67.body)], ⟨(7, .ref 81 gw 0) :: (2, .ref 66 1 0) :: (1, .bool wide) :: T, (66, some (1, .cells a.enc)) :: (81, some (gw, .cells [.vs 200 g b.length, .bool wide, .bool bad])) :: (200, some (g, .vec 1 (byteCells b))) :: H, c⟩, [.t 4, .t 5], 0⟩ (encRet (bdA a wide bad) (b ++ r7 a (wd wide))) := by
  have hf := hv.pref
  have hcl := hv.clustersL
  have hcm := hv.commsL
  have hll1 : (a.clusters.map encU).length = a.clusters.length := by simp
  have hll2 : (a.comms.map encU).length = a.comms.length := by simp
  have hbl : b.length < 2 ^ 37 := by simp at hb; omega
  by_cases hc : a.hasPref = true
  · have hq : b ++ r7 a (wd wide) = (b ++ putB 5 (be 4 a.pref.toNat)) ++ r8 a (wd wide) := by simp [r7, c7, hc]
    have hcat : cat [be 4 a.pref.toNat] = be 4 a.pref.toNat := by simp [cat]
    have hvl : (be 4 a.pref.toNat).length < 2 ^ 38 := by first | (rw [be_length]; omega) | (rw [wordsB, fm_length]; omega)
    have hput := put_gives83 [be 4 a.pref.toNat] 5 wide bad b (by simp) (by omega) (by omega) (by omega) (by rw [hcat]; exact hvl)
    rw [hcat] at hput
    rw [hq] at hb ⊢
    refine ev_seq (b := suf 8 f67.body) ?_
    refine W_okd 1 300 _ _ _ _ ?_
    repeat' (first | refine stpA ?_ | refine kN (number85 a.pref (by omega) (by omega)) ?_ | refine kB [(116, _, _)] ⟨rfl, pz trivial⟩ ?_ | refine kX [(81, _, _), (200, _, _)] [(117, _, _)] ⟨rfl, rfl, trivial⟩ ⟨rfl, pz trivial⟩ (hput) ?_ | (refine condS ?_ ?_ <;> intro h))
    refine ev_keep [7, 2, 1] [66, 81, 200] ?_
    exact enc67_8 a hv wide bad _ _ _ _ _ _ hb
  · have hq : b ++ r7 a (wd wide) = b ++ r8 a (wd wide) := by simp [r7, c7, hc]
    rw [hq] at hb ⊢
    refine ev_seq (b := suf 8 f67.body) ?_
    try simp only [Bool.not_eq_true] at hc
    refine W_okd 1 300 _ _ _ _ ?_
    repeat' (first | refine stpA ?_ | (refine condS ?_ ?_ <;> intro h))
    refine ev_keep [7, 2, 1] [66, 81, 200] ?_
    exact enc67_8 a hv wide bad _ _ _ _ _ _ hb
theorem enc67_6 (a : Attrs) (hv : EncV a) (wide bad : Bool) (b : List UInt8) (T : List (Nat × AV)) (H : Heap) (c gw g : Nat) (hb : (b ++ r6 a (wd wide)).length < 2 ^ 37) : Ev G ⟨[.code (suf 6 f67.body)], ⟨(7, .ref 81 gw 0) :: (2, .ref 66 1 0) :: (1, .bool wide) :: T, (66, some (1, .cells a.enc)) :: (81, some (gw, .cells [.vs 200 g b.length, .bool wide, .bool bad])) :: (200, some (g, .vec 1 (byteCells b))) :: H, c⟩, [.t 4, .t 5], 0⟩ (encRet (bdA a wide bad) (b ++ r6 a (wd wide))) := by
  have hf := hv.med
  have hcl := hv.clustersL
  have hcm := hv.commsL
  have hll1 : (a.clusters.map encU).length = a.clusters.length := by simp
  have hll2 : (a.comms.map encU).length = a.comms.length := by simp
  have hbl : b.length < 2 ^ 37 := by simp at hb; omega
  by_cases hc : a.hasMED = true
  · have hq : b ++ r6 a (wd wide) = (b ++ putB 4 (be 4 a.med.toNat)) ++ r7 a (wd wide) := by simp [r6, c6, hc]
    have hcat : cat [be 4 a.med.toNat] = be 4 a.med.toNat := by simp [cat]
    have hvl : (be 4 a.med.toNat).length < 2 ^ 38 := by first | (rw [be_length]; omega) | (rw [wordsB, fm_length]; omega)
    have hput := put_gives83 [be 4 a.med.toNat] 4 wide bad b (by simp) (by omega) (by omega) (by omega) (by rw [hcat]; exact hvl)
    rw [hcat] at hput
    rw [hq] at hb ⊢
    refine ev_seq (b := suf 7 f67.body) ?_
    refine W_okd 1 300 _ _ _ _ ?_
    repeat' (first | refine stpA ?_ | refine kN (number85 a.med (by omega) (by omega)) ?_ | refine kB [(108, _, _)] ⟨rfl, pz trivial⟩ ?_ | refine kX [(81, _, _), (200, _, _)] [(109, _, _)] ⟨rfl, rfl, trivial⟩ ⟨rfl, pz trivial⟩ (hput) ?_ | (refine condS ?_ ?_ <;> intro h))
    refine ev_keep [7, 2, 1] [66, 81, 200] ?_
    exact enc67_7 a hv wide bad _ _ _ _ _ _ hb
  · have hq : b ++ r6 a (wd wide) = b ++ r7 a (wd wide) := by simp [r6, c6, hc]
    rw [hq] at hb ⊢
    refine ev_seq (b := suf 7 f67.body) ?_
    try simp only [Bool.not_eq_true] at hc
    refine W_okd 1 300 _ _ _ _ ?_
    repeat' (first | refine stpA ?_ | (refine condS ?_ ?_ <;> intro h))
    refine ev_keep [7, 2, 1] [66, 81, 200] ?_
    exact enc67_7 a hv wide bad _ _ _ _ _ _ hb
theorem enc67_5 (a : Attrs) (hv : EncV a) (wide bad : Bool) (b : List UInt8) (T : List (Nat × AV)) (H : Heap) (c gw g : Nat) (hb : (b ++ r5 a (wd wide)).length < 2 ^ 37) : Ev G ⟨[.code (suf 5 f67.body)], ⟨(7, .ref 81 gw 0) :: (2, .ref 66 1 0) :: (1, .bool wide) :: T, (66, some (1, .cells a.enc)) :: (81, some (gw, .cells [.vs 200 g b.length, .bool wide, .bool bad])) :: (200, some (g, .vec 1 (byteCells b))) :: H, c⟩, [.t 4, .t 5], 0⟩ (encRet (bdA a wide bad) (b ++ r5 a (wd wide))) := by
  have hf := hv.nextHop
  have hf2 := hv.origin
  have hf3 := u8_int hf2.1 hf2.2
  have hbl : b.length < 2 ^ 37 := by simp at hb; omega
  have hq : b ++ r5 a (wd wide) = (b ++ putB 3 (be 4 a.nextHop.toNat)) ++ r6 a (wd wide) := by simp [r5, c5]
  have hcat : cat [be 4 a.nextHop.toNat] = be 4 a.nextHop.toNat := by simp [cat]
  have hvl : (be 4 a.nextHop.toNat).length < 2 ^ 38 := by
    have hpl := pathL wide a hv
    first | (rw [be_length]; omega) | (simp; done) | omega
  have hput := put_gives83 [be 4 a.nextHop.toNat] 3 wide bad b (by simp) (by omega) (by omega) (by omega) (by rw [hcat]; exact hvl)
  rw [hcat] at hput
  rw [hq] at hb ⊢
  refine ev_seq (b := suf 6 f67.body) ?_
  refine W_okd 1 300 _ _ _ _ ?_
  repeat' (first | refine stpA ?_ | refine kN (number85 a.nextHop (by omega) (by omega)) ?_ | refine kB [(100, _, _)] ⟨rfl, pz trivial⟩ ?_ | refine kX [(81, _, _), (200, _, _)] [(101, _, _)] ⟨rfl, rfl, trivial⟩ ⟨rfl, pz trivial⟩ (hput) ?_ | (refine condS ?_ ?_ <;> intro h))
  refine ev_keep [7, 2, 1] [66, 81, 200] ?_
  exact enc67_6 a hv wide _ _ _ _ _ _ _ hb
theorem enc67_4 (a : Attrs) (hv : EncV a) (wide bad : Bool) (b : List UInt8) (T : List (Nat × AV)) (H : Heap) (c gw g : Nat) (hb : (b ++ r4 a (wd wide)).length < 2 ^ 37) : Ev G ⟨[.code (suf 4 f67.body)], ⟨(7, .ref 81 gw 0) :: (2, .ref 66 1 0) :: (1, .bool wide) :: T, (66, some (1, .cells a.enc)) :: (81, some (gw, .cells [.vs 200 g b.length, .bool wide, .bool bad])) :: (200, some (g, .vec 1 (byteCells b))) :: H, c⟩, [.t 4, .t 5], 0⟩ (encRet (bdA a wide (badP wide bad a.path)) (b ++ r4 a (wd wide))) := by
  have hf := hv.nextHop
  have hf2 := hv.origin
  have hf3 := u8_int hf2.1 hf2.2
  have hbl : b.length < 2 ^ 37 := by simp at hb; omega
  have hq : b ++ r4 a (wd wide) = (b ++ putB 2 (pathB (wd wide) a.path)) ++ r5 a (wd wide) := by simp [r4, c4]
  have hcat : cat [pathB (wd wide) a.path] = pathB (wd wide) a.path := by simp [cat]
  have hvl : (pathB (wd wide) a.path).length < 2 ^ 38 := by
    have hpl := pathL wide a hv
    first | (rw [be_length]; omega) | (simp; done) | omega
  have hput := put_gives83 [pathB (wd wide) a.path] 2 wide (badP wide bad a.path) b (by simp) (by omega) (by omega) (by omega) (by rw [hcat]; exact hvl)
  rw [hcat] at hput
  rw [hq] at hb ⊢
  refine ev_seq (b := suf 5 f67.body) ?_
  refine W_okd 1 300 _ _ _ _ ?_
  repeat' (first | refine stpA ?_ | refine kX [(81, _, _), (200, _, _)] [] ⟨rfl, rfl, trivial⟩ trivial ((path_gives84 a.path wide bad b hv.segs hv.path)) ?_ | refine kB [(93, _, _)] ⟨rfl, pz trivial⟩ ?_ | refine kX [(81, _, _), (200, _, _)] [(94, _, _)] ⟨rfl, rfl, trivial⟩ ⟨rfl, pz trivial⟩ (hput) ?_ | (refine condS ?_ ?_ <;> intro h))
  refine ev_keep [7, 2, 1] [66, 81, 200] ?_
  exact enc67_5 a hv wide _ _ _ _ _ _ _ hb
theorem enc67_3 (a : Attrs) (hv : EncV a) (wide bad : Bool) (b : List UInt8) (T : List (Nat × AV)) (H : Heap) (c gw g : Nat) (hb : (b ++ r3 a (wd wide)).length < 2 ^ 37) : Ev G ⟨[.code (suf 3 f67.body)], ⟨(7, .ref 81 gw 0) :: (2, .ref 66 1 0) :: (1, .bool wide) :: T, (66, some (1, .cells a.enc)) :: (81, some (gw, .cells [.vs 200 g b.length, .bool wide, .bool bad])) :: (200, some (g, .vec 1 (byteCells b))) :: H, c⟩, [.t 4, .t 5], 0⟩ (encRet (bdA a wide (badP wide bad a.path)) (b ++ r3 a (wd wide))) := by
  have hf := hv.nextHop
  have hf2 := hv.origin
  have hf3 := u8_int hf2.1 hf2.2
  have hbl : b.length < 2 ^ 37 := by simp at hb; omega
  have hq : b ++ r3 a (wd wide) = (b ++ putB 1 ([UInt8.ofNat a.origin.toNat])) ++ r4 a (wd wide) := by simp [r3, c3]
  have hcat : cat [[UInt8.ofNat a.origin.toNat]] = [UInt8.ofNat a.origin.toNat] := by simp [cat]
  have hvl : ([UInt8.ofNat a.origin.toNat]).length < 2 ^ 38 := by
    have hpl := pathL wide a hv
    first | (rw [be_length]; omega) | (simp; done) | omega
  have hput := put_gives83 [[UInt8.ofNat a.origin.toNat]] 1 wide bad b (by simp) (by omega) (by omega) (by omega) (by rw [hcat]; exact hvl)
  rw [hcat] at hput
  rw [show List.map bEnc [[UInt8.ofNat a.origin.toNat]] = [[.sl 1 [[.int .u8 a.origin]]]] from by simp only [List.map_cons, List.map_nil, bEnc, byteCells, hf3]] at hput
  rw [hq] at hb ⊢
  refine ev_seq (b := suf 4 f67.body) ?_
  refine W_okd 1 300 _ _ _ _ ?_
  repeat' (first | refine stpA ?_ | refine kB [(86, _, _)] ⟨rfl, pz trivial⟩ ?_ | refine kX [(81, _, _), (200, _, _)] [(87, _, _)] ⟨rfl, rfl, trivial⟩ ⟨rfl, pz trivial⟩ (hput) ?_ | (refine condS ?_ ?_ <;> intro h))
  refine ev_keep [7, 2, 1] [66, 81, 200] ?_
  exact enc67_4 a hv wide _ _ _ _ _ _ _ hb
def encB (a : Attrs) (wide : Bool) : List UInt8 := r3 a (wd wide)
def encBad (a : Attrs) (wide : Bool) : Bool := bdA a wide (badP wide false a.path)
theorem encode_gives67 (a : Attrs) (wide : Bool) (hb : LenB a) (hv : checkS a = 0 → EncV a ∧ (encB a wide).length < 2 ^ 37) : Gives G 67 [.agg a.enc, .bool wide] [] (if checkS a = 0 then encRet (encBad a wide) (encB a wide) else ⟨.tup [.con (.slice none 0 0), .int .i64 (checkS a)], []⟩) := by
  by_cases hc : checkS a = 0
  · obtain ⟨h1, h2⟩ := hv hc
    have h65 := check_gives65 a hb
    rw [hc] at h65
    rw [if_pos hc]
    refine gives_code (F := f67) rfl rfl ?_
    refine ev_seq (b := suf 1 f67.body) ?_
    refine W_okd 1 300 _ _ _ _ ?_
    repeat' (first | refine stpA ?_ | (refine condS ?_ ?_ <;> intro h))
    refine ev_seq (b := suf 2 f67.body) ?_
    refine W_okd 1 300 _ _ _ _ ?_
    repeat' (first | refine stpA ?_ | (refine condS ?_ ?_ <;> intro h))
    refine ev_seq (b := suf 3 f67.body) ?_
    refine W_okd 1 300 _ _ _ _ ?_
    repeat' (first | refine stpA ?_ | (refine condS ?_ ?_ <;> intro h))
    refine ev_nil 200 1 [] [(81, some (_, .cells [.vs 200 _ 0, .bool wide, .bool false]))] trivial ⟨⟨rfl, LeP.nilV _ _ _, .refl _, .refl _, trivial⟩, trivial⟩ ?_
    refine ev_keep [7, 2, 1] [66, 81, 200] ?_
    exact enc67_3 a h1 wide false [] _ _ _ _ _ h2
  · rw [if_neg hc]
    refine gives_code (F := f67) rfl rfl (W_ok 300 _ _ _ _ ?_)
    repeat' (first | refine stpA ?_ | refine kV (check_gives65 a hb) ?_ | (refine condS ?_ ?_ <;> intro h))
    all_goals ((first | refine fin1 ?_ | refine fin0 ?_); rfl)
end Go.AM.IR
set_option maxHeartbeats 4000000
set_option maxRecDepth 20000
namespace Go.AM.IR
theorem get_gives93 (b : List UInt8) (hb : b.length < 2 ^ 40) (i k : Int) (h0 : 0 ≤ i) (h1 : 0 ≤ k) (h4 : k ≤ 4) (h : i + k ≤ b.length) : Gives G 93 [.sl 1 (byteCells b), .int .i64 i, .int .i64 k] [] ⟨.int .i64 (rd ((b.drop i.toNat).take k.toNat) : Nat), []⟩ := by
  have hr := rd_le (l := (b.drop i.toNat).take k.toNat) (n := 4) (by simp; omega)
  refine gives_code (F := f93) rfl rfl (W_ok 300 _ _ _ _ ?_)
  repeat' (first | refine stpA ?_ | refine kV (get_gives110 b hb i k h0 h1 h4 h) ?_ | (refine condS ?_ ?_ <;> intro h))
  all_goals try ((first | refine fin1 ?_ | refine fin0 ?_); first | rfl | (simp [Bool.cond_eq_ite, *]; done) | (simp [Bool.cond_eq_ite, *]; omega))
end Go.AM.IR
set_option maxHeartbeats 4000000
set_option maxRecDepth 20000
namespace Go.AM.IR
def numsD (w n : Nat) (b : List UInt8) : List Int := (List.range n).map fun i => ((rd ((b.drop (i * w)).take w) : Nat) : Int)
theorem numsD_succ (w n : Nat) (b : List UInt8) : numsD w (n + 1) b = numsD w n b ++ [((rd ((b.drop (n * w)).take w) : Nat) : Int)] := by
  simp [numsD, List.range_succ]
@[simp] theorem numsD_length (w n : Nat) (b : List UInt8) : (numsD w n b).length = n := by simp [numsD]
def wordsD (b : List UInt8) : List Int := numsD 4 (b.length / 4) b
def wordsOk (b : List UInt8) : Bool := decide (0 < b.length ∧ b.length % 4 = 0)
theorem rTB {a : AV} {p q : Bool} (h : p = q) : (⟨.tup [a, .bool p], []⟩ : Ret) = ⟨.tup [a, .bool q], []⟩ := by rw [h]
def wordsR (b : List UInt8) : Ret := ⟨.tup [.sl 1 ((wordsD b).map encU), .bool (wordsOk b)], []⟩
theorem words_loop112 (b : List UInt8) (hb : b.length < 2 ^ 30) : ∀ (k j : Nat) (T : List (Nat × AV)) (H : Heap) (c g m : Nat) (es : List (List AV)) (i : Int) (hi : i = 4 * (j : Int)) (hj : j + k = b.length / 4) (hm : m = j) (hes : es = (numsD 4 j b).map encU),
   Ev G ⟨f112x6LH, ⟨(5, .int .i64 i) :: (0, .sl 1 (byteCells b)) :: (4, .vs 83 g m) :: T, (83, some (g, .vec 1 es)) :: H, c⟩, [.t 2, .t 3], 0⟩ (wordsR b)
  | 0, j, T, H, c, g, m, es, i, hi, hj, hm, hes => by
    have hbl := byteCells_length b
    subst hes
    have e1 : numsD 4 j b = wordsD b := by simp [wordsD, ← hj]
    rw [e1]
    have hel : ((wordsD b).map encU).length = m := by rw [← e1]; simp [hm]
    refine ev_frzk [(83, _, _)] [4, 5, 0] [] ⟨rfl, (by first | rfl | (simp [Blk.pure, pureL, pureLL, AV.pure, *]; done) | fail), trivial⟩ ?_; repeat ((conv => whnf); first | refine And.intro (by first | rfl | omega | (simp [pureL, pureLL, AV.pure]; done) | (simp; omega) | (simp [pureL, pureLL, AV.pure, *]; done) | assumption | fail) ?_ | intro T H)
    refine ev_loop' (W_ok 300 _ _ _ _ ?_)
    repeat' (first | refine stpA ?_ | (refine condS ?_ ?_ <;> intro h))
    all_goals ((first | refine fin1 ?_ | refine fin0 ?_); exact rTB (by rw [wordsOk, Bool.eq_iff_iff]; simp; omega))
  | k + 1, j, T, H, c, g, m, es, i, hi, hj, hm, hes => by
    have hbl := byteCells_length b
    have hel : es.length = j := by simp [hes]
    have hget := get_gives93 b (by omega) i 4 (by omega) (by omega) (by omega) (by omega)
    rw [show (4 : Int).toNat = 4 from rfl] at hget
    have hr := rd_le (l := (b.drop i.toNat).take 4) (n := 4) (by simp; omega)
    refine ev_loop' (W_ok 300 _ _ _ _ ?_)
    repeat' (first | refine stpA ?_ | (refine condS ?_ ?_ <;> intro h))
    refine ev_keep [5, 0, 4] [83] ?_
    refine words_loop112 b hb k (j + 1) _ _ _ _ _ _ (i + 4) (by omega) (by omega) (by simp [hm]) ?_
    rw [hes, numsD_succ, show i.toNat = j * 4 from by omega]
    simp [encU]
theorem words_gives112 (b : List UInt8) (hb : b.length < 2 ^ 30) : Gives G 112 [.sl 1 (byteCells b)] [] (wordsR b) := by
  refine gives_code (F := f112) rfl rfl (W_ok 300 _ _ _ _ ?_)
  repeat' (first | refine stpA ?_ | (refine condS ?_ ?_ <;> intro h))
  refine ev_nil 83 1 [(4, .vs 83 _ 0)] [] ⟨LeP.nilV _ _ _, trivial⟩ trivial ?_
  refine ev_keep [5, 0, 4] [83] ?_
  exact words_loop112 b hb (b.length / 4) 0 _ _ _ _ 0 _ 0 (by omega) (by omega) rfl rfl
end Go.AM.IR
set_option maxHeartbeats 4000000
set_option maxRecDepth 20000
namespace Go.AM.IR
def segsF (w : Nat) : Nat → List UInt8 → Option (List Seg)
  | _, [] => some []
  | 0, _ :: _ => none
  | _ + 1, [_] => none
  | f + 1, k :: n :: r => if n.toNat = 0 ∨ r.length < n.toNat * w then none else (segsF w f (r.drop (n.toNat * w))).map fun l => ⟨(k.toNat : Int), numsD w n.toNat r⟩ :: l
def segsD (w : Nat) (b : List UInt8) : Option (List Seg) := segsF w b.length b
def pathR : Option (List Seg) → Ret
  | none => ⟨.tup [.con (.slice none 0 0), .bool false], []⟩
  | some l => ⟨.tup [.sl 2 (l.map Seg.enc), .bool true], []⟩
theorem tail_eq (b : List UInt8) (i n : Nat) (h : n = b.length) : ((byteCells b).drop i).take (n - i) = byteCells (b.drop i) := by
  subst h
  rw [List.take_of_length_le (by simp)]
  simp [byteCells]
theorem seg_loop111 (b r : List UInt8) (k n : UInt8) (hb : b = k :: n :: r) (w : Nat) (hw : w ≤ 4) (hl : b.length < 2 ^ 30) (hn : n.toNat * w ≤ r.length) (acc : List Seg) (ha : acc.length < 2 ^ 30) (R : Ret)
  (go : ∀ (T : List (Nat × AV)) (H : Heap) (c g m : Nat) (es : List (List AV)), m = acc.length + 1 → es = (acc ++ [(⟨(k.toNat : Int), numsD w n.toNat r⟩ : Seg)]).map Seg.enc → Ev G ⟨f111x15LH, ⟨(1, .int .i64 (w : Int)) :: (0, .sl 1 (byteCells (r.drop (n.toNat * w)))) :: (6, .vs 127 g m) :: T, (127, some (g, .vec 2 es)) :: H, c⟩, [.t 4, .t 5], 0⟩ R) :
  ∀ (j i : Nat) (T : List (Nat × AV)) (H : Heap) (c g1 g2 g3 m1 m2 : Nat) (es1 es2 : List (List AV)) (hij : i + j = n.toNat) (hm1 : m1 = i) (hes1 : es1 = (numsD w i r).map encI) (hm2 : m2 = acc.length) (hes2 : es2 = acc.map Seg.enc),
   Ev G ⟨f111x12LH, ⟨(44, .int .i64 (i : Int)) :: (7, .ref 71 g3 0) :: (1, .int .i64 (w : Int)) :: (0, .sl 1 (byteCells b)) :: (8, .int .i64 (n.toNat : Int)) :: (6, .vs 127 g2 m2) :: (43, .int .i64 (n.toNat : Int)) :: T, (71, some (g3, .cells [.int .i64 (k.toNat : Int), .vs 121 g1 m1])) :: (121, some (g1, .vec 1 es1)) :: (127, some (g2, .vec 2 es2)) :: H, c⟩, [.t 4, .t 5], 0⟩ R
  | 0, i, T, H, c, g1, g2, g3, m1, m2, es1, es2, hij, hm1, hes1, hm2, hes2 => by
    have hbl := byteCells_length b
    have hrl : b.length = r.length + 2 := by rw [hb]; simp
    have hnl := n.toNat_lt
    obtain rfl : i = n.toNat := by omega
    subst hes1 hes2 hm1 hm2
    have hel : ((numsD w n.toNat r).map encI).length = n.toNat := by simp
    have hnn : (n.toNat : Int) * (w : Int) = ((n.toNat * w : Nat) : Int) := by simp
    refine ev_frzk [(121, _, _)] [44, 7, 1, 0, 8, 6, 43] [71, 127] ⟨rfl, (by first | rfl | (simp [Blk.pure, pureL, pureLL, AV.pure, *]; done) | fail), trivial⟩ ?_; repeat ((conv => whnf); first | refine And.intro (by first | rfl | omega | (simp [pureL, pureLL, AV.pure]; done) | (simp; omega) | (simp [pureL, pureLL, AV.pure, *]; done) | assumption | fail) ?_ | intro T H)
    refine ev_loop' (W_ok 300 _ _ _ _ ?_)
    repeat' (first | refine stpA ?_ | (refine condS ?_ ?_ <;> intro h))
    refine ev_keep [1, 0, 6] [127] ?_
    rw [tail_eq b _ _ (by omega), show b.drop (2 + (n.toNat : Int) * (w : Int)).toNat = r.drop (n.toNat * w) from by rw [show (2 + (n.toNat : Int) * (w : Int)).toNat = n.toNat * w + 2 from by omega, hb]; rfl]
    exact go _ _ _ _ _ _ (by simp) (by simp [Seg.enc])
  | j + 1, i, T, H, c, g1, g2, g3, m1, m2, es1, es2, hij, hm1, hes1, hm2, hes2 => by
    have hbl := byteCells_length b
    have hrl : b.length = r.length + 2 := by rw [hb]; simp
    have hnl := n.toNat_lt
    have hel : es1.length = i := by simp [hes1]
    have hnn : (i : Int) * (w : Int) = ((i * w : Nat) : Int) := by simp
    have h2 : (i + 1) * w ≤ n.toNat * w := Nat.mul_le_mul_right _ (by omega)
    rw [Nat.add_mul] at h2
    have hget := get_gives93 b (by omega) (2 + (i : Int) * (w : Int)) (w : Int) (by omega) (by omega) (by omega) (by omega)
    rw [show (2 + (i : Int) * (w : Int)).toNat = i * w + 2 from by omega, Int.toNat_natCast, show b.drop (i * w + 2) = r.drop (i * w) from by rw [hb]; rfl] at hget
    refine ev_loop' (W_ok 300 _ _ _ _ ?_)
    repeat' (first | refine stpA ?_ | (refine condS ?_ ?_ <;> intro h))
    refine ev_keep [44, 7, 1, 0, 8, 6, 43] [71, 121, 127] ?_
    exact seg_loop111 b r k n hb w hw hl hn acc ha R go j (i + 1) _ _ _ _ _ _ _ _ _ _ (by omega) (by simp [hm1]) (by rw [hes1, numsD_succ]; simp [encI]) hm2 hes2
theorem path_loop111 (w : Nat) (hw : w ≤ 4) : ∀ (f : Nat) (b : List UInt8) (acc : List Seg) (T : List (Nat × AV)) (H : Heap) (c g m : Nat) (es : List (List AV)) (hf : b.length ≤ f) (hl : b.length + acc.length < 2 ^ 30) (hm : m = acc.length) (hes : es = acc.map Seg.enc),
   Ev G ⟨f111x15LH, ⟨(1, .int .i64 (w : Int)) :: (0, .sl 1 (byteCells b)) :: (6, .vs 127 g m) :: T, (127, some (g, .vec 2 es)) :: H, c⟩, [.t 4, .t 5], 0⟩ (pathR ((segsF w f b).map fun l => acc ++ l))
  | f, [], acc, T, H, c, g, m, es, hf, hl, hm, hes => by
    subst hes
    have hel : (acc.map Seg.enc).length = m := by simp [hm]
    refine ev_frzk [(127, _, _)] [0, 6] [] ⟨rfl, (by first | rfl | (simp [Blk.pure, pureL, pureLL, AV.pure, *]; done) | fail), trivial⟩ ?_; repeat ((conv => whnf); first | refine And.intro (by first | rfl | omega | (simp [pureL, pureLL, AV.pure]; done) | (simp; omega) | (simp [pureL, pureLL, AV.pure, *]; done) | assumption | fail) ?_ | intro T H)
    refine ev_loop' (W_ok 300 _ _ _ _ ?_)
    repeat' (first | refine stpA ?_ | (refine condS ?_ ?_ <;> intro h))
    all_goals ((first | refine fin1 ?_ | refine fin0 ?_); cases f <;> simp [segsF, pathR])
  | f + 1, [k], acc, T, H, c, g, m, es, hf, hl, hm, hes => by
    refine ev_loop' (W_ok 300 _ _ _ _ ?_)
    repeat' (first | refine stpA ?_ | (refine condS ?_ ?_ <;> intro h))
    all_goals ((first | refine fin1 ?_ | refine fin0 ?_); simp [segsF, pathR])
  | f + 1, k :: n :: r, acc, T, H, c, g, m, es, hf, hl, hm, hes => by
    have hbl := byteCells_length (k :: n :: r)
    have hk := k.toNat_lt
    have hn := n.toNat_lt
    have hnn : (n.toNat : Int) * (w : Int) = ((n.toNat * w : Nat) : Int) := by simp
    have h2 : n.toNat * w ≤ 255 * 4 := Nat.mul_le_mul (by omega) hw
    simp only [List.length_cons] at hl hf hbl
    by_cases h0 : n.toNat = 0
    · have h0 : (n.toNat : Int) = 0 := by omega
      refine ev_loop' (W_ok 300 _ _ _ _ ?_)
      repeat' (first | refine stpA ?_ | (refine condS ?_ ?_ <;> intro h))
      all_goals ((first | refine fin1 ?_ | refine fin0 ?_); simp only [segsF, pathR]; rw [if_pos (.inl (by omega))]; rfl)
    · by_cases h1 : r.length < n.toNat * w
      · refine ev_loop' (W_ok 300 _ _ _ _ ?_)
        repeat' (first | refine stpA ?_ | (refine condS ?_ ?_ <;> intro h))
        all_goals ((first | refine fin1 ?_ | refine fin0 ?_); simp only [segsF, pathR]; rw [if_pos (.inr (by omega))]; rfl)
      · have hel : es.length = m := by simp [hes, hm]
        refine ev_loop' (W_ok 300 _ _ _ _ ?_)
        repeat' (first | refine stpA ?_ | (refine condS ?_ ?_ <;> intro h))
        refine ev_nil 121 1 [] [(71, some (_, .cells [.int .i64 (k.toNat : Int), .vs 121 _ 0]))] trivial ⟨⟨rfl, LeP.refl _, LeP.nilV _ _ _, trivial⟩, trivial⟩ ?_
        refine ev_keep [44, 7, 1, 0, 8, 6, 43] [71, 121, 127] ?_
        refine seg_loop111 (k :: n :: r) r k n rfl w hw (by simp; omega) (by omega) acc (by omega) _ ?_ n.toNat 0 _ _ _ _ _ _ _ _ _ _ (by omega) rfl rfl hm hes
        intro T H c g m es q1 q2
        have := path_loop111 w hw f (r.drop (n.toNat * w)) (acc ++ [⟨(k.toNat : Int), numsD w n.toNat r⟩]) T H c g m es (by simp; omega) (by simp; omega) (by simp [q1]) q2
        simp only [segsF]
        rw [if_neg (by omega), Option.map_map]
        simpa [Function.comp_def] using this
theorem path_gives111 (b : List UInt8) (hl : b.length < 2 ^ 30) (w : Nat) (hw : w ≤ 4) : Gives G 111 [.sl 1 (byteCells b), .int .i64 (w : Int)] [] (pathR (segsD w b)) := by
  have h := path_loop111 w hw b.length b []
  refine gives_code (F := f111) rfl rfl (W_ok 300 _ _ _ _ ?_)
  repeat' (first | refine stpA ?_ | (refine condS ?_ ?_ <;> intro h))
  refine ev_nil 127 2 [(6, .vs 127 _ 0)] [] ⟨LeP.nilV _ _ _, trivial⟩ trivial ?_
  refine ev_keep [1, 0, 6] [127] ?_
  have e : pathR ((segsF w b.length b).map fun l => [] ++ l) = pathR (segsD w b) := by simp [segsD]
  rw [← e]
  exact h _ _ _ _ 0 _ (Nat.le_refl _) (by simpa using hl) rfl rfl
end Go.AM.IR
set_option maxHeartbeats 4000000
set_option maxRecDepth 20000
namespace Go.AM.IR
end Go.AM.IR
set_option maxHeartbeats 4000000
set_option maxRecDepth 20000
namespace Go.AM.IR
def setA (w : Nat) (k : Nat) (v : List UInt8) (a : Attrs) : Option Attrs :=
  match k with
  | 1 => match v with
    | [x] => some { a with origin := (x.toNat : Int) }
    | _ => none
  | 2 => (segsD w v).map fun p => { a with path := p }
  | 3 => if v.length = 4 then some { a with nextHop := (rd v : Int) } else none
  | 4 => if v.length = 4 then some { a with hasMED := true, med := (rd v : Int) } else none
  | 5 => if v.length = 4 then some { a with hasPref := true, pref := (rd v : Int) } else none
  | 6 => if v.length = 0 then some { a with atomic := true } else none
  | 7 => if v.length = w + 4 then some { a with hasAggr := true, aggrAS := (rd (v.take w) : Int), aggrAddr := (rd (v.drop w) : Int) } else none
  | 8 => if wordsOk v then some { a with comms := wordsD v } else none
  | 9 => if v.length = 4 then some { a with hasOrig := true, orig := (rd v : Int) } else none
  | 10 => if wordsOk v then some { a with clusters := wordsD v } else none
  | k => some { a with unknown := a.unknown ++ [⟨(k : Int), v⟩] }
theorem setA_other {w k : Nat} {v : List UInt8} {a : Attrs} (h : k = 0 ∨ 11 ≤ k) : setA w k v a = some { a with unknown := a.unknown ++ [⟨(k : Int), v⟩] } := by
  unfold setA; split <;> first | omega | rfl
def badA (k : Nat) (v : List UInt8) (a : Attrs) : Attrs :=
  match k with
  | 2 => { a with path := [] }
  | 3 => { a with nextHop := 0 }
  | 4 => { a with hasMED := true, med := 0 }
  | 5 => { a with hasPref := true, pref := 0 }
  | 6 => { a with atomic := true }
  | 8 => { a with comms := wordsD v }
  | 9 => { a with hasOrig := true, orig := 0 }
  | 10 => { a with clusters := wordsD v }
  | _ => a
def Attrs.cellsV (a : Attrs) (u : AV) : List AV := [.int .i64 a.origin, .sl 2 (a.path.map Seg.enc), .int .u32 a.nextHop, .bool a.hasMED, .int .i64 a.med, .bool a.hasPref, .int .i64 a.pref, .bool a.atomic, .bool a.hasAggr, .int .i64 a.aggrAS, .int .u32 a.aggrAddr,
  .sl 1 (a.comms.map encU), .bool a.hasOrig, .int .u32 a.orig, .sl 1 (a.clusters.map encU), u]
def isKind (k : Nat) : Bool := decide (1 ≤ k ∧ k ≤ 10)
def readRet (ok fl : Bool) (a : Attrs) : Ret := ⟨.bool ok, [(true, .cells (a.cellsV (.vs 1 0 a.unknown.length))), (fl, .vec 2 (a.unknown.map TLV.enc))]⟩
def readR (w k : Nat) (v : List UInt8) (a : Attrs) : Ret :=
  match setA w k v a with
  | some a' => readRet true (isKind k) a'
  | none => readRet false true (badA k v a)
theorem rd_u32 {v : List UInt8} (h : v.length ≤ 4) : (rd v : Int) ≤ 4294967295 := by have := rd_le h; omega
theorem take_drop0 (v : List UInt8) (n : Nat) (h : v.length = n) : (v.drop 0).take n = v := by rw [List.drop_zero, List.take_of_length_le (by omega)]
theorem setA1 {w : Nat} {v : List UInt8} {a : Attrs} (h : v.length ≠ 1) : setA w 1 v a = none := by
  match v with
  | [] => rfl
  | [x] => exact absurd rfl h
  | x :: y :: r => rfl
set_option maxHeartbeats 40000000
theorem readK (k : Nat) (hk : 1 ≤ k ∧ k ≤ 10) (a : Attrs) (v : List UInt8) (hv : v.length < 2 ^ 29) (hu : a.unknown.length < 2 ^ 30) (w : Nat) (hw : w ≤ 4) : Gives G 95 [.ref 0 0 0, .int .i64 (k : Int), .sl 1 (byteCells v), .int .i64 (w : Int)] [.cells (a.cellsV (.vs 1 0 a.unknown.length)), .vec 2 (a.unknown.map TLV.enc)] (readR w k v a) := by
  have hbl := byteCells_length v
  have hg4 : v.length = 4 → Gives G 93 [.sl 1 (byteCells v), .int .i64 0, .int .i64 4] [] ⟨.int .i64 (rd v : Int), []⟩ := fun h => by
    have hget := get_gives93 v (by omega) 0 4 (by omega) (by omega) (by omega) (by omega)
    rwa [show (4 : Int).toNat = 4 from rfl, show (0 : Int).toNat = 0 from rfl, take_drop0 v 4 h] at hget
  have q4 : (((byteCells v).length : Int) == 4) = decide (v.length = 4) := by rw [hbl, Bool.eq_iff_iff]; simp only [beq_iff_eq, decide_eq_true_eq]; omega
  have q0 : (((byteCells v).length : Int) == 0) = decide (v.length = 0) := by rw [hbl, Bool.eq_iff_iff]; simp only [beq_iff_eq, decide_eq_true_eq]; omega
  have hp := path_gives111 v (by omega) w hw
  have hwg := words_gives112 v (by omega)
  unfold wordsR at hwg
  have : k = 1 ∨ k = 2 ∨ k = 3 ∨ k = 4 ∨ k = 5 ∨ k = 6 ∨ k = 7 ∨ k = 8 ∨ k = 9 ∨ k = 10 := by omega
  rcases this with rfl | rfl | rfl | rfl | rfl | rfl | rfl | rfl | rfl | rfl
  all_goals by_cases h4 : v.length = 4
  all_goals try (have hget := hg4 h4; have hr := rd_u32 (v := v) (by omega))
  rw [show readR w 1 v a = readRet false true a from by rw [readR, setA1 (by omega)]; rfl]; rotate_left
  by_cases h1 : v.length = 1
  obtain ⟨x, rfl⟩ := List.length_eq_one_iff.1 h1; have hx := x.toNat_lt; rw [show readR w 1 [x] a = readRet true true { a with origin := (x.toNat : Int) } from rfl]; rotate_left
  rw [show readR w 1 v a = readRet false true a from by rw [readR, setA1 h1]; rfl]; rotate_left
  cases hs : segsD w v
  rw [hs] at hp; rw [show readR w 2 v a = readRet false true { a with path := [] } from by simp [readR, setA, hs, badA]]; rotate_left
  rw [hs, pathR] at hp; rename_i p; rw [show readR w 2 v a = readRet true true { a with path := p } from by simp [readR, setA, hs, isKind]]; rotate_left
  cases hs : segsD w v
  rw [hs] at hp; rw [show readR w 2 v a = readRet false true { a with path := [] } from by simp [readR, setA, hs, badA]]; rotate_left
  rw [hs, pathR] at hp; rename_i p; rw [show readR w 2 v a = readRet true true { a with path := p } from by simp [readR, setA, hs, isKind]]; rotate_left
  rw [show readR w 3 v a = readRet true true { a with nextHop := (rd v : Int) } from by simp [readR, setA, isKind, h4]]; rotate_left
  rw [show readR w 3 v a = readRet false true { a with nextHop := 0 } from by simp [readR, setA, badA, h4]]; rotate_left
  rw [show readR w 4 v a = readRet true true { a with hasMED := true, med := (rd v : Int) } from by simp [readR, setA, isKind, h4]]; rotate_left
  rw [show readR w 4 v a = readRet false true { a with hasMED := true, med := 0 } from by simp [readR, setA, badA, h4]]; rotate_left
  rw [show readR w 5 v a = readRet true true { a with hasPref := true, pref := (rd v : Int) } from by simp [readR, setA, isKind, h4]]; rotate_left
  rw [show readR w 5 v a = readRet false true { a with hasPref := true, pref := 0 } from by simp [readR, setA, badA, h4]]; rotate_left
  rw [show readR w 6 v a = readRet false true { a with atomic := true } from by simp [readR, setA, badA, h4]]; rotate_left
  by_cases h1 : v.length = 0
  rw [show readR w 6 v a = readRet true true { a with atomic := true } from by simp [readR, setA, isKind, h1]]; rotate_left
  rw [show readR w 6 v a = readRet false true { a with atomic := true } from by simp [readR, setA, badA, h1]]; rotate_left
  by_cases h1 : v.length = w + 4
  obtain rfl : w = 0 := (by omega); have hz := get_gives93 v (by omega) 0 0 (by omega) (by omega) (by omega) (by omega); simp only [show (0 : Int).toNat = 0 from rfl, List.take_zero, show rd [] = 0 from rfl] at hz; rw [show readR 0 7 v a = readRet true true { a with hasAggr := true, aggrAS := 0, aggrAddr := (rd v : Int) } from by simp [readR, setA, h1, isKind, rd]]; rotate_left
  rw [show readR w 7 v a = readRet false true a from by simp [readR, setA, badA, h1]]; rotate_left
  by_cases h1 : v.length = w + 4
  have g1 := get_gives93 v (by omega) 0 w (by omega) (by omega) (by omega) (by omega); have g2 := get_gives93 v (by omega) w 4 (by omega) (by omega) (by omega) (by omega); simp only [show (0 : Int).toNat = 0 from rfl, Int.toNat_natCast, List.drop_zero] at g1; rw [show (4 : Int).toNat = 4 from rfl, Int.toNat_natCast, List.take_of_length_le (by simp; omega)] at g2; have hr := rd_u32 (v := v.drop w) (by simp; omega); rw [show readR w 7 v a = readRet true true { a with hasAggr := true, aggrAS := (rd (v.take w) : Int), aggrAddr := (rd (v.drop w) : Int) } from by simp [readR, setA, h1, isKind]]; rotate_left
  rw [show readR w 7 v a = readRet false true a from by simp [readR, setA, badA, h1]]; rotate_left
  cases hok : wordsOk v
  rw [hok] at hwg; rw [show readR w 8 v a = readRet false true { a with comms := wordsD v } from by simp [readR, setA, badA, hok]]; rotate_left
  rw [hok] at hwg; rw [show readR w 8 v a = readRet true true { a with comms := wordsD v } from by simp [readR, setA, isKind, hok]]; rotate_left
  cases hok : wordsOk v
  rw [hok] at hwg; rw [show readR w 8 v a = readRet false true { a with comms := wordsD v } from by simp [readR, setA, badA, hok]]; rotate_left
  rw [hok] at hwg; rw [show readR w 8 v a = readRet true true { a with comms := wordsD v } from by simp [readR, setA, isKind, hok]]; rotate_left
  rw [show readR w 9 v a = readRet true true { a with hasOrig := true, orig := (rd v : Int) } from by simp [readR, setA, isKind, h4]]; rotate_left
  rw [show readR w 9 v a = readRet false true { a with hasOrig := true, orig := 0 } from by simp [readR, setA, badA, h4]]; rotate_left
  cases hok : wordsOk v
  rw [hok] at hwg; rw [show readR w 10 v a = readRet false true { a with clusters := wordsD v } from by simp [readR, setA, badA, hok]]; rotate_left
  rw [hok] at hwg; rw [show readR w 10 v a = readRet true true { a with clusters := wordsD v } from by simp [readR, setA, isKind, hok]]; rotate_left
  cases hok : wordsOk v
  rw [hok] at hwg; rw [show readR w 10 v a = readRet false true { a with clusters := wordsD v } from by simp [readR, setA, badA, hok]]; rotate_left
  rw [hok] at hwg; rw [show readR w 10 v a = readRet true true { a with clusters := wordsD v } from by simp [readR, setA, isKind, hok]]; rotate_left
  all_goals
    refine gives_code (F := f95) rfl rfl (W_ok 300 _ _ _ _ ?_)
    repeat' (first | refine stpA ?_ | (refine condS ?_ ?_ <;> intro h))
  all_goals try (refine ev_le [] [(0, some (_, .cells (Attrs.cellsV { a with path := [] } (.vs 1 0 a.unknown.length))))] trivial ⟨⟨rfl, .refl _, LeP.nil 2, .refl _, .refl _, .refl _, .refl _, .refl _, .refl _, .refl _, .refl _, .refl _, .refl _, .refl _, .refl _, .refl _, .refl _,  trivial⟩, trivial⟩ ?_)
  all_goals
    ((conv => whnf); first | refine finX1 [(0, _, _), (1, _, _)] [] [true, true] ?_ | refine finX0 [(0, _, _), (1, _, _)] [] [true, true] ?_)
    first | rfl | (simp only [q4, q0, *]; rfl) | (simp only [q4, q0]; simp [*]; rfl)
theorem readO (k : Nat) (hk : k = 0 ∨ 11 ≤ k) (hk2 : k ≤ 255) (a : Attrs) (v : List UInt8) (hv : v.length < 2 ^ 29) (hu : a.unknown.length < 2 ^ 30) (w : Nat) (hw : w ≤ 4) : Gives G 95 [.ref 0 0 0, .int .i64 (k : Int), .sl 1 (byteCells v), .int .i64 (w : Int)] [.cells (a.cellsV (.vs 1 0 a.unknown.length)), .vec 2 (a.unknown.map TLV.enc)] (readR w k v a) := by
  have hbl := byteCells_length v
  have hul : (a.unknown.map TLV.enc).length = a.unknown.length := by simp
  have hg4 : v.length = 4 → Gives G 93 [.sl 1 (byteCells v), .int .i64 0, .int .i64 4] [] ⟨.int .i64 (rd v : Int), []⟩ := fun h => by
    have hget := get_gives93 v (by omega) 0 4 (by omega) (by omega) (by omega) (by omega)
    rwa [show (4 : Int).toNat = 4 from rfl, show (0 : Int).toNat = 0 from rfl, take_drop0 v 4 h] at hget
  rw [show readR w k v a = readRet true false { a with unknown := a.unknown ++ [⟨(k : Int), v⟩] } from by rw [readR, setA_other hk]; simp only [show isKind k = false from by simp [isKind]; omega]]
  by_cases h4 : v.length = 4
  · have hget := hg4 h4
    have hr := rd_u32 (v := v) (by omega)
    refine gives_code (F := f95) rfl rfl (W_ok 300 _ _ _ _ ?_)
    repeat' (first | refine stpA ?_ | refine kB [(90, _, _)] ⟨rfl, pz trivial⟩ ?_ | (refine condS ?_ ?_ <;> intro h))
    (conv => whnf); first | refine finX1 [(0, _, _), (1, _, _)] [] [true, false] ?_ | refine finX0 [(0, _, _), (1, _, _)] [] [true, false] ?_
    simp [readRet, Attrs.cellsV, TLV.enc, flB, Blk.renX, renXL, AV.renX, zidx]; rfl
  · refine gives_code (F := f95) rfl rfl (W_ok 300 _ _ _ _ ?_)
    repeat' (first | refine stpA ?_ | refine kB [(90, _, _)] ⟨rfl, pz trivial⟩ ?_ | (refine condS ?_ ?_ <;> intro h))
    (conv => whnf); first | refine finX1 [(0, _, _), (1, _, _)] [] [true, false] ?_ | refine finX0 [(0, _, _), (1, _, _)] [] [true, false] ?_
    simp [readRet, Attrs.cellsV, TLV.enc, flB, Blk.renX, renXL, AV.renX, zidx]; rfl
theorem read_gives95 (k : Nat) (hk2 : k ≤ 255) (a : Attrs) (v : List UInt8) (hv : v.length < 2 ^ 29) (hu : a.unknown.length < 2 ^ 30) (w : Nat) (hw : w ≤ 4) : Gives G 95 [.ref 0 0 0, .int .i64 (k : Int), .sl 1 (byteCells v), .int .i64 (w : Int)] [.cells (a.cellsV (.vs 1 0 a.unknown.length)), .vec 2 (a.unknown.map TLV.enc)] (readR w k v a) := by
  by_cases hk : k = 0 ∨ 11 ≤ k
  · exact readO k hk hk2 a v hv hu w hw
  · exact readK k (by omega) a v hv hu w hw
end Go.AM.IR
set_option maxHeartbeats 4000000
set_option maxRecDepth 20000
namespace Go.AM.IR
end Go.AM.IR
set_option maxHeartbeats 4000000
set_option maxRecDepth 20000
namespace Go.AM.IR
structure Att where
  c : UInt8
  k : UInt8
  long : Bool
  v : List UInt8
  rest : List UInt8
def attD : List UInt8 → Option Att
  | c :: k :: n :: r => bif bit16 c then (match r with
      | m :: r' => if r'.length < n.toNat * 256 + m.toNat then none else some ⟨c, k, true, r'.take (n.toNat * 256 + m.toNat), r'.drop (n.toNat * 256 + m.toNat)⟩
      | [] => none)
    else (if r.length < n.toNat then none else some ⟨c, k, false, r.take n.toNat, r.drop n.toNat⟩)
  | _ => none
def stripB (c : UInt8) : Int := bif bit16 c then (c.toNat : Int) - 16 else c.toNat
def badHead (t : Att) : Prop := ¬ stripB t.c = ((flagS (t.k.toNat : Int)).toNat : Int) ∨ (t.long = true ∧ t.v.length ≤ 255)
instance (t : Att) : Decidable (badHead t) := by unfold badHead; infer_instance
def isReq (k : Nat) : Nat := if 1 ≤ k ∧ k ≤ 3 then 1 else 0
def finD (nd : Nat) (a : Attrs) : Int × Attrs := if nd < 3 then (6, zeroA) else if checkS a = 0 then (0, a) else (checkS a, zeroA)
def decF (w : Nat) : Nat → List UInt8 → Int → Nat → Attrs → Int × Attrs
  | _, [], _, nd, a => finD nd a
  | 0, _ :: _, _, _, _ => (3, zeroA)
  | f + 1, c :: r, last, nd, a => match attD (c :: r) with
    | none => (3, zeroA)
    | some t => if (t.k.toNat : Int) ≤ last then (16, zeroA) else if badHead t then (2, zeroA) else match setA w t.k.toNat t.v a with
      | none => (2, zeroA)
      | some a' => decF w f t.rest (t.k.toNat : Int) (nd + isReq t.k.toNat) a'
def decD (w : Nat) (b : List UInt8) : Int × Attrs := decF w b.length b (-1) 0 zeroA
def decR (x : Int × Attrs) : Ret := ⟨.tup [.agg x.2.enc, .int .i64 x.1], []⟩
structure DB (N : Nat) (a : Attrs) : Prop where
  path : a.path.length ≤ N
  segs : ∀ s ∈ a.path, s.as.length ≤ 255
  comms : a.comms.length ≤ N
  clusters : a.clusters.length ≤ N
  vals : ∀ t ∈ a.unknown, t.value.length ≤ N
theorem segsF_len (w : Nat) : ∀ (f : Nat) (b : List UInt8) (l : List Seg), segsF w f b = some l → l.length ≤ b.length ∧ ∀ s ∈ l, s.as.length ≤ 255
  | f, [], l, h => by
    cases f <;> (simp only [segsF, Option.some.injEq] at h; subst h; simp)
  | 0, _ :: _, l, h => by simp [segsF] at h
  | f + 1, [_], l, h => by simp [segsF] at h
  | f + 1, k :: n :: r, l, h => by
    have hn := n.toNat_lt
    simp only [segsF] at h
    split at h
    · cases h
    · obtain ⟨l', h1, rfl⟩ := Option.map_eq_some_iff.1 h
      obtain ⟨q1, q2⟩ := segsF_len w f _ l' h1
      simp only [List.length_drop] at q1
      refine ⟨by simp only [List.length_cons]; omega, fun s hs => ?_⟩
      rcases List.mem_cons.1 hs with rfl | hs
      · simp; omega
      · exact q2 s hs
theorem setA_DB {N w k : Nat} {v : List UInt8} {a a' : Attrs} (h : DB N a) (hv : v.length ≤ N) (e : setA w k v a = some a') : DB N a' ∧ a'.unknown.length ≤ a.unknown.length + 1 := by
  obtain ⟨h1, h2, h3, h4, h5⟩ := h
  have hw : (wordsD v).length ≤ N := by simp [wordsD]; omega
  unfold setA at e
  split at e
  · split at e
    · cases e; exact ⟨⟨h1, h2, h3, h4, h5⟩, by simp⟩
    · cases e
  · obtain ⟨p, hp, rfl⟩ := Option.map_eq_some_iff.1 e
    obtain ⟨q1, q2⟩ := segsF_len w _ v p hp
    exact ⟨⟨by simp only; omega, q2, h3, h4, h5⟩, by simp⟩
  · split at e
    · cases e; exact ⟨⟨h1, h2, h3, h4, h5⟩, by simp⟩
    · cases e
  · split at e
    · cases e; exact ⟨⟨h1, h2, h3, h4, h5⟩, by simp⟩
    · cases e
  · split at e
    · cases e; exact ⟨⟨h1, h2, h3, h4, h5⟩, by simp⟩
    · cases e
  · split at e
    · cases e; exact ⟨⟨h1, h2, h3, h4, h5⟩, by simp⟩
    · cases e
  · split at e
    · cases e; exact ⟨⟨h1, h2, h3, h4, h5⟩, by simp⟩
    · cases e
  · split at e
    · cases e; exact ⟨⟨h1, h2, hw, h4, h5⟩, by simp⟩
    · cases e
  · split at e
    · cases e; exact ⟨⟨h1, h2, h3, h4, h5⟩, by simp⟩
    · cases e
  · split at e
    · cases e; exact ⟨⟨h1, h2, h3, hw, h5⟩, by simp⟩
    · cases e
  · cases e
    refine ⟨⟨h1, h2, h3, h4, fun t ht => ?_⟩, by simp⟩
    rcases List.mem_append.1 ht with ht | ht
    · exact h5 t ht
    · simp only [List.mem_singleton] at ht; subst ht; exact hv
theorem DB.lenB {N : Nat} {a : Attrs} (h : DB N a) (hN : N < 2 ^ 30) (hu : a.unknown.length ≤ N) : LenB a :=
  ⟨by have := h.path; omega, fun s hs => by have := h.segs s hs; omega, by have := h.comms; omega, by have := h.clusters; omega, by omega, fun t ht => by have := h.vals t ht; omega⟩
theorem decF_none {w f : Nat} {c : UInt8} {r : List UInt8} {last : Int} {nd : Nat} {a : Attrs} (h : attD (c :: r) = none) : decF w (f + 1) (c :: r) last nd a = (3, zeroA) := by
  simp only [decF, h]
theorem decF_some {w f : Nat} {c : UInt8} {r : List UInt8} {last : Int} {nd : Nat} {a : Attrs} {t : Att} (h : attD (c :: r) = some t) : decF w (f + 1) (c :: r) last nd a = if (t.k.toNat : Int) ≤ last then (16, zeroA) else if badHead t then (2, zeroA) else match setA w t.k.toNat t.v a with
      | none => (2, zeroA)
      | some a' => decF w f t.rest (t.k.toNat : Int) (nd + isReq t.k.toNat) a' := by
  simp only [decF, h]
def zeroC : List AV := [.int .i64 0, .con (.slice none 0 0), .int .u32 0, .bool false, .int .i64 0, .bool false, .int .i64 0, .bool false, .bool false, .int .i64 0, .int .u32 0, .con (.slice none 0 0), .bool false, .int .u32 0, .con (.slice none 0 0), .con (.slice none 0 0)]
section
variable {k : AV → Prop} {b : UInt8}
theorem zAndT (hb : bit16 b = true) (h : k (.int .u8 16)) : ∃ v, binA .and (.int .u8 (b.toNat : Int)) (.int .u8 16) = some v ∧ k v := zAnd16 (by rw [if_pos hb]; exact h)
theorem zAndF (hb : bit16 b = false) (h : k (.int .u8 0)) : ∃ v, binA .and (.int .u8 (b.toNat : Int)) (.int .u8 16) = some v ∧ k v := zAnd16 (by rw [if_neg (by simp [hb])]; exact h)
theorem strip_if : (if bit16 b = true then (b.toNat : Int) - 16 else b.toNat) = stripB b := by unfold stripB; cases bit16 b <;> rfl
theorem zNotB (h : k (.int .u8 (stripB b))) : ∃ v, binA .andNot (.int .u8 (b.toNat : Int)) (.int .u8 16) = some v ∧ k v := zNot16 (by rw [strip_if]; exact h)
end
@[simp] theorem pureLL_cut (b : List UInt8) (i n : Nat) : pureLL (((byteCells b).drop i).take n) = true := by
  rw [show byteCells b = b.map encY from rfl, ← List.map_drop, ← List.map_take]
  exact pureLL_bytes _
theorem slice_eq (b : List UInt8) (i n m : Nat) (h : m = i + n) : ((byteCells b).drop i).take (m - i) = byteCells ((b.drop i).take n) := by
  subst h
  simp [byteCells, Nat.add_sub_cancel_left]
end Go.AM.IR
set_option maxHeartbeats 4000000
set_option maxRecDepth 20000
namespace Go.AM.IR
def capsB (l : List Cap) : List UInt8 := l.flatMap fun c => UInt8.ofNat c.code.toNat :: UInt8.ofNat c.value.length :: c.value
theorem capsB_length : ∀ l : List Cap, ((capsB l).length : Int) = capT l
  | [] => rfl
  | c :: r => by
    have := capsB_length r
    simp only [capsB, List.flatMap_cons, List.length_append, List.length_cons, capT] at *
    omega
def shortI (as : Int) : Int := if as > 65535 then 23456 else as
def capTail (l : List Cap) : List UInt8 := if capsB l = [] then [0] else UInt8.ofNat ((capsB l).length + 2) :: 2 :: UInt8.ofNat (capsB l).length :: capsB l
def openB (m : PMsg) : List UInt8 := UInt8.ofNat m.version.toNat :: (be 2 (shortI m.as).toNat ++ (be 2 m.hold.toNat ++ (be 4 m.router.toNat ++ capTail m.caps)))
def attsB (m : PMsg) (wide : Bool) : List UInt8 := if m.reach = [] then [] else encB m.attrs wide
def updB (m : PMsg) (wide : Bool) : List UInt8 := be 2 (packP m.withdrawn).length ++ (packP m.withdrawn ++ (be 2 (attsB m wide).length ++ (attsB m wide ++ packP m.reach)))
def noteB (m : PMsg) : List UInt8 := UInt8.ofNat m.code.toNat :: UInt8.ofNat m.sub.toNat :: m.data
def bodyB (m : PMsg) (wide : Bool) : List UInt8 := if m.kind = 1 then openB m else if m.kind = 2 then updB m wide else if m.kind = 3 then noteB m else if m.kind = 5 then [0, 1, 0, 1] else []
def headB (n : Nat) (k : Nat) : List UInt8 := List.replicate 16 255 ++ (be 2 n ++ [UInt8.ofNat k])
def msgB (m : PMsg) (wide : Bool) : List UInt8 := headB (19 + (bodyB m wide).length) m.kind.toNat ++ bodyB m wide
def badM (m : PMsg) (wide : Bool) : Prop := m.kind = 2 ∧ m.reach ≠ [] ∧ encBad m.attrs wide = true
instance (m : PMsg) (wide : Bool) : Decidable (badM m wide) := by unfold badM; infer_instance
def encE (m : PMsg) (wide : Bool) : Int := if checkM m ≠ 0 then checkM m else if badM m wide then 5 else if 19 + (bodyB m wide).length > 65535 then 4 else 0
def encMR (m : PMsg) (wide : Bool) : Ret := if encE m wide = 0 then ⟨.tup [.vs 0 0 (msgB m wide).length, .int .i64 0], [(false, .vec 1 (byteCells (msgB m wide)))]⟩ else ⟨.tup [.con (.slice none 0 0), .int .i64 (encE m wide)], []⟩
theorem capTail_length {m : PMsg} (h : OpenOk m) : (capTail m.caps).length ≤ 256 := by
  have h1 := capsB_length m.caps
  have h2 := h.caps.2
  unfold capTail
  split
  · simp
  · simp only [List.length_cons]; omega
theorem openB_length {m : PMsg} (h : OpenOk m) : (openB m).length ≤ 265 ∧ 10 ≤ (openB m).length := by
  have h1 := capTail_length h
  have h2 : 1 ≤ (capTail m.caps).length := by unfold capTail; split <;> simp
  unfold openB
  simp only [List.length_cons, List.length_append, be_length]
  omega
theorem encE_zero {m : PMsg} {wide : Bool} (h : encE m wide = 0) : checkM m = 0 ∧ ¬ badM m wide ∧ 19 + (bodyB m wide).length ≤ 65535 := by
  unfold encE at h
  by_cases h1 : checkM m = 0
  · rw [if_neg (by simp [h1])] at h
    split at h
    · cases h
    · rename_i h2
      split at h
      · cases h
      · exact ⟨h1, h2, by omega⟩
  · rw [if_pos h1] at h; exact absurd h h1
theorem zero_encE {m : PMsg} {wide : Bool} (h1 : checkM m = 0) (h2 : ¬ badM m wide) (h3 : 19 + (bodyB m wide).length ≤ 65535) : encE m wide = 0 := by
  unfold encE
  rw [if_neg (by simp [h1]), if_neg h2, if_neg (by omega)]
theorem headB_length (n k : Nat) : (headB n k).length = 19 := by simp [headB]
def noteM (c s : Int) (d : List UInt8) : PMsg := { zeroM with kind := 3, code := c, sub := s, data := d }
def capF : Nat → List UInt8 → Option (List Cap)
  | _, [] => some []
  | 0, _ :: _ => none
  | _ + 1, [_] => none
  | f + 1, c :: n :: r => if r.length < n.toNat then none else (capF f (r.drop n.toNat)).map (⟨(c.toNat : Int), r.take n.toNat⟩ :: ·)
def capsQ (s : Nat) : List UInt8 → Option (List Cap)
  | t :: u :: q => if t.toNat = 2 ∧ u.toNat + 2 = s ∧ q ≠ [] then capF q.length q else none
  | _ => none
def capsD : List UInt8 → Option (List Cap)
  | [] => none
  | s :: r => if r.length ≠ s.toNat then none else if s.toNat = 0 then some [] else capsQ s.toNat r
def as4 : List Cap → Option Int
  | [] => none
  | c :: r => if c.code = 65 ∧ c.value.length = 4 then some (rd c.value : Nat) else as4 r
def twoD (b : List UInt8) : Int := (rd ((b.drop 1).take 2) : Nat)
def openM (b : List UInt8) (l : List Cap) : PMsg := { zeroM with kind := 1, version := 4, as := (as4 l).getD (twoD b), hold := (rd ((b.drop 3).take 2) : Nat), router := (rd ((b.drop 5).take 4) : Nat), caps := l }
def subO (m : PMsg) (e : Int) : Int := if m.as < 1 then 2 else if e = 21 then 6 else if m.router = 0 then 3 else 4
def chkO (m : PMsg) : PMsg × PMsg × Int := if checkM m = 0 then (m, zeroM, 0) else (zeroM, noteM 2 (subO m (checkM m)) [], checkM m)
def decO1 (b : List UInt8) : Option (List Cap) → PMsg × PMsg × Int
  | none => (zeroM, noteM 2 4 [], 2)
  | some l => if twoD b ≠ shortI ((as4 l).getD (twoD b)) then (zeroM, noteM 2 2 [], 14) else chkO (openM b l)
def decO (b : List UInt8) : PMsg × PMsg × Int := if rd (b.take 1) ≠ 4 then (zeroM, noteM 2 1 [0, 4], 12) else decO1 b (capsD (b.drop 9))
def updM (w x : List Pfx) (a : Attrs) : PMsg := { zeroM with kind := 2, withdrawn := w, attrs := a, reach := x }
def chkU (m : PMsg) : PMsg × PMsg × Int := if checkM m = 0 then (m, zeroM, 0) else (zeroM, noteM 3 10 [], checkM m)
def decU2 (wide : Bool) (a : List UInt8) (w x : List Pfx) : PMsg × PMsg × Int :=
  if a = [] ∧ x = [] then chkU (updM w x zeroA) else
  if (decD (wd wide) a).1 = 6 then (zeroM, noteM 3 3 [], 6) else if (decD (wd wide) a).1 ≠ 0 then (zeroM, noteM 3 1 [], (decD (wd wide) a).1) else
  if x = [] then (zeroM, noteM 3 1 [], 2) else chkU (updM w x (decD (wd wide) a).2)
def decU1 (wide : Bool) (a : List UInt8) : Option (List Pfx) → Option (List Pfx) → PMsg × PMsg × Int
  | some w, some x => decU2 wide a w x
  | _, _ => (zeroM, noteM 3 10 [], 2)
def decU3 (wide : Bool) (g r : List UInt8) (n : Nat) : PMsg × PMsg × Int :=
  if r.length < n then (zeroM, noteM 3 1 [], 2) else decU1 wide (r.take n) (unP g.length g) (unP (r.drop n).length (r.drop n))
def decU (wide : Bool) (b : List UInt8) : PMsg × PMsg × Int :=
  if b.length < 4 + rd (b.take 2) then (zeroM, noteM 3 1 [], 2) else
  decU3 wide ((b.drop 2).take (rd (b.take 2))) ((b.drop 2).drop (rd (b.take 2) + 2)) (rd (((b.drop 2).drop (rd (b.take 2))).take 2))
def badLen (k n : Int) : Bool := decide ((k = 1 ∧ n < 29) ∨ (k = 2 ∧ n < 23) ∨ (k = 3 ∧ n < 21) ∨ (k = 4 ∧ n ≠ 19) ∨ (k = 5 ∧ n ≠ 23))
def noteD (b : List UInt8) : PMsg := noteM (rd (b.take 1) : Nat) (rd ((b.drop 1).take 1) : Nat) (b.drop 2)
def decB (wide : Bool) (k : Int) (h b : List UInt8) : PMsg × PMsg × Int :=
  if k = 1 then decO b else if k = 2 then decU wide b else
  if k = 3 then (if checkM (noteD b) = 0 then (noteD b, zeroM, 0) else (zeroM, noteM 1 2 h, checkM (noteD b))) else
  if k = 5 ∧ b ≠ [0, 1, 0, 1] then (zeroM, noteM 1 2 h, 2) else ({ zeroM with kind := k }, zeroM, 0)
def finM (n : Int) (r : PMsg × PMsg × Int) : PMsg × Int × PMsg × Int := if r.2.2 = 0 then (r.1, n, zeroM, 0) else (zeroM, 0, r.2.1, r.2.2)
def lenD (b : List UInt8) : Nat := rd ((b.drop 16).take 2)
def kindD (b : List UInt8) : Nat := rd ((b.drop 18).take 1)
def decM (wide : Bool) (b : List UInt8) : PMsg × Int × PMsg × Int :=
  if b.length < 19 then (zeroM, 0, zeroM, 3) else
  if (b.take 16).any (fun c => c != 255) = true then (zeroM, 0, noteM 1 1 [], 2) else
  if lenD b < 19 then (zeroM, 0, noteM 1 2 ((b.drop 16).take 2), 2) else
  if kindD b < 1 ∨ kindD b > 5 then (zeroM, 0, noteM 1 3 ((b.drop 18).take 1), 15) else
  if badLen (kindD b) (lenD b) = true then (zeroM, 0, noteM 1 2 ((b.drop 16).take 2), 2) else
  if b.length < lenD b then (zeroM, 0, zeroM, 3) else
  finM (lenD b) (decB wide (kindD b) ((b.drop 16).take 2) ((b.take (lenD b)).drop 19))
def decMR (x : PMsg × Int × PMsg × Int) : Ret := ⟨.tup [.agg x.1.enc, .int .i64 x.2.1, .agg x.2.2.1.enc, .int .i64 x.2.2.2], []⟩
end Go.AM.IR
set_option maxHeartbeats 4000000
set_option maxRecDepth 20000
namespace Go.AM.IR
theorem or16' (k : Int) (h0 : 0 ≤ k) : (flagS k ||| 16 : UInt8).toNat = (flagS k).toNat + 16 ∧ bit16 (flagS k) = false ∧ bit16 (flagS k ||| 16) = true := by
  by_cases h : k > 10
  · rw [show flagS k = 224 from by simp [flagS, h]]; decide
  · have h2 : k = 0 ∨ k = 1 ∨ k = 2 ∨ k = 3 ∨ k = 4 ∨ k = 5 ∨ k = 6 ∨ k = 7 ∨ k = 8 ∨ k = 9 ∨ k = 10 := by omega
    rcases h2 with rfl | rfl | rfl | rfl | rfl | rfl | rfl | rfl | rfl | rfl | rfl <;> decide
theorem att_put {b : List UInt8} {t : Att} (h : attD b = some t) (hb : ¬ badHead t) : b = putB (t.k.toNat : Int) t.v ++ t.rest ∧ t.v.length ≤ 65535 := by
  unfold attD at h
  split at h
  · rename_i c k n r
    obtain ⟨o1, o2, o3⟩ := or16' (k.toNat : Int) (by omega)
    have hn := n.toNat_lt
    cases hbit : bit16 c
    · rw [hbit, cond_false] at h
      split at h
      · cases h
      · rename_i hl
        cases h
        simp only [badHead, Bool.false_eq_true, false_and, or_false, Decidable.not_not, stripB, hbit, cond_false] at hb
        have hc : c = flagS (k.toNat : Int) := UInt8.toNat_inj.1 (by omega)
        have hv : (r.take n.toNat).length = n.toNat := by simp; omega
        refine ⟨?_, by simp only; omega⟩
        unfold putB
        rw [if_neg (by simp only [hv]; omega)]
        simp only [hv, hc, Int.toNat_natCast]
        simp
    · rw [hbit, cond_true] at h
      split at h
      · rename_i m r'
        have hm := m.toNat_lt
        split at h
        · cases h
        · rename_i hl
          cases h
          have hv : (r'.take (n.toNat * 256 + m.toNat)).length = n.toNat * 256 + m.toNat := by simp; omega
          simp only [badHead, true_and, not_or, Decidable.not_not, stripB, hbit, cond_true, hv] at hb
          have hc : c = flagS (k.toNat : Int) ||| 16 := UInt8.toNat_inj.1 (by omega)
          refine ⟨?_, by simp only; omega⟩
          unfold putB
          rw [if_pos (by simp only [hv]; omega)]
          have hbe : be 2 (n.toNat * 256 + m.toNat) = [n, m] := by
            have := be_rd [n, m]
            simpa [rd] using this
          simp only [hv, hc, Int.toNat_natCast, hbe]
          simp
      · cases h
  · cases h
end Go.AM.IR
set_option maxHeartbeats 4000000
set_option maxRecDepth 20000
namespace Go.AM.IR
theorem firstS_zero : ∀ l : List Int, firstS l = 0 → ∀ x ∈ l, x = 0
  | [], _, _, h => by simp at h
  | y :: r, h, x, hx => by
    simp only [firstS] at h
    split at h
    · rename_i e
      rcases List.mem_cons.1 hx with rfl | hx
      · exact e
      · exact firstS_zero r h x hx
    · rename_i e; exact absurd h e
theorem optE_zero {has : Bool} {n low : Int} (h : optE has n low = 0) : (has = true → low ≤ n ∧ n ≤ 4294967295) ∧ (has = false → n = 0) := by
  unfold optE at h
  cases has
  · simp at h ⊢; exact h
  · simp at h ⊢; omega
theorem rngS_all : ∀ l : List Int, rngS l = true → ∀ x ∈ l, 1 ≤ x ∧ x ≤ 4294967295
  | [], _, _, h => by simp at h
  | y :: r, h, x, hx => by
    simp [rngS] at h
    rcases List.mem_cons.1 hx with rfl | hx
    · exact h.1
    · exact rngS_all r h.2 x hx
theorem segE_zero {s : Seg} (h : segE s = 0) : (1 ≤ s.kind ∧ s.kind ≤ 4) ∧ (1 ≤ s.as.length ∧ s.as.length ≤ 255) ∧ ∀ x ∈ s.as, 1 ≤ x ∧ x ≤ 4294967295 := by
  unfold segE at h
  split at h
  · omega
  · split at h
    · omega
    · split at h
      · omega
      · split at h
        · omega
        · rename_i h1 h2 h3 h4
          exact ⟨by omega, by omega, rngS_all _ (by simpa using h4)⟩
theorem pathC_zero : ∀ (l : List Seg) (pl : Bool) (p : Option Seg), pathC pl p l = 0 → ∀ s ∈ l, segE s = 0
  | [], _, _, _, _, h => by simp at h
  | x :: r, pl, p, h, s, hs => by
    rw [pathC] at h
    split at h
    · rename_i h1; exact absurd h h1
    · rename_i h1
      split at h
      · omega
      · split at h
        · omega
        · rcases List.mem_cons.1 hs with rfl | hs
          · simpa using h1
          · exact pathC_zero r _ _ h s hs
theorem unkC_zero : ∀ (l : List TLV) (p : Option Int), unkC p l = 0 → ∀ t ∈ l, (11 ≤ t.kind ∧ t.kind ≤ 255) ∧ t.value.length ≤ 255
  | [], _, _, _, h => by simp at h
  | x :: r, none, h, t, ht => by
    rw [unkC] at h
    split at h
    · omega
    · split at h
      · omega
      · rcases List.mem_cons.1 ht with rfl | ht
        · omega
        · exact unkC_zero r _ h t ht
  | x :: r, some q, h, t, ht => by
    rw [unkC] at h
    split at h
    · omega
    · split at h
      · omega
      · split at h
        · omega
        · rcases List.mem_cons.1 ht with rfl | ht
          · omega
          · exact unkC_zero r _ h t ht
structure ValidA (a : Attrs) : Prop where
  origin : 0 ≤ a.origin ∧ a.origin ≤ 2
  pathL : a.path.length ≤ 64
  segs : ∀ s ∈ a.path, (1 ≤ s.kind ∧ s.kind ≤ 4) ∧ (1 ≤ s.as.length ∧ s.as.length ≤ 255) ∧ ∀ x ∈ s.as, 1 ≤ x ∧ x ≤ 4294967295
  nextHop : a.nextHop ≠ 0
  med : (a.hasMED = true → 0 ≤ a.med ∧ a.med ≤ 4294967295) ∧ (a.hasMED = false → a.med = 0)
  pref : (a.hasPref = true → 0 ≤ a.pref ∧ a.pref ≤ 4294967295) ∧ (a.hasPref = false → a.pref = 0)
  aggr : (a.hasAggr = true → 1 ≤ a.aggrAS ∧ a.aggrAS ≤ 4294967295) ∧ (a.hasAggr = false → a.aggrAS = 0)
  aggrAddr : a.hasAggr = false → a.aggrAddr = 0
  comms : a.comms.length ≤ 255
  orig : a.hasOrig = (a.orig != 0)
  clusters : a.clusters.length ≤ 64
  unknownL : a.unknown.length ≤ 64
  unknown : ∀ t ∈ a.unknown, (11 ≤ t.kind ∧ t.kind ≤ 255) ∧ t.value.length ≤ 255
theorem valid_of {a : Attrs} (h : checkS a = 0) : ValidA a := by
  have z := firstS_zero (checkL a) h
  simp only [checkL, List.mem_cons, List.not_mem_nil, or_false, forall_eq_or_imp, forall_eq] at z
  obtain ⟨z1, z2, z3, z4, z5, z6, z7, z8, z9, z10, z11⟩ := z
  have hp : a.path.length ≤ 64 ∧ pathC false none a.path = 0 := by
    unfold pathE at z2
    split at z2
    · omega
    · exact ⟨by omega, z2⟩
  have hu : a.unknown.length ≤ 64 ∧ unkC none a.unknown = 0 := by
    unfold unknownE at z11
    split at z11
    · omega
    · exact ⟨by omega, z11⟩
  refine ⟨?_, hp.1, fun s hs => segE_zero (pathC_zero _ _ _ hp.2 s hs), ?_, optE_zero z4, optE_zero z5, optE_zero z6, ?_, ?_, ?_, ?_, hu.1, unkC_zero _ _ hu.2⟩
  · split at z1 <;> omega
  · intro e; rw [if_pos e] at z3; omega
  · intro e
    split at z7
    · omega
    · rename_i hh
      simp only [e, true_and, ne_eq, Decidable.not_not] at hh
      exact hh
  · unfold commE at z8; split at z8 <;> omega
  · unfold origE at z9
    split at z9
    · omega
    · rename_i hh
      by_cases e : a.orig = 0
      · cases ho : a.hasOrig <;> simp_all
      · cases ho : a.hasOrig <;> simp_all
  · unfold clustersE at z10; split at z10 <;> omega
theorem encV_of {a : Attrs} (ha : a.ok) (h : checkS a = 0) : EncV a := by
  have v := valid_of h
  refine ⟨⟨v.origin.1, by have := v.origin.2; omega⟩, fun s hs => ?_, by have := v.pathL; omega, ha.nextHop, ?_, ?_, ?_, ha.aggrAddr, ha.comms, v.comms, ha.orig, ha.clusters, v.clusters, fun t ht => ?_, v.unknownL⟩
  · obtain ⟨h1, h2, h3⟩ := v.segs s hs
    exact ⟨by omega, by omega, fun x hx => by have := h3 x hx; omega⟩
  · cases hh : a.hasMED
    · have := v.med.2 hh; omega
    · exact v.med.1 hh
  · cases hh : a.hasPref
    · have := v.pref.2 hh; omega
    · exact v.pref.1 hh
  · cases hh : a.hasAggr
    · have := v.aggr.2 hh; omega
    · have := v.aggr.1 hh; omega
  · have := v.unknown t ht; omega
end Go.AM.IR
set_option maxHeartbeats 4000000
set_option maxRecDepth 20000
namespace Go.AM.IR
theorem putB_le (k : Int) (v : List UInt8) : (putB k v).length ≤ v.length + 4 := by
  unfold putB; split <;> simp <;> omega
theorem unkB_le : ∀ l : List TLV, (∀ t ∈ l, t.value.length ≤ 255) → (l.flatMap fun t => putB t.kind t.value).length ≤ 259 * l.length
  | [], _ => by simp
  | x :: r, h => by
    have h1 := unkB_le r fun t ht => h t (by simp [ht])
    have h2 := h x (by simp)
    have h3 := putB_le x.kind x.value
    simp only [List.flatMap_cons, List.length_append, List.length_cons]
    omega
theorem ite_len {c : Prop} [Decidable c] {x : List UInt8} : (if c then x else []).length ≤ x.length := by split <;> simp
theorem encB_le {a : Attrs} (v : ValidA a) (wide : Bool) : (encB a wide).length < 2 ^ 20 := by
  have hw := wd_le wide
  have h3 := putB_le 1 [UInt8.ofNat a.origin.toNat]
  have h4 := putB_le 2 (pathB (wd wide) a.path)
  have h4' := pathL_aux (wd wide) hw a.path fun s hs => (v.segs s hs).2.1.2
  have h4'' := v.pathL
  have h5 := putB_le 3 (be 4 a.nextHop.toNat)
  have h6 := Nat.le_trans (ite_len (c := a.hasMED = true)) (putB_le 4 (be 4 a.med.toNat))
  have h7 := Nat.le_trans (ite_len (c := a.hasPref = true)) (putB_le 5 (be 4 a.pref.toNat))
  have h8 := Nat.le_trans (ite_len (c := a.atomic = true)) (putB_le 6 [])
  have h9 := Nat.le_trans (ite_len (c := a.hasAggr = true)) (putB_le 7 (be (wd wide) a.aggrAS.toNat ++ be 4 a.aggrAddr.toNat))
  have h10 := Nat.le_trans (ite_len (c := a.comms.length > 0)) (putB_le 8 (wordsB a.comms))
  have h11 := Nat.le_trans (ite_len (c := a.hasOrig = true)) (putB_le 9 (be 4 a.orig.toNat))
  have h12 := Nat.le_trans (ite_len (c := a.clusters.length > 0)) (putB_le 10 (wordsB a.clusters))
  have h13 := unkB_le a.unknown fun t ht => (v.unknown t ht).2
  have hu := v.unknownL
  have hc := v.comms
  have hcl := v.clusters
  simp only [encB, r3, r4, r5, r6, r7, r8, r9, r10, r11, r12, r13, c3, c4, c5, c6, c7, c8, c9, c10, c11, c12, c13, List.length_append] at *
  simp only [wordsB, fm_length, be_length, List.length_cons, List.length_nil] at *
  omega
theorem badN_eq (wide bad : Bool) (n : Int) : badN wide bad n = (bad || (!wide && decide (n > 65535))) := rfl
theorem badL_eq (wide : Bool) : ∀ (l : List Int) (bad : Bool), badL wide bad l = (bad || (!wide && l.any fun n => decide (n > 65535)))
  | [], bad => by simp [badL]
  | x :: r, bad => by
    have := badL_eq wide r (badN wide bad x)
    simp only [badL, List.foldl_cons, badN_eq] at this ⊢
    rw [this]
    cases bad <;> cases wide <;> simp
theorem badP_eq (wide : Bool) : ∀ (p : List Seg) (bad : Bool), badP wide bad p = (bad || (!wide && (flatS p).any fun n => decide (n > 65535)))
  | [], bad => by simp [badP, flatS]
  | x :: r, bad => by
    have := badP_eq wide r (badL wide bad x.as)
    simp only [badP, List.foldl_cons, flatS, List.flatMap_cons, List.any_append] at this ⊢
    rw [this, badL_eq]
    cases bad <;> cases wide <;> simp
theorem encBad_eq {a : Attrs} (v : ValidA a) (wide : Bool) : encBad a wide = (!wide && (flatS a.path ++ [a.aggrAS]).any fun n => decide (n > 65535)) := by
  unfold encBad bdA
  cases h : a.hasAggr
  · rw [if_neg (by simp), badP_eq, v.aggr.2 h]; simp
  · rw [if_pos rfl, badN_eq, badP_eq]; cases wide <;> simp
def encR (a : Attrs) (wide : Bool) : Ret := if checkS a = 0 then encRet (encBad a wide) (encB a wide) else ⟨.tup [.con (.slice none 0 0), .int .i64 (checkS a)], []⟩
theorem encode67 (a : Attrs) (wide : Bool) (hb : AB a) (ha : a.ok) : Gives G 67 [.agg a.enc, .bool wide] [] (encR a wide) :=
  encode_gives67 a wide (sizeS_le hb) fun h => ⟨encV_of ha h, by have := encB_le (valid_of h) wide; omega⟩
end Go.AM.IR
set_option maxHeartbeats 4000000
set_option maxRecDepth 20000
namespace Go.AM.IR
structure Rng (w : Nat) (a : Attrs) : Prop where
  ok : a.ok
  path : ∀ s ∈ a.path, ∀ x ∈ s.as, 0 ≤ x ∧ x < ((256 ^ w : Nat) : Int)
  aggr : a.aggrAS < ((256 ^ w : Nat) : Int)
theorem okI_small {x : Int} (h : 0 ≤ x ∧ x ≤ 4294967295) : okI x := by unfold okI; omega
theorem nums_rng {w n : Nat} {b : List UInt8} : ∀ x ∈ numsD w n b, 0 ≤ x ∧ x < ((256 ^ w : Nat) : Int) := by
  intro x hx
  obtain ⟨i, _, rfl⟩ := List.mem_map.1 hx
  have := rd_le (l := (b.drop (i * w)).take w) (n := w) (by simp; omega)
  omega
theorem segs_rng {w : Nat} (hw : w ≤ 4) : ∀ (f : Nat) (b : List UInt8) (p : List Seg), segsF w f b = some p → ∀ s ∈ p, s.ok ∧ ∀ x ∈ s.as, 0 ≤ x ∧ x < ((256 ^ w : Nat) : Int)
  | f, [], p, h => by
    cases f <;> (simp only [segsF, Option.some.injEq] at h; subst h; simp)
  | 0, _ :: _, p, h => by simp [segsF] at h
  | f + 1, [_], p, h => by simp [segsF] at h
  | f + 1, k :: n :: r, p, h => by
    simp only [segsF] at h
    split at h
    · cases h
    · obtain ⟨l, h1, rfl⟩ := Option.map_eq_some_iff.1 h
      intro s hs
      have hk := k.toNat_lt
      have hp : (256 : Nat) ^ w ≤ 256 ^ 4 := Nat.pow_le_pow_right (by omega) hw
      rcases List.mem_cons.1 hs with rfl | hs
      · exact ⟨⟨okI_small (by simp only; omega), fun x hx => okI_small (by have := nums_rng x hx; omega)⟩, nums_rng⟩
      · exact segs_rng hw f _ l h1 s hs
theorem setA_rng {w k : Nat} (hw : w ≤ 4) {v : List UInt8} {a a' : Attrs} (hk : k ≤ 255) (h : Rng w a) (e : setA w k v a = some a') : Rng w a' := by
  obtain ⟨ho, hp, hg⟩ := h
  obtain ⟨o1, o2, o3, o4, o5, o6, o7, o8, o9, o10, o11⟩ := ho
  have hpw : (256 : Nat) ^ w ≤ 256 ^ 4 := Nat.pow_le_pow_right (by omega) hw
  have hwd : ∀ x ∈ wordsD v, okU x := fun x hx => by have := nums_rng x hx; unfold okU; omega
  have h4 : v.length = 4 → okU (rd v) := fun hv => by have := rd_u32 (v := v) (by omega); unfold okU; omega
  have h4i : v.length = 4 → okI (rd v) := fun hv => by have := h4 hv; unfold okU at this; unfold okI; omega
  by_cases ho : k = 0 ∨ 11 ≤ k
  · rw [setA_other ho] at e
    cases e
    refine ⟨⟨o1, o2, o3, o4, o5, o6, o7, o8, o9, o10, fun t ht => ?_⟩, hp, hg⟩
    rcases List.mem_append.1 ht with ht | ht
    · exact o11 t ht
    · simp only [List.mem_singleton] at ht; subst ht; exact ⟨okI_small (by simp only; omega)⟩
  · have hkk : k = 1 ∨ k = 2 ∨ k = 3 ∨ k = 4 ∨ k = 5 ∨ k = 6 ∨ k = 7 ∨ k = 8 ∨ k = 9 ∨ k = 10 := by omega
    rcases hkk with rfl | rfl | rfl | rfl | rfl | rfl | rfl | rfl | rfl | rfl
    · match v, e with
      | [x], e =>
        simp only [setA] at e; cases e
        have := x.toNat_lt
        exact ⟨⟨okI_small (by simp only; omega), o2, o3, o4, o5, o6, o7, o8, o9, o10, o11⟩, hp, hg⟩
    · simp only [setA] at e
      obtain ⟨p, q, rfl⟩ := Option.map_eq_some_iff.1 e
      have hr := segs_rng hw _ _ _ q
      exact ⟨⟨o1, fun s hs => (hr s hs).1, o3, o4, o5, o6, o7, o8, o9, o10, o11⟩, fun s hs => (hr s hs).2, hg⟩
    · simp only [setA] at e
      split at e <;> cases e
      exact ⟨⟨o1, o2, h4 (by assumption), o4, o5, o6, o7, o8, o9, o10, o11⟩, hp, hg⟩
    · simp only [setA] at e
      split at e <;> cases e
      exact ⟨⟨o1, o2, o3, h4i (by assumption), o5, o6, o7, o8, o9, o10, o11⟩, hp, hg⟩
    · simp only [setA] at e
      split at e <;> cases e
      exact ⟨⟨o1, o2, o3, o4, h4i (by assumption), o6, o7, o8, o9, o10, o11⟩, hp, hg⟩
    · simp only [setA] at e
      split at e <;> cases e
      exact ⟨⟨o1, o2, o3, o4, o5, o6, o7, o8, o9, o10, o11⟩, hp, hg⟩
    · simp only [setA] at e
      split at e <;> cases e
      have q1 := rd_le (l := v.take w) (n := w) (by simp; omega)
      have q2 := rd_u32 (v := v.drop w) (by simp; omega)
      exact ⟨⟨o1, o2, o3, o4, o5, okI_small (by simp only; omega), by unfold okU; simp only; omega, o8, o9, o10, o11⟩, hp, by simp only; omega⟩
    · simp only [setA] at e
      split at e <;> cases e
      exact ⟨⟨o1, o2, o3, o4, o5, o6, o7, hwd, o9, o10, o11⟩, hp, hg⟩
    · simp only [setA] at e
      split at e <;> cases e
      exact ⟨⟨o1, o2, o3, o4, o5, o6, o7, o8, h4 (by assumption), o10, o11⟩, hp, hg⟩
    · simp only [setA] at e
      split at e <;> cases e
      exact ⟨⟨o1, o2, o3, o4, o5, o6, o7, o8, o9, hwd, o11⟩, hp, hg⟩
theorem dec_rng {w N : Nat} (hw : w ≤ 4) {A : Attrs} {e : Int} : ∀ (f : Nat) (b : List UInt8) (last : Int) (nd : Nat) (a : Attrs), decF w f b last nd a = (e, A) → Rng w a → DB N a → a.unknown.length + b.length ≤ N → Rng w zeroA → DB N zeroA → Rng w A ∧ DB N A ∧ A.unknown.length ≤ N
  | f, [], last, nd, a, h, h1, h2, h3, z1, z2 => by
    rw [show decF w f [] last nd a = finD nd a from by cases f <;> rfl] at h
    simp only [List.length_nil] at h3
    unfold finD at h
    split at h
    · cases h; exact ⟨z1, z2, by simp [zeroA]⟩
    · split at h
      · cases h; exact ⟨h1, h2, by omega⟩
      · cases h; exact ⟨z1, z2, by simp [zeroA]⟩
  | 0, c :: r, last, nd, a, h, h1, h2, h3, z1, z2 => by simp only [decF] at h; cases h; exact ⟨z1, z2, by simp [zeroA]⟩
  | f + 1, c :: r, last, nd, a, h, h1, h2, h3, z1, z2 => by
    cases ha : attD (c :: r) with
    | none => rw [decF_none ha] at h; cases h; exact ⟨z1, z2, by simp [zeroA]⟩
    | some t =>
      rw [decF_some ha] at h
      split at h
      · cases h; exact ⟨z1, z2, by simp [zeroA]⟩
      · split at h
        · cases h; exact ⟨z1, z2, by simp [zeroA]⟩
        · rename_i hb
          cases hs : setA w t.k.toNat t.v a with
          | none => simp only [hs] at h; cases h; exact ⟨z1, z2, by simp [zeroA]⟩
          | some a' =>
            simp only [hs] at h
            obtain ⟨p1, p2⟩ := att_put ha hb
            have hl := congrArg List.length p1
            have hpl : t.v.length < (putB (t.k.toNat : Int) t.v).length := by unfold putB; split <;> simp <;> omega
            rw [List.length_append] at hl
            have hk := t.k.toNat_lt
            obtain ⟨d1, d2⟩ := setA_DB h2 (by omega) hs
            exact dec_rng hw f t.rest _ _ a' h (setA_rng hw (by omega) h1 hs) d1 (by omega) z1 z2
theorem zero_rng (w : Nat) : Rng w zeroA := ⟨⟨by simp [okI, zeroA], by simp [zeroA], by simp [okU, zeroA], by simp [okI, zeroA], by simp [okI, zeroA], by simp [okI, zeroA], by simp [okU, zeroA], by simp [zeroA], by simp [okU, zeroA], by simp [zeroA], by simp [zeroA]⟩, by simp [zeroA], by simp only [zeroA]; have := Nat.pow_pos (n := w) (show 0 < 256 by omega); omega⟩
theorem zero_DB (N : Nat) : DB N zeroA := ⟨by simp [zeroA], by simp [zeroA], by simp [zeroA], by simp [zeroA], by simp [zeroA]⟩
theorem flat_le255 : ∀ l : List Seg, (∀ s ∈ l, s.as.length ≤ 255) → (flatS l).length ≤ 255 * l.length
  | [], _ => by simp [flatS]
  | s :: r, h => by
    have h1 := flat_le255 r fun t ht => h t (by simp [ht])
    have h2 := h s (by simp)
    unfold flatS at h1 ⊢
    simp only [List.flatMap_cons, List.length_append, List.length_cons]
    omega
theorem unkS_leN {N : Nat} : ∀ l : List TLV, (∀ t ∈ l, t.value.length ≤ N) → unkS l ≤ ((N * l.length : Nat) : Int)
  | [], _ => by simp [unkS]
  | t :: r, h => by
    have h1 := unkS_leN r fun t ht => h t (by simp [ht])
    have h2 := h t (by simp)
    simp only [unkS, List.map_cons, List.sum_cons, List.length_cons, Nat.mul_add] at h1 ⊢
    omega
end Go.AM.IR
set_option maxHeartbeats 4000000
set_option maxRecDepth 20000
namespace Go.AM.IR
theorem nums_back (w : Nat) : ∀ (l : List Int) (r : List UInt8), (∀ x ∈ l, 0 ≤ x ∧ x < ((256 ^ w : Nat) : Int)) → numsD w l.length (asB w l ++ r) = l
  | [], r, _ => rfl
  | x :: l, r, h => by
    have ih := nums_back w l r fun y hy => h y (by simp [hy])
    have hx := h x (by simp)
    unfold numsD at ih ⊢
    rw [List.length_cons, List.range_succ_eq_map, List.map_cons, List.map_map]
    have e : asB w (x :: l) ++ r = be w x.toNat ++ (asB w l ++ r) := by simp [asB]
    rw [e]
    congr 1
    · rw [Nat.zero_mul, List.drop_zero, List.take_append_of_le_length (by simp [be_length]), List.take_of_length_le (by simp [be_length]), rd_be w _ (by omega)]
      omega
    · refine Eq.trans ?_ ih
      apply List.map_congr_left
      intro i hi
      have e2 : (be w x.toNat ++ (asB w l ++ r)).drop (Nat.succ i * w) = (asB w l ++ r).drop (i * w) := by
        rw [Nat.succ_mul, Nat.add_comm (i * w) w, ← List.drop_drop, List.drop_left' (by simp [be_length])]
      simp only [Function.comp, e2]
theorem segs_back (w : Nat) : ∀ (p : List Seg) (f : Nat), (∀ s ∈ p, (0 ≤ s.kind ∧ s.kind ≤ 255) ∧ (1 ≤ s.as.length ∧ s.as.length ≤ 255) ∧ ∀ x ∈ s.as, 0 ≤ x ∧ x < ((256 ^ w : Nat) : Int)) → (pathB w p).length ≤ f → segsF w f (pathB w p) = some p
  | [], f, _, _ => by cases f <;> rfl
  | s :: p, f, h, hf => by
    obtain ⟨h1, h2, h3⟩ := h s (by simp)
    have e : pathB w (s :: p) = UInt8.ofNat s.kind.toNat :: UInt8.ofNat s.as.length :: (asB w s.as ++ pathB w p) := by simp [pathB, segB]
    rw [e] at hf ⊢
    simp only [List.length_cons, List.length_append] at hf
    match f, hf with
    | f + 1, hf =>
      have ih := segs_back w p f (fun t ht => h t (by simp [ht])) (by omega)
      have hl := asB_length w s.as
      have hn : (UInt8.ofNat s.as.length).toNat = s.as.length := by simp; omega
      have hk : ((UInt8.ofNat s.kind.toNat).toNat : Int) = s.kind := by simp; omega
      simp only [segsF]
      rw [hn, hk, if_neg (by rw [List.length_append, hl, Nat.mul_comm]; omega), nums_back w s.as _ h3]
      rw [Nat.mul_comm, ← hl, List.drop_append_of_le_length (Nat.le_refl _), List.drop_of_length_le (Nat.le_refl _), List.nil_append, ih]
      rfl
theorem words_back2 {l : List Int} (h : ∀ x ∈ l, okU x) (hl : 0 < l.length) : wordsOk (wordsB l) = true ∧ wordsD (wordsB l) = l := by
  have hb : (wordsB l).length = 4 * l.length := asB_length 4 l
  refine ⟨by simp [wordsOk]; omega, ?_⟩
  have h2 := nums_back 4 l [] fun x hx => by have := h x hx; unfold okU at this; omega
  unfold wordsD
  rw [hb, Nat.mul_div_cancel_left _ (by omega)]
  rw [List.append_nil] at h2
  exact h2
theorem attD_put {k : Nat} {v rest : List UInt8} (hk : k ≤ 255) (hv : v.length ≤ 65535) : ∃ t : Att, attD (putB (k : Int) v ++ rest) = some t ∧ ¬ badHead t ∧ t.k.toNat = k ∧ t.v = v ∧ t.rest = rest := by
  obtain ⟨o1, o2, o3⟩ := or16' (k : Int) (by omega)
  have hkk : (UInt8.ofNat k).toNat = k := by simp; omega
  unfold putB
  by_cases hlong : v.length > 255
  · rw [if_pos hlong]
    have hb : be 2 v.length = [UInt8.ofNat (v.length / 256), UInt8.ofNat v.length] := by simp [be]
    have hr : (UInt8.ofNat (v.length / 256)).toNat * 256 + (UInt8.ofNat v.length).toNat = v.length := by
      have := rd_be 2 v.length (by omega)
      rw [hb] at this
      simpa [rd] using this
    refine ⟨⟨flagS k ||| 16, UInt8.ofNat k, true, v, rest⟩, ?_, ?_, hkk, rfl, rfl⟩
    · rw [hb]
      simp only [List.cons_append, List.nil_append, Int.toNat_natCast, attD, o3, cond_true, hr]
      rw [if_neg (by simp)]
      simp
    · simp only [badHead, stripB, o3, cond_true, hkk]; omega
  · rw [if_neg hlong]
    have hr : (UInt8.ofNat v.length).toNat = v.length := by simp; omega
    refine ⟨⟨flagS k, UInt8.ofNat k, false, v, rest⟩, ?_, ?_, hkk, rfl, rfl⟩
    · simp only [List.cons_append, Int.toNat_natCast, attD, o2, cond_false, hr]
      rw [if_neg (by simp)]
      simp
    · simp only [badHead, stripB, o2, cond_false, hkk]; simp
theorem attD_cut {k : Nat} {v : List UInt8} (hk : k ≤ 255) (hv : v.length ≤ 65535) : attD (putB (k : Int) v).dropLast = none := by
  obtain ⟨o1, o2, o3⟩ := or16' (k : Int) (by omega)
  unfold putB
  by_cases hlong : v.length > 255
  · rw [if_pos hlong]
    have hb : be 2 v.length = [UInt8.ofNat (v.length / 256), UInt8.ofNat v.length] := by simp [be]
    have hr : (UInt8.ofNat (v.length / 256)).toNat * 256 + (UInt8.ofNat v.length).toNat = v.length := by
      have := rd_be 2 v.length (by omega)
      rw [hb] at this
      simpa [rd] using this
    have hne : v ≠ [] := by intro h; subst h; simp at hlong
    rw [hb]
    simp only [List.cons_append, List.nil_append, Int.toNat_natCast]
    rw [List.dropLast_cons_of_ne_nil (by simp), List.dropLast_cons_of_ne_nil (by simp), List.dropLast_cons_of_ne_nil (by simp), List.dropLast_cons_of_ne_nil hne]
    simp only [attD, o3, cond_true, hr]
    rw [if_pos (by simp; omega)]
  · rw [if_neg hlong]
    have hr : (UInt8.ofNat v.length).toNat = v.length := by simp; omega
    cases v with
    | nil => rfl
    | cons x v =>
      rw [List.dropLast_cons_of_ne_nil (by simp), List.dropLast_cons_of_ne_nil (by simp), List.dropLast_cons_of_ne_nil (by simp)]
      simp only [attD, o2, cond_false, hr]
      rw [if_pos (by simp)]
abbrev Ent := Nat × List UInt8
def flatE (l : List Ent) : List UInt8 := l.flatMap fun e => putB (e.1 : Int) e.2
def foldE (w : Nat) : List Ent → Attrs → Option Attrs
  | [], a => some a
  | e :: r, a => match setA w e.1 e.2 a with
    | none => none
    | some a' => foldE w r a'
def AscE : Int → List Ent → Prop
  | _, [] => True
  | last, e :: r => last < (e.1 : Int) ∧ e.1 ≤ 255 ∧ e.2.length ≤ 65535 ∧ AscE (e.1 : Int) r
def cntE (l : List Ent) : Nat := (l.map fun e => isReq e.1).sum
theorem putB_cons (k : Int) (v : List UInt8) : ∃ x y, putB k v = x :: y ∧ v.length < y.length := by
  unfold putB; split
  · exact ⟨_, _, rfl, by simp; omega⟩
  · exact ⟨_, _, rfl, by simp; omega⟩
theorem fold_dec (w : Nat) {A : Attrs} : ∀ (l : List Ent) (f : Nat) (last : Int) (nd : Nat) (a : Attrs), AscE last l → foldE w l a = some A → (flatE l).length ≤ f → decF w f (flatE l) last nd a = finD (nd + cntE l) A
  | [], f, last, nd, a, _, h, _ => by
    simp only [foldE, Option.some.injEq] at h; subst h
    cases f <;> rfl
  | e :: r, f, last, nd, a, ⟨h1, h2, h3, h4⟩, h, hf => by
    have hfl : flatE (e :: r) = putB (e.1 : Int) e.2 ++ flatE r := by simp [flatE]
    obtain ⟨x, y, hxy, hyl⟩ := putB_cons (e.1 : Int) e.2
    obtain ⟨t, t1, t2, t3, t4, t5⟩ := attD_put (rest := flatE r) h2 h3
    simp only [foldE] at h
    rw [hfl] at hf ⊢
    rw [hxy] at t1 hf ⊢
    simp only [List.cons_append, List.length_cons, List.length_append] at t1 hf ⊢
    match f, hf with
    | f + 1, hf =>
      rw [decF_some t1, if_neg (by rw [t3]; omega), if_neg t2, t3, t4, t5]
      cases hs : setA w e.1 e.2 a with
      | none => rw [hs] at h; cases h
      | some a' =>
        rw [hs] at h
        simp only at h ⊢
        rw [fold_dec w r f _ _ a' h4 h (by omega)]
        simp only [cntE, List.map_cons, List.sum_cons, Nat.add_assoc]
theorem fold_cut (w : Nat) {A : Attrs} : ∀ (l : List Ent) (f : Nat) (last : Int) (nd : Nat) (a : Attrs), l ≠ [] → AscE last l → foldE w l a = some A → (flatE l).length ≤ f + 1 → decF w f (flatE l).dropLast last nd a = (3, zeroA)
  | [], f, last, nd, a, hne, _, _, _ => absurd rfl hne
  | e :: r, f, last, nd, a, _, ⟨h1, h2, h3, h4⟩, h, hf => by
    have hfl : flatE (e :: r) = putB (e.1 : Int) e.2 ++ flatE r := by simp [flatE]
    obtain ⟨x, y, hxy, hyl⟩ := putB_cons (e.1 : Int) e.2
    have hy : y ≠ [] := by intro q; subst q; simp at hyl
    rw [hfl] at hf ⊢
    cases r with
    | nil =>
      have hc := attD_cut (v := e.2) h2 h3
      have e0 : flatE ([] : List Ent) = [] := rfl
      rw [e0, List.append_nil] at hf ⊢
      rw [hxy] at hc hf ⊢
      rw [List.dropLast_cons_of_ne_nil hy] at hc ⊢
      simp only [List.length_cons] at hf
      match f, hf with
      | 0, hf => exact absurd hf (by omega)
      | f + 1, hf => exact decF_none hc
    | cons e2 r =>
      have hne2 : flatE (e2 :: r) ≠ [] := by
        obtain ⟨x2, y2, hxy2, _⟩ := putB_cons (e2.1 : Int) e2.2
        simp [flatE, hxy2]
      rw [List.dropLast_append_of_ne_nil hne2]
      obtain ⟨t, t1, t2, t3, t4, t5⟩ := attD_put (rest := (flatE (e2 :: r)).dropLast) h2 h3
      simp only [foldE] at h
      rw [hxy] at t1 hf ⊢
      simp only [List.cons_append, List.length_cons, List.length_append] at t1 hf ⊢
      match f, hf with
      | 0, hf => exact absurd hf (by omega)
      | f + 1, hf =>
        rw [decF_some t1, if_neg (by rw [t3]; omega), if_neg t2, t3, t4, t5]
        cases hs : setA w e.1 e.2 a with
        | none => rw [hs] at h; cases h
        | some a' =>
          rw [hs] at h
          simp only at h ⊢
          exact fold_cut w (e2 :: r) f _ _ a' (by simp) h4 h (by omega)
def optE1 (c : Bool) (k : Nat) (v : List UInt8) : List Ent := bif c then [(k, v)] else []
theorem foldE_opt {w k : Nat} {c : Bool} {v : List UInt8} {m : List Ent} {a a' : Attrs} (h1 : c = true → setA w k v a = some a') (h0 : c = false → a' = a) : foldE w (optE1 c k v ++ m) a = foldE w m a' := by
  cases c
  · rw [h0 rfl]; rfl
  · simp only [optE1, cond_true, List.cons_append, List.nil_append, foldE]; rw [h1 rfl]
theorem AscE_opt {c : Bool} {k : Nat} {v : List UInt8} {m : List Ent} {last : Int} (h1 : last < (k : Int)) (h2 : k ≤ 255) (h3 : v.length ≤ 65535) (h4 : ∀ last' : Int, last' ≤ k → AscE last' m) : AscE last (optE1 c k v ++ m) := by
  cases c
  · exact h4 last (by omega)
  · exact ⟨h1, h2, h3, h4 _ (by omega)⟩
theorem cntE_opt {c : Bool} {k : Nat} {v : List UInt8} {m : List Ent} (h : 4 ≤ k) : cntE (optE1 c k v ++ m) = cntE m := by
  cases c
  · rfl
  · simp [optE1, cntE, isReq]; omega
theorem flatE_opt {c : Bool} {k : Nat} {v : List UInt8} {m : List Ent} {q : Prop} [Decidable q] (h : c = true ↔ q) : flatE (optE1 c k v ++ m) = (if q then putB (k : Int) v else []) ++ flatE m := by
  cases c
  · rw [if_neg (by simpa using h)]; rfl
  · rw [if_pos (h.1 rfl)]; simp [optE1, flatE]
def unkE (l : List TLV) : List Ent := l.map fun t => (t.kind.toNat, t.value)
theorem unk_fold {w : Nat} : ∀ (l : List TLV) (a : Attrs), (∀ t ∈ l, 11 ≤ t.kind) → foldE w (unkE l) a = some { a with unknown := a.unknown ++ l }
  | [], a, _ => by simp [unkE, foldE]
  | t :: r, a, h => by
    have ht := h t (by simp)
    have ih := unk_fold (w := w) r { a with unknown := a.unknown ++ [t] } fun x hx => h x (by simp [hx])
    simp only [unkE, List.map_cons, foldE] at ih ⊢
    rw [setA_other (.inr (by omega))]
    have : (⟨((t.kind.toNat : Nat) : Int), t.value⟩ : TLV) = t := by rw [show ((t.kind.toNat : Nat) : Int) = t.kind from by omega]
    rw [this]
    simp only
    rw [ih]
    simp
theorem unk_flat : ∀ (l : List TLV), (∀ t ∈ l, 11 ≤ t.kind) → flatE (unkE l) = l.flatMap fun t => putB t.kind t.value
  | [], _ => rfl
  | t :: r, h => by
    have ht := h t (by simp)
    have ih := unk_flat r fun x hx => h x (by simp [hx])
    simp only [flatE, unkE, List.map_cons, List.flatMap_cons] at ih ⊢
    rw [ih, show ((t.kind.toNat : Nat) : Int) = t.kind from by omega]
theorem unk_cnt : ∀ (l : List TLV), (∀ t ∈ l, 11 ≤ t.kind) → cntE (unkE l) = 0
  | [], _ => rfl
  | t :: r, h => by
    have ht := h t (by simp)
    have ih := unk_cnt r fun x hx => h x (by simp [hx])
    simp only [cntE, unkE, List.map_cons, List.sum_cons] at ih ⊢
    rw [ih, isReq, if_neg (by omega)]
theorem unk_asc : ∀ (l : List TLV) (p : Option Int) (last : Int), unkC p l = 0 → (∀ q, p = some q → last ≤ q) → (p = none → last ≤ 10) → AscE last (unkE l)
  | [], _, _, _, _, _ => trivial
  | t :: r, none, last, h, _, h0 => by
    have ht := (unkC_zero _ _ h) t (by simp)
    rw [unkC] at h
    split at h
    · omega
    · split at h
      · omega
      · have := h0 rfl
        refine ⟨by simp only; omega, by simp only; omega, by simp only; omega, ?_⟩
        have := unk_asc r (some t.kind) ((t.kind.toNat : Nat) : Int) h (fun q hq => by cases hq; omega) (fun hq => by cases hq)
        exact this
  | t :: r, some q, last, h, h1, _ => by
    have ht := (unkC_zero _ _ h) t (by simp)
    rw [unkC] at h
    split at h
    · omega
    · split at h
      · omega
      · split at h
        · omega
        · have := h1 q rfl
          refine ⟨by simp only; omega, by simp only; omega, by simp only; omega, ?_⟩
          exact unk_asc r (some t.kind) ((t.kind.toNat : Nat) : Int) h (fun q hq => by cases hq; omega) (fun hq => by cases hq)
end Go.AM.IR
set_option maxHeartbeats 4000000
set_option maxRecDepth 20000
namespace Go.AM.IR
def entsA (w : Nat) (a : Attrs) : List Ent := (1, [UInt8.ofNat a.origin.toNat]) :: (2, pathB w a.path) :: (3, be 4 a.nextHop.toNat) :: (optE1 a.hasMED 4 (be 4 a.med.toNat) ++ (optE1 a.hasPref 5 (be 4 a.pref.toNat) ++ (optE1 a.atomic 6 [] ++ (optE1 a.hasAggr 7 (be w a.aggrAS.toNat ++ be 4 a.aggrAddr.toNat) ++ (optE1 (decide (a.comms.length > 0)) 8 (wordsB a.comms) ++ (optE1 a.hasOrig 9 (be 4 a.orig.toNat) ++ (optE1 (decide (a.clusters.length > 0)) 10 (wordsB a.clusters) ++ unkE a.unknown)))))))
theorem unk_zero {a : Attrs} (h : checkS a = 0) : unkC none a.unknown = 0 := by
  have z := firstS_zero (checkL a) h
  simp only [checkL, List.mem_cons, List.not_mem_nil, or_false, forall_eq_or_imp, forall_eq] at z
  have z11 := z.2.2.2.2.2.2.2.2.2.2
  unfold unknownE at z11
  split at z11
  · omega
  · exact z11
theorem ents_flat {a : Attrs} (h : checkS a = 0) (wide : Bool) : flatE (entsA (wd wide) a) = encB a wide := by
  have v := valid_of h
  have hu := unk_flat a.unknown fun t ht => (v.unknown t ht).1.1
  have e : flatE (entsA (wd wide) a) = putB 1 [UInt8.ofNat a.origin.toNat] ++ (putB 2 (pathB (wd wide) a.path) ++ (putB 3 (be 4 a.nextHop.toNat) ++ flatE (optE1 a.hasMED 4 (be 4 a.med.toNat) ++ (optE1 a.hasPref 5 (be 4 a.pref.toNat) ++ (optE1 a.atomic 6 [] ++ (optE1 a.hasAggr 7 (be (wd wide) a.aggrAS.toNat ++ be 4 a.aggrAddr.toNat) ++ (optE1 (decide (a.comms.length > 0)) 8 (wordsB a.comms) ++ (optE1 a.hasOrig 9 (be 4 a.orig.toNat) ++ (optE1 (decide (a.clusters.length > 0)) 10 (wordsB a.clusters) ++ unkE a.unknown))))))))) := rfl
  rw [e, flatE_opt (q := a.hasMED = true) Iff.rfl, flatE_opt (q := a.hasPref = true) Iff.rfl, flatE_opt (q := a.atomic = true) Iff.rfl, flatE_opt (q := a.hasAggr = true) Iff.rfl, flatE_opt (q := a.comms.length > 0) decide_eq_true_iff, flatE_opt (q := a.hasOrig = true) Iff.rfl, flatE_opt (q := a.clusters.length > 0) decide_eq_true_iff, hu]
  rfl
theorem ents_cnt {a : Attrs} (h : checkS a = 0) (w : Nat) : cntE (entsA w a) = 3 := by
  have v := valid_of h
  have e : cntE (entsA w a) = 1 + (1 + (1 + cntE (optE1 a.hasMED 4 (be 4 a.med.toNat) ++ (optE1 a.hasPref 5 (be 4 a.pref.toNat) ++ (optE1 a.atomic 6 [] ++ (optE1 a.hasAggr 7 (be w a.aggrAS.toNat ++ be 4 a.aggrAddr.toNat) ++ (optE1 (decide (a.comms.length > 0)) 8 (wordsB a.comms) ++ (optE1 a.hasOrig 9 (be 4 a.orig.toNat) ++ (optE1 (decide (a.clusters.length > 0)) 10 (wordsB a.clusters) ++ unkE a.unknown))))))))) := by
    simp only [entsA, cntE, List.map_cons, List.sum_cons, isReq]; rfl
  rw [e, cntE_opt (by omega), cntE_opt (by omega), cntE_opt (by omega), cntE_opt (by omega), cntE_opt (by omega), cntE_opt (by omega), cntE_opt (by omega), unk_cnt a.unknown fun t ht => (v.unknown t ht).1.1]
theorem ents_asc {a : Attrs} (h : checkS a = 0) (w : Nat) (hw : w ≤ 4) : AscE (-1) (entsA w a) := by
  have v := valid_of h
  have hp := pathL_aux w hw a.path fun s hs => (v.segs s hs).2.1.2
  have hpl := v.pathL
  have h1 : (wordsB a.comms).length = 4 * a.comms.length := asB_length 4 a.comms
  have h2 : (wordsB a.clusters).length = 4 * a.clusters.length := asB_length 4 a.clusters
  have := v.comms
  have := v.clusters
  refine ⟨by omega, by omega, by simp, by simp, by omega, by simp only; omega, by simp, by omega, by simp, ?_⟩
  refine AscE_opt (by simp) (by omega) (by simp) fun l4 _ => ?_
  refine AscE_opt (by simp; omega) (by omega) (by simp) fun l5 _ => ?_
  refine AscE_opt (by simp; omega) (by omega) (by simp) fun l6 _ => ?_
  refine AscE_opt (by simp; omega) (by omega) (by simp; omega) fun l7 _ => ?_
  refine AscE_opt (by simp; omega) (by omega) (by omega) fun l8 _ => ?_
  refine AscE_opt (by simp; omega) (by omega) (by simp) fun l9 _ => ?_
  refine AscE_opt (by simp; omega) (by omega) (by omega) fun l10 _ => ?_
  exact unk_asc a.unknown none l10 (unk_zero h) (fun _ q => by cases q) (fun _ => by omega)
theorem rd4 {x : Int} (h0 : 0 ≤ x) (h1 : x ≤ 4294967295) : ((rd (be 4 x.toNat) : Nat) : Int) = x := by rw [rd_be 4 _ (by omega)]; omega
theorem ents_fold {a : Attrs} (ha : a.ok) (h : checkS a = 0) (wide : Bool) (hb : encBad a wide = false) : foldE (wd wide) (entsA (wd wide) a) zeroA = some a := by
  have v := valid_of h
  have hbig : (∀ s ∈ a.path, ∀ x ∈ s.as, 0 ≤ x ∧ x < ((256 ^ wd wide : Nat) : Int)) ∧ (a.hasAggr = true → 0 ≤ a.aggrAS ∧ a.aggrAS < ((256 ^ wd wide : Nat) : Int)) := by
    cases wide
    · rw [encBad_eq v] at hb
      simp only [Bool.not_false, Bool.true_and, List.any_eq_false, List.mem_append, List.mem_singleton, decide_eq_true_eq] at hb
      refine ⟨fun s hs x hx => ?_, fun hg => ?_⟩
      · have h1 := hb x (.inl (List.mem_flatMap.2 ⟨s, hs, hx⟩))
        have h2 := (v.segs s hs).2.2 x hx
        simp [wd]; omega
      · have h1 := hb a.aggrAS (.inr rfl)
        have h2 := v.aggr.1 hg
        simp [wd]; omega
    · refine ⟨fun s hs x hx => ?_, fun hg => ?_⟩
      · have h2 := (v.segs s hs).2.2 x hx
        simp [wd]; omega
      · have h2 := v.aggr.1 hg
        simp [wd]; omega
  have hpath := segs_back (wd wide) a.path (pathB (wd wide) a.path).length (fun s hs => ⟨by have := (v.segs s hs).1; omega, (v.segs s hs).2.1, hbig.1 s hs⟩) (Nat.le_refl _)
  have ho := v.origin
  have hnh := ha.nextHop
  unfold okU at hnh
  have e1 : setA (wd wide) 1 [UInt8.ofNat a.origin.toNat] zeroA = some { zeroA with origin := a.origin } := by
    have : ((UInt8.ofNat a.origin.toNat).toNat : Int) = a.origin := by simp; omega
    simp only [setA, this]
  have e2 : setA (wd wide) 2 (pathB (wd wide) a.path) { zeroA with origin := a.origin } = some { zeroA with origin := a.origin, path := a.path } := by
    simp only [setA, segsD, hpath, Option.map_some]
  have e3 : setA (wd wide) 3 (be 4 a.nextHop.toNat) { zeroA with origin := a.origin, path := a.path } = some { zeroA with origin := a.origin, path := a.path, nextHop := a.nextHop } := by
    simp only [setA, be_length, if_true, rd4 hnh.1 hnh.2]
  simp only [entsA, foldE, e1, e2, e3]
  rw [foldE_opt (a' := { zeroA with origin := a.origin, path := a.path, nextHop := a.nextHop, hasMED := a.hasMED, med := a.med })
    (fun hc => by have := v.med.1 hc; simp only [setA, be_length, if_true, rd4 this.1 this.2, hc]) (fun hc => by rw [hc, v.med.2 hc]; rfl)]
  rw [foldE_opt (a' := { zeroA with origin := a.origin, path := a.path, nextHop := a.nextHop, hasMED := a.hasMED, med := a.med, hasPref := a.hasPref, pref := a.pref })
    (fun hc => by have := v.pref.1 hc; simp only [setA, be_length, if_true, rd4 this.1 this.2, hc]) (fun hc => by rw [hc, v.pref.2 hc]; rfl)]
  rw [foldE_opt (a' := { zeroA with origin := a.origin, path := a.path, nextHop := a.nextHop, hasMED := a.hasMED, med := a.med, hasPref := a.hasPref, pref := a.pref, atomic := a.atomic })
    (fun hc => by simp only [setA, List.length_nil, if_true, hc]) (fun hc => by rw [hc]; rfl)]
  rw [foldE_opt (a' := { zeroA with origin := a.origin, path := a.path, nextHop := a.nextHop, hasMED := a.hasMED, med := a.med, hasPref := a.hasPref, pref := a.pref, atomic := a.atomic, hasAggr := a.hasAggr, aggrAS := a.aggrAS, aggrAddr := a.aggrAddr })
    (fun hc => by
      have h1 := hbig.2 hc
      have h2 := ha.aggrAddr
      unfold okU at h2
      have hl : (be (wd wide) a.aggrAS.toNat ++ be 4 a.aggrAddr.toNat).length = wd wide + 4 := by simp
      have t1 : (be (wd wide) a.aggrAS.toNat ++ be 4 a.aggrAddr.toNat).take (wd wide) = be (wd wide) a.aggrAS.toNat := List.take_left' (by simp)
      have t2 : (be (wd wide) a.aggrAS.toNat ++ be 4 a.aggrAddr.toNat).drop (wd wide) = be 4 a.aggrAddr.toNat := List.drop_left' (by simp)
      have t3 : ((rd (be (wd wide) a.aggrAS.toNat) : Nat) : Int) = a.aggrAS := by rw [rd_be _ _ (by omega)]; omega
      simp only [setA, hl, if_true, t1, t2, t3, rd4 h2.1 h2.2, hc]) (fun hc => by rw [hc, v.aggr.2 hc, v.aggrAddr hc]; rfl)]
  rw [foldE_opt (a' := { zeroA with origin := a.origin, path := a.path, nextHop := a.nextHop, hasMED := a.hasMED, med := a.med, hasPref := a.hasPref, pref := a.pref, atomic := a.atomic, hasAggr := a.hasAggr, aggrAS := a.aggrAS, aggrAddr := a.aggrAddr, comms := a.comms })
    (fun hc => by obtain ⟨q1, q2⟩ := words_back2 ha.comms (by simpa using hc); simp only [setA, q1, if_true, q2]) (fun hc => by rw [show a.comms = [] from List.eq_nil_of_length_eq_zero (by simp at hc; simp [hc])]; rfl)]
  rw [foldE_opt (a' := { zeroA with origin := a.origin, path := a.path, nextHop := a.nextHop, hasMED := a.hasMED, med := a.med, hasPref := a.hasPref, pref := a.pref, atomic := a.atomic, hasAggr := a.hasAggr, aggrAS := a.aggrAS, aggrAddr := a.aggrAddr, comms := a.comms, hasOrig := a.hasOrig, orig := a.orig })
    (fun hc => by have := ha.orig; unfold okU at this; simp only [setA, be_length, if_true, rd4 this.1 this.2, hc]) (fun hc => by
      have := v.orig
      rw [hc] at this
      have h0 : a.orig = 0 := by
        by_cases q : a.orig = 0
        · exact q
        · rw [bne_iff_ne.2 q] at this; cases this
      rw [hc, h0]; rfl)]
  rw [foldE_opt (a' := { zeroA with origin := a.origin, path := a.path, nextHop := a.nextHop, hasMED := a.hasMED, med := a.med, hasPref := a.hasPref, pref := a.pref, atomic := a.atomic, hasAggr := a.hasAggr, aggrAS := a.aggrAS, aggrAddr := a.aggrAddr, comms := a.comms, hasOrig := a.hasOrig, orig := a.orig, clusters := a.clusters })
    (fun hc => by obtain ⟨q1, q2⟩ := words_back2 ha.clusters (by simpa using hc); simp only [setA, q1, if_true, q2]) (fun hc => by rw [show a.clusters = [] from List.eq_nil_of_length_eq_zero (by simp at hc; simp [hc])]; rfl)]
  rw [unk_fold a.unknown _ fun t ht => (v.unknown t ht).1.1]
  simp [zeroA]
theorem enc_dec {a : Attrs} (ha : a.ok) (h : checkS a = 0) (wide : Bool) (hb : encBad a wide = false) : decD (wd wide) (encB a wide) = (0, a) ∧ decD (wd wide) (encB a wide).dropLast = (3, zeroA) := by
  have h1 := ents_flat h wide
  have h2 := ents_asc h (wd wide) (wd_le wide)
  have h3 := ents_fold ha h wide hb
  have h4 := ents_cnt h (wd wide)
  refine ⟨?_, ?_⟩
  · unfold decD
    rw [← h1, fold_dec _ _ _ _ _ _ h2 h3 (Nat.le_refl _), h4]
    simp [finD, h]
  · unfold decD
    rw [← h1]
    exact fold_cut (wd wide) (entsA (wd wide) a) _ (-1) 0 zeroA (by simp [entsA]) h2 h3 (by simp; omega)
end Go.AM.IR
set_option maxHeartbeats 4000000
set_option maxRecDepth 20000
namespace Go.AM.IR
theorem capF_back : ∀ (l : List Cap) (f : Nat), (∀ c ∈ l, (1 ≤ c.code ∧ c.code ≤ 255) ∧ c.value.length ≤ 255) → (capsB l).length ≤ f → capF f (capsB l) = some l
  | [], f, _, _ => by cases f <;> rfl
  | c :: l, 0, h, hf => by simp [capsB] at hf
  | c :: l, f + 1, h, hf => by
    obtain ⟨⟨h1, h2⟩, h3⟩ := h c (by simp)
    have e : capsB (c :: l) = UInt8.ofNat c.code.toNat :: UInt8.ofNat c.value.length :: (c.value ++ capsB l) := by simp [capsB]
    have n1 : (UInt8.ofNat c.code.toNat).toNat = c.code.toNat := by simp; omega
    have n2 : (UInt8.ofNat c.value.length).toNat = c.value.length := by simp; omega
    rw [e] at hf ⊢
    simp only [List.length_cons, List.length_append] at hf
    rw [capF, n1, n2, if_neg (by simp), List.take_left' rfl, List.drop_left' rfl, capF_back l f (fun x hx => h x (by simp [hx])) (by omega), Int.toNat_of_nonneg (by omega)]
    rfl
theorem back_capF : ∀ (f : Nat) (b : List UInt8) (l : List Cap), capF f b = some l → capsB l = b
  | f, [], l, h => by
    have : l = [] := by cases f <;> simpa [capF] using h.symm
    subst this; rfl
  | 0, _ :: _, l, h => by simp [capF] at h
  | f + 1, [_], l, h => by simp [capF] at h
  | f + 1, c :: n :: r, l, h => by
    have hn := n.toNat_lt
    rw [capF] at h
    split at h
    · cases h
    · obtain ⟨l', h1, rfl⟩ := Option.map_eq_some_iff.1 h
      have ih := back_capF f _ l' h1
      have e : capsB (⟨(c.toNat : Int), r.take n.toNat⟩ :: l') = UInt8.ofNat c.toNat :: UInt8.ofNat (r.take n.toNat).length :: (r.take n.toNat ++ capsB l') := by simp [capsB]
      rw [e, ih, List.length_take, Nat.min_eq_left (by omega), List.take_append_drop]
      simp
theorem capsB_nil {l : List Cap} : capsB l = [] ↔ l = [] := by
  cases l <;> simp [capsB]
theorem ofNat8 {n : Nat} (h : n < 256) : (UInt8.ofNat n).toNat = n := by simp; omega
theorem capsD_back {l : List Cap} (h1 : ∀ c ∈ l, 1 ≤ c.code ∧ c.code ≤ 255) (h2 : capT l ≤ 253) : capsD (capTail l) = some l := by
  have hl := capsB_length l
  unfold capTail
  by_cases h0 : capsB l = []
  · rw [if_pos h0]
    rw [capsB_nil.1 h0]; rfl
  · rw [if_neg h0]
    have hne : 0 < (capsB l).length := List.length_pos_iff.2 h0
    rw [capsD, ofNat8 (by omega), if_neg (by simp), if_neg (by omega), capsQ, ofNat8 (by omega), if_pos ⟨rfl, rfl, h0⟩]
    exact capF_back l _ (fun c hc => ⟨h1 c hc, by have := capT_mem hc; omega⟩) (Nat.le_refl _)
theorem as4_of {as : Int} (h0 : 0 ≤ as) (h1 : as ≤ 4294967295) : ∀ (l : List Cap) (p : Option Int) (n : Int) (w : Bool), capsE as p n w l = 0 → as4 l = some as ∨ (as4 l = none ∧ (w = false → as ≤ 65535))
  | [], p, n, w, h => by
    unfold capsE at h
    right
    refine ⟨rfl, fun hw => ?_⟩
    split at h
    · cases h
    · split at h
      · cases h
      · rename_i _ h2
        by_cases q : as ≤ 65535
        · exact q
        · exact absurd ⟨by omega, hw⟩ h2
  | c :: r, p, n, w, h => by
    unfold capsE at h
    split at h
    · cases h
    · split at h
      · cases h
      · split at h
        · cases h
        · rename_i hb
          split at h
          · cases h
          · rename_i h14
            by_cases hc : c.code = 65
            · left
              have hv : c.value = be 4 (u64 as) := by
                by_cases q : c.value = be 4 (u64 as)
                · exact q
                · exact absurd ⟨hc, q⟩ h14
              have hu : u64 as = as.toNat := by unfold u64; omega
              rw [as4, if_pos ⟨hc, by rw [hv]; simp⟩, hv, hu, rd_be 4 _ (by omega)]
              rw [Int.toNat_of_nonneg h0]
            · rw [as4, if_neg (fun q => hc q.1)]
              rw [if_neg hc] at h
              exact as4_of h0 h1 r _ _ _ h
theorem rd2 {x : Int} (h0 : 0 ≤ x) (h1 : x ≤ 65535) : ((rd (be 2 x.toNat) : Nat) : Int) = x := by rw [rd_be 2 _ (by omega)]; omega
theorem decO_back {m : PMsg} (h : checkM m = 0) (hk : m.kind = 1) (hr : okU m.router) : decO (openB m) = (m, zeroM, 0) := by
  have ok := open_ok h hk
  obtain ⟨c1, c2⟩ := ok.caps
  obtain ⟨a1, a2⟩ := ok.as
  obtain ⟨b1, b2⟩ := ok.hold
  unfold okU at hr
  have hs : 0 ≤ shortI m.as ∧ shortI m.as ≤ 65535 := by unfold shortI; split <;> omega
  have e0 : openB m = UInt8.ofNat m.version.toNat :: (be 2 (shortI m.as).toNat ++ (be 2 m.hold.toNat ++ (be 4 m.router.toNat ++ capTail m.caps))) := rfl
  have d1 : (openB m).drop 1 = be 2 (shortI m.as).toNat ++ (be 2 m.hold.toNat ++ (be 4 m.router.toNat ++ capTail m.caps)) := rfl
  have d3 : (openB m).drop 3 = be 2 m.hold.toNat ++ (be 4 m.router.toNat ++ capTail m.caps) := by
    rw [show 3 = 1 + 2 from rfl, ← List.drop_drop, d1, List.drop_left' (by simp)]
  have d5 : (openB m).drop 5 = be 4 m.router.toNat ++ capTail m.caps := by
    rw [show 5 = 3 + 2 from rfl, ← List.drop_drop, d3, List.drop_left' (by simp)]
  have d9 : (openB m).drop 9 = capTail m.caps := by
    rw [show 9 = 5 + 4 from rfl, ← List.drop_drop, d5, List.drop_left' (by simp)]
  have htwo : twoD (openB m) = shortI m.as := by
    unfold twoD
    rw [d1, List.take_left' (by simp)]; exact rd2 hs.1 hs.2
  have has : (as4 m.caps).getD (twoD (openB m)) = m.as := by
    obtain ⟨_, _, _, ho, _⟩ := check_parts h
    have ho := ho hk
    unfold openX at ho
    rw [if_neg (by rw [ok.version]; decide), if_neg (by omega)] at ho
    have hc : capsE m.as none 0 false m.caps = 0 := by
      split at ho
      · cases ho
      · split at ho
        · cases ho
        · exact ho
    rcases as4_of (by omega) a2 m.caps none 0 false hc with q | ⟨q, q2⟩
    · rw [q]; rfl
    · rw [q, htwo]
      have := q2 rfl
      show shortI m.as = m.as
      unfold shortI; rw [if_neg (by omega)]
  have hm : openM (openB m) m.caps = m := by
    obtain ⟨r1, r2, r3, r4, r5, r6⟩ := ok.rest
    unfold openM
    rw [has, d3, d5, List.take_left' (by simp), List.take_left' (by simp), rd2 b1 b2, rd_be 4 _ (by omega), Int.toNat_of_nonneg hr.1]
    rw [PMsg.eq_iff]
    simp only [zeroM]
    exact ⟨hk.symm, ok.version.symm, trivial, trivial, trivial, r4.symm, r5.symm, r6.symm, trivial, r1.symm, r3.symm, r2.symm⟩
  unfold decO
  rw [d9, capsD_back c1 c2, if_neg (by rw [e0, List.take_succ_cons, List.take_zero, ok.version]; decide)]
  unfold decO1
  simp only
  rw [has, htwo, if_neg (by simp), hm]
  unfold chkO
  rw [if_pos h]
end Go.AM.IR
set_option maxHeartbeats 4000000
set_option maxRecDepth 20000
namespace Go.AM.IR
theorem decU_back {m : PMsg} (h : checkM m = 0) (hk : m.kind = 2) (ho : m.okP) (ha : m.attrs.ok) (wide : Bool) (hb : ¬ badM m wide) (hl : (updB m wide).length ≤ 65516) : decU wide (updB m wide) = (m, zeroM, 0) := by
  have ok := upd_ok h hk
  have e0 : updB m wide = be 2 (packP m.withdrawn).length ++ (packP m.withdrawn ++ (be 2 (attsB m wide).length ++ (attsB m wide ++ packP m.reach))) := rfl
  have u1 := unP_pack m.withdrawn (packP m.withdrawn).length (fun p hp => ⟨ho.withdrawn p hp, ok.withdrawn p hp⟩) (Nat.le_refl _)
  have u2 := unP_pack m.reach (packP m.reach).length (fun p hp => ⟨ho.reach p hp, ok.reach p hp⟩) (Nat.le_refl _)
  have hm : updM m.withdrawn m.reach m.attrs = m := by
    obtain ⟨r1, r2, r3, r4, r5, r6, r7, r8⟩ := ok.rest
    rw [PMsg.eq_iff]
    simp only [updM, zeroM]
    exact ⟨hk.symm, r1.symm, r2.symm, r3.symm, r4.symm, r6.symm, r7.symm, r8.symm, r5.symm, trivial, trivial, trivial⟩
  have hda : m.reach ≠ [] → attsB m wide = encB m.attrs wide ∧ decD (wd wide) (encB m.attrs wide) = (0, m.attrs) := fun hr => by
    have hbad : encBad m.attrs wide = false := by
      cases q : encBad m.attrs wide
      · rfl
      · exact absurd ⟨hk, hr, q⟩ hb
    exact ⟨by unfold attsB; rw [if_neg hr], (enc_dec ha (ok.attrs hr) wide hbad).1⟩
  have hat0 : m.reach = [] → attsB m wide = [] := fun hr => by unfold attsB; rw [if_pos hr]
  generalize attsB m wide = a at *
  generalize packP m.withdrawn = g at *
  generalize packP m.reach = q at *
  rw [e0] at hl ⊢
  simp only [List.length_append, be_length] at hl
  have hr0 : rd ((be 2 g.length ++ (g ++ (be 2 a.length ++ (a ++ q)))).take 2) = g.length := by rw [List.take_left' (by simp), rd_be 2 _ (by omega)]
  have hd2 : (be 2 g.length ++ (g ++ (be 2 a.length ++ (a ++ q)))).drop 2 = g ++ (be 2 a.length ++ (a ++ q)) := List.drop_left' (by simp)
  unfold decU
  rw [hr0, hd2, if_neg (by simp; omega), List.take_left' rfl, List.drop_left' rfl, List.take_left' (by simp), rd_be 2 _ (by omega), ← List.drop_drop, List.drop_left' rfl, List.drop_left' (by simp)]
  unfold decU3
  rw [if_neg (by simp), List.take_left' rfl, List.drop_left' rfl, u1, u2]
  unfold decU1
  simp only
  unfold decU2
  by_cases hr : m.reach = []
  · rw [if_pos ⟨hat0 hr, hr⟩, ← ok.zero hr, hm]
    unfold chkU; rw [if_pos h]
  · obtain ⟨ea, ed⟩ := hda hr
    rw [if_neg (fun q => hr q.2), ea, ed, if_neg (by simp), if_neg (by simp), if_neg hr, hm]
    unfold chkU; rw [if_pos h]
end Go.AM.IR
set_option maxRecDepth 20000
namespace Go.AM.IR
theorem body_min {m : PMsg} (h : checkM m = 0) (wide : Bool) : badLen m.kind (19 + (bodyB m wide).length : Nat) = false := by
  obtain ⟨k1, k2, _⟩ := check_parts h
  unfold badLen bodyB
  have hc : m.kind = 1 ∨ m.kind = 2 ∨ m.kind = 3 ∨ m.kind = 4 ∨ m.kind = 5 := by omega
  rcases hc with hk | hk | hk | hk | hk
  · have := (openB_length (open_ok h hk)).2
    rw [if_pos hk, decide_eq_false_iff_not, hk]; omega
  · have : 4 ≤ (updB m wide).length := by unfold updB; simp only [List.length_append, be_length]; omega
    rw [if_neg (by omega), if_pos hk, decide_eq_false_iff_not, hk]; omega
  · have : 2 ≤ (noteB m).length := by unfold noteB; simp
    rw [if_neg (by omega), if_neg (by omega), if_pos hk, decide_eq_false_iff_not, hk]; omega
  · rw [if_neg (by omega), if_neg (by omega), if_neg (by omega), if_neg (by omega), decide_eq_false_iff_not, hk]; simp
  · rw [if_neg (by omega), if_neg (by omega), if_neg (by omega), if_pos hk, decide_eq_false_iff_not, hk]; simp
theorem msgB_length (m : PMsg) (wide : Bool) : (msgB m wide).length = 19 + (bodyB m wide).length := by simp [msgB, headB_length]
theorem decB_back {m : PMsg} {wide : Bool} (h : encE m wide = 0) (ho : m.ok) (hd : List UInt8) : decB wide m.kind hd (bodyB m wide) = (m, zeroM, 0) := by
  obtain ⟨hc, hb, hl⟩ := encE_zero h
  obtain ⟨k1, k2, _⟩ := check_parts hc
  unfold decB
  by_cases h1 : m.kind = 1
  · rw [if_pos h1, show bodyB m wide = openB m from by unfold bodyB; rw [if_pos h1]]
    exact decO_back hc h1 ho.router
  · by_cases h2 : m.kind = 2
    · have eb : bodyB m wide = updB m wide := by unfold bodyB; rw [if_neg h1, if_pos h2]
      rw [eb] at hl
      rw [if_neg h1, if_pos h2, eb]
      exact decU_back hc h2 ⟨ho.withdrawn, ho.reach⟩ ho.attrs wide hb (by omega)
    · by_cases h3 : m.kind = 3
      · have ok := note_ok hc h3
        obtain ⟨r1, r2, r3, r4, r5, r6, r7, r8⟩ := ok.rest
        have hn : noteD (noteB m) = m := by
          have e1 : rd ((noteB m).take 1) = m.code.toNat := by
            show rd [UInt8.ofNat m.code.toNat] = _
            have := ok.code
            simp only [rd, List.foldl_cons, List.foldl_nil]; rw [ofNat8 (by omega)]; omega
          have e2 : rd (((noteB m).drop 1).take 1) = m.sub.toNat := by
            show rd [UInt8.ofNat m.sub.toNat] = _
            have := ok.sub
            simp only [rd, List.foldl_cons, List.foldl_nil]; rw [ofNat8 (by omega)]; omega
          unfold noteD
          rw [e1, e2, Int.toNat_of_nonneg (by have := ok.code; omega), Int.toNat_of_nonneg ok.sub.1, show (noteB m).drop 2 = m.data from rfl, PMsg.eq_iff]
          simp only [noteM, zeroM]
          exact ⟨h3.symm, r1.symm, r2.symm, r3.symm, r4.symm, trivial, trivial, trivial, r5.symm, r6.symm, r8.symm, r7.symm⟩
        rw [if_neg h1, if_neg h2, if_pos h3, show bodyB m wide = noteB m from by unfold bodyB; rw [if_neg h1, if_neg h2, if_pos h3], hn, if_pos hc]
      · have hz := zero_ok hc (by omega)
        rw [if_neg h1, if_neg h2, if_neg h3]
        by_cases h5 : m.kind = 5
        · rw [if_neg (fun q => q.2 (by unfold bodyB; rw [if_neg h1, if_neg h2, if_neg h3, if_pos h5])), ← hz]
        · rw [if_neg (fun q => h5 q.1), ← hz]
theorem decM_parts {m : PMsg} {wide : Bool} (h : encE m wide = 0) (t : List UInt8) (ht : 0 < (bodyB m wide ++ t).length ∨ True) :
    let b := headB (19 + (bodyB m wide).length) m.kind.toNat ++ t
    (b.take 16).any (fun c => c != 255) = false ∧ lenD b = 19 + (bodyB m wide).length ∧ (kindD b : Int) = m.kind := by
  obtain ⟨hc, hb, hl⟩ := encE_zero h
  obtain ⟨k1, k2, _⟩ := check_parts hc
  have e16 : ∀ x : List UInt8, (List.replicate 16 (255 : UInt8) ++ x).drop 16 = x := fun x => List.drop_left' (by simp)
  refine ⟨?_, ?_, ?_⟩
  · rw [headB, List.append_assoc, List.take_left' (by simp)]; rfl
  · rw [lenD, headB, List.append_assoc, e16, List.append_assoc, List.take_left' (by simp), rd_be 2 _ (by omega)]
  · rw [kindD, headB, List.append_assoc, show 18 = 16 + 2 from rfl, ← List.drop_drop, e16, List.append_assoc, List.drop_left' (by simp)]
    show ((rd [UInt8.ofNat m.kind.toNat] : Nat) : Int) = m.kind
    simp only [rd, List.foldl_cons, List.foldl_nil]
    rw [ofNat8 (by omega)]; omega
theorem decM_back {m : PMsg} {wide : Bool} (h : encE m wide = 0) (ho : m.ok) (more : List UInt8) : decM wide (msgB m wide ++ more) = (m, (((msgB m wide).length : Nat) : Int), zeroM, 0) := by
  obtain ⟨hc, hb, hl⟩ := encE_zero h
  obtain ⟨k1, k2, _⟩ := check_parts hc
  have e0 : msgB m wide ++ more = headB (19 + (bodyB m wide).length) m.kind.toNat ++ (bodyB m wide ++ more) := by unfold msgB; rw [List.append_assoc]
  obtain ⟨p1, p2, p3⟩ := decM_parts h (bodyB m wide ++ more) (.inr trivial)
  have hbl := body_min hc wide
  have hml := msgB_length m wide
  have hcut : ((headB (19 + (bodyB m wide).length) m.kind.toNat ++ (bodyB m wide ++ more)).take (19 + (bodyB m wide).length)).drop 19 = bodyB m wide := by
    rw [← List.append_assoc, List.take_left' (by simp [headB_length]), List.drop_left' (headB_length _ _)]
  have hlen : (headB (19 + (bodyB m wide).length) m.kind.toNat ++ (bodyB m wide ++ more)).length = 19 + (bodyB m wide).length + more.length := by simp [headB_length]; omega
  try simp only at p1 p2 p3
  rw [e0]
  unfold decM
  rw [p1, p2, p3, if_neg (by omega), if_neg (by simp), if_neg (by omega), if_neg (by omega), hbl, if_neg (by simp), if_neg (by omega), hcut, decB_back h ho]
  unfold finM
  rw [if_pos rfl, hml]
def IsNote (f : PMsg) : Prop := ∃ c s d, f = noteM c s d ∧ (1 ≤ c ∧ c ≤ 6) ∧ (0 ≤ s ∧ s ≤ 255) ∧ d.length ≤ 2
theorem IsNote.mk {c s : Int} {d : List UInt8} (hc : 1 ≤ c ∧ c ≤ 6 := by decide) (hs : 0 ≤ s ∧ s ≤ 255 := by decide) (hd : d.length ≤ 2 := by first | decide | (simp; omega)) : IsNote (noteM c s d) := ⟨c, s, d, rfl, hc, hs, hd⟩
end Go.AM.IR
set_option maxHeartbeats 4000000
set_option maxRecDepth 20000
namespace Go.AM.IR
def costP (p : Pfx) : Int := (1 + len8 p.len : Nat)
def fitN : Int → List Pfx → Nat
  | _, [] => 0
  | room, p :: r => if room < costP p then 0 else fitN (room - costP p) r + 1
def chunkS (room : Int) : Nat → List Pfx → Option (List (List Pfx))
  | _, [] => some []
  | 0, _ :: _ => none
  | f + 1, p :: r => if fitN room (p :: r) = 0 then none else (chunkS room f ((p :: r).drop (fitN room (p :: r)))).map ((p :: r).take (fitN room (p :: r)) :: ·)
def refC (room : Int) : List Pfx → Int → List Pfx → List (List Pfx)
  | one, _, [] => if one = [] then [] else [one]
  | one, n, p :: r => if n + costP p > room then one :: refC room [p] (costP p) r else refC room (one ++ [p]) (n + costP p) r
theorem refC_fit (room : Int) : ∀ (l one : List Pfx) (n : Int), (∀ p ∈ l, costP p ≤ room) →
    refC room one n l = if l.drop (fitN (room - n) l) = [] then (if one ++ l = [] then [] else [one ++ l]) else (one ++ l.take (fitN (room - n) l)) :: refC room [] 0 (l.drop (fitN (room - n) l))
  | [], one, n, _ => by simp [refC, fitN]
  | p :: r, one, n, h => by
    have hp := h p (by simp)
    by_cases hc : n + costP p > room
    · have hf : fitN (room - n) (p :: r) = 0 := by unfold fitN; rw [if_pos (by omega)]
      rw [hf]
      simp only [List.drop_zero, List.take_zero, List.append_nil]
      rw [if_neg (by simp), refC, if_pos hc]
      congr 1
      rw [refC, if_neg (by omega)]
      simp
    · have hf : fitN (room - n) (p :: r) = fitN (room - (n + costP p)) r + 1 := by rw [fitN, if_neg (by omega), show room - n - costP p = room - (n + costP p) by omega]
      rw [refC, if_neg hc, refC_fit room r (one ++ [p]) (n + costP p) (fun q hq => h q (by simp [hq])), hf]
      simp
theorem fitN_pos {room : Int} {p : Pfx} (r : List Pfx) (h : costP p ≤ room) : fitN room (p :: r) ≠ 0 := by rw [fitN, if_neg (by omega)]; omega
theorem chunk_ref (room : Int) : ∀ (f : Nat) (l : List Pfx), (∀ p ∈ l, costP p ≤ room) → l.length ≤ f → chunkS room f l = some (refC room [] 0 l)
  | f, [], _, _ => by cases f <;> rfl
  | 0, p :: r, _, h => by simp at h
  | f + 1, p :: r, h, hl => by
    have hk := fitN_pos r (h p (by simp))
    have e := refC_fit room (p :: r) [] 0 h
    rw [Int.sub_zero] at e
    rw [chunkS, if_neg hk, chunk_ref room f _ (fun q hq => h q (List.mem_of_mem_drop hq)) (by rw [List.length_drop]; simp at *; omega), e]
    split
    · rename_i hd
      have := List.take_append_drop (fitN room (p :: r)) (p :: r)
      rw [hd, List.append_nil] at this
      rw [hd, this]
      simp [refC]
    · simp
end Go.AM.IR
set_option maxHeartbeats 4000000
set_option maxRecDepth 20000
namespace Go.AM.IR
def splitM (m : PMsg) (wide : Bool) : Option (List PMsg) :=
  (chunkS (65512 - (attsB m wide).length) m.reach.length m.reach).map fun R => (refC 65512 [] 0 m.withdrawn).map (fun l => updM l [] zeroA) ++ R.map (fun l => updM [] l m.attrs)
def splitS (m : PMsg) (wide : Bool) : List PMsg × Int :=
  if m.kind ≠ 2 then ([], 15) else if encE m wide = 0 then ([m], 0) else if encE m wide ≠ 4 ∨ checkM m ≠ 0 then ([], encE m wide) else
  match splitM m wide with
  | none => ([], 4)
  | some l => (l, 0)
end Go.AM.IR
set_option maxHeartbeats 4000000
set_option maxRecDepth 20000
namespace Go.AM.IR
theorem fit_loop203 (l : List Pfx) (hl : l.length < 2 ^ 40) (hv : ∀ p ∈ l, 0 ≤ p.len ∧ p.len ≤ 32) : ∀ (rest done : List Pfx) (T : List (Nat × AV)) (H : Heap) (c : Nat) (n room : Int) (e : l = done ++ rest) (hn : n = done.length) (h1 : -(2 ^ 40) < room) (h2 : room < 2 ^ 40),
   Ev G ⟨f203x6LH, ⟨(5, .int .i64 n) :: (0, .sl 2 (l.map Pfx.enc)) :: (1, .int .i64 room) :: T, H, c⟩, [.t 4], 0⟩ (⟨.int .i64 (n + (fitN room rest : Nat)), []⟩)
  | [], done, T, H, c, n, room, e, hn, h1, h2 => by
    have hd : l.length = done.length := by simp [e]
    have hll : (l.map Pfx.enc).length = l.length := by simp
    refine ev_loop' (W_ok 300 _ _ _ _ ?_)
    repeat' (first | refine stpA ?_ | (refine condS ?_ ?_ <;> intro h))
    all_goals ((first | refine fin1 ?_ | refine fin0 ?_); simp [fitN])
  | x :: r, done, T, H, c, n, room, e, hn, h1, h2 => by
    have hd : l.length = done.length + (r.length + 1) := by simp [e]
    have hll : (l.map Pfx.enc).length = l.length := by simp
    have hx : (l.map Pfx.enc)[n.toNat]? = some (Pfx.enc x) := by simp [e, hn]
    obtain ⟨v0, v1⟩ := hv x (by simp [e])
    have hc : costP x = 1 + (x.len + 7) / 8 := by unfold costP len8; omega
    by_cases hr : room < costP x
    · refine ev_loop' (W_ok 300 _ _ _ _ ?_)
      repeat' (first | refine stpA ?_ | (refine condS ?_ ?_ <;> intro h))
      all_goals ((first | refine fin1 ?_ | refine fin0 ?_); rw [fitN, if_pos hr]; simp)
    · rw [show n + ((fitN room (x :: r) : Nat) : Int) = (n + 1) + (fitN (room - (1 + (x.len + 7) / 8)) r : Nat) from by rw [fitN, if_neg hr, hc]; omega]
      refine ev_loop' (W_ok 300 _ _ _ _ ?_)
      repeat' (first | refine stpA ?_ | (refine condS ?_ ?_ <;> intro h))
      refine ev_keep [5, 0, 1] [] ?_
      exact fit_loop203 l hl hv r (done ++ [x]) _ _ _ (n + 1) _ (by simp [e]) (by simp [hn] <;> omega) (by omega) (by omega)
theorem fit_gives203 (l : List Pfx) (hl : l.length < 2 ^ 40) (hv : ∀ p ∈ l, 0 ≤ p.len ∧ p.len ≤ 32) (room : Int) (h1 : -(2 ^ 40) < room) (h2 : room < 2 ^ 40) : Gives G 203 [.sl 2 (l.map Pfx.enc), .int .i64 room] [] ⟨.int .i64 (fitN room l : Nat), []⟩ := by
  refine gives_code (F := f203) rfl rfl (W_ok 300 _ _ _ _ ?_)
  repeat' (first | refine stpA ?_ | (refine condS ?_ ?_ <;> intro h))
  refine ev_keep [5, 0, 1] [] ?_
  rw [show ((fitN room l : Nat) : Int) = 0 + (fitN room l : Nat) from by omega]
  exact fit_loop203 l hl hv l [] _ _ _ 0 room rfl rfl h1 h2
def chunkE (l : List Pfx) : List AV := [.sl 2 (l.map Pfx.enc)]
@[simp] theorem pureLL_pfxZ (l : List Pfx) : pureLL (l.map Pfx.enc) = true := pureLL_mapB (fun _ => rfl) l
@[simp] theorem pureLL_chunk (L : List (List Pfx)) : pureLL (L.map chunkE) = true := pureLL_mapB (fun c => by simp [chunkE, pureL, AV.pure]) L
end Go.AM.IR
set_option maxHeartbeats 4000000
set_option maxRecDepth 20000
namespace Go.AM.IR
@[simp] theorem pureLL_segE (l : List Seg) : pureLL (l.map Seg.enc) = true := pureLL_mapB (fun s => by simp [Seg.enc, pureL, AV.pure]) l
@[simp] theorem pureLL_tlvE (l : List TLV) : pureLL (l.map TLV.enc) = true := pureLL_mapB (fun s => by simp [TLV.enc, pureL, AV.pure]) l
@[simp] theorem pureLL_intI (l : List Int) : pureLL (l.map encI) = true := pureLL_mapB (fun _ => rfl) l
@[simp] theorem pureLL_intU (l : List Int) : pureLL (l.map encU) = true := pureLL_mapB (fun _ => rfl) l
end Go.AM.IR
set_option maxHeartbeats 4000000
set_option maxRecDepth 20000
namespace Go.AM.IR
def splR (r : List PMsg × Int) : Ret := if r.2 = 0 then ⟨.tup [.vs 0 0 r.1.length, .int .i64 0], [(false, .vec 27 (r.1.map PMsg.enc))]⟩ else ⟨.tup [.con (.slice none 0 0), .int .i64 r.2], []⟩
theorem LLLe_app : ∀ (l : List (List AV)) {a b : List AV}, LLe Any a b → LLLe Any (l ++ [a]) (l ++ [b])
  | [], _, _, h => ⟨h, trivial⟩
  | x :: l, _, _, h => ⟨.refl x, LLLe_app l h⟩
@[simp] theorem pureLL_msg (l : List PMsg) : pureLL (l.map PMsg.enc) = true := pureLL_mapB (fun m => by simp [PMsg.enc, Attrs.enc, pureL, AV.pure]) l
theorem tupS_ren (K : Nat) {g n n' : Nat} {s : Nat} {es es' : List (List AV)} (hn : n = n') (he : es = es') : (⟨AV.ren (φR [(K, g, .vec s es)] 0) (.tup [.vs K g n, .int .i64 0]), [(false, .vec s es)]⟩ : Ret) = ⟨.tup [.vs 0 0 n', .int .i64 0], [(false, .vec s es')]⟩ := by subst hn he; simp [AV.ren, renL, φR]
end Go.AM.IR
set_option maxHeartbeats 4000000
set_option maxRecDepth 20000
namespace Go.AM.IR
theorem refC_len (room : Int) : ∀ (l one : List Pfx) (n : Int), (refC room one n l).length ≤ l.length + 1
  | [], one, n => by rw [refC]; split <;> simp
  | p :: r, one, n => by
    rw [refC]
    split
    · have := refC_len room r [p] (costP p); simp only [List.length_cons] at *; omega
    · have := refC_len room r (one ++ [p]) (n + costP p); simp only [List.length_cons] at *; omega
end Go.AM.IR
set_option maxHeartbeats 4000000
set_option maxRecDepth 20000
namespace Go.AM.IR
theorem valid_len {p : Pfx} (h : validP p = true) : 0 ≤ p.len ∧ p.len ≤ 32 := by
  unfold validP at h; rw [decide_eq_true_eq] at h; exact ⟨h.1, h.2.1⟩
theorem encE_four {m : PMsg} {wide : Bool} (hc : checkM m = 0) (he : encE m wide = 4) : ¬ badM m wide := fun hb => by
  unfold encE at he; rw [if_neg (by simp [hc]), if_pos hb] at he; omega
theorem encE_other {m : PMsg} {wide : Bool} (hc : checkM m = 0) (h0 : encE m wide ≠ 0) (h4 : encE m wide ≠ 4) : badM m wide ∧ encE m wide = 5 := by
  unfold encE at h0 h4 ⊢
  rw [if_neg (by simp [hc])] at h0 h4 ⊢
  split
  · rename_i hb; exact ⟨hb, rfl⟩
  · rename_i hb
    rw [if_neg hb] at h0 h4
    split at h0 <;> simp_all
end Go.AM.IR
set_option maxHeartbeats 4000000
set_option maxRecDepth 20000
namespace Go.AM.IR
theorem takP {n : Nat} {es : List (List AV)} {k : List (List AV) → Prop} (hk : k (es.take n)) (h : n ≤ es.length := by first | omega | (simp; omega)) : TakeC n es k := .part h hk
theorem slL {a b c d : Prop} (k : c) (h1 : a := by first | rfl | omega) (h2 : b := by rfl) : (a ∧ b ∧ c) ∨ d := .inl ⟨h1, h2, k⟩
theorem short_gives204 (n : Int) : Gives G 204 [.int .i64 n] [] ⟨.int .i64 (shortI n), []⟩ := by
  unfold shortI
  by_cases h : n > 65535
  · rw [if_pos h]
    refine gives_code (F := f204) rfl rfl (W_ok 300 _ _ _ _ ?_)
    repeat' (first | refine stpA ?_ | (refine condS ?_ ?_ <;> intro h))
    (first | refine fin1 ?_ | refine fin0 ?_); rfl
  · rw [if_neg h]
    refine gives_code (F := f204) rfl rfl (W_ok 300 _ _ _ _ ?_)
    repeat' (first | refine stpA ?_ | (refine condS ?_ ?_ <;> intro h))
    (first | refine fin1 ?_ | refine fin0 ?_); rfl
theorem byteCells_take (b : List UInt8) (k : Nat) : (byteCells b).take k = byteCells (b.take k) := by simp [byteCells]
theorem pack_step {p : Pfx} (h : p.ok) (v : validP p = true) (done : List Pfx) (k : Nat) (hk : k = len8 p.len) : byteCells (packP done) ++ [[.int .u8 p.len]] ++ (byteCells (be 4 p.addr.toNat)).take k = byteCells (packP (done ++ [p])) := by
  obtain ⟨a, b, _, _⟩ := valid_mul h v
  subst hk
  rw [byteCells_take, be_take _ _ (len8_le b)]
  have hn : ((UInt8.ofNat p.len.toNat).toNat : Int) = p.len := by rw [show (UInt8.ofNat p.len.toNat).toNat = p.len.toNat by simp; omega]; omega
  simp [packP, pack1, byteCells]
  omega
theorem put_loop205 (l : List Pfx) (hv : ∀ p ∈ l, p.ok ∧ validP p = true) (hlen : l.length < 2 ^ 30) (hl : l.length < 2 ^ 40) (ln : Int) (hln : ln = l.length) : ∀ (rest done : List Pfx) (g m : Nat) (es : List (List AV)) (T : List (Nat × AV)) (H : Heap) (c : Nat) (n : Int) (e : l = done ++ rest) (hn : n = done.length) (hm : m = (packP done).length) (hes : es = byteCells (packP done)), Ev G ⟨f205x8LH, ⟨(6, .sl 2 (l.map Pfx.enc)) :: (7, .int .i64 ln) :: (8, .int .i64 n) :: (3, .vs 200 g m) :: T, (200, some (g, .vec 1 es)) :: H, c⟩, [.t 2], 0⟩ (rB (packP l))
  | [], done, g, m, es, T, H, c, n, e, hn, hm, hes => by
    have hd : l.length = done.length := by simp [e]
    have hll : (l.map Pfx.enc).length = l.length := by simp
    obtain rfl : l = done := by simpa using e
    refine ev_loop' (W_ok 300 _ _ _ _ ?_)
    repeat' (first | refine stpA ?_ | (refine condS ?_ ?_ <;> intro h))
    exact ev_retB 200 ⟨_, _, _, rfl, rfl, hm, hes⟩
  | x :: r, done, g, m, es, T, H, c, n, e, hn, hm, hes => by
    have hd : l.length = done.length + (r.length + 1) := by simp [e]
    have hll : (l.map Pfx.enc).length = l.length := by simp
    have hx : (l.map Pfx.enc)[n.toNat]? = some (Pfx.enc x) := by simp [e, hn]
    obtain ⟨ho, hvx⟩ := hv x (by simp [e])
    obtain ⟨a, b, _, d⟩ := valid_mul ho hvx
    have hx := ho.addr
    unfold okU at hx
    subst hm hes
    have hp := put0_gives109 4 x.addr.toNat (by omega)
    rw [show ((x.addr.toNat : Nat) : Int) = x.addr from by omega] at hp
    have hpl := packP_length (l := done) (fun p hp => by have := (valid_mul (hv p (by simp [e, hp])).1 (hv p (by simp [e, hp])).2); omega)
    have hbe : (byteCells (be 4 x.addr.toNat)).length = 4 := by simp
    have hb4 : (be 4 x.addr.toNat).length = 4 := be_length _ _
    refine ev_loop' (W_ok 300 _ _ _ _ ?_)
    repeat' (first | refine stpA ?_ | refine takP ?_ | refine slL ?_ | (refine condS ?_ ?_ <;> intro h))
    refine ev_keep [6, 7, 8, 3] [200] ?_; exact put_loop205 l hv hlen hl ln hln r (done ++ [x]) _ _ _ _ _ _ (n + 1) (by simp [e]) (by simp [hn] <;> omega) (by simp [packP, pack1, len8]; omega) (pack_step ho hvx done _ (by unfold len8; omega))
theorem put_gives205 (l : List Pfx) (hv : ∀ p ∈ l, p.ok ∧ validP p = true) (hlen : l.length < 2 ^ 30) : Gives G 205 [.sl 2 (l.map Pfx.enc)] [] (rB (packP l)) := by
  refine gives_code (F := f205) rfl rfl (W_ok 300 _ _ _ _ ?_)
  repeat' (first | refine stpA ?_ | (refine condS ?_ ?_ <;> intro h))
  refine ev_nil 200 1 [(3, .vs 200 _ 0)] [] ⟨LeP.nilV _ _ _, trivial⟩ trivial ?_
  refine ev_keep [6, 7, 8, 3] [200] ?_
  exact put_loop205 l hv hlen (by omega) _ (by simp) l [] _ _ _ _ _ _ 0 rfl rfl rfl rfl
end Go.AM.IR
set_option maxHeartbeats 4000000
set_option maxRecDepth 20000
namespace Go.AM.IR
theorem sl_drop (b : List UInt8) (n : Nat) : List.take ((byteCells b).length - n) (List.drop n (byteCells b)) = byteCells (b.drop n) := by
  rw [List.take_of_length_le (by simp)]; simp [byteCells]
theorem sl_take (b : List UInt8) (n : Nat) : List.take (n - 0) (List.drop 0 (byteCells b)) = byteCells (b.take n) := by simp [byteCells]
@[simp] theorem pureLL_tk (b : List UInt8) (n : Nat) : pureLL ((byteCells b).take n) = true := by rw [byteCells_take]; exact pureLL_bytes _
@[simp] theorem pureLL_capsE (l : List Cap) : pureLL (l.map Cap.enc) = true := pureLL_mapB (fun c => by simp [Cap.enc, pureL, AV.pure, pureLL_bytes]) l
@[simp] theorem pureLL_pfxE (l : List Pfx) : pureLL (l.map Pfx.enc) = true := pureLL_mapB (fun _ => rfl) l
theorem get0 (b : List UInt8) (hb : b.length < 2 ^ 40) (n : Nat) (h4 : n ≤ 4) (h : n ≤ b.length) : Gives G 110 [.sl 1 (byteCells b), .int .i64 0, .int .i64 (n : Int)] [] ⟨.tup [.int .u64 (rd (b.take n) : Nat), .bool true], []⟩ := by
  have := get_gives110 b hb 0 n (by omega) (by omega) (by omega) (by omega)
  simpa using this
theorem number206a (b : List UInt8) (hb : b.length < 2 ^ 40) (n : Nat) (h4 : n ≤ 4) (h : n ≤ b.length)  : Gives G 206 [.ref 0 0 0, .int .i64 (n : Int)] [.cells [.sl 1 (byteCells b)]] ⟨.int .i64 (rd (b.take n) : Nat), [(true, .cells [.sl 1 (byteCells (b.drop n))])]⟩ := by
  have hg := get0 b hb n h4 h
  have hr : rd (b.take n) < 256 ^ 4 := rd_le (by simp; omega)
  have hbl := byteCells_length b
  have hdr := sl_drop b n
  refine gives_code (F := f206) rfl rfl (W_ok 300 _ _ _ _ ?_)
  repeat' (first | refine stpA ?_ | (refine condS ?_ ?_ <;> intro h))
  (conv => whnf); first | refine finX1 [(0, _, _)] [] [true] ?_ | refine finX0 [(0, _, _)] [] [true] ?_
  rw [← hdr]; rfl
theorem has207a (b : List UInt8) (hb : b.length < 2 ^ 40) (n : Int)  : Gives G 207 [.ref 0 0 0, .int .i64 n] [.cells [.sl 1 (byteCells b)]] ⟨.bool (decide ((b.length : Int) ≥ n)), [(true, .cells [.sl 1 (byteCells b)])]⟩ := by
  have hbl := byteCells_length b
  refine gives_code (F := f207) rfl rfl (W_ok 300 _ _ _ _ ?_)
  repeat' (first | refine stpA ?_ | (refine condS ?_ ?_ <;> intro h))
  (conv => whnf); first | refine finX1 [(0, _, _)] [] [true] ?_ | refine finX0 [(0, _, _)] [] [true] ?_
  rw [← hbl]; rfl
theorem take209a (b : List UInt8) (hb : b.length < 2 ^ 40) (n : Nat) (h : n ≤ b.length)  : Gives G 209 [.ref 0 0 0, .int .i64 (n : Int)] [.cells [.sl 1 (byteCells b)]] ⟨.vs 1 0 n, [(true, .cells [.sl 1 (byteCells (b.drop n))]), (false, .vec 1 (byteCells (b.take n)))]⟩ := by
  have hbl := byteCells_length b
  have hdr := sl_drop b n
  have htk := sl_take b n
  have hl2 : 0 + (List.take ((n : Int).toNat - 0) (List.drop 0 (byteCells b))).length = n := by simp; omega
  refine gives_code (F := f209) rfl rfl (W_ok 300 _ _ _ _ ?_)
  repeat' (first | refine stpA ?_ | refine takP ?_ | (refine condS ?_ ?_ <;> intro h))
  (conv => whnf); first | refine finX1 [(0, _, _)] [(70, _, _)] [true] ?_ | refine finX0 [(0, _, _)] [(70, _, _)] [true] ?_
  rw [← hdr, ← htk]
  show (⟨.vs 1 0 (0 + (List.take ((n : Int).toNat - 0) (List.drop 0 (byteCells b))).length), _⟩ : Ret) = _
  rw [hl2]; rfl
theorem number206n (b : List UInt8) (hb : b.length < 2 ^ 40) (n : Nat) (h4 : n ≤ 4) (h : n ≤ b.length)  : Gives G 206 [.ref 0 0 0, .int .i64 (n : Int)] [.cells [.sl 1 (byteCells b), .con (.slice none 0 0)]] ⟨.int .i64 (rd (b.take n) : Nat), [(true, .cells [.sl 1 (byteCells (b.drop n)), .con (.slice none 0 0)])]⟩ := by
  have hg := get0 b hb n h4 h
  have hr : rd (b.take n) < 256 ^ 4 := rd_le (by simp; omega)
  have hbl := byteCells_length b
  have hdr := sl_drop b n
  refine gives_code (F := f206) rfl rfl (W_ok 300 _ _ _ _ ?_)
  repeat' (first | refine stpA ?_ | (refine condS ?_ ?_ <;> intro h))
  (conv => whnf); first | refine finX1 [(0, _, _)] [] [true] ?_ | refine finX0 [(0, _, _)] [] [true] ?_
  rw [← hdr]; rfl
theorem has207n (b : List UInt8) (hb : b.length < 2 ^ 40) (n : Int)  : Gives G 207 [.ref 0 0 0, .int .i64 n] [.cells [.sl 1 (byteCells b), .con (.slice none 0 0)]] ⟨.bool (decide ((b.length : Int) ≥ n)), [(true, .cells [.sl 1 (byteCells b), .con (.slice none 0 0)])]⟩ := by
  have hbl := byteCells_length b
  refine gives_code (F := f207) rfl rfl (W_ok 300 _ _ _ _ ?_)
  repeat' (first | refine stpA ?_ | (refine condS ?_ ?_ <;> intro h))
  (conv => whnf); first | refine finX1 [(0, _, _)] [] [true] ?_ | refine finX0 [(0, _, _)] [] [true] ?_
  rw [← hbl]; rfl
theorem number206c (b : List UInt8) (hb : b.length < 2 ^ 40) (n : Nat) (h4 : n ≤ 4) (h : n ≤ b.length) (k : Nat) (l : List Cap) : Gives G 206 [.ref 0 0 0, .int .i64 (n : Int)] [.cells [.sl 1 (byteCells b), .vs 1 0 k], .vec 2 (l.map Cap.enc)] ⟨.int .i64 (rd (b.take n) : Nat), [(true, .cells [.sl 1 (byteCells (b.drop n)), .vs 1 0 k]), (true, .vec 2 (l.map Cap.enc))]⟩ := by
  have hg := get0 b hb n h4 h
  have hr : rd (b.take n) < 256 ^ 4 := rd_le (by simp; omega)
  have hbl := byteCells_length b
  have hdr := sl_drop b n
  refine gives_code (F := f206) rfl rfl (W_ok 300 _ _ _ _ ?_)
  repeat' (first | refine stpA ?_ | (refine condS ?_ ?_ <;> intro h))
  (conv => whnf); first | refine finX1 [(0, _, _), (1, _, _)] [] [true, true] ?_ | refine finX0 [(0, _, _), (1, _, _)] [] [true, true] ?_
  rw [← hdr]; rfl
theorem has207c (b : List UInt8) (hb : b.length < 2 ^ 40) (n : Int) (k : Nat) (l : List Cap) : Gives G 207 [.ref 0 0 0, .int .i64 n] [.cells [.sl 1 (byteCells b), .vs 1 0 k], .vec 2 (l.map Cap.enc)] ⟨.bool (decide ((b.length : Int) ≥ n)), [(true, .cells [.sl 1 (byteCells b), .vs 1 0 k]), (true, .vec 2 (l.map Cap.enc))]⟩ := by
  have hbl := byteCells_length b
  refine gives_code (F := f207) rfl rfl (W_ok 300 _ _ _ _ ?_)
  repeat' (first | refine stpA ?_ | (refine condS ?_ ?_ <;> intro h))
  (conv => whnf); first | refine finX1 [(0, _, _), (1, _, _)] [] [true, true] ?_ | refine finX0 [(0, _, _), (1, _, _)] [] [true, true] ?_
  rw [← hbl]; rfl
theorem take209c (b : List UInt8) (hb : b.length < 2 ^ 40) (n : Nat) (h : n ≤ b.length) (k : Nat) (l : List Cap) : Gives G 209 [.ref 0 0 0, .int .i64 (n : Int)] [.cells [.sl 1 (byteCells b), .vs 1 0 k], .vec 2 (l.map Cap.enc)] ⟨.vs 2 0 n, [(true, .cells [.sl 1 (byteCells (b.drop n)), .vs 1 0 k]), (true, .vec 2 (l.map Cap.enc)), (false, .vec 1 (byteCells (b.take n)))]⟩ := by
  have hbl := byteCells_length b
  have hdr := sl_drop b n
  have htk := sl_take b n
  have hl2 : 0 + (List.take ((n : Int).toNat - 0) (List.drop 0 (byteCells b))).length = n := by simp; omega
  refine gives_code (F := f209) rfl rfl (W_ok 300 _ _ _ _ ?_)
  repeat' (first | refine stpA ?_ | refine takP ?_ | (refine condS ?_ ?_ <;> intro h))
  (conv => whnf); first | refine finX1 [(0, _, _), (1, _, _)] [(70, _, _)] [true, true] ?_ | refine finX0 [(0, _, _), (1, _, _)] [(70, _, _)] [true, true] ?_
  rw [← hdr, ← htk]
  show (⟨.vs 2 0 (0 + (List.take ((n : Int).toNat - 0) (List.drop 0 (byteCells b))).length), _⟩ : Ret) = _
  rw [hl2]; rfl
theorem number206p (b : List UInt8) (hb : b.length < 2 ^ 40) (n : Nat) (h4 : n ≤ 4) (h : n ≤ b.length) (k : Nat) (l : List Pfx) : Gives G 206 [.ref 0 0 0, .int .i64 (n : Int)] [.cells [.sl 1 (byteCells b), .vs 1 0 k], .vec 2 (l.map Pfx.enc)] ⟨.int .i64 (rd (b.take n) : Nat), [(true, .cells [.sl 1 (byteCells (b.drop n)), .vs 1 0 k]), (true, .vec 2 (l.map Pfx.enc))]⟩ := by
  have hg := get0 b hb n h4 h
  have hr : rd (b.take n) < 256 ^ 4 := rd_le (by simp; omega)
  have hbl := byteCells_length b
  have hdr := sl_drop b n
  refine gives_code (F := f206) rfl rfl (W_ok 300 _ _ _ _ ?_)
  repeat' (first | refine stpA ?_ | (refine condS ?_ ?_ <;> intro h))
  (conv => whnf); first | refine finX1 [(0, _, _), (1, _, _)] [] [true, true] ?_ | refine finX0 [(0, _, _), (1, _, _)] [] [true, true] ?_
  rw [← hdr]; rfl
theorem has207p (b : List UInt8) (hb : b.length < 2 ^ 40) (n : Int) (k : Nat) (l : List Pfx) : Gives G 207 [.ref 0 0 0, .int .i64 n] [.cells [.sl 1 (byteCells b), .vs 1 0 k], .vec 2 (l.map Pfx.enc)] ⟨.bool (decide ((b.length : Int) ≥ n)), [(true, .cells [.sl 1 (byteCells b), .vs 1 0 k]), (true, .vec 2 (l.map Pfx.enc))]⟩ := by
  have hbl := byteCells_length b
  refine gives_code (F := f207) rfl rfl (W_ok 300 _ _ _ _ ?_)
  repeat' (first | refine stpA ?_ | (refine condS ?_ ?_ <;> intro h))
  (conv => whnf); first | refine finX1 [(0, _, _), (1, _, _)] [] [true, true] ?_ | refine finX0 [(0, _, _), (1, _, _)] [] [true, true] ?_
  rw [← hbl]; rfl
end Go.AM.IR
set_option maxHeartbeats 4000000
set_option maxRecDepth 20000
namespace Go.AM.IR
def capP : Nat → List UInt8 → List Cap → Bool × List UInt8 × List Cap
  | _, [], acc => (decide ((acc.length : Int) > 0), [], acc)
  | 0, b, acc => (false, b, acc)
  | _ + 1, [c], acc => (false, [c], acc)
  | f + 1, c :: n :: r, acc => if r.length < n.toNat then (false, r, acc) else capP f (r.drop n.toNat) (acc ++ [⟨(c.toNat : Int), r.take n.toNat⟩])
def capPR (x : Bool × List UInt8 × List Cap) : Ret := ⟨.bool x.1, [(true, .cells [.sl 1 (byteCells x.2.1), .vs 1 0 x.2.2.length]), (false, .vec 2 (x.2.2.map Cap.enc))]⟩
theorem cap_loop208 : ∀ (f : Nat) (b : List UInt8) (acc : List Cap) (T : List (Nat × AV)) (H : Heap) (c g k : Nat) (es : List (List AV)) (hf : b.length ≤ f) (hb : b.length < 2 ^ 40) (ha : acc.length + b.length < 2 ^ 40) (hk : k = acc.length) (hes : es = acc.map Cap.enc),
   Ev G ⟨f208x9LH, ⟨(0, .ref 0 0 0) :: T, (0, some (0, .cells [.sl 1 (byteCells b), .vs 200 g k])) :: (200, some (g, .vec 2 es)) :: H, c⟩, [.t 2], 1⟩ (capPR (capP f b acc))
  | f, [], acc, T, H, c, g, k, es, hf, hb, ha, hk, hes => by
    have hbl := byteCells_length ([] : List UInt8)
    have e0 : ((byteCells []).length : Int) = 0 := rfl
    subst hk hes
    rw [show capP f [] acc = (decide ((acc.length : Int) > 0), [], acc) from by cases f <;> rfl]
    refine ev_loop' (W_ok 300 _ _ _ _ ?_)
    repeat' (first | refine stpA ?_ | (refine condS ?_ ?_ <;> intro h))
    (conv => whnf); first | refine finX1 [(0, _, _)] [(200, _, _)] [true] ?_ | refine finX0 [(0, _, _)] [(200, _, _)] [true] ?_
    rfl
  | 0, x :: b, acc, T, H, c, g, k, es, hf, hb, ha, hk, hes => by simp at hf
  | f + 1, [x], acc, T, H, c, g, k, es, hf, hb, ha, hk, hes => by
    have hbl := byteCells_length [x]
    have e0 : [x].length = 1 := rfl
    subst hk hes
    have h1 := has207c [x] hb 2 acc.length acc
    rw [show capP (f + 1) [x] acc = (false, [x], acc) from rfl]
    refine ev_loop' (W_ok 300 _ _ _ _ ?_)
    repeat' (first | refine stpA ?_ | refine kX [(0, _, _), (200, _, _)] [] ⟨rfl, rfl, trivial⟩ trivial (h1) ?_ | (refine condS ?_ ?_ <;> intro h))
    (conv => whnf); first | refine finX1 [(0, _, _)] [(200, _, _)] [true] ?_ | refine finX0 [(0, _, _)] [(200, _, _)] [true] ?_
    rfl
  | f + 1, x :: n :: r, acc, T, H, c, g, k, es, hf, hb, ha, hk, hes => by
    have hn := n.toNat_lt
    have hx := x.toNat_lt
    have hbl := byteCells_length (x :: n :: r)
    have e0 : (x :: n :: r).length = r.length + 2 := rfl
    have e1 : (n :: r).length = r.length + 1 := rfl
    subst hk hes
    have h1 := has207c (x :: n :: r) hb 2 acc.length acc
    have h2 : Gives G 206 [.ref 0 0 0, .int .i64 1] [.cells [.sl 1 (byteCells (x :: n :: r)), .vs 1 0 acc.length], .vec 2 (acc.map Cap.enc)] ⟨.int .i64 (x.toNat : Int), [(true, .cells [.sl 1 (byteCells (n :: r)), .vs 1 0 acc.length]), (true, .vec 2 (acc.map Cap.enc))]⟩ := by
      have := number206c (x :: n :: r) hb 1 (by omega) (by omega) acc.length acc
      simpa [rd] using this
    have h3 : Gives G 206 [.ref 0 0 0, .int .i64 1] [.cells [.sl 1 (byteCells (n :: r)), .vs 1 0 acc.length], .vec 2 (acc.map Cap.enc)] ⟨.int .i64 (n.toNat : Int), [(true, .cells [.sl 1 (byteCells r), .vs 1 0 acc.length]), (true, .vec 2 (acc.map Cap.enc))]⟩ := by
      have := number206c (n :: r) (by omega) 1 (by omega) (by omega) acc.length acc
      simpa [rd] using this
    have h4 := has207c r (by omega) n.toNat acc.length acc
    rw [capP]
    by_cases hlt : r.length < n.toNat
    · rw [if_pos hlt]
      rw [decide_eq_false (by omega)] at h4
      refine ev_loop' (W_ok 300 _ _ _ _ ?_)
      repeat' (first | refine stpA ?_ | refine kX [(0, _, _), (200, _, _)] [] ⟨rfl, rfl, trivial⟩ trivial (h1) ?_ | refine kX [(0, _, _), (200, _, _)] [] ⟨rfl, rfl, trivial⟩ trivial (h2) ?_ | refine kX [(0, _, _), (200, _, _)] [] ⟨rfl, rfl, trivial⟩ trivial (h3) ?_ | refine kX [(0, _, _), (200, _, _)] [] ⟨rfl, rfl, trivial⟩ trivial (h4) ?_ | (refine condS ?_ ?_ <;> intro h))
      (conv => whnf); first | refine finX1 [(0, _, _)] [(200, _, _)] [true] ?_ | refine finX0 [(0, _, _)] [(200, _, _)] [true] ?_
      rfl
    · rw [if_neg hlt]
      rw [decide_eq_true (by omega)] at h4
      have htl : (byteCells (r.take n.toNat)).length = n.toNat := by rw [byteCells_length, List.length_take]; omega
      have h5 : Gives G 209 [.ref 0 0 0, .int .i64 (n.toNat : Int)] [.cells [.sl 1 (byteCells r), .vs 1 0 acc.length], .vec 2 (acc.map Cap.enc)] ⟨.vs 2 0 (byteCells (r.take n.toNat)).length, [(true, .cells [.sl 1 (byteCells (r.drop n.toNat)), .vs 1 0 acc.length]), (true, .vec 2 (acc.map Cap.enc)), (false, .vec 1 (byteCells (r.take n.toNat)))]⟩ := by
        have := take209c r (by omega) n.toNat (by omega) acc.length acc
        rwa [htl]
      refine ev_loop' (W_ok 300 _ _ _ _ ?_)
      repeat' (first | refine stpA ?_ | refine kX [(0, _, _), (200, _, _)] [] ⟨rfl, rfl, trivial⟩ trivial (h1) ?_ | refine kX [(0, _, _), (200, _, _)] [] ⟨rfl, rfl, trivial⟩ trivial (h2) ?_ | refine kX [(0, _, _), (200, _, _)] [] ⟨rfl, rfl, trivial⟩ trivial (h3) ?_ | refine kX [(0, _, _), (200, _, _)] [] ⟨rfl, rfl, trivial⟩ trivial (h4) ?_ | refine kX [(0, _, _), (200, _, _)] [] ⟨rfl, rfl, trivial⟩ trivial (h5) ?_ | refine kB [(105, _, _)] ⟨rfl, pz trivial⟩ ?_ | (refine condS ?_ ?_ <;> intro h))
      refine ev_keep [0] [0, 200] ?_
      refine cap_loop208 f (r.drop n.toNat) (acc ++ [⟨(x.toNat : Int), r.take n.toNat⟩]) _ _ _ _ _ _ (by rw [List.length_drop]; omega) (by rw [List.length_drop]; omega) (by rw [List.length_append, List.length_drop]; simp only [List.length_cons, List.length_nil]; omega) (by rw [List.length_append]) (by rw [List.map_append])
theorem caps208 (b : List UInt8) (hb : b.length < 2 ^ 40) : Gives G 208 [.ref 0 0 0] [.cells [.sl 1 (byteCells b), .con (.slice none 0 0)]] (capPR (capP b.length b [])) := by
  refine gives_code (F := f208) rfl rfl (W_ok 300 _ _ _ _ ?_)
  repeat' (first | refine stpA ?_ | (refine condS ?_ ?_ <;> intro h))
  refine ev_nil 200 2 [] [(0, some (_, .cells [.sl 1 (byteCells b), .vs 200 _ 0]))] trivial ⟨⟨rfl, .refl _, LeP.nilV _ _ _, trivial⟩, trivial⟩ ?_
  refine ev_keep [0] [0, 200] ?_
  exact cap_loop208 b.length b [] _ _ _ _ _ _ (Nat.le_refl _) hb (by simp; omega) rfl rfl
end Go.AM.IR
set_option maxHeartbeats 4000000
set_option maxRecDepth 20000
namespace Go.AM.IR
theorem shl_i64 (x j : Nat) (hj : j ≤ 64) (h : x * 2 ^ j < 9223372036854775808) : binA .shl (.int .i64 (x : Int)) (.int .u64 (j : Int)) = some (.int .i64 ((x * 2 ^ j : Nat) : Int)) := by
  show (if ((j : Int) < 0) then none else some (AV.int .i64 (IntKind.wrap .i64 ((x : Int) * 2 ^ (min ((j : Int).toNat) 64))))) = _
  rw [if_neg (by omega), show min ((j : Int).toNat) 64 = j from by omega]
  have e : (x : Int) * 2 ^ j = ((x * 2 ^ j : Nat) : Int) := by simp
  rw [e, wrap_i64 (by omega) (by omega)]
def pfxP : Nat → List UInt8 → List Pfx → Bool × List UInt8 × List Pfx
  | _, [], acc => (true, [], acc)
  | 0, b, acc => (false, b, acc)
  | f + 1, n :: r, acc => if n.toNat > 32 ∨ r.length < len8 n.toNat then (false, r, acc) else
      if validP (pfxB n.toNat r) = true then pfxP f (r.drop (len8 n.toNat)) (acc ++ [pfxB n.toNat r]) else (false, r.drop (len8 n.toNat), acc)
def pfxPR (x : Bool × List UInt8 × List Pfx) : Ret := ⟨.bool x.1, [(true, .cells [.sl 1 (byteCells x.2.1), .vs 1 0 x.2.2.length]), (false, .vec 2 (x.2.2.map Pfx.enc))]⟩
theorem pfx_loop210 : ∀ (f : Nat) (b : List UInt8) (acc : List Pfx) (T : List (Nat × AV)) (H : Heap) (c g k : Nat) (es : List (List AV)) (hf : b.length ≤ f) (hb : b.length < 2 ^ 40) (ha : acc.length + b.length < 2 ^ 40) (hk : k = acc.length) (hes : es = acc.map Pfx.enc),
   Ev G ⟨f210x10LH, ⟨(0, .ref 0 0 0) :: T, (0, some (0, .cells [.sl 1 (byteCells b), .vs 200 g k])) :: (200, some (g, .vec 2 es)) :: H, c⟩, [.t 2], 1⟩ (pfxPR (pfxP f b acc))
  | f, [], acc, T, H, c, g, k, es, hf, hb, ha, hk, hes => by
    have hbl := byteCells_length ([] : List UInt8)
    have e0 : ((byteCells []).length : Int) = 0 := rfl
    subst hk hes
    rw [show pfxP f [] acc = (true, [], acc) from by cases f <;> rfl]
    refine ev_loop' (W_ok 300 _ _ _ _ ?_)
    repeat' (first | refine stpA ?_ | (refine condS ?_ ?_ <;> intro h))
    (conv => whnf); first | refine finX1 [(0, _, _)] [(200, _, _)] [true] ?_ | refine finX0 [(0, _, _)] [(200, _, _)] [true] ?_
    rfl
  | 0, x :: b, acc, T, H, c, g, k, es, hf, hb, ha, hk, hes => by simp at hf
  | f + 1, n :: r, acc, T, H, c, g, k, es, hf, hb, ha, hk, hes => by
    have hn := n.toNat_lt
    have hbl := byteCells_length (n :: r)
    have e0 : (n :: r).length = r.length + 1 := rfl
    subst hk hes
    have hq : ((n.toNat : Int) + 7) / 8 = (len8 n.toNat : Nat) := by unfold len8; omega
    have h2 : Gives G 206 [.ref 0 0 0, .int .i64 1] [.cells [.sl 1 (byteCells (n :: r)), .vs 1 0 acc.length], .vec 2 (acc.map Pfx.enc)] ⟨.int .i64 (n.toNat : Int), [(true, .cells [.sl 1 (byteCells r), .vs 1 0 acc.length]), (true, .vec 2 (acc.map Pfx.enc))]⟩ := by
      have := number206p (n :: r) hb 1 (by omega) (by omega) acc.length acc
      simpa [rd] using this
    rw [pfxP]
    by_cases h32 : n.toNat > 32
    · rw [if_pos (.inl h32)]
      refine ev_loop' (W_ok 300 _ _ _ _ ?_)
      repeat' (first | refine stpA ?_ | refine kX [(0, _, _), (200, _, _)] [] ⟨rfl, rfl, trivial⟩ trivial (h2) ?_ | (refine condS ?_ ?_ <;> intro h))
      (conv => whnf); first | refine finX1 [(0, _, _)] [(200, _, _)] [true] ?_ | refine finX0 [(0, _, _)] [(200, _, _)] [true] ?_
      rfl
    have h4 : Gives G 207 [.ref 0 0 0, .int .i64 (((n.toNat : Int) + 7) / 8)] [.cells [.sl 1 (byteCells r), .vs 1 0 acc.length], .vec 2 (acc.map Pfx.enc)] ⟨.bool (decide ((r.length : Int) ≥ ((n.toNat : Int) + 7) / 8)), [(true, .cells [.sl 1 (byteCells r), .vs 1 0 acc.length]), (true, .vec 2 (acc.map Pfx.enc))]⟩ := has207p r (by omega) _ acc.length acc
    by_cases hlt : r.length < len8 n.toNat
    · rw [if_pos (.inr hlt)]
      rw [decide_eq_false (by omega)] at h4
      refine ev_loop' (W_ok 300 _ _ _ _ ?_)
      repeat' (first | refine stpA ?_ | refine kX [(0, _, _), (200, _, _)] [] ⟨rfl, rfl, trivial⟩ trivial (h2) ?_ | refine kX [(0, _, _), (200, _, _)] [] ⟨rfl, rfl, trivial⟩ trivial (h4) ?_ | (refine condS ?_ ?_ <;> intro h))
      (conv => whnf); first | refine finX1 [(0, _, _)] [(200, _, _)] [true] ?_ | refine finX0 [(0, _, _)] [(200, _, _)] [true] ?_
      rfl
    rw [if_neg (by omega)]
    rw [decide_eq_true (by omega)] at h4
    have hl4 : len8 n.toNat ≤ 4 := by unfold len8; omega
    have h5 : Gives G 206 [.ref 0 0 0, .int .i64 (((n.toNat : Int) + 7) / 8)] [.cells [.sl 1 (byteCells r), .vs 1 0 acc.length], .vec 2 (acc.map Pfx.enc)] ⟨.int .i64 (rd (r.take (len8 n.toNat)) : Nat), [(true, .cells [.sl 1 (byteCells (r.drop (len8 n.toNat))), .vs 1 0 acc.length]), (true, .vec 2 (acc.map Pfx.enc))]⟩ := by
      rw [hq]
      exact number206p r (by omega) (len8 n.toNat) hl4 (by omega) acc.length acc
    obtain ⟨v, hv⟩ : ∃ v, v = rd (r.take (len8 n.toNat)) * 256 ^ (4 - len8 n.toNat) := ⟨_, rfl⟩
    have hvb : v < 4294967296 := by
      have h1 : rd (r.take (len8 n.toNat)) < 256 ^ (len8 n.toNat) := rd_le (by rw [List.length_take]; omega)
      have h2 : rd (r.take (len8 n.toNat)) * 256 ^ (4 - len8 n.toNat) < 256 ^ (len8 n.toNat) * 256 ^ (4 - len8 n.toNat) := Nat.mul_lt_mul_of_pos_right h1 (Nat.pow_pos (by omega))
      rw [← Nat.pow_add, show len8 n.toNat + (4 - len8 n.toNat) = 4 from by omega] at h2
      omega
    have hs : Stp (binA .shl (.int .i64 (rd (r.take (len8 n.toNat)) : Nat)) (.int .u64 (32 - 8 * (((n.toNat : Int) + 7) / 8)))) (.int .i64 (v : Int)) := by
      have hp : rd (r.take (len8 n.toNat)) * 2 ^ (8 * (4 - len8 n.toNat)) = v := by rw [hv, Nat.pow_mul]
      have := shl_i64 (rd (r.take (len8 n.toNat))) (8 * (4 - len8 n.toNat)) (by omega) (by rw [hp]; omega)
      rw [hp] at this
      rw [show (32 - 8 * (((n.toNat : Int) + 7) / 8)) = ((8 * (4 - len8 n.toNat) : Nat) : Int) from by omega]
      exact ⟨this⟩
    have hpf : pfxB n.toNat r = ⟨(v : Int), (n.toNat : Int)⟩ := by unfold pfxB; rw [hv]
    have h6 : Gives G 178 [.agg [.int .u32 (v : Int), .int .i64 (n.toNat : Int)]] [] ⟨.bool (validP (pfxB n.toNat r)), []⟩ := by
      rw [hpf]
      exact valid_gives178 ⟨(v : Int), (n.toNat : Int)⟩ ⟨by unfold okU; simp only; omega, by unfold okI; simp only; omega⟩
    have hq0 : 0 ≤ ((n.toNat : Int) + 7) / 8 ∧ ((n.toNat : Int) + 7) / 8 ≤ 4 := by omega
    cases hvp : validP (pfxB n.toNat r) with
    | false =>
      rw [hvp] at h6
      rw [if_neg (by simp)]
      refine ev_loop' (W_ok 300 _ _ _ _ ?_)
      repeat' (first | refine stpA ?_ | refine kX [(0, _, _), (200, _, _)] [] ⟨rfl, rfl, trivial⟩ trivial (h2) ?_ | refine kX [(0, _, _), (200, _, _)] [] ⟨rfl, rfl, trivial⟩ trivial (h4) ?_ | refine kX [(0, _, _), (200, _, _)] [] ⟨rfl, rfl, trivial⟩ trivial (h5) ?_ | refine kZ [] trivial (h6) ?_ | refine xs hs ?_ | (refine condS ?_ ?_ <;> intro h))
      (conv => whnf); first | refine finX1 [(0, _, _)] [(200, _, _)] [true] ?_ | refine finX0 [(0, _, _)] [(200, _, _)] [true] ?_
      rfl
    | true =>
      rw [hvp] at h6
      rw [if_pos rfl, hpf]
      refine ev_loop' (W_ok 300 _ _ _ _ ?_)
      repeat' (first | refine stpA ?_ | refine kX [(0, _, _), (200, _, _)] [] ⟨rfl, rfl, trivial⟩ trivial (h2) ?_ | refine kX [(0, _, _), (200, _, _)] [] ⟨rfl, rfl, trivial⟩ trivial (h4) ?_ | refine kX [(0, _, _), (200, _, _)] [] ⟨rfl, rfl, trivial⟩ trivial (h5) ?_ | refine kZ [] trivial (h6) ?_ | refine xs hs ?_ | refine kB [(105, _, _)] ⟨rfl, pz trivial⟩ ?_ | (refine condS ?_ ?_ <;> intro h))
      refine ev_keep [0] [0, 200] ?_
      refine pfx_loop210 f (r.drop (len8 n.toNat)) (acc ++ [⟨(v : Int), (n.toNat : Int)⟩]) _ _ _ _ _ _ (by rw [List.length_drop]; omega) (by rw [List.length_drop]; omega) (by rw [List.length_append, List.length_drop]; simp only [List.length_cons, List.length_nil]; omega) (by rw [List.length_append]) (by rw [List.map_append])
theorem pfxs210 (b : List UInt8) (hb : b.length < 2 ^ 40) : Gives G 210 [.ref 0 0 0] [.cells [.sl 1 (byteCells b), .con (.slice none 0 0)]] (pfxPR (pfxP b.length b [])) := by
  refine gives_code (F := f210) rfl rfl (W_ok 300 _ _ _ _ ?_)
  repeat' (first | refine stpA ?_ | (refine condS ?_ ?_ <;> intro h))
  refine ev_nil 200 2 [] [(0, some (_, .cells [.sl 1 (byteCells b), .vs 200 _ 0]))] trivial ⟨⟨rfl, .refl _, LeP.nilV _ _ _, trivial⟩, trivial⟩ ?_
  refine ev_keep [0] [0, 200] ?_
  exact pfx_loop210 b.length b [] _ _ _ _ _ _ (Nat.le_refl _) hb (by simp; omega) rfl rfl
end Go.AM.IR
set_option maxHeartbeats 4000000
set_option maxRecDepth 20000
namespace Go.AM.IR
theorem notify198 (c s : Int) (d : List UInt8) : Gives G 198 [.int .i64 c, .int .i64 s, .sl 1 (byteCells d)] [] ⟨.agg (noteM c s d).enc, []⟩ := by
  refine gives_code (F := f198) rfl rfl (W_ok 300 _ _ _ _ ?_)
  repeat' (first | refine stpA ?_ | (refine condS ?_ ?_ <;> intro h))
  refine ev_le [] [(70, some (_, .cells (noteM c s d).enc))] trivial ⟨⟨rfl, .refl _, .refl _, .refl _, .refl _, .refl _, LeP.nil 2, LeP.nil 2, .refl _, LeP.nil 2, .refl _, .refl _, .refl _, .refl _, .refl _, .refl _, .refl _, .refl _, .refl _, LeP.nil 1, .refl _, .refl _, LeP.nil 1, LeP.nil 2, LeP.nil 2, .refl _, .refl _, .refl _, trivial⟩, trivial⟩ ?_
  (first | refine fin1 ?_ | refine fin0 ?_)
  (conv => whnf); exact And.intro (by first | rfl | (simp [AV.pure, pureL]; done) | fail) rfl
theorem notify198n (c s : Int) : Gives G 198 [.int .i64 c, .int .i64 s, .con (.slice none 0 0)] [] ⟨.agg (noteM c s []).enc, []⟩ := by
  refine gives_code (F := f198) rfl rfl (W_ok 300 _ _ _ _ ?_)
  repeat' (first | refine stpA ?_ | (refine condS ?_ ?_ <;> intro h))
  refine ev_le [] [(70, some (_, .cells (noteM c s []).enc))] trivial ⟨⟨rfl, .refl _, .refl _, .refl _, .refl _, .refl _, LeP.nil 2, LeP.nil 2, .refl _, LeP.nil 2, .refl _, .refl _, .refl _, .refl _, .refl _, .refl _, .refl _, .refl _, .refl _, LeP.nil 1, .refl _, .refl _, LeP.nil 1, LeP.nil 2, LeP.nil 2, .refl _, .refl _, LeP.nil 1, trivial⟩, trivial⟩ ?_
  (first | refine fin1 ?_ | refine fin0 ?_)
  (conv => whnf); exact And.intro (by first | rfl | (simp [AV.pure, pureL]; done) | fail) rfl
theorem badLength199 (k n : Int) (hk : 1 ≤ k ∧ k ≤ 5) : Gives G 199 [.int .i64 k, .int .i64 n] [] ⟨.bool (badLen k n), []⟩ := by
  obtain ⟨k1, k2⟩ := hk
  have h : k = 1 ∨ k = 2 ∨ k = 3 ∨ k = 4 ∨ k = 5 := by omega
  rcases h with rfl | rfl | rfl | rfl | rfl
  · rw [show badLen 1 n = decide (n < 29) from by simp [badLen]]
    refine gives_code (F := f199) rfl rfl (W_ok 300 _ _ _ _ ?_)
    repeat' (first | refine stpA ?_ | (refine condS ?_ ?_ <;> intro h))
    all_goals try ((first | refine fin1 ?_ | refine fin0 ?_); first | rfl | (simp [Bool.cond_eq_ite, *]; done) | (simp [Bool.cond_eq_ite, *]; omega))
  · rw [show badLen 2 n = decide (n < 23) from by simp [badLen]]
    refine gives_code (F := f199) rfl rfl (W_ok 300 _ _ _ _ ?_)
    repeat' (first | refine stpA ?_ | (refine condS ?_ ?_ <;> intro h))
    all_goals try ((first | refine fin1 ?_ | refine fin0 ?_); first | rfl | (simp [Bool.cond_eq_ite, *]; done) | (simp [Bool.cond_eq_ite, *]; omega))
  · rw [show badLen 3 n = decide (n < 21) from by simp [badLen]]
    refine gives_code (F := f199) rfl rfl (W_ok 300 _ _ _ _ ?_)
    repeat' (first | refine stpA ?_ | (refine condS ?_ ?_ <;> intro h))
    all_goals try ((first | refine fin1 ?_ | refine fin0 ?_); first | rfl | (simp [Bool.cond_eq_ite, *]; done) | (simp [Bool.cond_eq_ite, *]; omega))
  · rw [show badLen 4 n = (n != 19) from by simp [badLen, bne, Bool.beq_eq_decide_eq]]
    refine gives_code (F := f199) rfl rfl (W_ok 300 _ _ _ _ ?_)
    repeat' (first | refine stpA ?_ | (refine condS ?_ ?_ <;> intro h))
    all_goals try ((first | refine fin1 ?_ | refine fin0 ?_); first | rfl | (simp [Bool.cond_eq_ite, *]; done) | (simp [Bool.cond_eq_ite, *]; omega))
  · rw [show badLen 5 n = (n != 23) from by simp [badLen, bne, Bool.beq_eq_decide_eq]]
    refine gives_code (F := f199) rfl rfl (W_ok 300 _ _ _ _ ?_)
    repeat' (first | refine stpA ?_ | (refine condS ?_ ?_ <;> intro h))
    all_goals try ((first | refine fin1 ?_ | refine fin0 ?_); first | rfl | (simp [Bool.cond_eq_ite, *]; done) | (simp [Bool.cond_eq_ite, *]; omega))
end Go.AM.IR
set_option maxHeartbeats 4000000
set_option maxRecDepth 20000
namespace Go.AM.IR
theorem decO200_ver (b : List UInt8) (hb : b.length < 2 ^ 40) (h10 : 10 ≤ b.length) (hv : ¬ ((rd (b.take 1) : Nat) : Int) = 4) : Gives G 200 [.sl 1 (byteCells b)] [] ⟨.tup [.agg zeroM.enc, .agg (noteM 2 1 [0, 4]).enc, .int .i64 12], []⟩ := by
  have h1 : Gives G 206 [.ref 0 0 0, .int .i64 1] [.cells [.sl 1 (byteCells b)]] ⟨.int .i64 (rd (b.take 1) : Nat), [(true, .cells [.sl 1 (byteCells (b.drop 1))])]⟩ := number206a b hb 1 (by omega) (by omega)
  have h2 : Gives G 198 [.int .i64 2, .int .i64 1, .sl 1 [[.int .u8 0], [.int .u8 4]]] [] ⟨.agg (noteM 2 1 [0, 4]).enc, []⟩ := notify198 2 1 [0, 4]
  refine gives_code (F := f200) rfl rfl (W_ok 300 _ _ _ _ ?_)
  repeat' (first | refine stpA ?_ | refine kX [(83, _, _)] [] ⟨rfl, trivial⟩ trivial (h1) ?_ | refine kX [] [(91, _, _)] trivial ⟨rfl, pz trivial⟩ (h2) ?_ | (refine condS ?_ ?_ <;> intro h))
  refine ev_le [] [(66, some (_, .cells zeroM.enc))] trivial ⟨⟨rfl, .refl _, .refl _, .refl _, .refl _, .refl _, LeP.nil 2, LeP.nil 2, .refl _, LeP.nil 2, .refl _, .refl _, .refl _, .refl _, .refl _, .refl _, .refl _, .refl _, .refl _, LeP.nil 1, .refl _, .refl _, LeP.nil 1, LeP.nil 2, LeP.nil 2, .refl _, .refl _, LeP.nil 1, trivial⟩, trivial⟩ ?_
  (first | refine fin1 ?_ | refine fin0 ?_)
  repeat ((conv => whnf); refine And.intro (by first | rfl | (simp [AV.pure, pureL]; done) | fail) ?_)
  rfl
end Go.AM.IR
set_option maxHeartbeats 4000000
set_option maxRecDepth 20000
namespace Go.AM.IR
theorem decO200_len (b : List UInt8) (hb : b.length < 2 ^ 40) (h10 : 10 ≤ b.length) (hv : ((rd (b.take 1) : Nat) : Int) = 4) (hl : ¬ (((b.drop 10).length : Nat) : Int) = (rd ((b.drop 9).take 1) : Nat)) : Gives G 200 [.sl 1 (byteCells b)] [] ⟨.tup [.agg zeroM.enc, .agg (noteM 2 4 []).enc, .int .i64 2], []⟩ := by
  have h1 : Gives G 206 [.ref 0 0 0, .int .i64 1] [.cells [.sl 1 (byteCells b)]] ⟨.int .i64 4, [(true, .cells [.sl 1 (byteCells (b.drop 1))])]⟩ := by rw [← hv]; exact number206a b hb 1 (by omega) (by omega)
  have l1 : (b.drop 1).length = b.length - 1 := List.length_drop
  have l3 : (b.drop 3).length = b.length - 3 := List.length_drop
  have l5 : (b.drop 5).length = b.length - 5 := List.length_drop
  have l9 : (b.drop 9).length = b.length - 9 := List.length_drop
  have l0 : (b.drop 10).length = b.length - 10 := List.length_drop
  have h2 : Gives G 206 [.ref 0 0 0, .int .i64 2] [.cells [.sl 1 (byteCells (b.drop 1))]] ⟨.int .i64 (rd ((b.drop 1).take 2) : Nat), [(true, .cells [.sl 1 (byteCells (b.drop 3))])]⟩ := by
    have := number206a (b.drop 1) (by omega) 2 (by omega) (by omega)
    rwa [List.drop_drop] at this
  have h3 : Gives G 206 [.ref 0 0 0, .int .i64 2] [.cells [.sl 1 (byteCells (b.drop 3))]] ⟨.int .i64 (rd ((b.drop 3).take 2) : Nat), [(true, .cells [.sl 1 (byteCells (b.drop 5))])]⟩ := by
    have := number206a (b.drop 3) (by omega) 2 (by omega) (by omega)
    rwa [List.drop_drop] at this
  have h4 : Gives G 206 [.ref 0 0 0, .int .i64 4] [.cells [.sl 1 (byteCells (b.drop 5))]] ⟨.int .i64 (rd ((b.drop 5).take 4) : Nat), [(true, .cells [.sl 1 (byteCells (b.drop 9))])]⟩ := by
    have := number206a (b.drop 5) (by omega) 4 (by omega) (by omega)
    rwa [List.drop_drop] at this
  have h5 : Gives G 206 [.ref 0 0 0, .int .i64 1] [.cells [.sl 1 (byteCells (b.drop 9))]] ⟨.int .i64 (rd ((b.drop 9).take 1) : Nat), [(true, .cells [.sl 1 (byteCells (b.drop 10))])]⟩ := by
    have := number206a (b.drop 9) (by omega) 1 (by omega) (by omega)
    rwa [List.drop_drop] at this
  have hr4 : rd ((b.drop 5).take 4) < 256 ^ 4 := rd_le (by simp; omega)
  have hbl : (((byteCells (b.drop 10)).length : Nat) : Int) = ((b.drop 10).length : Nat) := by rw [byteCells_length]
  have h6 : Gives G 198 [.int .i64 2, .int .i64 4, .con (.slice none 0 0)] [] ⟨.agg (noteM 2 4 []).enc, []⟩ := notify198n 2 4
  refine gives_code (F := f200) rfl rfl (W_ok 300 _ _ _ _ ?_)
  repeat' (first | refine stpA ?_ | refine kX [(83, _, _)] [] ⟨rfl, trivial⟩ trivial (h1) ?_ | refine kX [(83, _, _)] [] ⟨rfl, trivial⟩ trivial (h2) ?_ | refine kX [(83, _, _)] [] ⟨rfl, trivial⟩ trivial (h3) ?_ | refine kX [(83, _, _)] [] ⟨rfl, trivial⟩ trivial (h4) ?_ | refine kX [(83, _, _)] [] ⟨rfl, trivial⟩ trivial (h5) ?_ | (refine condS ?_ ?_ <;> intro h))
  refine ev_le [] [(66, some (_, .cells zeroM.enc))] trivial ⟨⟨rfl, .refl _, .refl _, .refl _, .refl _, .refl _, LeP.nil 2, LeP.nil 2, .refl _, LeP.nil 2, .refl _, .refl _, .refl _, .refl _, .refl _, .refl _, .refl _, .refl _, .refl _, LeP.nil 1, .refl _, .refl _, LeP.nil 1, LeP.nil 2, LeP.nil 2, .refl _, .refl _, LeP.nil 1, trivial⟩, trivial⟩ ?_
  (first | refine fin1 ?_ | refine fin0 ?_)
  repeat ((conv => whnf); refine And.intro (by first | rfl | (simp [AV.pure, pureL]; done) | fail) ?_)
  rfl
end Go.AM.IR
set_option maxHeartbeats 4000000
set_option maxRecDepth 20000
namespace Go.AM.IR
theorem decO200_c1 (b : List UInt8) (hb : b.length < 2 ^ 40) (h10 : 10 ≤ b.length) (hv : ((rd (b.take 1) : Nat) : Int) = 4) (hl : (((byteCells (b.drop 10)).length : Nat) : Int) = (rd ((b.drop 9).take 1) : Nat)) (hp : 0 < rd ((b.drop 9).take 1)) (hs : (b.drop 10).length < 2) : Gives G 200 [.sl 1 (byteCells b)] [] ⟨.tup [.agg zeroM.enc, .agg (noteM 2 4 []).enc, .int .i64 2], []⟩ := by
  have h1 : Gives G 206 [.ref 0 0 0, .int .i64 1] [.cells [.sl 1 (byteCells b)]] ⟨.int .i64 4, [(true, .cells [.sl 1 (byteCells (b.drop 1))])]⟩ := by rw [← hv]; exact number206a b hb 1 (by omega) (by omega)
  have l1 : (b.drop 1).length = b.length - 1 := List.length_drop
  have l3 : (b.drop 3).length = b.length - 3 := List.length_drop
  have l5 : (b.drop 5).length = b.length - 5 := List.length_drop
  have l9 : (b.drop 9).length = b.length - 9 := List.length_drop
  have l0 : (b.drop 10).length = b.length - 10 := List.length_drop
  have h2 : Gives G 206 [.ref 0 0 0, .int .i64 2] [.cells [.sl 1 (byteCells (b.drop 1))]] ⟨.int .i64 (rd ((b.drop 1).take 2) : Nat), [(true, .cells [.sl 1 (byteCells (b.drop 3))])]⟩ := by
    have := number206a (b.drop 1) (by omega) 2 (by omega) (by omega)
    rwa [List.drop_drop] at this
  have h3 : Gives G 206 [.ref 0 0 0, .int .i64 2] [.cells [.sl 1 (byteCells (b.drop 3))]] ⟨.int .i64 (rd ((b.drop 3).take 2) : Nat), [(true, .cells [.sl 1 (byteCells (b.drop 5))])]⟩ := by
    have := number206a (b.drop 3) (by omega) 2 (by omega) (by omega)
    rwa [List.drop_drop] at this
  have h4 : Gives G 206 [.ref 0 0 0, .int .i64 4] [.cells [.sl 1 (byteCells (b.drop 5))]] ⟨.int .i64 (rd ((b.drop 5).take 4) : Nat), [(true, .cells [.sl 1 (byteCells (b.drop 9))])]⟩ := by
    have := number206a (b.drop 5) (by omega) 4 (by omega) (by omega)
    rwa [List.drop_drop] at this
  have h5 : Gives G 206 [.ref 0 0 0, .int .i64 1] [.cells [.sl 1 (byteCells (b.drop 9))]] ⟨.int .i64 (rd ((b.drop 9).take 1) : Nat), [(true, .cells [.sl 1 (byteCells (b.drop 10))])]⟩ := by
    have := number206a (b.drop 9) (by omega) 1 (by omega) (by omega)
    rwa [List.drop_drop] at this
  have hr4 : rd ((b.drop 5).take 4) < 256 ^ 4 := rd_le (by simp; omega)
  have h6 : Gives G 198 [.int .i64 2, .int .i64 4, .con (.slice none 0 0)] [] ⟨.agg (noteM 2 4 []).enc, []⟩ := notify198n 2 4
  have h7 : Gives G 207 [.ref 0 0 0, .int .i64 2] [.cells [.sl 1 (byteCells (b.drop 10)), .con (.slice none 0 0)]] ⟨.bool false, [(true, .cells [.sl 1 (byteCells (b.drop 10)), .con (.slice none 0 0)])]⟩ := by
    have := has207n (b.drop 10) (by omega) 2
    rwa [decide_eq_false (by omega)] at this
  refine gives_code (F := f200) rfl rfl (W_ok 300 _ _ _ _ ?_)
  repeat' (first | refine stpA ?_ | refine kX [(83, _, _)] [] ⟨rfl, trivial⟩ trivial (h1) ?_ | refine kX [(83, _, _)] [] ⟨rfl, trivial⟩ trivial (h2) ?_ | refine kX [(83, _, _)] [] ⟨rfl, trivial⟩ trivial (h3) ?_ | refine kX [(83, _, _)] [] ⟨rfl, trivial⟩ trivial (h4) ?_ | refine kX [(83, _, _)] [] ⟨rfl, trivial⟩ trivial (h5) ?_ | refine kX [(124, _, _)] [] ⟨rfl, trivial⟩ trivial (h7) ?_ | (refine condS ?_ ?_ <;> intro h))
  refine ev_le [] [(66, some (_, .cells zeroM.enc))] trivial ⟨⟨rfl, .refl _, .refl _, .refl _, .refl _, .refl _, LeP.nil 2, LeP.nil 2, .refl _, LeP.nil 2, .refl _, .refl _, .refl _, .refl _, .refl _, .refl _, .refl _, .refl _, .refl _, LeP.nil 1, .refl _, .refl _, LeP.nil 1, LeP.nil 2, LeP.nil 2, .refl _, .refl _, LeP.nil 1, trivial⟩, trivial⟩ ?_
  (first | refine fin1 ?_ | refine fin0 ?_)
  repeat ((conv => whnf); refine And.intro (by first | rfl | (simp [AV.pure, pureL]; done) | fail) ?_)
  rfl
end Go.AM.IR
set_option maxHeartbeats 4000000
set_option maxRecDepth 20000
namespace Go.AM.IR
theorem decO200_c2 (b : List UInt8) (hb : b.length < 2 ^ 40) (h10 : 10 ≤ b.length) (hv : ((rd (b.take 1) : Nat) : Int) = 4) (hl : (((byteCells (b.drop 10)).length : Nat) : Int) = (rd ((b.drop 9).take 1) : Nat)) (hp : 0 < rd ((b.drop 9).take 1)) (hs : 2 ≤ (b.drop 10).length) (hw : ¬ ((rd ((b.drop 10).take 1) : Nat) : Int) = 2) : Gives G 200 [.sl 1 (byteCells b)] [] ⟨.tup [.agg zeroM.enc, .agg (noteM 2 4 []).enc, .int .i64 2], []⟩ := by
  have h1 : Gives G 206 [.ref 0 0 0, .int .i64 1] [.cells [.sl 1 (byteCells b)]] ⟨.int .i64 4, [(true, .cells [.sl 1 (byteCells (b.drop 1))])]⟩ := by rw [← hv]; exact number206a b hb 1 (by omega) (by omega)
  have l1 : (b.drop 1).length = b.length - 1 := List.length_drop
  have l3 : (b.drop 3).length = b.length - 3 := List.length_drop
  have l5 : (b.drop 5).length = b.length - 5 := List.length_drop
  have l9 : (b.drop 9).length = b.length - 9 := List.length_drop
  have l0 : (b.drop 10).length = b.length - 10 := List.length_drop
  have h2 : Gives G 206 [.ref 0 0 0, .int .i64 2] [.cells [.sl 1 (byteCells (b.drop 1))]] ⟨.int .i64 (rd ((b.drop 1).take 2) : Nat), [(true, .cells [.sl 1 (byteCells (b.drop 3))])]⟩ := by
    have := number206a (b.drop 1) (by omega) 2 (by omega) (by omega)
    rwa [List.drop_drop] at this
  have h3 : Gives G 206 [.ref 0 0 0, .int .i64 2] [.cells [.sl 1 (byteCells (b.drop 3))]] ⟨.int .i64 (rd ((b.drop 3).take 2) : Nat), [(true, .cells [.sl 1 (byteCells (b.drop 5))])]⟩ := by
    have := number206a (b.drop 3) (by omega) 2 (by omega) (by omega)
    rwa [List.drop_drop] at this
  have h4 : Gives G 206 [.ref 0 0 0, .int .i64 4] [.cells [.sl 1 (byteCells (b.drop 5))]] ⟨.int .i64 (rd ((b.drop 5).take 4) : Nat), [(true, .cells [.sl 1 (byteCells (b.drop 9))])]⟩ := by
    have := number206a (b.drop 5) (by omega) 4 (by omega) (by omega)
    rwa [List.drop_drop] at this
  have h5 : Gives G 206 [.ref 0 0 0, .int .i64 1] [.cells [.sl 1 (byteCells (b.drop 9))]] ⟨.int .i64 (rd ((b.drop 9).take 1) : Nat), [(true, .cells [.sl 1 (byteCells (b.drop 10))])]⟩ := by
    have := number206a (b.drop 9) (by omega) 1 (by omega) (by omega)
    rwa [List.drop_drop] at this
  have hr4 : rd ((b.drop 5).take 4) < 256 ^ 4 := rd_le (by simp; omega)
  have h6 : Gives G 198 [.int .i64 2, .int .i64 4, .con (.slice none 0 0)] [] ⟨.agg (noteM 2 4 []).enc, []⟩ := notify198n 2 4
  have l10 : (b.drop 11).length = b.length - 11 := List.length_drop
  have l12 : (b.drop 12).length = b.length - 12 := List.length_drop
  have h7 : Gives G 207 [.ref 0 0 0, .int .i64 2] [.cells [.sl 1 (byteCells (b.drop 10)), .con (.slice none 0 0)]] ⟨.bool true, [(true, .cells [.sl 1 (byteCells (b.drop 10)), .con (.slice none 0 0)])]⟩ := by
    have := has207n (b.drop 10) (by omega) 2
    rwa [decide_eq_true (by omega)] at this
  have h8 : Gives G 206 [.ref 0 0 0, .int .i64 1] [.cells [.sl 1 (byteCells (b.drop 10)), .con (.slice none 0 0)]] ⟨.int .i64 (rd ((b.drop 10).take 1) : Nat), [(true, .cells [.sl 1 (byteCells (b.drop 11)), .con (.slice none 0 0)])]⟩ := by
    have := number206n (b.drop 10) (by omega) 1 (by omega) (by omega)
    rwa [List.drop_drop] at this
  refine gives_code (F := f200) rfl rfl (W_ok 300 _ _ _ _ ?_)
  repeat' (first | refine stpA ?_ | refine kX [(83, _, _)] [] ⟨rfl, trivial⟩ trivial (h1) ?_ | refine kX [(83, _, _)] [] ⟨rfl, trivial⟩ trivial (h2) ?_ | refine kX [(83, _, _)] [] ⟨rfl, trivial⟩ trivial (h3) ?_ | refine kX [(83, _, _)] [] ⟨rfl, trivial⟩ trivial (h4) ?_ | refine kX [(83, _, _)] [] ⟨rfl, trivial⟩ trivial (h5) ?_ | refine kX [(124, _, _)] [] ⟨rfl, trivial⟩ trivial (h7) ?_ | refine kX [(124, _, _)] [] ⟨rfl, trivial⟩ trivial (h8) ?_ | (refine condS ?_ ?_ <;> intro h))
  refine ev_le [] [(66, some (_, .cells zeroM.enc))] trivial ⟨⟨rfl, .refl _, .refl _, .refl _, .refl _, .refl _, LeP.nil 2, LeP.nil 2, .refl _, LeP.nil 2, .refl _, .refl _, .refl _, .refl _, .refl _, .refl _, .refl _, .refl _, .refl _, LeP.nil 1, .refl _, .refl _, LeP.nil 1, LeP.nil 2, LeP.nil 2, .refl _, .refl _, LeP.nil 1, trivial⟩, trivial⟩ ?_
  (first | refine fin1 ?_ | refine fin0 ?_)
  repeat ((conv => whnf); refine And.intro (by first | rfl | (simp [AV.pure, pureL]; done) | fail) ?_)
  rfl
theorem decO200_c3 (b : List UInt8) (hb : b.length < 2 ^ 40) (h10 : 10 ≤ b.length) (hv : ((rd (b.take 1) : Nat) : Int) = 4) (hl : (((byteCells (b.drop 10)).length : Nat) : Int) = (rd ((b.drop 9).take 1) : Nat)) (hp : 0 < rd ((b.drop 9).take 1)) (hs : 2 ≤ (b.drop 10).length) (ht : ((rd ((b.drop 10).take 1) : Nat) : Int) = 2) (hw : ¬ ((rd ((b.drop 11).take 1) : Nat) : Int) = (rd ((b.drop 9).take 1) : Nat) - 2) : Gives G 200 [.sl 1 (byteCells b)] [] ⟨.tup [.agg zeroM.enc, .agg (noteM 2 4 []).enc, .int .i64 2], []⟩ := by
  have h1 : Gives G 206 [.ref 0 0 0, .int .i64 1] [.cells [.sl 1 (byteCells b)]] ⟨.int .i64 4, [(true, .cells [.sl 1 (byteCells (b.drop 1))])]⟩ := by rw [← hv]; exact number206a b hb 1 (by omega) (by omega)
  have l1 : (b.drop 1).length = b.length - 1 := List.length_drop
  have l3 : (b.drop 3).length = b.length - 3 := List.length_drop
  have l5 : (b.drop 5).length = b.length - 5 := List.length_drop
  have l9 : (b.drop 9).length = b.length - 9 := List.length_drop
  have l0 : (b.drop 10).length = b.length - 10 := List.length_drop
  have h2 : Gives G 206 [.ref 0 0 0, .int .i64 2] [.cells [.sl 1 (byteCells (b.drop 1))]] ⟨.int .i64 (rd ((b.drop 1).take 2) : Nat), [(true, .cells [.sl 1 (byteCells (b.drop 3))])]⟩ := by
    have := number206a (b.drop 1) (by omega) 2 (by omega) (by omega)
    rwa [List.drop_drop] at this
  have h3 : Gives G 206 [.ref 0 0 0, .int .i64 2] [.cells [.sl 1 (byteCells (b.drop 3))]] ⟨.int .i64 (rd ((b.drop 3).take 2) : Nat), [(true, .cells [.sl 1 (byteCells (b.drop 5))])]⟩ := by
    have := number206a (b.drop 3) (by omega) 2 (by omega) (by omega)
    rwa [List.drop_drop] at this
  have h4 : Gives G 206 [.ref 0 0 0, .int .i64 4] [.cells [.sl 1 (byteCells (b.drop 5))]] ⟨.int .i64 (rd ((b.drop 5).take 4) : Nat), [(true, .cells [.sl 1 (byteCells (b.drop 9))])]⟩ := by
    have := number206a (b.drop 5) (by omega) 4 (by omega) (by omega)
    rwa [List.drop_drop] at this
  have h5 : Gives G 206 [.ref 0 0 0, .int .i64 1] [.cells [.sl 1 (byteCells (b.drop 9))]] ⟨.int .i64 (rd ((b.drop 9).take 1) : Nat), [(true, .cells [.sl 1 (byteCells (b.drop 10))])]⟩ := by
    have := number206a (b.drop 9) (by omega) 1 (by omega) (by omega)
    rwa [List.drop_drop] at this
  have hr4 : rd ((b.drop 5).take 4) < 256 ^ 4 := rd_le (by simp; omega)
  have h6 : Gives G 198 [.int .i64 2, .int .i64 4, .con (.slice none 0 0)] [] ⟨.agg (noteM 2 4 []).enc, []⟩ := notify198n 2 4
  have l10 : (b.drop 11).length = b.length - 11 := List.length_drop
  have l12 : (b.drop 12).length = b.length - 12 := List.length_drop
  have h7 : Gives G 207 [.ref 0 0 0, .int .i64 2] [.cells [.sl 1 (byteCells (b.drop 10)), .con (.slice none 0 0)]] ⟨.bool true, [(true, .cells [.sl 1 (byteCells (b.drop 10)), .con (.slice none 0 0)])]⟩ := by
    have := has207n (b.drop 10) (by omega) 2
    rwa [decide_eq_true (by omega)] at this
  have h8 : Gives G 206 [.ref 0 0 0, .int .i64 1] [.cells [.sl 1 (byteCells (b.drop 10)), .con (.slice none 0 0)]] ⟨.int .i64 (rd ((b.drop 10).take 1) : Nat), [(true, .cells [.sl 1 (byteCells (b.drop 11)), .con (.slice none 0 0)])]⟩ := by
    have := number206n (b.drop 10) (by omega) 1 (by omega) (by omega)
    rwa [List.drop_drop] at this
  rw [ht] at h8
  have hbl := byteCells_length (b.drop 10)
  have hsz : 2 ≤ rd ((b.drop 9).take 1) := by have := byteCells_length (b.drop 10); omega
  have h9 : Gives G 206 [.ref 0 0 0, .int .i64 1] [.cells [.sl 1 (byteCells (b.drop 11)), .con (.slice none 0 0)]] ⟨.int .i64 (rd ((b.drop 11).take 1) : Nat), [(true, .cells [.sl 1 (byteCells (b.drop 12)), .con (.slice none 0 0)])]⟩ := by
    have := number206n (b.drop 11) (by omega) 1 (by omega) (by omega)
    rwa [List.drop_drop] at this
  refine gives_code (F := f200) rfl rfl (W_ok 300 _ _ _ _ ?_)
  repeat' (first | refine stpA ?_ | refine kX [(83, _, _)] [] ⟨rfl, trivial⟩ trivial (h1) ?_ | refine kX [(83, _, _)] [] ⟨rfl, trivial⟩ trivial (h2) ?_ | refine kX [(83, _, _)] [] ⟨rfl, trivial⟩ trivial (h3) ?_ | refine kX [(83, _, _)] [] ⟨rfl, trivial⟩ trivial (h4) ?_ | refine kX [(83, _, _)] [] ⟨rfl, trivial⟩ trivial (h5) ?_ | refine kX [(124, _, _)] [] ⟨rfl, trivial⟩ trivial (h7) ?_ | refine kX [(124, _, _)] [] ⟨rfl, trivial⟩ trivial (h8) ?_ | refine kX [(124, _, _)] [] ⟨rfl, trivial⟩ trivial (h9) ?_ | (refine condS ?_ ?_ <;> intro h))
  refine ev_le [] [(66, some (_, .cells zeroM.enc))] trivial ⟨⟨rfl, .refl _, .refl _, .refl _, .refl _, .refl _, LeP.nil 2, LeP.nil 2, .refl _, LeP.nil 2, .refl _, .refl _, .refl _, .refl _, .refl _, .refl _, .refl _, .refl _, .refl _, LeP.nil 1, .refl _, .refl _, LeP.nil 1, LeP.nil 2, LeP.nil 2, .refl _, .refl _, LeP.nil 1, trivial⟩, trivial⟩ ?_
  (first | refine fin1 ?_ | refine fin0 ?_)
  repeat ((conv => whnf); refine And.intro (by first | rfl | (simp [AV.pure, pureL]; done) | fail) ?_)
  rfl
end Go.AM.IR
set_option maxHeartbeats 4000000
set_option maxRecDepth 20000
namespace Go.AM.IR
theorem decO200_c4 (b : List UInt8) (hb : b.length < 2 ^ 40) (h10 : 10 ≤ b.length) (hv : ((rd (b.take 1) : Nat) : Int) = 4) (hl : (((byteCells (b.drop 10)).length : Nat) : Int) = (rd ((b.drop 9).take 1) : Nat)) (hp : 0 < rd ((b.drop 9).take 1)) (hs : 2 ≤ (b.drop 10).length) (ht : ((rd ((b.drop 10).take 1) : Nat) : Int) = 2) (hw : ((rd ((b.drop 11).take 1) : Nat) : Int) = (rd ((b.drop 9).take 1) : Nat) - 2) (r : List UInt8) (l : List Cap) (hc : capP (b.drop 12).length (b.drop 12) [] = (false, r, l)) : Gives G 200 [.sl 1 (byteCells b)] [] ⟨.tup [.agg zeroM.enc, .agg (noteM 2 4 []).enc, .int .i64 2], []⟩ := by
  have h1 : Gives G 206 [.ref 0 0 0, .int .i64 1] [.cells [.sl 1 (byteCells b)]] ⟨.int .i64 4, [(true, .cells [.sl 1 (byteCells (b.drop 1))])]⟩ := by rw [← hv]; exact number206a b hb 1 (by omega) (by omega)
  have l1 : (b.drop 1).length = b.length - 1 := List.length_drop
  have l3 : (b.drop 3).length = b.length - 3 := List.length_drop
  have l5 : (b.drop 5).length = b.length - 5 := List.length_drop
  have l9 : (b.drop 9).length = b.length - 9 := List.length_drop
  have l0 : (b.drop 10).length = b.length - 10 := List.length_drop
  have h2 : Gives G 206 [.ref 0 0 0, .int .i64 2] [.cells [.sl 1 (byteCells (b.drop 1))]] ⟨.int .i64 (rd ((b.drop 1).take 2) : Nat), [(true, .cells [.sl 1 (byteCells (b.drop 3))])]⟩ := by
    have := number206a (b.drop 1) (by omega) 2 (by omega) (by omega)
    rwa [List.drop_drop] at this
  have h3 : Gives G 206 [.ref 0 0 0, .int .i64 2] [.cells [.sl 1 (byteCells (b.drop 3))]] ⟨.int .i64 (rd ((b.drop 3).take 2) : Nat), [(true, .cells [.sl 1 (byteCells (b.drop 5))])]⟩ := by
    have := number206a (b.drop 3) (by omega) 2 (by omega) (by omega)
    rwa [List.drop_drop] at this
  have h4 : Gives G 206 [.ref 0 0 0, .int .i64 4] [.cells [.sl 1 (byteCells (b.drop 5))]] ⟨.int .i64 (rd ((b.drop 5).take 4) : Nat), [(true, .cells [.sl 1 (byteCells (b.drop 9))])]⟩ := by
    have := number206a (b.drop 5) (by omega) 4 (by omega) (by omega)
    rwa [List.drop_drop] at this
  have h5 : Gives G 206 [.ref 0 0 0, .int .i64 1] [.cells [.sl 1 (byteCells (b.drop 9))]] ⟨.int .i64 (rd ((b.drop 9).take 1) : Nat), [(true, .cells [.sl 1 (byteCells (b.drop 10))])]⟩ := by
    have := number206a (b.drop 9) (by omega) 1 (by omega) (by omega)
    rwa [List.drop_drop] at this
  have hr4 : rd ((b.drop 5).take 4) < 256 ^ 4 := rd_le (by simp; omega)
  have h6 : Gives G 198 [.int .i64 2, .int .i64 4, .con (.slice none 0 0)] [] ⟨.agg (noteM 2 4 []).enc, []⟩ := notify198n 2 4
  have l10 : (b.drop 11).length = b.length - 11 := List.length_drop
  have l12 : (b.drop 12).length = b.length - 12 := List.length_drop
  have h7 : Gives G 207 [.ref 0 0 0, .int .i64 2] [.cells [.sl 1 (byteCells (b.drop 10)), .con (.slice none 0 0)]] ⟨.bool true, [(true, .cells [.sl 1 (byteCells (b.drop 10)), .con (.slice none 0 0)])]⟩ := by
    have := has207n (b.drop 10) (by omega) 2
    rwa [decide_eq_true (by omega)] at this
  have h8 : Gives G 206 [.ref 0 0 0, .int .i64 1] [.cells [.sl 1 (byteCells (b.drop 10)), .con (.slice none 0 0)]] ⟨.int .i64 (rd ((b.drop 10).take 1) : Nat), [(true, .cells [.sl 1 (byteCells (b.drop 11)), .con (.slice none 0 0)])]⟩ := by
    have := number206n (b.drop 10) (by omega) 1 (by omega) (by omega)
    rwa [List.drop_drop] at this
  rw [ht] at h8
  have hbl := byteCells_length (b.drop 10)
  have hsz : 2 ≤ rd ((b.drop 9).take 1) := by have := byteCells_length (b.drop 10); omega
  have h9 : Gives G 206 [.ref 0 0 0, .int .i64 1] [.cells [.sl 1 (byteCells (b.drop 11)), .con (.slice none 0 0)]] ⟨.int .i64 (rd ((b.drop 11).take 1) : Nat), [(true, .cells [.sl 1 (byteCells (b.drop 12)), .con (.slice none 0 0)])]⟩ := by
    have := number206n (b.drop 11) (by omega) 1 (by omega) (by omega)
    rwa [List.drop_drop] at this
  rw [hw] at h9
  have hcc : Gives G 208 [.ref 0 0 0] [.cells [.sl 1 (byteCells (b.drop 12)), .con (.slice none 0 0)]] ⟨.bool false, [(true, .cells [.sl 1 (byteCells r), .vs 1 0 l.length]), (false, .vec 2 (l.map Cap.enc))]⟩ := by
    have := caps208 (b.drop 12) (by omega)
    rwa [hc] at this
  refine gives_code (F := f200) rfl rfl (W_ok 300 _ _ _ _ ?_)
  repeat' (first | refine stpA ?_ | refine kX [(83, _, _)] [] ⟨rfl, trivial⟩ trivial (h1) ?_ | refine kX [(83, _, _)] [] ⟨rfl, trivial⟩ trivial (h2) ?_ | refine kX [(83, _, _)] [] ⟨rfl, trivial⟩ trivial (h3) ?_ | refine kX [(83, _, _)] [] ⟨rfl, trivial⟩ trivial (h4) ?_ | refine kX [(83, _, _)] [] ⟨rfl, trivial⟩ trivial (h5) ?_ | refine kX [(124, _, _)] [] ⟨rfl, trivial⟩ trivial (h7) ?_ | refine kX [(124, _, _)] [] ⟨rfl, trivial⟩ trivial (h8) ?_ | refine kX [(124, _, _)] [] ⟨rfl, trivial⟩ trivial (h9) ?_ | refine kX [(124, _, _)] [] ⟨rfl, trivial⟩ trivial (hcc) ?_ | (refine condS ?_ ?_ <;> intro h))
  refine ev_le [] [(66, some (_, .cells zeroM.enc))] trivial ⟨⟨rfl, .refl _, .refl _, .refl _, .refl _, .refl _, LeP.nil 2, LeP.nil 2, .refl _, LeP.nil 2, .refl _, .refl _, .refl _, .refl _, .refl _, .refl _, .refl _, .refl _, .refl _, LeP.nil 1, .refl _, .refl _, LeP.nil 1, LeP.nil 2, LeP.nil 2, .refl _, .refl _, LeP.nil 1, trivial⟩, trivial⟩ ?_
  (first | refine fin1 ?_ | refine fin0 ?_)
  repeat ((conv => whnf); refine And.intro (by first | rfl | (simp [AV.pure, pureL]; done) | fail) ?_)
  rfl
end Go.AM.IR
set_option maxHeartbeats 4000000
set_option maxRecDepth 20000
namespace Go.AM.IR
theorem as4_loop200 (t : Ret) (two : Int) (g g2 g3 : Nat) (Z2 Z3 : Blk) (m : PMsg) (l0 : List Cap) (hl0 : l0.length < 2 ^ 40) : ∀ (l d : List Cap) (a : Int) (T : List (Nat × AV)) (H : Heap) (c : Nat) (n : Int), d ++ l = l0 → n = d.length →
    (∀ (T' : List (Nat × AV)) (H' : Heap) (c' : Nat), Ev G ⟨f200x24LH.drop 2, ⟨(6, .ref 70 g 0) :: (7, .int .i64 two) :: (2, .ref 66 g2 0) :: (3, .ref 67 g3 0) :: T', (70, some (g, .cells ({ m with as := (as4 l).getD a } : PMsg).enc)) :: (66, some (g2, Z2)) :: (67, some (g3, Z3)) :: H', c'⟩, [.cell 2 (some 27), .cell 3 (some 27), .t 4], 0⟩ t) →
    Ev G ⟨f200x24LH, ⟨(97, .int .i64 n) :: (96, .int .i64 l0.length) :: (95, .sl 2 (l0.map Cap.enc)) :: (6, .ref 70 g 0) :: (7, .int .i64 two) :: (2, .ref 66 g2 0) :: (3, .ref 67 g3 0) :: T, (70, some (g, .cells ({ m with as := a } : PMsg).enc)) :: (66, some (g2, Z2)) :: (67, some (g3, Z3)) :: H, c⟩, [.cell 2 (some 27), .cell 3 (some 27), .t 4], 0⟩ t
  | [], d, a, T, H, c, n, e, hn, K => by
    have hd : l0.length = d.length := by rw [← e]; simp
    have hle : ¬ (n < (l0.length : Int)) := by omega
    refine ev_loop' (W_okd 1 300 _ _ _ _ ?_)
    repeat' (first | refine stpA ?_ | (refine condS ?_ ?_ <;> intro h))
    refine ev_keep [6, 7, 2, 3] [70, 66, 67] ?_
    exact K _ _ _
  | x :: r, d, a, T, H, c, n, e, hn, K => by
    have hd : l0.length = d.length + (r.length + 1) := by rw [← e]; simp
    have hlt : n < (l0.length : Int) := by omega
    have hx : (l0.map Cap.enc)[n.toNat]? = some [.int .i64 x.code, .sl 1 (byteCells x.value)] := by
      rw [← e, show n.toNat = d.length from by omega, List.getElem?_map]
      simp [Cap.enc]
    have hvl := byteCells_length x.value
    by_cases h65 : x.code = 65
    · by_cases h4 : x.value.length = 4
      · have hK : as4 (x :: r) = some ((rd x.value : Nat) : Int) := by rw [as4, if_pos ⟨h65, h4⟩]
        rw [hK] at K
        rw [h65] at hx
        have h1 : Gives G 110 [.sl 1 (byteCells x.value), .int .i64 0, .int .i64 4] [] ⟨.tup [.int .u64 (rd x.value : Nat), .bool true], []⟩ := by
          have := get0 x.value (by omega) 4 (by omega) (by omega)
          rwa [List.take_of_length_le (by omega)] at this
        have hr4 : rd x.value < 256 ^ 4 := rd_le (by omega)
        have e4 : (((byteCells x.value).length : Nat) : Int) = 4 := by omega
        refine ev_loop' (W_okd 1 300 _ _ _ _ ?_)
        repeat' (first | refine stpA ?_ | (refine condS ?_ ?_ <;> intro h))
        refine ev_keep [6, 7, 2, 3] [70, 66, 67] ?_
        exact K _ _ _
      · have hK : as4 (x :: r) = as4 r := by rw [as4, if_neg (by simp [h4])]
        rw [hK] at K
        rw [h65] at hx
        have e4 : ¬ (((byteCells x.value).length : Nat) : Int) = 4 := by omega
        refine ev_loop' (W_okd 1 300 _ _ _ _ ?_)
        repeat' (first | refine stpA ?_ | (refine condS ?_ ?_ <;> intro h))
        refine ev_keep [97, 96, 95, 6, 7, 2, 3] [70, 66, 67] ?_
        exact as4_loop200 t two g g2 g3 Z2 Z3 m l0 hl0 r (d ++ [x]) a _ _ _ (n + 1) (by rw [← e]; simp) (by rw [List.length_append]; simp only [List.length_cons, List.length_nil]; omega) K
    · have hK : as4 (x :: r) = as4 r := by rw [as4, if_neg (by simp [h65])]
      rw [hK] at K
      refine ev_loop' (W_okd 1 300 _ _ _ _ ?_)
      repeat' (first | refine stpA ?_ | (refine condS ?_ ?_ <;> intro h))
      refine ev_keep [97, 96, 95, 6, 7, 2, 3] [70, 66, 67] ?_
      exact as4_loop200 t two g g2 g3 Z2 Z3 m l0 hl0 r (d ++ [x]) a _ _ _ (n + 1) (by rw [← e]; simp) (by rw [List.length_append]; simp only [List.length_cons, List.length_nil]; omega) K
end Go.AM.IR
set_option maxHeartbeats 4000000
set_option maxRecDepth 20000
namespace Go.AM.IR
theorem rest200_mis (two sh : Int) (m : PMsg) (g g2 g3 : Nat) (hs : Gives G 204 [.int .i64 m.as] [] ⟨.int .i64 sh, []⟩) (h : ¬ two = sh) (T : List (Nat × AV)) (H : Heap) (c : Nat) : Ev G ⟨f200x24LH.drop 2, ⟨(6, .ref 70 g 0) :: (7, .int .i64 two) :: (2, .ref 66 g2 0) :: (3, .ref 67 g3 0) :: T, (70, some (g, .cells m.enc)) :: (66, some (g2, .cells zeroM.enc)) :: (67, some (g3, .cells zeroM.enc)) :: H, c⟩, [.cell 2 (some 27), .cell 3 (some 27), .t 4], 0⟩ ⟨.tup [.agg zeroM.enc, .agg (noteM 2 2 []).enc, .int .i64 14], []⟩ := by
  have h6 : Gives G 198 [.int .i64 2, .int .i64 2, .con (.slice none 0 0)] [] ⟨.agg (noteM 2 2 []).enc, []⟩ := notify198n 2 2
  refine W_ok 300 _ _ _ _ ?_
  repeat' (first | refine stpA ?_ | (refine condS ?_ ?_ <;> intro h))
  refine ev_le [] [(66, some (_, .cells zeroM.enc))] trivial ⟨⟨rfl, .refl _, .refl _, .refl _, .refl _, .refl _, LeP.nil 2, LeP.nil 2, .refl _, LeP.nil 2, .refl _, .refl _, .refl _, .refl _, .refl _, .refl _, .refl _, .refl _, .refl _, LeP.nil 1, .refl _, .refl _, LeP.nil 1, LeP.nil 2, LeP.nil 2, .refl _, .refl _, LeP.nil 1, trivial⟩, trivial⟩ ?_
  (first | refine fin1 ?_ | refine fin0 ?_)
  repeat ((conv => whnf); refine And.intro (by first | rfl | (simp [AV.pure, pureL]; done) | fail) ?_)
  rfl
theorem rest200_ok (two sh : Int) (m : PMsg) (g g2 g3 : Nat) (hs : Gives G 204 [.int .i64 m.as] [] ⟨.int .i64 sh, []⟩) (h : two = sh) (hc : Gives G 144 [.agg m.enc] [] ⟨.int .i64 0, []⟩) (T : List (Nat × AV)) (H : Heap) (c : Nat) : Ev G ⟨f200x24LH.drop 2, ⟨(6, .ref 70 g 0) :: (7, .int .i64 two) :: (2, .ref 66 g2 0) :: (3, .ref 67 g3 0) :: T, (70, some (g, .cells m.enc)) :: (66, some (g2, .cells zeroM.enc)) :: (67, some (g3, .cells zeroM.enc)) :: H, c⟩, [.cell 2 (some 27), .cell 3 (some 27), .t 4], 0⟩ ⟨.tup [.agg m.enc, .agg zeroM.enc, .int .i64 0], []⟩ := by
  refine W_ok 300 _ _ _ _ ?_
  repeat' (first | refine stpA ?_ | (refine condS ?_ ?_ <;> intro h))
  refine ev_le [] [(67, some (_, .cells zeroM.enc))] trivial ⟨⟨rfl, .refl _, .refl _, .refl _, .refl _, .refl _, LeP.nil 2, LeP.nil 2, .refl _, LeP.nil 2, .refl _, .refl _, .refl _, .refl _, .refl _, .refl _, .refl _, .refl _, .refl _, LeP.nil 1, .refl _, .refl _, LeP.nil 1, LeP.nil 2, LeP.nil 2, .refl _, .refl _, LeP.nil 1, trivial⟩, trivial⟩ ?_
  (first | refine fin1 ?_ | refine fin0 ?_)
  repeat ((conv => whnf); refine And.intro (by first | rfl | (simp [AV.pure, pureL]; done) | fail) ?_)
  rfl
end Go.AM.IR
set_option maxHeartbeats 4000000
set_option maxRecDepth 20000
namespace Go.AM.IR
theorem rest200_b1 (two sh : Int) (m : PMsg) (g g2 g3 : Nat) (hs : Gives G 204 [.int .i64 m.as] [] ⟨.int .i64 sh, []⟩) (h : two = sh) (e : Int) (hc : Gives G 144 [.agg m.enc] [] ⟨.int .i64 e, []⟩) (he : ¬ e = 0) (ha : m.as ≤ 4294967295) (a1 : m.as < 1) (T : List (Nat × AV)) (H : Heap) (c : Nat) : Ev G ⟨f200x24LH.drop 2, ⟨(6, .ref 70 g 0) :: (7, .int .i64 two) :: (2, .ref 66 g2 0) :: (3, .ref 67 g3 0) :: T, (70, some (g, .cells m.enc)) :: (66, some (g2, .cells zeroM.enc)) :: (67, some (g3, .cells zeroM.enc)) :: H, c⟩, [.cell 2 (some 27), .cell 3 (some 27), .t 4], 0⟩ ⟨.tup [.agg zeroM.enc, .agg (noteM 2 2 []).enc, .int .i64 e], []⟩ := by
  have h6 : Gives G 198 [.int .i64 2, .int .i64 2, .con (.slice none 0 0)] [] ⟨.agg (noteM 2 2 []).enc, []⟩ := notify198n 2 2
  refine W_ok 300 _ _ _ _ ?_
  have a4 : ¬ m.as > 4294967295 := by omega
  repeat' (first | refine stpA ?_ | (refine condS ?_ ?_ <;> intro h))
  refine ev_le [] [(66, some (_, .cells zeroM.enc))] trivial ⟨⟨rfl, .refl _, .refl _, .refl _, .refl _, .refl _, LeP.nil 2, LeP.nil 2, .refl _, LeP.nil 2, .refl _, .refl _, .refl _, .refl _, .refl _, .refl _, .refl _, .refl _, .refl _, LeP.nil 1, .refl _, .refl _, LeP.nil 1, LeP.nil 2, LeP.nil 2, .refl _, .refl _, LeP.nil 1, trivial⟩, trivial⟩ ?_
  (first | refine fin1 ?_ | refine fin0 ?_)
  repeat ((conv => whnf); refine And.intro (by first | rfl | (simp [AV.pure, pureL]; done) | fail) ?_)
  rfl
theorem rest200_b2 (two sh : Int) (m : PMsg) (g g2 g3 : Nat) (hs : Gives G 204 [.int .i64 m.as] [] ⟨.int .i64 sh, []⟩) (h : two = sh) (e : Int) (hc : Gives G 144 [.agg m.enc] [] ⟨.int .i64 e, []⟩) (he : ¬ e = 0) (ha : m.as ≤ 4294967295) (a1 : ¬ m.as < 1) (a2 : e = 21) (T : List (Nat × AV)) (H : Heap) (c : Nat) : Ev G ⟨f200x24LH.drop 2, ⟨(6, .ref 70 g 0) :: (7, .int .i64 two) :: (2, .ref 66 g2 0) :: (3, .ref 67 g3 0) :: T, (70, some (g, .cells m.enc)) :: (66, some (g2, .cells zeroM.enc)) :: (67, some (g3, .cells zeroM.enc)) :: H, c⟩, [.cell 2 (some 27), .cell 3 (some 27), .t 4], 0⟩ ⟨.tup [.agg zeroM.enc, .agg (noteM 2 6 []).enc, .int .i64 e], []⟩ := by
  have h6 : Gives G 198 [.int .i64 2, .int .i64 6, .con (.slice none 0 0)] [] ⟨.agg (noteM 2 6 []).enc, []⟩ := notify198n 2 6
  refine W_ok 300 _ _ _ _ ?_
  have a4 : ¬ m.as > 4294967295 := by omega
  repeat' (first | refine stpA ?_ | (refine condS ?_ ?_ <;> intro h))
  refine ev_le [] [(66, some (_, .cells zeroM.enc))] trivial ⟨⟨rfl, .refl _, .refl _, .refl _, .refl _, .refl _, LeP.nil 2, LeP.nil 2, .refl _, LeP.nil 2, .refl _, .refl _, .refl _, .refl _, .refl _, .refl _, .refl _, .refl _, .refl _, LeP.nil 1, .refl _, .refl _, LeP.nil 1, LeP.nil 2, LeP.nil 2, .refl _, .refl _, LeP.nil 1, trivial⟩, trivial⟩ ?_
  (first | refine fin1 ?_ | refine fin0 ?_)
  repeat ((conv => whnf); refine And.intro (by first | rfl | (simp [AV.pure, pureL]; done) | fail) ?_)
  rfl
theorem rest200_b3 (two sh : Int) (m : PMsg) (g g2 g3 : Nat) (hs : Gives G 204 [.int .i64 m.as] [] ⟨.int .i64 sh, []⟩) (h : two = sh) (e : Int) (hc : Gives G 144 [.agg m.enc] [] ⟨.int .i64 e, []⟩) (he : ¬ e = 0) (ha : m.as ≤ 4294967295) (a1 : ¬ m.as < 1) (a2 : ¬ e = 21) (a3 : m.router = 0) (T : List (Nat × AV)) (H : Heap) (c : Nat) : Ev G ⟨f200x24LH.drop 2, ⟨(6, .ref 70 g 0) :: (7, .int .i64 two) :: (2, .ref 66 g2 0) :: (3, .ref 67 g3 0) :: T, (70, some (g, .cells m.enc)) :: (66, some (g2, .cells zeroM.enc)) :: (67, some (g3, .cells zeroM.enc)) :: H, c⟩, [.cell 2 (some 27), .cell 3 (some 27), .t 4], 0⟩ ⟨.tup [.agg zeroM.enc, .agg (noteM 2 3 []).enc, .int .i64 e], []⟩ := by
  have h6 : Gives G 198 [.int .i64 2, .int .i64 3, .con (.slice none 0 0)] [] ⟨.agg (noteM 2 3 []).enc, []⟩ := notify198n 2 3
  refine W_ok 300 _ _ _ _ ?_
  have a4 : ¬ m.as > 4294967295 := by omega
  repeat' (first | refine stpA ?_ | (refine condS ?_ ?_ <;> intro h))
  refine ev_le [] [(66, some (_, .cells zeroM.enc))] trivial ⟨⟨rfl, .refl _, .refl _, .refl _, .refl _, .refl _, LeP.nil 2, LeP.nil 2, .refl _, LeP.nil 2, .refl _, .refl _, .refl _, .refl _, .refl _, .refl _, .refl _, .refl _, .refl _, LeP.nil 1, .refl _, .refl _, LeP.nil 1, LeP.nil 2, LeP.nil 2, .refl _, .refl _, LeP.nil 1, trivial⟩, trivial⟩ ?_
  (first | refine fin1 ?_ | refine fin0 ?_)
  repeat ((conv => whnf); refine And.intro (by first | rfl | (simp [AV.pure, pureL]; done) | fail) ?_)
  rfl
theorem rest200_b4 (two sh : Int) (m : PMsg) (g g2 g3 : Nat) (hs : Gives G 204 [.int .i64 m.as] [] ⟨.int .i64 sh, []⟩) (h : two = sh) (e : Int) (hc : Gives G 144 [.agg m.enc] [] ⟨.int .i64 e, []⟩) (he : ¬ e = 0) (ha : m.as ≤ 4294967295) (a1 : ¬ m.as < 1) (a2 : ¬ e = 21) (a3 : ¬ m.router = 0) (T : List (Nat × AV)) (H : Heap) (c : Nat) : Ev G ⟨f200x24LH.drop 2, ⟨(6, .ref 70 g 0) :: (7, .int .i64 two) :: (2, .ref 66 g2 0) :: (3, .ref 67 g3 0) :: T, (70, some (g, .cells m.enc)) :: (66, some (g2, .cells zeroM.enc)) :: (67, some (g3, .cells zeroM.enc)) :: H, c⟩, [.cell 2 (some 27), .cell 3 (some 27), .t 4], 0⟩ ⟨.tup [.agg zeroM.enc, .agg (noteM 2 4 []).enc, .int .i64 e], []⟩ := by
  have h6 : Gives G 198 [.int .i64 2, .int .i64 4, .con (.slice none 0 0)] [] ⟨.agg (noteM 2 4 []).enc, []⟩ := notify198n 2 4
  refine W_ok 300 _ _ _ _ ?_
  have a4 : ¬ m.as > 4294967295 := by omega
  repeat' (first | refine stpA ?_ | (refine condS ?_ ?_ <;> intro h))
  refine ev_le [] [(66, some (_, .cells zeroM.enc))] trivial ⟨⟨rfl, .refl _, .refl _, .refl _, .refl _, .refl _, LeP.nil 2, LeP.nil 2, .refl _, LeP.nil 2, .refl _, .refl _, .refl _, .refl _, .refl _, .refl _, .refl _, .refl _, .refl _, LeP.nil 1, .refl _, .refl _, LeP.nil 1, LeP.nil 2, LeP.nil 2, .refl _, .refl _, LeP.nil 1, trivial⟩, trivial⟩ ?_
  (first | refine fin1 ?_ | refine fin0 ?_)
  repeat ((conv => whnf); refine And.intro (by first | rfl | (simp [AV.pure, pureL]; done) | fail) ?_)
  rfl
end Go.AM.IR
set_option maxHeartbeats 4000000
set_option maxRecDepth 20000
namespace Go.AM.IR
theorem decO200_z (b : List UInt8) (hb : b.length < 2 ^ 40) (h10 : 10 ≤ b.length) (hv : ((rd (b.take 1) : Nat) : Int) = 4) (hl : (((byteCells (b.drop 10)).length : Nat) : Int) = (rd ((b.drop 9).take 1) : Nat)) (hp : ¬ (((rd ((b.drop 9).take 1) : Nat) : Int) > 0)) (t : Ret) (M : PMsg) (two : Int) (htwo : two = ((rd ((b.drop 1).take 2) : Nat) : Int)) (hM : M = { zeroM with kind := 1, version := 4, hold := ((rd ((b.drop 3).take 2) : Nat) : Int), router := ((rd ((b.drop 5).take 4) : Nat) : Int) })
    (K : ∀ (g g2 g3 : Nat) (T : List (Nat × AV)) (H : Heap) (c : Nat), Ev G ⟨f200x24LH.drop 2, ⟨(6, .ref 70 g 0) :: (7, .int .i64 two) :: (2, .ref 66 g2 0) :: (3, .ref 67 g3 0) :: T, (70, some (g, .cells ({ M with as := two } : PMsg).enc)) :: (66, some (g2, .cells zeroM.enc)) :: (67, some (g3, .cells zeroM.enc)) :: H, c⟩, [.cell 2 (some 27), .cell 3 (some 27), .t 4], 0⟩ t) : Gives G 200 [.sl 1 (byteCells b)] [] t := by
  have h1 : Gives G 206 [.ref 0 0 0, .int .i64 1] [.cells [.sl 1 (byteCells b)]] ⟨.int .i64 4, [(true, .cells [.sl 1 (byteCells (b.drop 1))])]⟩ := by rw [← hv]; exact number206a b hb 1 (by omega) (by omega)
  have l1 : (b.drop 1).length = b.length - 1 := List.length_drop
  have l3 : (b.drop 3).length = b.length - 3 := List.length_drop
  have l5 : (b.drop 5).length = b.length - 5 := List.length_drop
  have l9 : (b.drop 9).length = b.length - 9 := List.length_drop
  have l0 : (b.drop 10).length = b.length - 10 := List.length_drop
  have h2 : Gives G 206 [.ref 0 0 0, .int .i64 2] [.cells [.sl 1 (byteCells (b.drop 1))]] ⟨.int .i64 (rd ((b.drop 1).take 2) : Nat), [(true, .cells [.sl 1 (byteCells (b.drop 3))])]⟩ := by
    have := number206a (b.drop 1) (by omega) 2 (by omega) (by omega)
    rwa [List.drop_drop] at this
  have h3 : Gives G 206 [.ref 0 0 0, .int .i64 2] [.cells [.sl 1 (byteCells (b.drop 3))]] ⟨.int .i64 (rd ((b.drop 3).take 2) : Nat), [(true, .cells [.sl 1 (byteCells (b.drop 5))])]⟩ := by
    have := number206a (b.drop 3) (by omega) 2 (by omega) (by omega)
    rwa [List.drop_drop] at this
  have h4 : Gives G 206 [.ref 0 0 0, .int .i64 4] [.cells [.sl 1 (byteCells (b.drop 5))]] ⟨.int .i64 (rd ((b.drop 5).take 4) : Nat), [(true, .cells [.sl 1 (byteCells (b.drop 9))])]⟩ := by
    have := number206a (b.drop 5) (by omega) 4 (by omega) (by omega)
    rwa [List.drop_drop] at this
  have h5 : Gives G 206 [.ref 0 0 0, .int .i64 1] [.cells [.sl 1 (byteCells (b.drop 9))]] ⟨.int .i64 (rd ((b.drop 9).take 1) : Nat), [(true, .cells [.sl 1 (byteCells (b.drop 10))])]⟩ := by
    have := number206a (b.drop 9) (by omega) 1 (by omega) (by omega)
    rwa [List.drop_drop] at this
  have hr4 : rd ((b.drop 5).take 4) < 256 ^ 4 := rd_le (by simp; omega)
  refine gives_code (F := f200) rfl rfl (W_ok 300 _ _ _ _ ?_)
  repeat' (first | refine stpA ?_ | refine kX [(83, _, _)] [] ⟨rfl, trivial⟩ trivial (h1) ?_ | refine kX [(83, _, _)] [] ⟨rfl, trivial⟩ trivial (h2) ?_ | refine kX [(83, _, _)] [] ⟨rfl, trivial⟩ trivial (h3) ?_ | refine kX [(83, _, _)] [] ⟨rfl, trivial⟩ trivial (h4) ?_ | refine kX [(83, _, _)] [] ⟨rfl, trivial⟩ trivial (h5) ?_ | (refine condS ?_ ?_ <;> intro h))
  subst hM htwo
  refine ev_le [(95, .sl 2 [])] [(70, some (_, .cells ({ zeroM with kind := 1, version := 4, as := ((rd ((b.drop 1).take 2) : Nat) : Int), hold := ((rd ((b.drop 3).take 2) : Nat) : Int), router := ((rd ((b.drop 5).take 4) : Nat) : Int) } : PMsg).enc)), (66, some (_, .cells zeroM.enc)), (67, some (_, .cells zeroM.enc))] ⟨LeP.nil 2, trivial⟩ (by exact ⟨⟨rfl, .refl _, .refl _, .refl _, .refl _, .refl _, LeP.nil 2, LeP.nil 2, .refl _, LeP.nil 2, .refl _, .refl _, .refl _, .refl _, .refl _, .refl _, .refl _, .refl _, .refl _, LeP.nil 1, .refl _, .refl _, LeP.nil 1, LeP.nil 2, LeP.nil 2, .refl _, .refl _, LeP.nil 1, trivial⟩, ⟨rfl, .refl _, .refl _, .refl _, .refl _, .refl _, LeP.nil 2, LeP.nil 2, .refl _, LeP.nil 2, .refl _, .refl _, .refl _, .refl _, .refl _, .refl _, .refl _, .refl _, .refl _, LeP.nil 1, .refl _, .refl _, LeP.nil 1, LeP.nil 2, LeP.nil 2, .refl _, .refl _, LeP.nil 1, trivial⟩, ⟨rfl, .refl _, .refl _, .refl _, .refl _, .refl _, LeP.nil 2, LeP.nil 2, .refl _, LeP.nil 2, .refl _, .refl _, .refl _, .refl _, .refl _, .refl _, .refl _, .refl _, .refl _, LeP.nil 1, .refl _, .refl _, LeP.nil 1, LeP.nil 2, LeP.nil 2, .refl _, .refl _, LeP.nil 1, trivial⟩, trivial⟩) ?_
  refine ev_keep [97, 96, 95, 6, 7, 2, 3] [70, 66, 67] ?_
  exact as4_loop200 t _ _ _ _ (.cells zeroM.enc) (.cells zeroM.enc) ({ zeroM with kind := 1, version := 4, hold := ((rd ((b.drop 3).take 2) : Nat) : Int), router := ((rd ((b.drop 5).take 4) : Nat) : Int) } : PMsg) [] (by decide) [] [] _ _ _ _ 0 rfl rfl (fun T H c => K _ _ _ T H c)
end Go.AM.IR
set_option maxHeartbeats 4000000
set_option maxRecDepth 20000
namespace Go.AM.IR
theorem decO200_y (b : List UInt8) (hb : b.length < 2 ^ 40) (h10 : 10 ≤ b.length) (hv : ((rd (b.take 1) : Nat) : Int) = 4) (hl : (((byteCells (b.drop 10)).length : Nat) : Int) = (rd ((b.drop 9).take 1) : Nat)) (hp : 0 < rd ((b.drop 9).take 1)) (hs : 2 ≤ (b.drop 10).length) (ht : ((rd ((b.drop 10).take 1) : Nat) : Int) = 2) (hw : ((rd ((b.drop 11).take 1) : Nat) : Int) = (rd ((b.drop 9).take 1) : Nat) - 2) (r : List UInt8) (l : List Cap) (hc : capP (b.drop 12).length (b.drop 12) [] = (true, r, l)) (hl40 : l.length < 2 ^ 40) (t : Ret) (M : PMsg) (two : Int) (htwo : two = ((rd ((b.drop 1).take 2) : Nat) : Int)) (hM : M = { zeroM with kind := 1, version := 4, hold := ((rd ((b.drop 3).take 2) : Nat) : Int), router := ((rd ((b.drop 5).take 4) : Nat) : Int), caps := l })
    (K : ∀ (g g2 g3 : Nat) (T : List (Nat × AV)) (H : Heap) (c : Nat), Ev G ⟨f200x24LH.drop 2, ⟨(6, .ref 70 g 0) :: (7, .int .i64 two) :: (2, .ref 66 g2 0) :: (3, .ref 67 g3 0) :: T, (70, some (g, .cells ({ M with as := (as4 l).getD two } : PMsg).enc)) :: (66, some (g2, .cells zeroM.enc)) :: (67, some (g3, .cells zeroM.enc)) :: H, c⟩, [.cell 2 (some 27), .cell 3 (some 27), .t 4], 0⟩ t) : Gives G 200 [.sl 1 (byteCells b)] [] t := by
  have h1 : Gives G 206 [.ref 0 0 0, .int .i64 1] [.cells [.sl 1 (byteCells b)]] ⟨.int .i64 4, [(true, .cells [.sl 1 (byteCells (b.drop 1))])]⟩ := by rw [← hv]; exact number206a b hb 1 (by omega) (by omega)
  have l1 : (b.drop 1).length = b.length - 1 := List.length_drop
  have l3 : (b.drop 3).length = b.length - 3 := List.length_drop
  have l5 : (b.drop 5).length = b.length - 5 := List.length_drop
  have l9 : (b.drop 9).length = b.length - 9 := List.length_drop
  have l0 : (b.drop 10).length = b.length - 10 := List.length_drop
  have h2 : Gives G 206 [.ref 0 0 0, .int .i64 2] [.cells [.sl 1 (byteCells (b.drop 1))]] ⟨.int .i64 (rd ((b.drop 1).take 2) : Nat), [(true, .cells [.sl 1 (byteCells (b.drop 3))])]⟩ := by
    have := number206a (b.drop 1) (by omega) 2 (by omega) (by omega)
    rwa [List.drop_drop] at this
  have h3 : Gives G 206 [.ref 0 0 0, .int .i64 2] [.cells [.sl 1 (byteCells (b.drop 3))]] ⟨.int .i64 (rd ((b.drop 3).take 2) : Nat), [(true, .cells [.sl 1 (byteCells (b.drop 5))])]⟩ := by
    have := number206a (b.drop 3) (by omega) 2 (by omega) (by omega)
    rwa [List.drop_drop] at this
  have h4 : Gives G 206 [.ref 0 0 0, .int .i64 4] [.cells [.sl 1 (byteCells (b.drop 5))]] ⟨.int .i64 (rd ((b.drop 5).take 4) : Nat), [(true, .cells [.sl 1 (byteCells (b.drop 9))])]⟩ := by
    have := number206a (b.drop 5) (by omega) 4 (by omega) (by omega)
    rwa [List.drop_drop] at this
  have h5 : Gives G 206 [.ref 0 0 0, .int .i64 1] [.cells [.sl 1 (byteCells (b.drop 9))]] ⟨.int .i64 (rd ((b.drop 9).take 1) : Nat), [(true, .cells [.sl 1 (byteCells (b.drop 10))])]⟩ := by
    have := number206a (b.drop 9) (by omega) 1 (by omega) (by omega)
    rwa [List.drop_drop] at this
  have hr4 : rd ((b.drop 5).take 4) < 256 ^ 4 := rd_le (by simp; omega)
  have h6 : Gives G 198 [.int .i64 2, .int .i64 4, .con (.slice none 0 0)] [] ⟨.agg (noteM 2 4 []).enc, []⟩ := notify198n 2 4
  have l10 : (b.drop 11).length = b.length - 11 := List.length_drop
  have l12 : (b.drop 12).length = b.length - 12 := List.length_drop
  have h7 : Gives G 207 [.ref 0 0 0, .int .i64 2] [.cells [.sl 1 (byteCells (b.drop 10)), .con (.slice none 0 0)]] ⟨.bool true, [(true, .cells [.sl 1 (byteCells (b.drop 10)), .con (.slice none 0 0)])]⟩ := by
    have := has207n (b.drop 10) (by omega) 2
    rwa [decide_eq_true (by omega)] at this
  have h8 : Gives G 206 [.ref 0 0 0, .int .i64 1] [.cells [.sl 1 (byteCells (b.drop 10)), .con (.slice none 0 0)]] ⟨.int .i64 (rd ((b.drop 10).take 1) : Nat), [(true, .cells [.sl 1 (byteCells (b.drop 11)), .con (.slice none 0 0)])]⟩ := by
    have := number206n (b.drop 10) (by omega) 1 (by omega) (by omega)
    rwa [List.drop_drop] at this
  rw [ht] at h8
  have hbl := byteCells_length (b.drop 10)
  have hsz : 2 ≤ rd ((b.drop 9).take 1) := by have := byteCells_length (b.drop 10); omega
  have h9 : Gives G 206 [.ref 0 0 0, .int .i64 1] [.cells [.sl 1 (byteCells (b.drop 11)), .con (.slice none 0 0)]] ⟨.int .i64 (rd ((b.drop 11).take 1) : Nat), [(true, .cells [.sl 1 (byteCells (b.drop 12)), .con (.slice none 0 0)])]⟩ := by
    have := number206n (b.drop 11) (by omega) 1 (by omega) (by omega)
    rwa [List.drop_drop] at this
  rw [hw] at h9
  have hcc : Gives G 208 [.ref 0 0 0] [.cells [.sl 1 (byteCells (b.drop 12)), .con (.slice none 0 0)]] ⟨.bool true, [(true, .cells [.sl 1 (byteCells r), .vs 1 0 l.length]), (false, .vec 2 (l.map Cap.enc))]⟩ := by
    have := caps208 (b.drop 12) (by omega)
    rwa [hc] at this
  refine gives_code (F := f200) rfl rfl (W_ok 300 _ _ _ _ ?_)
  repeat' (first | refine stpA ?_ | refine kX [(83, _, _)] [] ⟨rfl, trivial⟩ trivial (h1) ?_ | refine kX [(83, _, _)] [] ⟨rfl, trivial⟩ trivial (h2) ?_ | refine kX [(83, _, _)] [] ⟨rfl, trivial⟩ trivial (h3) ?_ | refine kX [(83, _, _)] [] ⟨rfl, trivial⟩ trivial (h4) ?_ | refine kX [(83, _, _)] [] ⟨rfl, trivial⟩ trivial (h5) ?_ | refine kX [(124, _, _)] [] ⟨rfl, trivial⟩ trivial (h7) ?_ | refine kX [(124, _, _)] [] ⟨rfl, trivial⟩ trivial (h8) ?_ | refine kX [(124, _, _)] [] ⟨rfl, trivial⟩ trivial (h9) ?_ | refine kX [(124, _, _)] [] ⟨rfl, trivial⟩ trivial (hcc) ?_ | (refine condS ?_ ?_ <;> intro h))
  refine ev_frzk [(147, _, _)] [97, 96, 95, 6, 7, 2, 3] [70, 66, 67] ⟨rfl, (by first | rfl | (simp [Blk.pure, pureL, pureLL, AV.pure, *]; done) | fail), trivial⟩ ?_; repeat ((conv => whnf); first | refine And.intro (by first | rfl | omega | (simp [pureL, pureLL, AV.pure]; done) | (simp; omega) | (simp [pureL, pureLL, AV.pure, *]; done) | assumption | fail) ?_ | intro T H)
  subst hM htwo
  refine ev_le [] [(70, some (_, .cells ({ zeroM with kind := 1, version := 4, as := ((rd ((b.drop 1).take 2) : Nat) : Int), hold := ((rd ((b.drop 3).take 2) : Nat) : Int), router := ((rd ((b.drop 5).take 4) : Nat) : Int), caps := l } : PMsg).enc)), (66, some (_, .cells zeroM.enc)), (67, some (_, .cells zeroM.enc))] trivial ⟨⟨rfl, .refl _, .refl _, .refl _, .refl _, .refl _, .refl _, LeP.nil 2, .refl _, LeP.nil 2, .refl _, .refl _, .refl _, .refl _, .refl _, .refl _, .refl _, .refl _, .refl _, LeP.nil 1, .refl _, .refl _, LeP.nil 1, LeP.nil 2, LeP.nil 2, .refl _, .refl _, LeP.nil 1, trivial⟩, ⟨rfl, .refl _, .refl _, .refl _, .refl _, .refl _, LeP.nil 2, LeP.nil 2, .refl _, LeP.nil 2, .refl _, .refl _, .refl _, .refl _, .refl _, .refl _, .refl _, .refl _, .refl _, LeP.nil 1, .refl _, .refl _, LeP.nil 1, LeP.nil 2, LeP.nil 2, .refl _, .refl _, LeP.nil 1, trivial⟩, ⟨rfl, .refl _, .refl _, .refl _, .refl _, .refl _, LeP.nil 2, LeP.nil 2, .refl _, LeP.nil 2, .refl _, .refl _, .refl _, .refl _, .refl _, .refl _, .refl _, .refl _, .refl _, LeP.nil 1, .refl _, .refl _, LeP.nil 1, LeP.nil 2, LeP.nil 2, .refl _, .refl _, LeP.nil 1, trivial⟩, trivial⟩ ?_
  refine ev_keep [97, 96, 95, 6, 7, 2, 3] [70, 66, 67] ?_
  exact as4_loop200 t _ _ _ _ (.cells zeroM.enc) (.cells zeroM.enc) ({ zeroM with kind := 1, version := 4, hold := ((rd ((b.drop 3).take 2) : Nat) : Int), router := ((rd ((b.drop 5).take 4) : Nat) : Int), caps := l } : PMsg) l hl40 l [] _ _ _ _ 0 rfl rfl (fun T H c => K _ _ _ T H c)
end Go.AM.IR
set_option maxHeartbeats 4000000
set_option maxRecDepth 20000
namespace Go.AM.IR
theorem decU201_1 (b : List UInt8) (wide : Bool) (hb : b.length < 2 ^ 40) (h2 : 2 ≤ b.length) (hs : b.length < 4 + rd (b.take 2)) : Gives G 201 [.sl 1 (byteCells b), .bool wide] [] ⟨.tup [.agg zeroM.enc, .agg (noteM 3 1 []).enc, .int .i64 2], []⟩ := by
  have l1 : (b.drop 2).length = b.length - 2 := List.length_drop
  have hr : rd (b.take 2) < 256 ^ 2 := rd_le (by simp; omega)
  have h1 : Gives G 206 [.ref 0 0 0, .int .i64 2] [.cells [.sl 1 (byteCells b)]] ⟨.int .i64 (rd (b.take 2) : Nat), [(true, .cells [.sl 1 (byteCells (b.drop 2))])]⟩ := number206a b hb 2 (by omega) h2
  have h6 : Gives G 198 [.int .i64 3, .int .i64 1, .con (.slice none 0 0)] [] ⟨.agg (noteM 3 1 []).enc, []⟩ := notify198n 3 1
  have h7 : Gives G 207 [.ref 0 0 0, .int .i64 (((rd (b.take 2) : Nat) : Int) + 2)] [.cells [.sl 1 (byteCells (b.drop 2))]] ⟨.bool false, [(true, .cells [.sl 1 (byteCells (b.drop 2))])]⟩ := by
    have := has207a (b.drop 2) (by omega) (((rd (b.take 2) : Nat) : Int) + 2)
    rwa [decide_eq_false (by omega)] at this
  refine gives_code (F := f201) rfl rfl (W_ok 300 _ _ _ _ ?_)
  repeat' (first | refine stpA ?_ | refine kX [(82, _, _)] [] ⟨rfl, trivial⟩ trivial (h1) ?_ | refine kX [(82, _, _)] [] ⟨rfl, trivial⟩ trivial (h7) ?_ | (refine condS ?_ ?_ <;> intro h))
  refine ev_le [] [(68, some (_, .cells zeroM.enc))] trivial ⟨⟨rfl, .refl _, .refl _, .refl _, .refl _, .refl _, LeP.nil 2, LeP.nil 2, .refl _, LeP.nil 2, .refl _, .refl _, .refl _, .refl _, .refl _, .refl _, .refl _, .refl _, .refl _, LeP.nil 1, .refl _, .refl _, LeP.nil 1, LeP.nil 2, LeP.nil 2, .refl _, .refl _, LeP.nil 1, trivial⟩, trivial⟩ ?_
  (first | refine fin1 ?_ | refine fin0 ?_)
  repeat ((conv => whnf); refine And.intro (by first | rfl | (simp [AV.pure, pureL]; done) | fail) ?_)
  rfl
end Go.AM.IR
set_option maxHeartbeats 4000000
set_option maxRecDepth 20000
namespace Go.AM.IR
theorem decU201_2 (b : List UInt8) (wide : Bool) (hb : b.length < 2 ^ 40) (n : Nat) (hn : n = rd (b.take 2)) (hs : 4 + n ≤ b.length) (n2 : Nat) (hn2 : n2 = rd (((b.drop 2).drop n).take 2)) (hs2 : ((b.drop 2).drop (n + 2)).length < n2) : Gives G 201 [.sl 1 (byteCells b), .bool wide] [] ⟨.tup [.agg zeroM.enc, .agg (noteM 3 1 []).enc, .int .i64 2], []⟩ := by
  have l1 : (b.drop 2).length = b.length - 2 := List.length_drop
  have l2 : ((b.drop 2).drop n).length = b.length - 2 - n := by rw [List.length_drop, l1]
  have l3 : ((b.drop 2).drop (n + 2)).length = b.length - 2 - (n + 2) := by rw [List.length_drop, l1]
  have hr : n < 256 ^ 2 := by rw [hn]; exact rd_le (by simp; omega)
  have hr2 : n2 < 256 ^ 2 := by rw [hn2]; exact rd_le (by simp; omega)
  have h1 : Gives G 206 [.ref 0 0 0, .int .i64 2] [.cells [.sl 1 (byteCells b)]] ⟨.int .i64 (n : Int), [(true, .cells [.sl 1 (byteCells (b.drop 2))])]⟩ := by rw [hn]; exact number206a b hb 2 (by omega) (by omega)
  have h6 : Gives G 198 [.int .i64 3, .int .i64 1, .con (.slice none 0 0)] [] ⟨.agg (noteM 3 1 []).enc, []⟩ := notify198n 3 1
  have h7 : Gives G 207 [.ref 0 0 0, .int .i64 ((n : Int) + 2)] [.cells [.sl 1 (byteCells (b.drop 2))]] ⟨.bool true, [(true, .cells [.sl 1 (byteCells (b.drop 2))])]⟩ := by
    have := has207a (b.drop 2) (by omega) ((n : Int) + 2)
    rwa [decide_eq_true (by omega)] at this
  have h8 : Gives G 209 [.ref 0 0 0, .int .i64 (n : Int)] [.cells [.sl 1 (byteCells (b.drop 2))]] ⟨.vs 1 0 (byteCells ((b.drop 2).take n)).length, [(true, .cells [.sl 1 (byteCells ((b.drop 2).drop n))]), (false, .vec 1 (byteCells ((b.drop 2).take n)))]⟩ := by
    have := take209a (b.drop 2) (by omega) n (by omega)
    rwa [show (byteCells ((b.drop 2).take n)).length = n from by rw [byteCells_length, List.length_take]; omega]
  have h9 : Gives G 206 [.ref 0 0 0, .int .i64 2] [.cells [.sl 1 (byteCells ((b.drop 2).drop n))]] ⟨.int .i64 (n2 : Int), [(true, .cells [.sl 1 (byteCells ((b.drop 2).drop (n + 2)))])]⟩ := by
    have := number206a ((b.drop 2).drop n) (by omega) 2 (by omega) (by omega)
    rw [← hn2, List.drop_drop (i := 2)] at this
    exact this
  have hc : Gives G 207 [.ref 0 0 0, .int .i64 (n2 : Int)] [.cells [.sl 1 (byteCells ((b.drop 2).drop (n + 2)))]] ⟨.bool false, [(true, .cells [.sl 1 (byteCells ((b.drop 2).drop (n + 2)))])]⟩ := by
    have := has207a ((b.drop 2).drop (n + 2)) (by omega) (n2 : Int)
    rwa [decide_eq_false (by omega)] at this
  clear hn hn2
  refine gives_code (F := f201) rfl rfl (W_ok 300 _ _ _ _ ?_)
  repeat' (first | refine stpA ?_ | refine kX [(82, _, _)] [] ⟨rfl, trivial⟩ trivial (h1) ?_ | refine kX [(82, _, _)] [] ⟨rfl, trivial⟩ trivial (h7) ?_ | refine kX [(82, _, _)] [] ⟨rfl, trivial⟩ trivial (h8) ?_ | refine kX [(82, _, _)] [] ⟨rfl, trivial⟩ trivial (h9) ?_ | refine kX [(82, _, _)] [] ⟨rfl, trivial⟩ trivial (hc) ?_ | (refine condS ?_ ?_ <;> intro h))
  refine ev_le [] [(68, some (_, .cells zeroM.enc))] trivial ⟨⟨rfl, .refl _, .refl _, .refl _, .refl _, .refl _, LeP.nil 2, LeP.nil 2, .refl _, LeP.nil 2, .refl _, .refl _, .refl _, .refl _, .refl _, .refl _, .refl _, .refl _, .refl _, LeP.nil 1, .refl _, .refl _, LeP.nil 1, LeP.nil 2, LeP.nil 2, .refl _, .refl _, LeP.nil 1, trivial⟩, trivial⟩ ?_
  (first | refine fin1 ?_ | refine fin0 ?_)
  repeat ((conv => whnf); refine And.intro (by first | rfl | (simp [AV.pure, pureL]; done) | fail) ?_)
  rfl
end Go.AM.IR
set_option maxHeartbeats 4000000
set_option maxRecDepth 20000
namespace Go.AM.IR
theorem decU201_A (b : List UInt8) (wide : Bool) (hb : b.length < 2 ^ 40) (n : Nat) (hn : n = rd (b.take 2)) (hs : 4 + n ≤ b.length) (n2 : Nat) (hn2 : n2 = rd (((b.drop 2).drop n).take 2)) (hs2 : n2 ≤ ((b.drop 2).drop (n + 2)).length) (t : Ret) (K : ∀ (g1 g2 g3 g4 : Nat) (T : List (Nat × AV)) (H : Heap) (c : Nat), Ev G ⟨[.code (suf 9 f201.body)], ⟨(9, .ref 97 g1 0) :: (11, .ref 113 g2 0) :: (10, .sl 1 (byteCells (((b.drop 2).drop (n + 2)).take n2))) :: (1, .bool wide) :: (4, .ref 68 g3 0) :: (5, .ref 69 g4 0) :: T, (97, some (g1, .cells [.sl 1 (byteCells ((b.drop 2).take n)), .con (.slice none 0 0)])) :: (113, some (g2, .cells [.sl 1 (byteCells (((b.drop 2).drop (n + 2)).drop n2)), .con (.slice none 0 0)])) :: (68, some (g3, .cells zeroM.enc)) :: (69, some (g4, .cells zeroM.enc)) :: H, c⟩, [.cell 4 (some 27), .cell 5 (some 27), .t 6], 0⟩ t) : Gives G 201 [.sl 1 (byteCells b), .bool wide] [] t := by
  have l1 : (b.drop 2).length = b.length - 2 := List.length_drop
  have l2 : ((b.drop 2).drop n).length = b.length - 2 - n := by rw [List.length_drop, l1]
  have l3 : ((b.drop 2).drop (n + 2)).length = b.length - 2 - (n + 2) := by rw [List.length_drop, l1]
  have hr : n < 256 ^ 2 := by rw [hn]; exact rd_le (by simp; omega)
  have hr2 : n2 < 256 ^ 2 := by rw [hn2]; exact rd_le (by simp; omega)
  have h1 : Gives G 206 [.ref 0 0 0, .int .i64 2] [.cells [.sl 1 (byteCells b)]] ⟨.int .i64 (n : Int), [(true, .cells [.sl 1 (byteCells (b.drop 2))])]⟩ := by rw [hn]; exact number206a b hb 2 (by omega) (by omega)
  have h7 : Gives G 207 [.ref 0 0 0, .int .i64 ((n : Int) + 2)] [.cells [.sl 1 (byteCells (b.drop 2))]] ⟨.bool true, [(true, .cells [.sl 1 (byteCells (b.drop 2))])]⟩ := by
    have := has207a (b.drop 2) (by omega) ((n : Int) + 2)
    rwa [decide_eq_true (by omega)] at this
  have h8 : Gives G 209 [.ref 0 0 0, .int .i64 (n : Int)] [.cells [.sl 1 (byteCells (b.drop 2))]] ⟨.vs 1 0 (byteCells ((b.drop 2).take n)).length, [(true, .cells [.sl 1 (byteCells ((b.drop 2).drop n))]), (false, .vec 1 (byteCells ((b.drop 2).take n)))]⟩ := by
    have := take209a (b.drop 2) (by omega) n (by omega)
    rwa [show (byteCells ((b.drop 2).take n)).length = n from by rw [byteCells_length, List.length_take]; omega]
  have h9 : Gives G 206 [.ref 0 0 0, .int .i64 2] [.cells [.sl 1 (byteCells ((b.drop 2).drop n))]] ⟨.int .i64 (n2 : Int), [(true, .cells [.sl 1 (byteCells ((b.drop 2).drop (n + 2)))])]⟩ := by
    have := number206a ((b.drop 2).drop n) (by omega) 2 (by omega) (by omega)
    rw [← hn2, List.drop_drop (i := 2)] at this
    exact this
  have hc : Gives G 207 [.ref 0 0 0, .int .i64 (n2 : Int)] [.cells [.sl 1 (byteCells ((b.drop 2).drop (n + 2)))]] ⟨.bool true, [(true, .cells [.sl 1 (byteCells ((b.drop 2).drop (n + 2)))])]⟩ := by
    have := has207a ((b.drop 2).drop (n + 2)) (by omega) (n2 : Int)
    rwa [decide_eq_true (by omega)] at this
  have hd : Gives G 209 [.ref 0 0 0, .int .i64 (n2 : Int)] [.cells [.sl 1 (byteCells ((b.drop 2).drop (n + 2)))]] ⟨.vs 1 0 (byteCells (((b.drop 2).drop (n + 2)).take n2)).length, [(true, .cells [.sl 1 (byteCells (((b.drop 2).drop (n + 2)).drop n2))]), (false, .vec 1 (byteCells (((b.drop 2).drop (n + 2)).take n2)))]⟩ := by
    have := take209a ((b.drop 2).drop (n + 2)) (by omega) n2 (by omega)
    rwa [show (byteCells (((b.drop 2).drop (n + 2)).take n2)).length = n2 from by rw [byteCells_length, List.length_take]; omega]
  clear hn hn2
  refine gives_code (F := f201) rfl rfl ?_
  refine ev_seq (b := suf 1 f201.body) ?_
  refine W_okd 1 300 _ _ _ _ ?_
  repeat' (first | refine stpA ?_ | (refine condS ?_ ?_ <;> intro h))
  refine ev_seq (b := suf 2 f201.body) ?_
  refine W_okd 1 300 _ _ _ _ ?_
  repeat' (first | refine stpA ?_ | (refine condS ?_ ?_ <;> intro h))
  refine ev_seq (b := suf 3 f201.body) ?_
  refine W_okd 1 300 _ _ _ _ ?_
  repeat' (first | refine stpA ?_ | refine kX [(82, _, _)] [] ⟨rfl, trivial⟩ trivial (h1) ?_ | (refine condS ?_ ?_ <;> intro h))
  refine ev_seq (b := suf 4 f201.body) ?_
  refine W_okd 1 300 _ _ _ _ ?_
  repeat' (first | refine stpA ?_ | refine kX [(82, _, _)] [] ⟨rfl, trivial⟩ trivial (h7) ?_ | (refine condS ?_ ?_ <;> intro h))
  refine ev_seq (b := suf 5 f201.body) ?_
  refine W_okd 1 300 _ _ _ _ ?_
  repeat' (first | refine stpA ?_ | refine kX [(82, _, _)] [] ⟨rfl, trivial⟩ trivial (h8) ?_ | (refine condS ?_ ?_ <;> intro h))
  refine ev_seq (b := suf 6 f201.body) ?_
  refine W_okd 1 300 _ _ _ _ ?_
  repeat' (first | refine stpA ?_ | refine kX [(82, _, _)] [] ⟨rfl, trivial⟩ trivial (h9) ?_ | (refine condS ?_ ?_ <;> intro h))
  refine ev_seq (b := suf 7 f201.body) ?_
  refine W_okd 1 300 _ _ _ _ ?_
  repeat' (first | refine stpA ?_ | refine kX [(82, _, _)] [] ⟨rfl, trivial⟩ trivial (hc) ?_ | (refine condS ?_ ?_ <;> intro h))
  refine ev_seq (b := suf 8 f201.body) ?_
  refine W_okd 1 300 _ _ _ _ ?_
  repeat' (first | refine stpA ?_ | refine kX [(82, _, _)] [] ⟨rfl, trivial⟩ trivial (hd) ?_ | (refine condS ?_ ?_ <;> intro h))
  refine ev_seq (b := suf 9 f201.body) ?_
  refine W_okd 1 300 _ _ _ _ ?_
  repeat' (first | refine stpA ?_ | (refine condS ?_ ?_ <;> intro h))
  refine ev_frzk [(94, _, _), (108, _, _)] [9, 11, 10, 1, 4, 5] [97, 113, 68, 69] ⟨rfl, (by first | rfl | (simp [Blk.pure, pureL, pureLL, AV.pure, *]; done) | fail), rfl, (by first | rfl | (simp [Blk.pure, pureL, pureLL, AV.pure, *]; done) | fail), trivial⟩ ?_; repeat ((conv => whnf); first | refine And.intro (by first | rfl | omega | (simp [pureL, pureLL, AV.pure]; done) | (simp; omega) | (simp [pureL, pureLL, AV.pure, *]; done) | assumption | fail) ?_ | intro T H)
  refine ev_le [] [(68, some (_, .cells zeroM.enc)), (69, some (_, .cells zeroM.enc))] trivial ⟨⟨rfl, .refl _, .refl _, .refl _, .refl _, .refl _, LeP.nil 2, LeP.nil 2, .refl _, LeP.nil 2, .refl _, .refl _, .refl _, .refl _, .refl _, .refl _, .refl _, .refl _, .refl _, LeP.nil 1, .refl _, .refl _, LeP.nil 1, LeP.nil 2, LeP.nil 2, .refl _, .refl _, LeP.nil 1, trivial⟩, ⟨rfl, .refl _, .refl _, .refl _, .refl _, .refl _, LeP.nil 2, LeP.nil 2, .refl _, LeP.nil 2, .refl _, .refl _, .refl _, .refl _, .refl _, .refl _, .refl _, .refl _, .refl _, LeP.nil 1, .refl _, .refl _, LeP.nil 1, LeP.nil 2, LeP.nil 2, .refl _, .refl _, LeP.nil 1, trivial⟩, trivial⟩ ?_
  refine ev_keep [9, 11, 10, 1, 4, 5] [97, 113, 68, 69] ?_
  exact K _ _ _ _ _ _ _
end Go.AM.IR
set_option maxHeartbeats 4000000
set_option maxRecDepth 20000
namespace Go.AM.IR
theorem capP_capF : ∀ (f : Nat) (b : List UInt8) (acc : List Cap), (∀ l, capF f b = some l → capP f b acc = (decide (((acc ++ l).length : Int) > 0), [], acc ++ l)) ∧ (capF f b = none → (capP f b acc).1 = false)
  | f, [], acc => by
    have h1 : capF f [] = some [] := by cases f <;> rfl
    have h2 : capP f [] acc = (decide ((acc.length : Int) > 0), [], acc) := by cases f <;> rfl
    rw [h1, h2]
    refine ⟨fun l hl => ?_, fun h => by cases h⟩
    obtain rfl := Option.some.inj hl
    simp
  | 0, x :: b, acc => ⟨(fun l hl => by cases hl), fun _ => rfl⟩
  | f + 1, [x], acc => ⟨(fun l hl => by cases hl), fun _ => rfl⟩
  | f + 1, c :: n :: r, acc => by
    rw [capF, capP]
    by_cases h : r.length < n.toNat
    · rw [if_pos h, if_pos h]
      exact ⟨(fun l hl => by cases hl), fun _ => rfl⟩
    · rw [if_neg h, if_neg h]
      have ih := capP_capF f (r.drop n.toNat) (acc ++ [⟨(c.toNat : Int), r.take n.toNat⟩])
      cases hf : capF f (r.drop n.toNat) with
      | none => exact ⟨(fun l hl => by cases hl), fun _ => ih.2 hf⟩
      | some q =>
        refine ⟨fun l hl => ?_, fun h => by cases h⟩
        obtain rfl := Option.some.inj hl
        rw [ih.1 q hf]
        simp only [List.append_assoc, List.cons_append, List.nil_append]
theorem pfxP_unP : ∀ (f : Nat) (b : List UInt8) (acc : List Pfx), (∀ l, unP f b = some l → pfxP f b acc = (true, [], acc ++ l)) ∧ (unP f b = none → (pfxP f b acc).1 = false)
  | f, [], acc => by
    have h1 : unP f [] = some [] := by cases f <;> rfl
    have h2 : pfxP f [] acc = (true, [], acc) := by cases f <;> rfl
    rw [h1, h2]
    refine ⟨fun l hl => ?_, fun h => by cases h⟩
    obtain rfl := Option.some.inj hl
    simp
  | 0, x :: b, acc => ⟨(fun l hl => by cases hl), fun _ => rfl⟩
  | f + 1, n :: r, acc => by
    rw [unP, pfxP]
    by_cases h : n.toNat > 32 ∨ r.length < len8 n.toNat
    · rw [if_pos h, if_pos h]
      exact ⟨(fun l hl => by cases hl), fun _ => rfl⟩
    · rw [if_neg h, if_neg h]
      by_cases hv : validP (pfxB n.toNat r) = true
      · rw [if_pos hv, if_pos hv]
        have ih := pfxP_unP f (r.drop (len8 n.toNat)) (acc ++ [pfxB n.toNat r])
        cases hf : unP f (r.drop (len8 n.toNat)) with
        | none => exact ⟨(fun l hl => by cases hl), fun _ => ih.2 hf⟩
        | some q =>
          refine ⟨fun l hl => ?_, fun h => by cases h⟩
          obtain rfl := Option.some.inj hl
          rw [ih.1 q hf]
          simp only [List.append_assoc, List.cons_append, List.nil_append]
      · rw [if_neg hv, if_neg hv]
        exact ⟨(fun l hl => by cases hl), fun _ => rfl⟩
end Go.AM.IR
set_option maxHeartbeats 4000000
set_option maxRecDepth 20000
namespace Go.AM.IR
def triR (x : PMsg × PMsg × Int) : Ret := ⟨.tup [.agg x.1.enc, .agg x.2.1.enc, .int .i64 x.2.2], []⟩
theorem lenB_zero : LenB zeroA := ⟨by simp [zeroA], by simp [zeroA], by simp [zeroA], by simp [zeroA], by simp [zeroA], by simp [zeroA]⟩
theorem rest200 (two : Int) (m : PMsg) (hm : LenO m) (hb : LenB m.attrs) (ho : m.okP) (ha : m.as ≤ 4294967295) (g g2 g3 : Nat) (T : List (Nat × AV)) (H : Heap) (c : Nat) : Ev G ⟨f200x24LH.drop 2, ⟨(6, .ref 70 g 0) :: (7, .int .i64 two) :: (2, .ref 66 g2 0) :: (3, .ref 67 g3 0) :: T, (70, some (g, .cells m.enc)) :: (66, some (g2, .cells zeroM.enc)) :: (67, some (g3, .cells zeroM.enc)) :: H, c⟩, [.cell 2 (some 27), .cell 3 (some 27), .t 4], 0⟩ (triR (if two ≠ shortI m.as then (zeroM, noteM 2 2 [], 14) else chkO m)) := by
  have hs := short_gives204 m.as
  have hc := check_gives144 m hm hb ho
  by_cases h : two = shortI m.as
  · rw [if_neg (by simp [h])]
    unfold chkO
    by_cases h0 : checkM m = 0
    · rw [if_pos h0]; rw [h0] at hc
      exact rest200_ok two _ m g g2 g3 hs h hc T H c
    · rw [if_neg h0]
      unfold subO
      by_cases a1 : m.as < 1
      · rw [if_pos a1]; exact rest200_b1 two _ m g g2 g3 hs h _ hc h0 ha a1 T H c
      · rw [if_neg a1]
        by_cases a2 : checkM m = 21
        · rw [if_pos a2]; exact rest200_b2 two _ m g g2 g3 hs h _ hc h0 ha a1 a2 T H c
        · rw [if_neg a2]
          by_cases a3 : m.router = 0
          · rw [if_pos a3]; exact rest200_b3 two _ m g g2 g3 hs h _ hc h0 ha a1 a2 a3 T H c
          · rw [if_neg a3]; exact rest200_b4 two _ m g g2 g3 hs h _ hc h0 ha a1 a2 a3 T H c
  · rw [if_pos h]
    exact rest200_mis two _ m g g2 g3 hs h T H c
theorem as4_le : ∀ (l : List Cap) (x : Int), as4 l = some x → 0 ≤ x ∧ x ≤ 4294967295
  | [], x, h => by cases h
  | c :: r, x, h => by
    rw [as4] at h
    split at h
    · rename_i q
      obtain rfl := Option.some.inj h
      have : rd c.value < 256 ^ 4 := rd_le (by omega)
      omega
    · exact as4_le r x h
theorem capF_len : ∀ (f : Nat) (b : List UInt8) (l : List Cap), capF f b = some l → 2 * l.length ≤ b.length ∧ capT l ≤ b.length := by
  intro f b l h
  have := back_capF f b l h
  have h2 := capsB_length l
  rw [this] at h2
  refine ⟨?_, by omega⟩
  have h3 : ∀ l : List Cap, 2 * (l.length : Int) ≤ capT l := by
    intro l
    induction l with
    | nil => simp [capT]
    | cons c r ih => simp only [capT, List.length_cons]; omega
  have := h3 l
  omega
theorem okP_open (b : List UInt8) (l : List Cap) : (openM b l).okP := ⟨by simp [openM, zeroM], by simp [openM, zeroM]⟩
theorem lenO_open (b : List UInt8) (l : List Cap) (hl : l.length < 2 ^ 40) (ht : capT l < 2 ^ 50) : LenO (openM b l) := ⟨⟨hl, by simp [openM, zeroM], by simp [openM, zeroM], (lenC_zero)⟩, ht⟩
theorem decO200 (b : List UInt8) (hb : b.length < 2 ^ 30) (h10 : 10 ≤ b.length) : Gives G 200 [.sl 1 (byteCells b)] [] (triR (decO b)) := by
  unfold decO
  by_cases hv : rd (b.take 1) = 4
  · rw [if_neg (by simp [hv])]
    have hv' : ((rd (b.take 1) : Nat) : Int) = 4 := by omega
    have l9 : (b.drop 9).length = b.length - 9 := List.length_drop
    have l0 : (b.drop 10).length = b.length - 10 := List.length_drop
    obtain ⟨s, hs⟩ : ∃ s, b.drop 9 = s :: b.drop 10 := by
      cases h : b.drop 9 with
      | nil => rw [h] at l9; simp at l9; omega
      | cons s r => exact ⟨s, by rw [show b.drop 10 = (b.drop 9).drop 1 from by rw [List.drop_drop], h]; rfl⟩
    have hsz : rd ((b.drop 9).take 1) = s.toNat := by rw [hs]; simp [rd]
    have hbl := byteCells_length (b.drop 10)
    have h2 : rd ((b.drop 1).take 2) < 256 ^ 2 := rd_le (by simp; omega)
    rw [show capsD (b.drop 9) = (if (b.drop 10).length ≠ s.toNat then none else if s.toNat = 0 then some [] else capsQ s.toNat (b.drop 10)) from by rw [hs]; rfl]
    by_cases hl : (b.drop 10).length = s.toNat
    · rw [if_neg (by simp [hl])]
      have hl' : (((byteCells (b.drop 10)).length : Nat) : Int) = (rd ((b.drop 9).take 1) : Nat) := by omega
      have fin : ∀ (l : List Cap) (hl : l.length < 2 ^ 40) (ht : capT l < 2 ^ 50) (M : PMsg) (hM : M = { zeroM with kind := 1, version := 4, hold := ((rd ((b.drop 3).take 2) : Nat) : Int), router := ((rd ((b.drop 5).take 4) : Nat) : Int), caps := l }) (g g2 g3 : Nat) (T : List (Nat × AV)) (H : Heap) (c : Nat), Ev G ⟨f200x24LH.drop 2, ⟨(6, .ref 70 g 0) :: (7, .int .i64 (twoD b)) :: (2, .ref 66 g2 0) :: (3, .ref 67 g3 0) :: T, (70, some (g, .cells ({ M with as := (as4 l).getD (twoD b) } : PMsg).enc)) :: (66, some (g2, .cells zeroM.enc)) :: (67, some (g3, .cells zeroM.enc)) :: H, c⟩, [.cell 2 (some 27), .cell 3 (some 27), .t 4], 0⟩ (triR (decO1 b (some l))) := by
        intro l hl ht M hM g g2 g3 T H c
        subst hM
        have := rest200 (twoD b) (openM b l) (lenO_open b l hl ht) lenB_zero (okP_open b l) (by
          show (as4 l).getD (twoD b) ≤ 4294967295
          cases h : as4 l with
          | none => show twoD b ≤ _; unfold twoD; omega
          | some x => exact (as4_le l x h).2) g g2 g3 T H c
        exact this
      by_cases h0 : s.toNat = 0
      · rw [if_pos h0]
        exact decO200_z b (by omega) h10 hv' hl' (by omega) _ { zeroM with kind := 1, version := 4, hold := ((rd ((b.drop 3).take 2) : Nat) : Int), router := ((rd ((b.drop 5).take 4) : Nat) : Int) } (twoD b) rfl rfl (fin [] (by simp) (by simp [capT]) _ rfl)
      · rw [if_neg h0]
        have h255 := s.toNat_lt
        have bad : capsQ s.toNat (b.drop 10) = none → Gives G 200 [.sl 1 (byteCells b)] [] ⟨.tup [.agg zeroM.enc, .agg (noteM 2 4 []).enc, .int .i64 2], []⟩ := by
          intro hq
          by_cases q1 : (b.drop 10).length < 2
          · exact decO200_c1 b (by omega) h10 hv' hl' (by omega) q1
          · obtain ⟨t, u, q, e⟩ : ∃ t u q, b.drop 10 = t :: u :: q := by
              cases h : b.drop 10 with
              | nil => rw [h] at q1; simp at q1
              | cons t r => cases r with
                | nil => rw [h] at q1; simp at q1
                | cons u q => exact ⟨t, u, q, rfl⟩
            have e11 : b.drop 11 = u :: q := by rw [show b.drop 11 = (b.drop 10).drop 1 from by rw [List.drop_drop], e]; rfl
            have e12 : b.drop 12 = q := by rw [show b.drop 12 = (b.drop 10).drop 2 from by rw [List.drop_drop], e]; rfl
            have r1 : rd ((b.drop 10).take 1) = t.toNat := by rw [e]; simp [rd]
            have r2 : rd ((b.drop 11).take 1) = u.toNat := by rw [e11]; simp [rd]
            by_cases q2 : t.toNat = 2
            · by_cases q3 : u.toNat + 2 = s.toNat
              · have hc : ∃ r l, capP (b.drop 12).length (b.drop 12) [] = (false, r, l) := by
                  have hx := capP_capF (b.drop 12).length (b.drop 12) []
                  have : (capP (b.drop 12).length (b.drop 12) []).1 = false := by
                    cases hF : capF (b.drop 12).length (b.drop 12) with
                    | none => exact hx.2 hF
                    | some l =>
                      have hn : q = [] := by
                        rcases Classical.em (q = []) with h | h
                        · exact h
                        · rw [e] at hq
                          have : capsQ s.toNat (t :: u :: q) = capF q.length q := by
                            show (if t.toNat = 2 ∧ u.toNat + 2 = s.toNat ∧ q ≠ [] then capF q.length q else none) = _
                            rw [if_pos ⟨q2, q3, h⟩]
                          rw [this, ← e12, hF] at hq; cases hq
                      rw [e12, hn]; rfl
                  exact ⟨_, _, Prod.ext this rfl⟩
                obtain ⟨r, l, hc⟩ := hc
                exact decO200_c4 b (by omega) h10 hv' hl' (by omega) (by omega) (by omega) (by omega) r l hc
              · exact decO200_c3 b (by omega) h10 hv' hl' (by omega) (by omega) (by omega) (by omega)
            · exact decO200_c2 b (by omega) h10 hv' hl' (by omega) (by omega) (by omega)
        cases hq : capsQ s.toNat (b.drop 10) with
        | none => exact bad hq
        | some l =>
          obtain ⟨t, u, q, e⟩ : ∃ t u q, b.drop 10 = t :: u :: q := by
            cases h : b.drop 10 with
            | nil => rw [h] at hq; cases hq
            | cons t r => cases r with
              | nil => rw [h] at hq; cases hq
              | cons u q => exact ⟨t, u, q, rfl⟩
          have e11 : b.drop 11 = u :: q := by rw [show b.drop 11 = (b.drop 10).drop 1 from by rw [List.drop_drop], e]; rfl
          have e12 : b.drop 12 = q := by rw [show b.drop 12 = (b.drop 10).drop 2 from by rw [List.drop_drop], e]; rfl
          have r1 : rd ((b.drop 10).take 1) = t.toNat := by rw [e]; simp [rd]
          have r2 : rd ((b.drop 11).take 1) = u.toNat := by rw [e11]; simp [rd]
          have el : (b.drop 10).length = q.length + 2 := by rw [e]; simp
          rw [e] at hq
          replace hq : (if t.toNat = 2 ∧ u.toNat + 2 = s.toNat ∧ q ≠ [] then capF q.length q else none) = some l := hq
          split at hq
          · rename_i z
            obtain ⟨q2, q3, q4⟩ := z
            have hlen := capF_len _ _ _ hq
            have hne : l ≠ [] := by
              intro hl
              have := back_capF _ _ _ hq
              rw [hl] at this
              exact q4 this.symm
            have hpos : 0 < l.length := List.length_pos_iff.2 hne
            have hc : capP (b.drop 12).length (b.drop 12) [] = (true, [], l) := by
              rw [e12, (capP_capF q.length q []).1 l hq]
              simp only [List.nil_append]
              rw [decide_eq_true (by omega)]
            exact decO200_y b (by omega) h10 hv' hl' (by omega) (by omega) (by omega) (by omega) [] l hc (by omega) _ { zeroM with kind := 1, version := 4, hold := ((rd ((b.drop 3).take 2) : Nat) : Int), router := ((rd ((b.drop 5).take 4) : Nat) : Int), caps := l } (twoD b) rfl rfl (fin l (by omega) (by omega) _ rfl)
          · cases hq
    · rw [if_pos hl]
      exact decO200_len b (by omega) h10 hv' (by omega)
  · rw [if_pos hv]
    exact decO200_ver b (by omega) h10 (by omega)
end Go.AM.IR
