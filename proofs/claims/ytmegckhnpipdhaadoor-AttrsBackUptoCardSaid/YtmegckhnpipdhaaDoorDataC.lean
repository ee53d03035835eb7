/- What the functions of this program give, on the abstract machine. -/
import Derived.Test.YtmegckhnpipdhaaDoorDataB
import Derived.Test.YtmegckhnpipdhaaDoorDataA
set_option linter.unusedVariables false
set_option linter.unusedSimpArgs false
set_option maxHeartbeats 4000000
set_option maxRecDepth 20000
namespace Go.AM.IR
theorem firstS_zero : ∀ l : List Int, firstS l = 0 → ∀ x ∈ l, x = 0
  | [], _, _, h => by simp at h
  | y :: r, h, x, hx => by
    simp only [firstS] at h
    split at h
    · rename_i e
      rcases List.mem_cons.1 hx with rfl | hx
      · exact e
      · exact firstS_zero r h x hx
    · rename_i e; exact absurd h e
theorem optE_zero {has : Bool} {n low : Int} (h : optE has n low = 0) : (has = true → low ≤ n ∧ n ≤ 4294967295) ∧ (has = false → n = 0) := by
  unfold optE at h
  cases has
  · simp at h ⊢; exact h
  · simp at h ⊢; omega
theorem rngS_all : ∀ l : List Int, rngS l = true → ∀ x ∈ l, 1 ≤ x ∧ x ≤ 4294967295
  | [], _, _, h => by simp at h
  | y :: r, h, x, hx => by
    simp [rngS] at h
    rcases List.mem_cons.1 hx with rfl | hx
    · exact h.1
    · exact rngS_all r h.2 x hx
theorem segE_zero {s : Seg} (h : segE s = 0) : (1 ≤ s.kind ∧ s.kind ≤ 4) ∧ (1 ≤ s.as.length ∧ s.as.length ≤ 255) ∧ ∀ x ∈ s.as, 1 ≤ x ∧ x ≤ 4294967295 := by
  unfold segE at h
  split at h
  · omega
  · split at h
    · omega
    · split at h
      · omega
      · split at h
        · omega
        · rename_i h1 h2 h3 h4
          exact ⟨by omega, by omega, rngS_all _ (by simpa using h4)⟩
theorem pathC_zero : ∀ (l : List Seg) (pl : Bool) (p : Option Seg), pathC pl p l = 0 → ∀ s ∈ l, segE s = 0
  | [], _, _, _, _, h => by simp at h
  | x :: r, pl, p, h, s, hs => by
    rw [pathC] at h
    split at h
    · rename_i h1; exact absurd h h1
    · rename_i h1
      split at h
      · omega
      · split at h
        · omega
        · rcases List.mem_cons.1 hs with rfl | hs
          · simpa using h1
          · exact pathC_zero r _ _ h s hs
theorem unkC_zero : ∀ (l : List TLV) (p : Option Int), unkC p l = 0 → ∀ t ∈ l, (11 ≤ t.kind ∧ t.kind ≤ 255) ∧ t.value.length ≤ 255
  | [], _, _, _, h => by simp at h
  | x :: r, none, h, t, ht => by
    rw [unkC] at h
    split at h
    · omega
    · split at h
      · omega
      · rcases List.mem_cons.1 ht with rfl | ht
        · omega
        · exact unkC_zero r _ h t ht
  | x :: r, some q, h, t, ht => by
    rw [unkC] at h
    split at h
    · omega
    · split at h
      · omega
      · split at h
        · omega
        · rcases List.mem_cons.1 ht with rfl | ht
          · omega
          · exact unkC_zero r _ h t ht
structure ValidA (a : Attrs) : Prop where
  origin : 0 ≤ a.origin ∧ a.origin ≤ 2
  pathL : a.path.length ≤ 64
  segs : ∀ s ∈ a.path, (1 ≤ s.kind ∧ s.kind ≤ 4) ∧ (1 ≤ s.as.length ∧ s.as.length ≤ 255) ∧ ∀ x ∈ s.as, 1 ≤ x ∧ x ≤ 4294967295
  nextHop : a.nextHop ≠ 0
  med : (a.hasMED = true → 0 ≤ a.med ∧ a.med ≤ 4294967295) ∧ (a.hasMED = false → a.med = 0)
  pref : (a.hasPref = true → 0 ≤ a.pref ∧ a.pref ≤ 4294967295) ∧ (a.hasPref = false → a.pref = 0)
  aggr : (a.hasAggr = true → 1 ≤ a.aggrAS ∧ a.aggrAS ≤ 4294967295) ∧ (a.hasAggr = false → a.aggrAS = 0)
  aggrAddr : a.hasAggr = false → a.aggrAddr = 0
  comms : a.comms.length ≤ 255
  orig : a.hasOrig = (a.orig != 0)
  clusters : a.clusters.length ≤ 64
  unknownL : a.unknown.length ≤ 64
  unknown : ∀ t ∈ a.unknown, (11 ≤ t.kind ∧ t.kind ≤ 255) ∧ t.value.length ≤ 255
theorem valid_of {a : Attrs} (h : checkS a = 0) : ValidA a := by
  have z := firstS_zero (checkL a) h
  simp only [checkL, List.mem_cons, List.not_mem_nil, or_false, forall_eq_or_imp, forall_eq] at z
  obtain ⟨z1, z2, z3, z4, z5, z6, z7, z8, z9, z10, z11⟩ := z
  have hp : a.path.length ≤ 64 ∧ pathC false none a.path = 0 := by
    unfold pathE at z2
    split at z2
    · omega
    · exact ⟨by omega, z2⟩
  have hu : a.unknown.length ≤ 64 ∧ unkC none a.unknown = 0 := by
    unfold unknownE at z11
    split at z11
    · omega
    · exact ⟨by omega, z11⟩
  refine ⟨?_, hp.1, fun s hs => segE_zero (pathC_zero _ _ _ hp.2 s hs), ?_, optE_zero z4, optE_zero z5, optE_zero z6, ?_, ?_, ?_, ?_, hu.1, unkC_zero _ _ hu.2⟩
  · split at z1 <;> omega
  · intro e; rw [if_pos e] at z3; omega
  · intro e
    split at z7
    · omega
    · rename_i hh
      simp only [e, true_and, ne_eq, Decidable.not_not] at hh
      exact hh
  · unfold commE at z8; split at z8 <;> omega
  · unfold origE at z9
    split at z9
    · omega
    · rename_i hh
      by_cases e : a.orig = 0
      · cases ho : a.hasOrig <;> simp_all
      · cases ho : a.hasOrig <;> simp_all
  · unfold clustersE at z10; split at z10 <;> omega
theorem encV_of {a : Attrs} (ha : a.ok) (h : checkS a = 0) : EncV a := by
  have v := valid_of h
  refine ⟨⟨v.origin.1, by have := v.origin.2; omega⟩, fun s hs => ?_, by have := v.pathL; omega, ha.nextHop, ?_, ?_, ?_, ha.aggrAddr, ha.comms, v.comms, ha.orig, ha.clusters, v.clusters, fun t ht => ?_, v.unknownL⟩
  · obtain ⟨h1, h2, h3⟩ := v.segs s hs
    exact ⟨by omega, by omega, fun x hx => by have := h3 x hx; omega⟩
  · cases hh : a.hasMED
    · have := v.med.2 hh; omega
    · exact v.med.1 hh
  · cases hh : a.hasPref
    · have := v.pref.2 hh; omega
    · exact v.pref.1 hh
  · cases hh : a.hasAggr
    · have := v.aggr.2 hh; omega
    · have := v.aggr.1 hh; omega
  · have := v.unknown t ht; omega
end Go.AM.IR
set_option maxHeartbeats 4000000
set_option maxRecDepth 20000
namespace Go.AM.IR
theorem putB_le (k : Int) (v : List UInt8) : (putB k v).length ≤ v.length + 4 := by
  unfold putB; split <;> simp <;> omega
theorem unkB_le : ∀ l : List TLV, (∀ t ∈ l, t.value.length ≤ 255) → (l.flatMap fun t => putB t.kind t.value).length ≤ 259 * l.length
  | [], _ => by simp
  | x :: r, h => by
    have h1 := unkB_le r fun t ht => h t (by simp [ht])
    have h2 := h x (by simp)
    have h3 := putB_le x.kind x.value
    simp only [List.flatMap_cons, List.length_append, List.length_cons]
    omega
theorem ite_len {c : Prop} [Decidable c] {x : List UInt8} : (if c then x else []).length ≤ x.length := by split <;> simp
theorem encB_le {a : Attrs} (v : ValidA a) (wide : Bool) : (encB a wide).length < 2 ^ 20 := by
  have hw := wd_le wide
  have h3 := putB_le 1 [UInt8.ofNat a.origin.toNat]
  have h4 := putB_le 2 (pathB (wd wide) a.path)
  have h4' := pathL_aux (wd wide) hw a.path fun s hs => (v.segs s hs).2.1.2
  have h4'' := v.pathL
  have h5 := putB_le 3 (be 4 a.nextHop.toNat)
  have h6 := Nat.le_trans (ite_len (c := a.hasMED = true)) (putB_le 4 (be 4 a.med.toNat))
  have h7 := Nat.le_trans (ite_len (c := a.hasPref = true)) (putB_le 5 (be 4 a.pref.toNat))
  have h8 := Nat.le_trans (ite_len (c := a.atomic = true)) (putB_le 6 [])
  have h9 := Nat.le_trans (ite_len (c := a.hasAggr = true)) (putB_le 7 (be (wd wide) a.aggrAS.toNat ++ be 4 a.aggrAddr.toNat))
  have h10 := Nat.le_trans (ite_len (c := a.comms.length > 0)) (putB_le 8 (wordsB a.comms))
  have h11 := Nat.le_trans (ite_len (c := a.hasOrig = true)) (putB_le 9 (be 4 a.orig.toNat))
  have h12 := Nat.le_trans (ite_len (c := a.clusters.length > 0)) (putB_le 10 (wordsB a.clusters))
  have h13 := unkB_le a.unknown fun t ht => (v.unknown t ht).2
  have hu := v.unknownL
  have hc := v.comms
  have hcl := v.clusters
  simp only [encB, r3, r4, r5, r6, r7, r8, r9, r10, r11, r12, r13, c3, c4, c5, c6, c7, c8, c9, c10, c11, c12, c13, List.length_append] at *
  simp only [wordsB, fm_length, be_length, List.length_cons, List.length_nil] at *
  omega
theorem badN_eq (wide bad : Bool) (n : Int) : badN wide bad n = (bad || (!wide && decide (n > 65535))) := rfl
theorem badL_eq (wide : Bool) : ∀ (l : List Int) (bad : Bool), badL wide bad l = (bad || (!wide && l.any fun n => decide (n > 65535)))
  | [], bad => by simp [badL]
  | x :: r, bad => by
    have := badL_eq wide r (badN wide bad x)
    simp only [badL, List.foldl_cons, badN_eq] at this ⊢
    rw [this]
    cases bad <;> cases wide <;> simp
theorem badP_eq (wide : Bool) : ∀ (p : List Seg) (bad : Bool), badP wide bad p = (bad || (!wide && (flatS p).any fun n => decide (n > 65535)))
  | [], bad => by simp [badP, flatS]
  | x :: r, bad => by
    have := badP_eq wide r (badL wide bad x.as)
    simp only [badP, List.foldl_cons, flatS, List.flatMap_cons, List.any_append] at this ⊢
    rw [this, badL_eq]
    cases bad <;> cases wide <;> simp
theorem encBad_eq {a : Attrs} (v : ValidA a) (wide : Bool) : encBad a wide = (!wide && (flatS a.path ++ [a.aggrAS]).any fun n => decide (n > 65535)) := by
  unfold encBad bdA
  cases h : a.hasAggr
  · rw [if_neg (by simp), badP_eq, v.aggr.2 h]; simp
  · rw [if_pos rfl, badN_eq, badP_eq]; cases wide <;> simp
def encR (a : Attrs) (wide : Bool) : Ret := if checkS a = 0 then encRet (encBad a wide) (encB a wide) else ⟨.tup [.con (.slice none 0 0), .int .i64 (checkS a)], []⟩
theorem encode67 (a : Attrs) (wide : Bool) (hb : AB a) (ha : a.ok) : Gives G 67 [.agg a.enc, .bool wide] [] (encR a wide) :=
  encode_gives67 a wide (sizeS_le hb) fun h => ⟨encV_of ha h, by have := encB_le (valid_of h) wide; omega⟩
end Go.AM.IR
set_option maxHeartbeats 4000000
set_option maxRecDepth 20000
namespace Go.AM.IR
theorem MetOk.all {m : Nat → Bool} {last : Int} {nd : Nat} (h : MetOk m last nd) (h3 : ¬ nd < 3) : m 1 = true ∧ m 2 = true ∧ m 3 = true := by
  obtain ⟨hn, _⟩ := h
  cases h1 : m 1 <;> cases h2 : m 2 <;> cases h4 : m 3 <;> rw [h1, h2, h4] at hn <;> simp at hn <;> first | omega | simp
end Go.AM.IR
set_option maxHeartbeats 4000000
set_option maxRecDepth 20000
namespace Go.AM.IR
theorem rd_be : ∀ (w x : Nat), x < 256 ^ w → rd (be w x) = x
  | 0, x, h => by simp at h; subst h; rfl
  | w + 1, x, h => by
    have h2 : x / 256 ^ w < 256 := Nat.div_lt_of_lt_mul (by rw [Nat.pow_succ] at h; exact h)
    have hm := Nat.mod_lt x (Nat.pow_pos (n := w) (show 0 < 256 by omega))
    have hx := Nat.div_add_mod x (256 ^ w)
    simp only [be]
    rw [rd_cons, be_length]
    have e : be w x = be w (x % 256 ^ w) := by
      have := be_add w (x / 256 ^ w) (x % 256 ^ w)
      rwa [Nat.mul_comm, hx] at this
    rw [e, rd_be w _ hm]
    simp only [UInt8.toNat_ofNat']
    rw [Nat.mod_eq_of_lt (by omega), Nat.mul_comm]
    omega
theorem nums_back (w : Nat) : ∀ (l : List Int) (r : List UInt8), (∀ x ∈ l, 0 ≤ x ∧ x < ((256 ^ w : Nat) : Int)) → numsD w l.length (asB w l ++ r) = l
  | [], r, _ => rfl
  | x :: l, r, h => by
    have ih := nums_back w l r fun y hy => h y (by simp [hy])
    have hx := h x (by simp)
    unfold numsD at ih ⊢
    rw [List.length_cons, List.range_succ_eq_map, List.map_cons, List.map_map]
    have e : asB w (x :: l) ++ r = be w x.toNat ++ (asB w l ++ r) := by simp [asB]
    rw [e]
    congr 1
    · rw [Nat.zero_mul, List.drop_zero, List.take_append_of_le_length (by simp [be_length]), List.take_of_length_le (by simp [be_length]), rd_be w _ (by omega)]
      omega
    · refine Eq.trans ?_ ih
      apply List.map_congr_left
      intro i hi
      have e2 : (be w x.toNat ++ (asB w l ++ r)).drop (Nat.succ i * w) = (asB w l ++ r).drop (i * w) := by
        rw [Nat.succ_mul, Nat.add_comm (i * w) w, ← List.drop_drop, List.drop_left' (by simp [be_length])]
      simp only [Function.comp, e2]
theorem segs_back (w : Nat) : ∀ (p : List Seg) (f : Nat), (∀ s ∈ p, (0 ≤ s.kind ∧ s.kind ≤ 255) ∧ (1 ≤ s.as.length ∧ s.as.length ≤ 255) ∧ ∀ x ∈ s.as, 0 ≤ x ∧ x < ((256 ^ w : Nat) : Int)) → (pathB w p).length ≤ f → segsF w f (pathB w p) = some p
  | [], f, _, _ => by cases f <;> rfl
  | s :: p, f, h, hf => by
    obtain ⟨h1, h2, h3⟩ := h s (by simp)
    have e : pathB w (s :: p) = UInt8.ofNat s.kind.toNat :: UInt8.ofNat s.as.length :: (asB w s.as ++ pathB w p) := by simp [pathB, segB]
    rw [e] at hf ⊢
    simp only [List.length_cons, List.length_append] at hf
    match f, hf with
    | f + 1, hf =>
      have ih := segs_back w p f (fun t ht => h t (by simp [ht])) (by omega)
      have hl := asB_length w s.as
      have hn : (UInt8.ofNat s.as.length).toNat = s.as.length := by simp; omega
      have hk : ((UInt8.ofNat s.kind.toNat).toNat : Int) = s.kind := by simp; omega
      simp only [segsF]
      rw [hn, hk, if_neg (by rw [List.length_append, hl, Nat.mul_comm]; omega), nums_back w s.as _ h3]
      rw [Nat.mul_comm, ← hl, List.drop_append_of_le_length (Nat.le_refl _), List.drop_of_length_le (Nat.le_refl _), List.nil_append, ih]
      rfl
theorem words_back2 {l : List Int} (h : ∀ x ∈ l, okU x) (hl : 0 < l.length) : wordsOk (wordsB l) = true ∧ wordsD (wordsB l) = l := by
  have hb : (wordsB l).length = 4 * l.length := asB_length 4 l
  refine ⟨by simp [wordsOk]; omega, ?_⟩
  have h2 := nums_back 4 l [] fun x hx => by have := h x hx; unfold okU at this; omega
  unfold wordsD
  rw [hb, Nat.mul_div_cancel_left _ (by omega)]
  rw [List.append_nil] at h2
  exact h2
theorem attD_put {k : Nat} {v rest : List UInt8} (hk : k ≤ 255) (hv : v.length ≤ 65535) : ∃ t : Att, attD (putB (k : Int) v ++ rest) = some t ∧ ¬ badHead t ∧ t.k.toNat = k ∧ t.v = v ∧ t.rest = rest := by
  obtain ⟨o1, o2, o3⟩ := or16' (k : Int) (by omega)
  have hkk : (UInt8.ofNat k).toNat = k := by simp; omega
  unfold putB
  by_cases hlong : v.length > 255
  · rw [if_pos hlong]
    have hb : be 2 v.length = [UInt8.ofNat (v.length / 256), UInt8.ofNat v.length] := by simp [be]
    have hr : (UInt8.ofNat (v.length / 256)).toNat * 256 + (UInt8.ofNat v.length).toNat = v.length := by
      have := rd_be 2 v.length (by omega)
      rw [hb] at this
      simpa [rd] using this
    refine ⟨⟨flagS k ||| 16, UInt8.ofNat k, true, v, rest⟩, ?_, ?_, hkk, rfl, rfl⟩
    · rw [hb]
      simp only [List.cons_append, List.nil_append, Int.toNat_natCast, attD, o3, cond_true, hr]
      rw [if_neg (by simp)]
      simp
    · simp only [badHead, stripB, o3, cond_true, hkk]; omega
  · rw [if_neg hlong]
    have hr : (UInt8.ofNat v.length).toNat = v.length := by simp; omega
    refine ⟨⟨flagS k, UInt8.ofNat k, false, v, rest⟩, ?_, ?_, hkk, rfl, rfl⟩
    · simp only [List.cons_append, Int.toNat_natCast, attD, o2, cond_false, hr]
      rw [if_neg (by simp)]
      simp
    · simp only [badHead, stripB, o2, cond_false, hkk]; simp
theorem attD_cut {k : Nat} {v : List UInt8} (hk : k ≤ 255) (hv : v.length ≤ 65535) : attD (putB (k : Int) v).dropLast = none := by
  obtain ⟨o1, o2, o3⟩ := or16' (k : Int) (by omega)
  unfold putB
  by_cases hlong : v.length > 255
  · rw [if_pos hlong]
    have hb : be 2 v.length = [UInt8.ofNat (v.length / 256), UInt8.ofNat v.length] := by simp [be]
    have hr : (UInt8.ofNat (v.length / 256)).toNat * 256 + (UInt8.ofNat v.length).toNat = v.length := by
      have := rd_be 2 v.length (by omega)
      rw [hb] at this
      simpa [rd] using this
    have hne : v ≠ [] := by intro h; subst h; simp at hlong
    rw [hb]
    simp only [List.cons_append, List.nil_append, Int.toNat_natCast]
    rw [List.dropLast_cons_of_ne_nil (by simp), List.dropLast_cons_of_ne_nil (by simp), List.dropLast_cons_of_ne_nil (by simp), List.dropLast_cons_of_ne_nil hne]
    simp only [attD, o3, cond_true, hr]
    rw [if_pos (by simp; omega)]
  · rw [if_neg hlong]
    have hr : (UInt8.ofNat v.length).toNat = v.length := by simp; omega
    cases v with
    | nil => rfl
    | cons x v =>
      rw [List.dropLast_cons_of_ne_nil (by simp), List.dropLast_cons_of_ne_nil (by simp), List.dropLast_cons_of_ne_nil (by simp)]
      simp only [attD, o2, cond_false, hr]
      rw [if_pos (by simp)]
abbrev Ent := Nat × List UInt8
def flatE (l : List Ent) : List UInt8 := l.flatMap fun e => putB (e.1 : Int) e.2
def foldE (w : Nat) : List Ent → Attrs → Option Attrs
  | [], a => some a
  | e :: r, a => match setA w e.1 e.2 a with
    | none => none
    | some a' => foldE w r a'
def AscE : Int → List Ent → Prop
  | _, [] => True
  | last, e :: r => last < (e.1 : Int) ∧ e.1 ≤ 255 ∧ e.2.length ≤ 65535 ∧ AscE (e.1 : Int) r
def cntE (l : List Ent) : Nat := (l.map fun e => isReq e.1).sum
theorem putB_cons (k : Int) (v : List UInt8) : ∃ x y, putB k v = x :: y ∧ v.length < y.length := by
  unfold putB; split
  · exact ⟨_, _, rfl, by simp; omega⟩
  · exact ⟨_, _, rfl, by simp; omega⟩
theorem fold_dec (w : Nat) {A : Attrs} : ∀ (l : List Ent) (f : Nat) (last : Int) (nd : Nat) (a : Attrs), AscE last l → foldE w l a = some A → (flatE l).length ≤ f → decF w f (flatE l) last nd a = finD (nd + cntE l) A
  | [], f, last, nd, a, _, h, _ => by
    simp only [foldE, Option.some.injEq] at h; subst h
    cases f <;> rfl
  | e :: r, f, last, nd, a, ⟨h1, h2, h3, h4⟩, h, hf => by
    have hfl : flatE (e :: r) = putB (e.1 : Int) e.2 ++ flatE r := by simp [flatE]
    obtain ⟨x, y, hxy, hyl⟩ := putB_cons (e.1 : Int) e.2
    obtain ⟨t, t1, t2, t3, t4, t5⟩ := attD_put (rest := flatE r) h2 h3
    simp only [foldE] at h
    rw [hfl] at hf ⊢
    rw [hxy] at t1 hf ⊢
    simp only [List.cons_append, List.length_cons, List.length_append] at t1 hf ⊢
    match f, hf with
    | f + 1, hf =>
      rw [decF_some t1, if_neg (by rw [t3]; omega), if_neg t2, t3, t4, t5]
      cases hs : setA w e.1 e.2 a with
      | none => rw [hs] at h; cases h
      | some a' =>
        rw [hs] at h
        simp only at h ⊢
        rw [fold_dec w r f _ _ a' h4 h (by omega)]
        simp only [cntE, List.map_cons, List.sum_cons, Nat.add_assoc]
theorem fold_cut (w : Nat) {A : Attrs} : ∀ (l : List Ent) (f : Nat) (last : Int) (nd : Nat) (a : Attrs), l ≠ [] → AscE last l → foldE w l a = some A → (flatE l).length ≤ f + 1 → decF w f (flatE l).dropLast last nd a = (3, zeroA)
  | [], f, last, nd, a, hne, _, _, _ => absurd rfl hne
  | e :: r, f, last, nd, a, _, ⟨h1, h2, h3, h4⟩, h, hf => by
    have hfl : flatE (e :: r) = putB (e.1 : Int) e.2 ++ flatE r := by simp [flatE]
    obtain ⟨x, y, hxy, hyl⟩ := putB_cons (e.1 : Int) e.2
    have hy : y ≠ [] := by intro q; subst q; simp at hyl
    rw [hfl] at hf ⊢
    cases r with
    | nil =>
      have hc := attD_cut (v := e.2) h2 h3
      have e0 : flatE ([] : List Ent) = [] := rfl
      rw [e0, List.append_nil] at hf ⊢
      rw [hxy] at hc hf ⊢
      rw [List.dropLast_cons_of_ne_nil hy] at hc ⊢
      simp only [List.length_cons] at hf
      match f, hf with
      | 0, hf => exact absurd hf (by omega)
      | f + 1, hf => exact decF_none hc
    | cons e2 r =>
      have hne2 : flatE (e2 :: r) ≠ [] := by
        obtain ⟨x2, y2, hxy2, _⟩ := putB_cons (e2.1 : Int) e2.2
        simp [flatE, hxy2]
      rw [List.dropLast_append_of_ne_nil hne2]
      obtain ⟨t, t1, t2, t3, t4, t5⟩ := attD_put (rest := (flatE (e2 :: r)).dropLast) h2 h3
      simp only [foldE] at h
      rw [hxy] at t1 hf ⊢
      simp only [List.cons_append, List.length_cons, List.length_append] at t1 hf ⊢
      match f, hf with
      | 0, hf => exact absurd hf (by omega)
      | f + 1, hf =>
        rw [decF_some t1, if_neg (by rw [t3]; omega), if_neg t2, t3, t4, t5]
        cases hs : setA w e.1 e.2 a with
        | none => rw [hs] at h; cases h
        | some a' =>
          rw [hs] at h
          simp only at h ⊢
          exact fold_cut w (e2 :: r) f _ _ a' (by simp) h4 h (by omega)
def optE1 (c : Bool) (k : Nat) (v : List UInt8) : List Ent := bif c then [(k, v)] else []
theorem foldE_opt {w k : Nat} {c : Bool} {v : List UInt8} {m : List Ent} {a a' : Attrs} (h1 : c = true → setA w k v a = some a') (h0 : c = false → a' = a) : foldE w (optE1 c k v ++ m) a = foldE w m a' := by
  cases c
  · rw [h0 rfl]; rfl
  · simp only [optE1, cond_true, List.cons_append, List.nil_append, foldE]; rw [h1 rfl]
theorem AscE_opt {c : Bool} {k : Nat} {v : List UInt8} {m : List Ent} {last : Int} (h1 : last < (k : Int)) (h2 : k ≤ 255) (h3 : v.length ≤ 65535) (h4 : ∀ last' : Int, last' ≤ k → AscE last' m) : AscE last (optE1 c k v ++ m) := by
  cases c
  · exact h4 last (by omega)
  · exact ⟨h1, h2, h3, h4 _ (by omega)⟩
theorem cntE_opt {c : Bool} {k : Nat} {v : List UInt8} {m : List Ent} (h : 4 ≤ k) : cntE (optE1 c k v ++ m) = cntE m := by
  cases c
  · rfl
  · simp [optE1, cntE, isReq]; omega
theorem flatE_opt {c : Bool} {k : Nat} {v : List UInt8} {m : List Ent} {q : Prop} [Decidable q] (h : c = true ↔ q) : flatE (optE1 c k v ++ m) = (if q then putB (k : Int) v else []) ++ flatE m := by
  cases c
  · rw [if_neg (by simpa using h)]; rfl
  · rw [if_pos (h.1 rfl)]; simp [optE1, flatE]
def unkE (l : List TLV) : List Ent := l.map fun t => (t.kind.toNat, t.value)
theorem unk_fold {w : Nat} : ∀ (l : List TLV) (a : Attrs), (∀ t ∈ l, 11 ≤ t.kind) → foldE w (unkE l) a = some { a with unknown := a.unknown ++ l }
  | [], a, _ => by simp [unkE, foldE]
  | t :: r, a, h => by
    have ht := h t (by simp)
    have ih := unk_fold (w := w) r { a with unknown := a.unknown ++ [t] } fun x hx => h x (by simp [hx])
    simp only [unkE, List.map_cons, foldE] at ih ⊢
    rw [setA_other (.inr (by omega))]
    have : (⟨((t.kind.toNat : Nat) : Int), t.value⟩ : TLV) = t := by rw [show ((t.kind.toNat : Nat) : Int) = t.kind from by omega]
    rw [this]
    simp only
    rw [ih]
    simp
theorem unk_flat : ∀ (l : List TLV), (∀ t ∈ l, 11 ≤ t.kind) → flatE (unkE l) = l.flatMap fun t => putB t.kind t.value
  | [], _ => rfl
  | t :: r, h => by
    have ht := h t (by simp)
    have ih := unk_flat r fun x hx => h x (by simp [hx])
    simp only [flatE, unkE, List.map_cons, List.flatMap_cons] at ih ⊢
    rw [ih, show ((t.kind.toNat : Nat) : Int) = t.kind from by omega]
theorem unk_cnt : ∀ (l : List TLV), (∀ t ∈ l, 11 ≤ t.kind) → cntE (unkE l) = 0
  | [], _ => rfl
  | t :: r, h => by
    have ht := h t (by simp)
    have ih := unk_cnt r fun x hx => h x (by simp [hx])
    simp only [cntE, unkE, List.map_cons, List.sum_cons] at ih ⊢
    rw [ih, isReq, if_neg (by omega)]
theorem unk_asc : ∀ (l : List TLV) (p : Option Int) (last : Int), unkC p l = 0 → (∀ q, p = some q → last ≤ q) → (p = none → last ≤ 10) → AscE last (unkE l)
  | [], _, _, _, _, _ => trivial
  | t :: r, none, last, h, _, h0 => by
    have ht := (unkC_zero _ _ h) t (by simp)
    rw [unkC] at h
    split at h
    · omega
    · split at h
      · omega
      · have := h0 rfl
        refine ⟨by simp only; omega, by simp only; omega, by simp only; omega, ?_⟩
        have := unk_asc r (some t.kind) ((t.kind.toNat : Nat) : Int) h (fun q hq => by cases hq; omega) (fun hq => by cases hq)
        exact this
  | t :: r, some q, last, h, h1, _ => by
    have ht := (unkC_zero _ _ h) t (by simp)
    rw [unkC] at h
    split at h
    · omega
    · split at h
      · omega
      · split at h
        · omega
        · have := h1 q rfl
          refine ⟨by simp only; omega, by simp only; omega, by simp only; omega, ?_⟩
          exact unk_asc r (some t.kind) ((t.kind.toNat : Nat) : Int) h (fun q hq => by cases hq; omega) (fun hq => by cases hq)
end Go.AM.IR
set_option maxHeartbeats 4000000
set_option maxRecDepth 20000
namespace Go.AM.IR
def entsA (w : Nat) (a : Attrs) : List Ent := (1, [UInt8.ofNat a.origin.toNat]) :: (2, pathB w a.path) :: (3, be 4 a.nextHop.toNat) :: (optE1 a.hasMED 4 (be 4 a.med.toNat) ++ (optE1 a.hasPref 5 (be 4 a.pref.toNat) ++ (optE1 a.atomic 6 [] ++ (optE1 a.hasAggr 7 (be w a.aggrAS.toNat ++ be 4 a.aggrAddr.toNat) ++ (optE1 (decide (a.comms.length > 0)) 8 (wordsB a.comms) ++ (optE1 a.hasOrig 9 (be 4 a.orig.toNat) ++ (optE1 (decide (a.clusters.length > 0)) 10 (wordsB a.clusters) ++ unkE a.unknown)))))))
theorem unk_zero {a : Attrs} (h : checkS a = 0) : unkC none a.unknown = 0 := by
  have z := firstS_zero (checkL a) h
  simp only [checkL, List.mem_cons, List.not_mem_nil, or_false, forall_eq_or_imp, forall_eq] at z
  have z11 := z.2.2.2.2.2.2.2.2.2.2
  unfold unknownE at z11
  split at z11
  · omega
  · exact z11
theorem ents_flat {a : Attrs} (h : checkS a = 0) (wide : Bool) : flatE (entsA (wd wide) a) = encB a wide := by
  have v := valid_of h
  have hu := unk_flat a.unknown fun t ht => (v.unknown t ht).1.1
  have e : flatE (entsA (wd wide) a) = putB 1 [UInt8.ofNat a.origin.toNat] ++ (putB 2 (pathB (wd wide) a.path) ++ (putB 3 (be 4 a.nextHop.toNat) ++ flatE (optE1 a.hasMED 4 (be 4 a.med.toNat) ++ (optE1 a.hasPref 5 (be 4 a.pref.toNat) ++ (optE1 a.atomic 6 [] ++ (optE1 a.hasAggr 7 (be (wd wide) a.aggrAS.toNat ++ be 4 a.aggrAddr.toNat) ++ (optE1 (decide (a.comms.length > 0)) 8 (wordsB a.comms) ++ (optE1 a.hasOrig 9 (be 4 a.orig.toNat) ++ (optE1 (decide (a.clusters.length > 0)) 10 (wordsB a.clusters) ++ unkE a.unknown))))))))) := rfl
  rw [e, flatE_opt (q := a.hasMED = true) Iff.rfl, flatE_opt (q := a.hasPref = true) Iff.rfl, flatE_opt (q := a.atomic = true) Iff.rfl, flatE_opt (q := a.hasAggr = true) Iff.rfl, flatE_opt (q := a.comms.length > 0) decide_eq_true_iff, flatE_opt (q := a.hasOrig = true) Iff.rfl, flatE_opt (q := a.clusters.length > 0) decide_eq_true_iff, hu]
  rfl
theorem ents_cnt {a : Attrs} (h : checkS a = 0) (w : Nat) : cntE (entsA w a) = 3 := by
  have v := valid_of h
  have e : cntE (entsA w a) = 1 + (1 + (1 + cntE (optE1 a.hasMED 4 (be 4 a.med.toNat) ++ (optE1 a.hasPref 5 (be 4 a.pref.toNat) ++ (optE1 a.atomic 6 [] ++ (optE1 a.hasAggr 7 (be w a.aggrAS.toNat ++ be 4 a.aggrAddr.toNat) ++ (optE1 (decide (a.comms.length > 0)) 8 (wordsB a.comms) ++ (optE1 a.hasOrig 9 (be 4 a.orig.toNat) ++ (optE1 (decide (a.clusters.length > 0)) 10 (wordsB a.clusters) ++ unkE a.unknown))))))))) := by
    simp only [entsA, cntE, List.map_cons, List.sum_cons, isReq]; rfl
  rw [e, cntE_opt (by omega), cntE_opt (by omega), cntE_opt (by omega), cntE_opt (by omega), cntE_opt (by omega), cntE_opt (by omega), cntE_opt (by omega), unk_cnt a.unknown fun t ht => (v.unknown t ht).1.1]
theorem ents_asc {a : Attrs} (h : checkS a = 0) (w : Nat) (hw : w ≤ 4) : AscE (-1) (entsA w a) := by
  have v := valid_of h
  have hp := pathL_aux w hw a.path fun s hs => (v.segs s hs).2.1.2
  have hpl := v.pathL
  have h1 : (wordsB a.comms).length = 4 * a.comms.length := asB_length 4 a.comms
  have h2 : (wordsB a.clusters).length = 4 * a.clusters.length := asB_length 4 a.clusters
  have := v.comms
  have := v.clusters
  refine ⟨by omega, by omega, by simp, by simp, by omega, by simp only; omega, by simp, by omega, by simp, ?_⟩
  refine AscE_opt (by simp) (by omega) (by simp) fun l4 _ => ?_
  refine AscE_opt (by simp; omega) (by omega) (by simp) fun l5 _ => ?_
  refine AscE_opt (by simp; omega) (by omega) (by simp) fun l6 _ => ?_
  refine AscE_opt (by simp; omega) (by omega) (by simp; omega) fun l7 _ => ?_
  refine AscE_opt (by simp; omega) (by omega) (by omega) fun l8 _ => ?_
  refine AscE_opt (by simp; omega) (by omega) (by simp) fun l9 _ => ?_
  refine AscE_opt (by simp; omega) (by omega) (by omega) fun l10 _ => ?_
  exact unk_asc a.unknown none l10 (unk_zero h) (fun _ q => by cases q) (fun _ => by omega)
theorem rd4 {x : Int} (h0 : 0 ≤ x) (h1 : x ≤ 4294967295) : ((rd (be 4 x.toNat) : Nat) : Int) = x := by rw [rd_be 4 _ (by omega)]; omega
theorem ents_fold {a : Attrs} (ha : a.ok) (h : checkS a = 0) (wide : Bool) (hb : encBad a wide = false) : foldE (wd wide) (entsA (wd wide) a) zeroA = some a := by
  have v := valid_of h
  have hbig : (∀ s ∈ a.path, ∀ x ∈ s.as, 0 ≤ x ∧ x < ((256 ^ wd wide : Nat) : Int)) ∧ (a.hasAggr = true → 0 ≤ a.aggrAS ∧ a.aggrAS < ((256 ^ wd wide : Nat) : Int)) := by
    cases wide
    · rw [encBad_eq v] at hb
      simp only [Bool.not_false, Bool.true_and, List.any_eq_false, List.mem_append, List.mem_singleton, decide_eq_true_eq] at hb
      refine ⟨fun s hs x hx => ?_, fun hg => ?_⟩
      · have h1 := hb x (.inl (List.mem_flatMap.2 ⟨s, hs, hx⟩))
        have h2 := (v.segs s hs).2.2 x hx
        simp [wd]; omega
      · have h1 := hb a.aggrAS (.inr rfl)
        have h2 := v.aggr.1 hg
        simp [wd]; omega
    · refine ⟨fun s hs x hx => ?_, fun hg => ?_⟩
      · have h2 := (v.segs s hs).2.2 x hx
        simp [wd]; omega
      · have h2 := v.aggr.1 hg
        simp [wd]; omega
  have hpath := segs_back (wd wide) a.path (pathB (wd wide) a.path).length (fun s hs => ⟨by have := (v.segs s hs).1; omega, (v.segs s hs).2.1, hbig.1 s hs⟩) (Nat.le_refl _)
  have ho := v.origin
  have hnh := ha.nextHop
  unfold okU at hnh
  have e1 : setA (wd wide) 1 [UInt8.ofNat a.origin.toNat] zeroA = some { zeroA with origin := a.origin } := by
    have : ((UInt8.ofNat a.origin.toNat).toNat : Int) = a.origin := by simp; omega
    simp only [setA, this]
  have e2 : setA (wd wide) 2 (pathB (wd wide) a.path) { zeroA with origin := a.origin } = some { zeroA with origin := a.origin, path := a.path } := by
    simp only [setA, segsD, hpath, Option.map_some]
  have e3 : setA (wd wide) 3 (be 4 a.nextHop.toNat) { zeroA with origin := a.origin, path := a.path } = some { zeroA with origin := a.origin, path := a.path, nextHop := a.nextHop } := by
    simp only [setA, be_length, if_true, rd4 hnh.1 hnh.2]
  simp only [entsA, foldE, e1, e2, e3]
  rw [foldE_opt (a' := { zeroA with origin := a.origin, path := a.path, nextHop := a.nextHop, hasMED := a.hasMED, med := a.med })
    (fun hc => by have := v.med.1 hc; simp only [setA, be_length, if_true, rd4 this.1 this.2, hc]) (fun hc => by rw [hc, v.med.2 hc]; rfl)]
  rw [foldE_opt (a' := { zeroA with origin := a.origin, path := a.path, nextHop := a.nextHop, hasMED := a.hasMED, med := a.med, hasPref := a.hasPref, pref := a.pref })
    (fun hc => by have := v.pref.1 hc; simp only [setA, be_length, if_true, rd4 this.1 this.2, hc]) (fun hc => by rw [hc, v.pref.2 hc]; rfl)]
  rw [foldE_opt (a' := { zeroA with origin := a.origin, path := a.path, nextHop := a.nextHop, hasMED := a.hasMED, med := a.med, hasPref := a.hasPref, pref := a.pref, atomic := a.atomic })
    (fun hc => by simp only [setA, List.length_nil, if_true, hc]) (fun hc => by rw [hc]; rfl)]
  rw [foldE_opt (a' := { zeroA with origin := a.origin, path := a.path, nextHop := a.nextHop, hasMED := a.hasMED, med := a.med, hasPref := a.hasPref, pref := a.pref, atomic := a.atomic, hasAggr := a.hasAggr, aggrAS := a.aggrAS, aggrAddr := a.aggrAddr })
    (fun hc => by
      have h1 := hbig.2 hc
      have h2 := ha.aggrAddr
      unfold okU at h2
      have hl : (be (wd wide) a.aggrAS.toNat ++ be 4 a.aggrAddr.toNat).length = wd wide + 4 := by simp
      have t1 : (be (wd wide) a.aggrAS.toNat ++ be 4 a.aggrAddr.toNat).take (wd wide) = be (wd wide) a.aggrAS.toNat := List.take_left' (by simp)
      have t2 : (be (wd wide) a.aggrAS.toNat ++ be 4 a.aggrAddr.toNat).drop (wd wide) = be 4 a.aggrAddr.toNat := List.drop_left' (by simp)
      have t3 : ((rd (be (wd wide) a.aggrAS.toNat) : Nat) : Int) = a.aggrAS := by rw [rd_be _ _ (by omega)]; omega
      simp only [setA, hl, if_true, t1, t2, t3, rd4 h2.1 h2.2, hc]) (fun hc => by rw [hc, v.aggr.2 hc, v.aggrAddr hc]; rfl)]
  rw [foldE_opt (a' := { zeroA with origin := a.origin, path := a.path, nextHop := a.nextHop, hasMED := a.hasMED, med := a.med, hasPref := a.hasPref, pref := a.pref, atomic := a.atomic, hasAggr := a.hasAggr, aggrAS := a.aggrAS, aggrAddr := a.aggrAddr, comms := a.comms })
    (fun hc => by obtain ⟨q1, q2⟩ := words_back2 ha.comms (by simpa using hc); simp only [setA, q1, if_true, q2]) (fun hc => by rw [show a.comms = [] from List.eq_nil_of_length_eq_zero (by simp at hc; simp [hc])]; rfl)]
  rw [foldE_opt (a' := { zeroA with origin := a.origin, path := a.path, nextHop := a.nextHop, hasMED := a.hasMED, med := a.med, hasPref := a.hasPref, pref := a.pref, atomic := a.atomic, hasAggr := a.hasAggr, aggrAS := a.aggrAS, aggrAddr := a.aggrAddr, comms := a.comms, hasOrig := a.hasOrig, orig := a.orig })
    (fun hc => by have := ha.orig; unfold okU at this; simp only [setA, be_length, if_true, rd4 this.1 this.2, hc]) (fun hc => by
      have := v.orig
      rw [hc] at this
      have h0 : a.orig = 0 := by
        by_cases q : a.orig = 0
        · exact q
        · rw [bne_iff_ne.2 q] at this; cases this
      rw [hc, h0]; rfl)]
  rw [foldE_opt (a' := { zeroA with origin := a.origin, path := a.path, nextHop := a.nextHop, hasMED := a.hasMED, med := a.med, hasPref := a.hasPref, pref := a.pref, atomic := a.atomic, hasAggr := a.hasAggr, aggrAS := a.aggrAS, aggrAddr := a.aggrAddr, comms := a.comms, hasOrig := a.hasOrig, orig := a.orig, clusters := a.clusters })
    (fun hc => by obtain ⟨q1, q2⟩ := words_back2 ha.clusters (by simpa using hc); simp only [setA, q1, if_true, q2]) (fun hc => by rw [show a.clusters = [] from List.eq_nil_of_length_eq_zero (by simp at hc; simp [hc])]; rfl)]
  rw [unk_fold a.unknown _ fun t ht => (v.unknown t ht).1.1]
  simp [zeroA]
theorem enc_dec {a : Attrs} (ha : a.ok) (h : checkS a = 0) (wide : Bool) (hb : encBad a wide = false) : decD (wd wide) (encB a wide) = (0, a) ∧ decD (wd wide) (encB a wide).dropLast = (3, zeroA) := by
  have h1 := ents_flat h wide
  have h2 := ents_asc h (wd wide) (wd_le wide)
  have h3 := ents_fold ha h wide hb
  have h4 := ents_cnt h (wd wide)
  refine ⟨?_, ?_⟩
  · unfold decD
    rw [← h1, fold_dec _ _ _ _ _ _ h2 h3 (Nat.le_refl _), h4]
    simp [finD, h]
  · unfold decD
    rw [← h1]
    exact fold_cut (wd wide) (entsA (wd wide) a) _ (-1) 0 zeroA (by simp [entsA]) h2 h3 (by simp; omega)
end Go.AM.IR
set_option maxHeartbeats 4000000
set_option maxRecDepth 20000
namespace Go.AM.IR
theorem dec_short69 (wide : Bool) (w N : Nat) (hw : wd wide = w) (hN : N < 2 ^ 29) (b v rest : List UInt8) (c k : UInt8) (n : Nat) (hb0 : (byteCells b)[0]? = some [.int .u8 (c.toNat : Int)]) (hb1 : (byteCells b)[1]? = some [.int .u8 (k.toNat : Int)]) (hbit : bit16 c = false) (hlen : b.length < 2 ^ 29) (hh : 3 ≤ b.length)
  (hget : Gives G 93 [.sl 1 (byteCells b), .int .i64 2, .int .i64 1] [] ⟨.int .i64 (n : Int), []⟩) (hn : n ≤ 65535) (last : Int) (nd : Nat) (hnd : nd < 2 ^ 40) (a : Attrs) (hu : a.unknown.length < 2 ^ 29) (R : Ret)
  (h1 : b.length < 3 + n → R = decR (3, zeroA)) (h2 : 3 + n ≤ b.length → (k.toNat : Int) ≤ last → R = decR (16, zeroA))
  (h3 : 3 + n ≤ b.length → ¬ (k.toNat : Int) ≤ last → badHead ⟨c, k, false, (b.drop 3).take n, b.drop (3 + n)⟩ → R = decR (2, zeroA))
  (h4 : 3 + n ≤ b.length → ¬ (k.toNat : Int) ≤ last → ¬ badHead ⟨c, k, false, (b.drop 3).take n, b.drop (3 + n)⟩ → setA w k.toNat ((b.drop 3).take n) a = none → R = decR (2, zeroA))
  (go : 3 + n ≤ b.length → ¬ (k.toNat : Int) ≤ last → ¬ badHead ⟨c, k, false, (b.drop 3).take n, b.drop (3 + n)⟩ → ∀ a', setA w k.toNat ((b.drop 3).take n) a = some a' → ∀ (T : List (Nat × AV)) (H : Heap) (c g1 g2 g3 : Nat), Ev G ⟨f69x21LH, ⟨(4, .ref 68 g1 0) :: (0, .sl 1 (byteCells (b.drop (3 + n)))) :: (8, .int .i64 ((nd + isReq k.toNat : Nat) : Int)) :: (6, .ref 70 g2 0) :: (1, .bool wide) :: (7, .int .i64 (k.toNat : Int)) :: T, (68, some (g1, .cells zeroC)) :: (70, some (g2, .cells (a'.cellsV (.vs 300 g3 a'.unknown.length)))) :: (300, some (g3, .vec 2 (a'.unknown.map TLV.enc))) :: H, c⟩, [.cell 4 (some 16), .t 5], 0⟩ R)
  (T : List (Nat × AV)) (H : Heap) (c_ g1 g2 g3 : Nat) : Ev G ⟨f69x21LH, ⟨(4, .ref 68 g1 0) :: (0, .sl 1 (byteCells b)) :: (8, .int .i64 (nd : Int)) :: (6, .ref 70 g2 0) :: (1, .bool wide) :: (7, .int .i64 last) :: T, (68, some (g1, .cells zeroC)) :: (70, some (g2, .cells (a.cellsV (.vs 300 g3 a.unknown.length)))) :: (300, some (g3, .vec 2 (a.unknown.map TLV.enc))) :: H, c_⟩, [.cell 4 (some 16), .t 5], 0⟩ R := by
  have hbl := byteCells_length b
  have hk := k.toNat_lt
  have hflag := flag_gives94 (k.toNat : Int) (by omega)
  have hwg := width_gives96 wide
  rw [hw] at hwg
  by_cases c1 : b.length < 3 + n
  · rw [h1 c1]
    refine ev_loop' (W_ok 300 _ _ _ _ ?_)
    repeat' ((conv => whnf); first | refine zAndF hbit ?_ | refine zNotB ?_ | refine bslP (by first | rfl | (simp [pureL, pureLL, AV.pure]; done) | fail) rfl ?_ | refine TakeC.full (by first | rfl | omega | (simp; done) | (simp; omega) | fail) ?_ | refine zBs ?_ | refine zBn ?_ | refine zBv rfl rfl ?_ | refine zN ?_ | refine zC ?_ | refine zC4 ?_ | refine zOr16 ?_ | refine zC1 ?_ | refine zByte ?_ | refine zMaxL ?_ | refine zMaxR ?_ | refine zMinL ?_ | refine zMinR ?_ | refine zShr ?_ | refine zC8 ?_ | refine zQ ?_ | refine zR ?_ | refine zS ?_ | refine zA ?_ | refine zM ?_ | refine xr rfl ?_ | refine ai rfl ?_ | refine condT ?_ | refine condF ?_ | refine condG1 ?_ | refine condG0 ?_ | refine cD ?_ | refine dD ?_ | refine cB ?_ | refine dB ?_ | refine cN ?_ | refine dN ?_ | refine cV ?_ | refine dV ?_ | refine cE ?_ | refine dE ?_ | refine condX0 ?_ | refine condX1 ?_ | refine condNot ?_ | refine condAnd ?_ | refine condOr ?_ | refine aO ?_ | refine aB ?_ | refine aR ?_ | refine aR ?_ (by simp; omega) | refine xr (by assumption) ?_ | refine ai (by assumption) ?_ | refine kV (hget) ?_ | refine kV (hflag) ?_ | refine kV (hwg) ?_ | refine condD (fun h => ?_) (fun h => ?_) | refine condB (fun h => ?_) (fun h => ?_) | refine condN (fun h => ?_) (fun h => ?_) | refine condE (fun h => ?_) (fun h => ?_) | refine condV (fun h => ?_) (fun h => ?_))
    refine ev_le [] [(68, some (_, .cells zeroA.enc))] trivial ⟨⟨rfl, .refl _, LeP.nil 2, .refl _, .refl _, .refl _, .refl _, .refl _, .refl _, .refl _, .refl _, .refl _, LeP.nil 1, .refl _, .refl _, LeP.nil 1, LeP.nil 2, trivial⟩, trivial⟩ ?_
    (first | refine ev_fin (And.intro (by first | rfl | (simp [AV.pure, pureL]; done) | fail) ?_) | refine ev_fin0 (And.intro (by first | rfl | (simp [AV.pure, pureL]; done) | fail) ?_))
    (conv => whnf); exact And.intro (by first | rfl | (simp [AV.pure, pureL]; done) | fail) rfl
  have c1 : 3 + n ≤ b.length := by omega
  by_cases c2 : (k.toNat : Int) ≤ last
  · rw [h2 c1 c2]
    refine ev_loop' (W_ok 300 _ _ _ _ ?_)
    repeat' ((conv => whnf); first | refine zAndF hbit ?_ | refine zNotB ?_ | refine bslP (by first | rfl | (simp [pureL, pureLL, AV.pure]; done) | fail) rfl ?_ | refine TakeC.full (by first | rfl | omega | (simp; done) | (simp; omega) | fail) ?_ | refine zBs ?_ | refine zBn ?_ | refine zBv rfl rfl ?_ | refine zN ?_ | refine zC ?_ | refine zC4 ?_ | refine zOr16 ?_ | refine zC1 ?_ | refine zByte ?_ | refine zMaxL ?_ | refine zMaxR ?_ | refine zMinL ?_ | refine zMinR ?_ | refine zShr ?_ | refine zC8 ?_ | refine zQ ?_ | refine zR ?_ | refine zS ?_ | refine zA ?_ | refine zM ?_ | refine xr rfl ?_ | refine ai rfl ?_ | refine condT ?_ | refine condF ?_ | refine condG1 ?_ | refine condG0 ?_ | refine cD ?_ | refine dD ?_ | refine cB ?_ | refine dB ?_ | refine cN ?_ | refine dN ?_ | refine cV ?_ | refine dV ?_ | refine cE ?_ | refine dE ?_ | refine condX0 ?_ | refine condX1 ?_ | refine condNot ?_ | refine condAnd ?_ | refine condOr ?_ | refine aO ?_ | refine aB ?_ | refine aR ?_ | refine aR ?_ (by simp; omega) | refine xr (by assumption) ?_ | refine ai (by assumption) ?_ | refine kV (hget) ?_ | refine kV (hflag) ?_ | refine kV (hwg) ?_ | refine condD (fun h => ?_) (fun h => ?_) | refine condB (fun h => ?_) (fun h => ?_) | refine condN (fun h => ?_) (fun h => ?_) | refine condE (fun h => ?_) (fun h => ?_) | refine condV (fun h => ?_) (fun h => ?_))
    refine ev_le [] [(68, some (_, .cells zeroA.enc))] trivial ⟨⟨rfl, .refl _, LeP.nil 2, .refl _, .refl _, .refl _, .refl _, .refl _, .refl _, .refl _, .refl _, .refl _, LeP.nil 1, .refl _, .refl _, LeP.nil 1, LeP.nil 2, trivial⟩, trivial⟩ ?_
    (first | refine ev_fin (And.intro (by first | rfl | (simp [AV.pure, pureL]; done) | fail) ?_) | refine ev_fin0 (And.intro (by first | rfl | (simp [AV.pure, pureL]; done) | fail) ?_))
    (conv => whnf); exact And.intro (by first | rfl | (simp [AV.pure, pureL]; done) | fail) rfl
  have hvl : ((b.drop 3).take n).length = n := by simp; omega
  by_cases c3 : stripB c = ((flagS (k.toNat : Int)).toNat : Int)
  · have hnb : ¬ badHead ⟨c, k, false, (b.drop 3).take n, b.drop (3 + n)⟩ := by simp [badHead, c3]
    have hsl := slice_eq b 3 n (3 + (n : Int)).toNat (by omega)
    have hwl := wd_le wide
    rw [hw] at hwl
    have hrd := read_gives95 k.toNat (by omega) a ((b.drop 3).take n) (by omega) (by omega) w hwl
    unfold readR at hrd
    cases hs : setA w k.toNat ((b.drop 3).take n) a with
    | none =>
      rw [hs] at hrd
      rw [h4 c1 c2 hnb hs]
      rw [← hsl] at hrd
      refine ev_loop' (W_ok 300 _ _ _ _ ?_)
      repeat' ((conv => whnf); first | refine zAndF hbit ?_ | refine zNotB ?_ | refine bslP (by first | rfl | (simp [pureL, pureLL, AV.pure]; done) | fail) rfl ?_ | refine TakeC.full (by first | rfl | omega | (simp; done) | (simp; omega) | fail) ?_ | refine zBs ?_ | refine zBn ?_ | refine zBv rfl rfl ?_ | refine zN ?_ | refine zC ?_ | refine zC4 ?_ | refine zOr16 ?_ | refine zC1 ?_ | refine zByte ?_ | refine zMaxL ?_ | refine zMaxR ?_ | refine zMinL ?_ | refine zMinR ?_ | refine zShr ?_ | refine zC8 ?_ | refine zQ ?_ | refine zR ?_ | refine zS ?_ | refine zA ?_ | refine zM ?_ | refine xr rfl ?_ | refine ai rfl ?_ | refine condT ?_ | refine condF ?_ | refine condG1 ?_ | refine condG0 ?_ | refine cD ?_ | refine dD ?_ | refine cB ?_ | refine dB ?_ | refine cN ?_ | refine dN ?_ | refine cV ?_ | refine dV ?_ | refine cE ?_ | refine dE ?_ | refine condX0 ?_ | refine condX1 ?_ | refine condNot ?_ | refine condAnd ?_ | refine condOr ?_ | refine aO ?_ | refine aB ?_ | refine aR ?_ | refine aR ?_ (by simp; omega) | refine xr (by assumption) ?_ | refine ai (by assumption) ?_ | refine kV (hget) ?_ | refine kV (hflag) ?_ | refine kV (hwg) ?_ | refine kX [(70, _, _), (300, _, _)] [] ⟨rfl, rfl, trivial⟩ trivial (hrd) ?_ | refine condD (fun h => ?_) (fun h => ?_) | refine condB (fun h => ?_) (fun h => ?_) | refine condN (fun h => ?_) (fun h => ?_) | refine condE (fun h => ?_) (fun h => ?_) | refine condV (fun h => ?_) (fun h => ?_))
      refine ev_le [] [(68, some (_, .cells zeroA.enc))] trivial ⟨⟨rfl, .refl _, LeP.nil 2, .refl _, .refl _, .refl _, .refl _, .refl _, .refl _, .refl _, .refl _, .refl _, LeP.nil 1, .refl _, .refl _, LeP.nil 1, LeP.nil 2, trivial⟩, trivial⟩ ?_
      (first | refine ev_fin (And.intro (by first | rfl | (simp [AV.pure, pureL]; done) | fail) ?_) | refine ev_fin0 (And.intro (by first | rfl | (simp [AV.pure, pureL]; done) | fail) ?_))
      (conv => whnf); exact And.intro (by first | rfl | (simp [AV.pure, pureL]; done) | fail) rfl
    | some a' =>
      rw [hs] at hrd
      rw [← hsl] at hrd
      have go := go c1 c2 hnb a' hs
      simp only [readRet] at hrd
      by_cases hq : 1 ≤ k.toNat ∧ k.toNat ≤ 3
      · rw [show isKind k.toNat = true from by simp [isKind]; omega] at hrd
        rw [show ((nd + isReq k.toNat : Nat) : Int) = (nd : Int) + 1 from by simp [isReq, hq]] at go
        refine ev_loop' (W_ok 300 _ _ _ _ ?_)
        repeat' ((conv => whnf); first | refine zAndF hbit ?_ | refine zNotB ?_ | refine bslP (by first | rfl | (simp [pureL, pureLL, AV.pure]; done) | fail) rfl ?_ | refine TakeC.full (by first | rfl | omega | (simp; done) | (simp; omega) | fail) ?_ | refine zBs ?_ | refine zBn ?_ | refine zBv rfl rfl ?_ | refine zN ?_ | refine zC ?_ | refine zC4 ?_ | refine zOr16 ?_ | refine zC1 ?_ | refine zByte ?_ | refine zMaxL ?_ | refine zMaxR ?_ | refine zMinL ?_ | refine zMinR ?_ | refine zShr ?_ | refine zC8 ?_ | refine zQ ?_ | refine zR ?_ | refine zS ?_ | refine zA ?_ | refine zM ?_ | refine xr rfl ?_ | refine ai rfl ?_ | refine condT ?_ | refine condF ?_ | refine condG1 ?_ | refine condG0 ?_ | refine cD ?_ | refine dD ?_ | refine cB ?_ | refine dB ?_ | refine cN ?_ | refine dN ?_ | refine cV ?_ | refine dV ?_ | refine cE ?_ | refine dE ?_ | refine condX0 ?_ | refine condX1 ?_ | refine condNot ?_ | refine condAnd ?_ | refine condOr ?_ | refine aO ?_ | refine aB ?_ | refine aR ?_ | refine aR ?_ (by simp; omega) | refine xr (by assumption) ?_ | refine ai (by assumption) ?_ | refine kV (hget) ?_ | refine kV (hflag) ?_ | refine kV (hwg) ?_ | refine kX [(70, _, _), (300, _, _)] [] ⟨rfl, rfl, trivial⟩ trivial (hrd) ?_ | refine condD (fun h => ?_) (fun h => ?_) | refine condB (fun h => ?_) (fun h => ?_) | refine condN (fun h => ?_) (fun h => ?_) | refine condE (fun h => ?_) (fun h => ?_) | refine condV (fun h => ?_) (fun h => ?_))
        refine ev_keep [4, 0, 8, 6, 1, 7] [68, 70, 300] ?_
        rw [tail_eq b _ _ (by omega), show (3 + (n : Int)).toNat = 3 + n from by omega]
        exact go _ _ _ _ _ _
      · rw [show ((nd + isReq k.toNat : Nat) : Int) = (nd : Int) from by simp [isReq, hq]] at go
        cases hik : isKind k.toNat
        · rw [hik] at hrd
          refine ev_loop' (W_ok 300 _ _ _ _ ?_)
          repeat' ((conv => whnf); first | refine zAndF hbit ?_ | refine zNotB ?_ | refine bslP (by first | rfl | (simp [pureL, pureLL, AV.pure]; done) | fail) rfl ?_ | refine TakeC.full (by first | rfl | omega | (simp; done) | (simp; omega) | fail) ?_ | refine zBs ?_ | refine zBn ?_ | refine zBv rfl rfl ?_ | refine zN ?_ | refine zC ?_ | refine zC4 ?_ | refine zOr16 ?_ | refine zC1 ?_ | refine zByte ?_ | refine zMaxL ?_ | refine zMaxR ?_ | refine zMinL ?_ | refine zMinR ?_ | refine zShr ?_ | refine zC8 ?_ | refine zQ ?_ | refine zR ?_ | refine zS ?_ | refine zA ?_ | refine zM ?_ | refine xr rfl ?_ | refine ai rfl ?_ | refine condT ?_ | refine condF ?_ | refine condG1 ?_ | refine condG0 ?_ | refine cD ?_ | refine dD ?_ | refine cB ?_ | refine dB ?_ | refine cN ?_ | refine dN ?_ | refine cV ?_ | refine dV ?_ | refine cE ?_ | refine dE ?_ | refine condX0 ?_ | refine condX1 ?_ | refine condNot ?_ | refine condAnd ?_ | refine condOr ?_ | refine aO ?_ | refine aB ?_ | refine aR ?_ | refine aR ?_ (by simp; omega) | refine xr (by assumption) ?_ | refine ai (by assumption) ?_ | refine kV (hget) ?_ | refine kV (hflag) ?_ | refine kV (hwg) ?_ | refine kX [(70, _, _), (300, _, _)] [] ⟨rfl, rfl, trivial⟩ trivial (hrd) ?_ | refine condD (fun h => ?_) (fun h => ?_) | refine condB (fun h => ?_) (fun h => ?_) | refine condN (fun h => ?_) (fun h => ?_) | refine condE (fun h => ?_) (fun h => ?_) | refine condV (fun h => ?_) (fun h => ?_))
          all_goals
            refine ev_keep [4, 0, 8, 6, 1, 7] [68, 70, 300] ?_
            rw [tail_eq b _ _ (by omega), show (3 + (n : Int)).toNat = 3 + n from by omega]
            exact go _ _ _ _ _ _
        · rw [hik] at hrd
          refine ev_loop' (W_ok 300 _ _ _ _ ?_)
          repeat' ((conv => whnf); first | refine zAndF hbit ?_ | refine zNotB ?_ | refine bslP (by first | rfl | (simp [pureL, pureLL, AV.pure]; done) | fail) rfl ?_ | refine TakeC.full (by first | rfl | omega | (simp; done) | (simp; omega) | fail) ?_ | refine zBs ?_ | refine zBn ?_ | refine zBv rfl rfl ?_ | refine zN ?_ | refine zC ?_ | refine zC4 ?_ | refine zOr16 ?_ | refine zC1 ?_ | refine zByte ?_ | refine zMaxL ?_ | refine zMaxR ?_ | refine zMinL ?_ | refine zMinR ?_ | refine zShr ?_ | refine zC8 ?_ | refine zQ ?_ | refine zR ?_ | refine zS ?_ | refine zA ?_ | refine zM ?_ | refine xr rfl ?_ | refine ai rfl ?_ | refine condT ?_ | refine condF ?_ | refine condG1 ?_ | refine condG0 ?_ | refine cD ?_ | refine dD ?_ | refine cB ?_ | refine dB ?_ | refine cN ?_ | refine dN ?_ | refine cV ?_ | refine dV ?_ | refine cE ?_ | refine dE ?_ | refine condX0 ?_ | refine condX1 ?_ | refine condNot ?_ | refine condAnd ?_ | refine condOr ?_ | refine aO ?_ | refine aB ?_ | refine aR ?_ | refine aR ?_ (by simp; omega) | refine xr (by assumption) ?_ | refine ai (by assumption) ?_ | refine kV (hget) ?_ | refine kV (hflag) ?_ | refine kV (hwg) ?_ | refine kX [(70, _, _), (300, _, _)] [] ⟨rfl, rfl, trivial⟩ trivial (hrd) ?_ | refine condD (fun h => ?_) (fun h => ?_) | refine condB (fun h => ?_) (fun h => ?_) | refine condN (fun h => ?_) (fun h => ?_) | refine condE (fun h => ?_) (fun h => ?_) | refine condV (fun h => ?_) (fun h => ?_))
          all_goals
            refine ev_keep [4, 0, 8, 6, 1, 7] [68, 70, 300] ?_
            rw [tail_eq b _ _ (by omega), show (3 + (n : Int)).toNat = 3 + n from by omega]
            exact go _ _ _ _ _ _
  · rw [h3 c1 c2 (.inl c3)]
    refine ev_loop' (W_ok 300 _ _ _ _ ?_)
    repeat' ((conv => whnf); first | refine zAndF hbit ?_ | refine zNotB ?_ | refine bslP (by first | rfl | (simp [pureL, pureLL, AV.pure]; done) | fail) rfl ?_ | refine TakeC.full (by first | rfl | omega | (simp; done) | (simp; omega) | fail) ?_ | refine zBs ?_ | refine zBn ?_ | refine zBv rfl rfl ?_ | refine zN ?_ | refine zC ?_ | refine zC4 ?_ | refine zOr16 ?_ | refine zC1 ?_ | refine zByte ?_ | refine zMaxL ?_ | refine zMaxR ?_ | refine zMinL ?_ | refine zMinR ?_ | refine zShr ?_ | refine zC8 ?_ | refine zQ ?_ | refine zR ?_ | refine zS ?_ | refine zA ?_ | refine zM ?_ | refine xr rfl ?_ | refine ai rfl ?_ | refine condT ?_ | refine condF ?_ | refine condG1 ?_ | refine condG0 ?_ | refine cD ?_ | refine dD ?_ | refine cB ?_ | refine dB ?_ | refine cN ?_ | refine dN ?_ | refine cV ?_ | refine dV ?_ | refine cE ?_ | refine dE ?_ | refine condX0 ?_ | refine condX1 ?_ | refine condNot ?_ | refine condAnd ?_ | refine condOr ?_ | refine aO ?_ | refine aB ?_ | refine aR ?_ | refine aR ?_ (by simp; omega) | refine xr (by assumption) ?_ | refine ai (by assumption) ?_ | refine kV (hget) ?_ | refine kV (hflag) ?_ | refine kV (hwg) ?_ | refine condD (fun h => ?_) (fun h => ?_) | refine condB (fun h => ?_) (fun h => ?_) | refine condN (fun h => ?_) (fun h => ?_) | refine condE (fun h => ?_) (fun h => ?_) | refine condV (fun h => ?_) (fun h => ?_))
    refine ev_le [] [(68, some (_, .cells zeroA.enc))] trivial ⟨⟨rfl, .refl _, LeP.nil 2, .refl _, .refl _, .refl _, .refl _, .refl _, .refl _, .refl _, .refl _, .refl _, LeP.nil 1, .refl _, .refl _, LeP.nil 1, LeP.nil 2, trivial⟩, trivial⟩ ?_
    (first | refine ev_fin (And.intro (by first | rfl | (simp [AV.pure, pureL]; done) | fail) ?_) | refine ev_fin0 (And.intro (by first | rfl | (simp [AV.pure, pureL]; done) | fail) ?_))
    (conv => whnf); exact And.intro (by first | rfl | (simp [AV.pure, pureL]; done) | fail) rfl
end Go.AM.IR
set_option maxHeartbeats 4000000
set_option maxRecDepth 20000
namespace Go.AM.IR
theorem dec_long69 (wide : Bool) (w N : Nat) (hw : wd wide = w) (hN : N < 2 ^ 29) (b v rest : List UInt8) (c k : UInt8) (n : Nat) (hb0 : (byteCells b)[0]? = some [.int .u8 (c.toNat : Int)]) (hb1 : (byteCells b)[1]? = some [.int .u8 (k.toNat : Int)]) (hbit : bit16 c = true) (hlen : b.length < 2 ^ 29) (hh : 4 ≤ b.length)
  (hget : Gives G 93 [.sl 1 (byteCells b), .int .i64 2, .int .i64 2] [] ⟨.int .i64 (n : Int), []⟩) (hn : n ≤ 65535) (last : Int) (nd : Nat) (hnd : nd < 2 ^ 40) (a : Attrs) (hu : a.unknown.length < 2 ^ 29) (R : Ret)
  (h1 : b.length < 4 + n → R = decR (3, zeroA)) (h2 : 4 + n ≤ b.length → (k.toNat : Int) ≤ last → R = decR (16, zeroA))
  (h3 : 4 + n ≤ b.length → ¬ (k.toNat : Int) ≤ last → badHead ⟨c, k, true, (b.drop 4).take n, b.drop (4 + n)⟩ → R = decR (2, zeroA))
  (h4 : 4 + n ≤ b.length → ¬ (k.toNat : Int) ≤ last → ¬ badHead ⟨c, k, true, (b.drop 4).take n, b.drop (4 + n)⟩ → setA w k.toNat ((b.drop 4).take n) a = none → R = decR (2, zeroA))
  (go : 4 + n ≤ b.length → ¬ (k.toNat : Int) ≤ last → ¬ badHead ⟨c, k, true, (b.drop 4).take n, b.drop (4 + n)⟩ → ∀ a', setA w k.toNat ((b.drop 4).take n) a = some a' → ∀ (T : List (Nat × AV)) (H : Heap) (c g1 g2 g3 : Nat), Ev G ⟨f69x21LH, ⟨(4, .ref 68 g1 0) :: (0, .sl 1 (byteCells (b.drop (4 + n)))) :: (8, .int .i64 ((nd + isReq k.toNat : Nat) : Int)) :: (6, .ref 70 g2 0) :: (1, .bool wide) :: (7, .int .i64 (k.toNat : Int)) :: T, (68, some (g1, .cells zeroC)) :: (70, some (g2, .cells (a'.cellsV (.vs 300 g3 a'.unknown.length)))) :: (300, some (g3, .vec 2 (a'.unknown.map TLV.enc))) :: H, c⟩, [.cell 4 (some 16), .t 5], 0⟩ R)
  (T : List (Nat × AV)) (H : Heap) (c_ g1 g2 g3 : Nat) : Ev G ⟨f69x21LH, ⟨(4, .ref 68 g1 0) :: (0, .sl 1 (byteCells b)) :: (8, .int .i64 (nd : Int)) :: (6, .ref 70 g2 0) :: (1, .bool wide) :: (7, .int .i64 last) :: T, (68, some (g1, .cells zeroC)) :: (70, some (g2, .cells (a.cellsV (.vs 300 g3 a.unknown.length)))) :: (300, some (g3, .vec 2 (a.unknown.map TLV.enc))) :: H, c_⟩, [.cell 4 (some 16), .t 5], 0⟩ R := by
  have hbl := byteCells_length b
  have hk := k.toNat_lt
  have hflag := flag_gives94 (k.toNat : Int) (by omega)
  have hwg := width_gives96 wide
  rw [hw] at hwg
  by_cases c1 : b.length < 4 + n
  · rw [h1 c1]
    refine ev_loop' (W_ok 300 _ _ _ _ ?_)
    repeat' ((conv => whnf); first | refine zAndT hbit ?_ | refine zNotB ?_ | refine bslP (by first | rfl | (simp [pureL, pureLL, AV.pure]; done) | fail) rfl ?_ | refine TakeC.full (by first | rfl | omega | (simp; done) | (simp; omega) | fail) ?_ | refine zBs ?_ | refine zBn ?_ | refine zBv rfl rfl ?_ | refine zN ?_ | refine zC ?_ | refine zC4 ?_ | refine zOr16 ?_ | refine zC1 ?_ | refine zByte ?_ | refine zMaxL ?_ | refine zMaxR ?_ | refine zMinL ?_ | refine zMinR ?_ | refine zShr ?_ | refine zC8 ?_ | refine zQ ?_ | refine zR ?_ | refine zS ?_ | refine zA ?_ | refine zM ?_ | refine xr rfl ?_ | refine ai rfl ?_ | refine condT ?_ | refine condF ?_ | refine condG1 ?_ | refine condG0 ?_ | refine cD ?_ | refine dD ?_ | refine cB ?_ | refine dB ?_ | refine cN ?_ | refine dN ?_ | refine cV ?_ | refine dV ?_ | refine cE ?_ | refine dE ?_ | refine condX0 ?_ | refine condX1 ?_ | refine condNot ?_ | refine condAnd ?_ | refine condOr ?_ | refine aO ?_ | refine aB ?_ | refine aR ?_ | refine aR ?_ (by simp; omega) | refine xr (by assumption) ?_ | refine ai (by assumption) ?_ | refine kV (hget) ?_ | refine kV (hflag) ?_ | refine kV (hwg) ?_ | refine condD (fun h => ?_) (fun h => ?_) | refine condB (fun h => ?_) (fun h => ?_) | refine condN (fun h => ?_) (fun h => ?_) | refine condE (fun h => ?_) (fun h => ?_) | refine condV (fun h => ?_) (fun h => ?_))
    refine ev_le [] [(68, some (_, .cells zeroA.enc))] trivial ⟨⟨rfl, .refl _, LeP.nil 2, .refl _, .refl _, .refl _, .refl _, .refl _, .refl _, .refl _, .refl _, .refl _, LeP.nil 1, .refl _, .refl _, LeP.nil 1, LeP.nil 2, trivial⟩, trivial⟩ ?_
    (first | refine ev_fin (And.intro (by first | rfl | (simp [AV.pure, pureL]; done) | fail) ?_) | refine ev_fin0 (And.intro (by first | rfl | (simp [AV.pure, pureL]; done) | fail) ?_))
    (conv => whnf); exact And.intro (by first | rfl | (simp [AV.pure, pureL]; done) | fail) rfl
  have c1 : 4 + n ≤ b.length := by omega
  by_cases c2 : (k.toNat : Int) ≤ last
  · rw [h2 c1 c2]
    refine ev_loop' (W_ok 300 _ _ _ _ ?_)
    repeat' ((conv => whnf); first | refine zAndT hbit ?_ | refine zNotB ?_ | refine bslP (by first | rfl | (simp [pureL, pureLL, AV.pure]; done) | fail) rfl ?_ | refine TakeC.full (by first | rfl | omega | (simp; done) | (simp; omega) | fail) ?_ | refine zBs ?_ | refine zBn ?_ | refine zBv rfl rfl ?_ | refine zN ?_ | refine zC ?_ | refine zC4 ?_ | refine zOr16 ?_ | refine zC1 ?_ | refine zByte ?_ | refine zMaxL ?_ | refine zMaxR ?_ | refine zMinL ?_ | refine zMinR ?_ | refine zShr ?_ | refine zC8 ?_ | refine zQ ?_ | refine zR ?_ | refine zS ?_ | refine zA ?_ | refine zM ?_ | refine xr rfl ?_ | refine ai rfl ?_ | refine condT ?_ | refine condF ?_ | refine condG1 ?_ | refine condG0 ?_ | refine cD ?_ | refine dD ?_ | refine cB ?_ | refine dB ?_ | refine cN ?_ | refine dN ?_ | refine cV ?_ | refine dV ?_ | refine cE ?_ | refine dE ?_ | refine condX0 ?_ | refine condX1 ?_ | refine condNot ?_ | refine condAnd ?_ | refine condOr ?_ | refine aO ?_ | refine aB ?_ | refine aR ?_ | refine aR ?_ (by simp; omega) | refine xr (by assumption) ?_ | refine ai (by assumption) ?_ | refine kV (hget) ?_ | refine kV (hflag) ?_ | refine kV (hwg) ?_ | refine condD (fun h => ?_) (fun h => ?_) | refine condB (fun h => ?_) (fun h => ?_) | refine condN (fun h => ?_) (fun h => ?_) | refine condE (fun h => ?_) (fun h => ?_) | refine condV (fun h => ?_) (fun h => ?_))
    refine ev_le [] [(68, some (_, .cells zeroA.enc))] trivial ⟨⟨rfl, .refl _, LeP.nil 2, .refl _, .refl _, .refl _, .refl _, .refl _, .refl _, .refl _, .refl _, .refl _, LeP.nil 1, .refl _, .refl _, LeP.nil 1, LeP.nil 2, trivial⟩, trivial⟩ ?_
    (first | refine ev_fin (And.intro (by first | rfl | (simp [AV.pure, pureL]; done) | fail) ?_) | refine ev_fin0 (And.intro (by first | rfl | (simp [AV.pure, pureL]; done) | fail) ?_))
    (conv => whnf); exact And.intro (by first | rfl | (simp [AV.pure, pureL]; done) | fail) rfl
  have hvl : ((b.drop 4).take n).length = n := by simp; omega
  by_cases c3 : stripB c = ((flagS (k.toNat : Int)).toNat : Int)
  · by_cases c4 : n ≤ 255
    · rw [h3 c1 c2 (.inr ⟨rfl, by simp only; omega⟩)]
      refine ev_loop' (W_ok 300 _ _ _ _ ?_)
      repeat' ((conv => whnf); first | refine zAndT hbit ?_ | refine zNotB ?_ | refine bslP (by first | rfl | (simp [pureL, pureLL, AV.pure]; done) | fail) rfl ?_ | refine TakeC.full (by first | rfl | omega | (simp; done) | (simp; omega) | fail) ?_ | refine zBs ?_ | refine zBn ?_ | refine zBv rfl rfl ?_ | refine zN ?_ | refine zC ?_ | refine zC4 ?_ | refine zOr16 ?_ | refine zC1 ?_ | refine zByte ?_ | refine zMaxL ?_ | refine zMaxR ?_ | refine zMinL ?_ | refine zMinR ?_ | refine zShr ?_ | refine zC8 ?_ | refine zQ ?_ | refine zR ?_ | refine zS ?_ | refine zA ?_ | refine zM ?_ | refine xr rfl ?_ | refine ai rfl ?_ | refine condT ?_ | refine condF ?_ | refine condG1 ?_ | refine condG0 ?_ | refine cD ?_ | refine dD ?_ | refine cB ?_ | refine dB ?_ | refine cN ?_ | refine dN ?_ | refine cV ?_ | refine dV ?_ | refine cE ?_ | refine dE ?_ | refine condX0 ?_ | refine condX1 ?_ | refine condNot ?_ | refine condAnd ?_ | refine condOr ?_ | refine aO ?_ | refine aB ?_ | refine aR ?_ | refine aR ?_ (by simp; omega) | refine xr (by assumption) ?_ | refine ai (by assumption) ?_ | refine kV (hget) ?_ | refine kV (hflag) ?_ | refine kV (hwg) ?_ | refine condD (fun h => ?_) (fun h => ?_) | refine condB (fun h => ?_) (fun h => ?_) | refine condN (fun h => ?_) (fun h => ?_) | refine condE (fun h => ?_) (fun h => ?_) | refine condV (fun h => ?_) (fun h => ?_))
      refine ev_le [] [(68, some (_, .cells zeroA.enc))] trivial ⟨⟨rfl, .refl _, LeP.nil 2, .refl _, .refl _, .refl _, .refl _, .refl _, .refl _, .refl _, .refl _, .refl _, LeP.nil 1, .refl _, .refl _, LeP.nil 1, LeP.nil 2, trivial⟩, trivial⟩ ?_
      (first | refine ev_fin (And.intro (by first | rfl | (simp [AV.pure, pureL]; done) | fail) ?_) | refine ev_fin0 (And.intro (by first | rfl | (simp [AV.pure, pureL]; done) | fail) ?_))
      (conv => whnf); exact And.intro (by first | rfl | (simp [AV.pure, pureL]; done) | fail) rfl
    · have hnb : ¬ badHead ⟨c, k, true, (b.drop 4).take n, b.drop (4 + n)⟩ := by simp [badHead, c3]; omega
      have hsl := slice_eq b 4 n (4 + (n : Int)).toNat (by omega)
      have hwl := wd_le wide
      rw [hw] at hwl
      have hrd := read_gives95 k.toNat (by omega) a ((b.drop 4).take n) (by omega) (by omega) w hwl
      unfold readR at hrd
      cases hs : setA w k.toNat ((b.drop 4).take n) a with
      | none =>
        rw [hs] at hrd
        rw [h4 c1 c2 hnb hs]
        rw [← hsl] at hrd
        refine ev_loop' (W_ok 300 _ _ _ _ ?_)
        repeat' ((conv => whnf); first | refine zAndT hbit ?_ | refine zNotB ?_ | refine bslP (by first | rfl | (simp [pureL, pureLL, AV.pure]; done) | fail) rfl ?_ | refine TakeC.full (by first | rfl | omega | (simp; done) | (simp; omega) | fail) ?_ | refine zBs ?_ | refine zBn ?_ | refine zBv rfl rfl ?_ | refine zN ?_ | refine zC ?_ | refine zC4 ?_ | refine zOr16 ?_ | refine zC1 ?_ | refine zByte ?_ | refine zMaxL ?_ | refine zMaxR ?_ | refine zMinL ?_ | refine zMinR ?_ | refine zShr ?_ | refine zC8 ?_ | refine zQ ?_ | refine zR ?_ | refine zS ?_ | refine zA ?_ | refine zM ?_ | refine xr rfl ?_ | refine ai rfl ?_ | refine condT ?_ | refine condF ?_ | refine condG1 ?_ | refine condG0 ?_ | refine cD ?_ | refine dD ?_ | refine cB ?_ | refine dB ?_ | refine cN ?_ | refine dN ?_ | refine cV ?_ | refine dV ?_ | refine cE ?_ | refine dE ?_ | refine condX0 ?_ | refine condX1 ?_ | refine condNot ?_ | refine condAnd ?_ | refine condOr ?_ | refine aO ?_ | refine aB ?_ | refine aR ?_ | refine aR ?_ (by simp; omega) | refine xr (by assumption) ?_ | refine ai (by assumption) ?_ | refine kV (hget) ?_ | refine kV (hflag) ?_ | refine kV (hwg) ?_ | refine kX [(70, _, _), (300, _, _)] [] ⟨rfl, rfl, trivial⟩ trivial (hrd) ?_ | refine condD (fun h => ?_) (fun h => ?_) | refine condB (fun h => ?_) (fun h => ?_) | refine condN (fun h => ?_) (fun h => ?_) | refine condE (fun h => ?_) (fun h => ?_) | refine condV (fun h => ?_) (fun h => ?_))
        refine ev_le [] [(68, some (_, .cells zeroA.enc))] trivial ⟨⟨rfl, .refl _, LeP.nil 2, .refl _, .refl _, .refl _, .refl _, .refl _, .refl _, .refl _, .refl _, .refl _, LeP.nil 1, .refl _, .refl _, LeP.nil 1, LeP.nil 2, trivial⟩, trivial⟩ ?_
        (first | refine ev_fin (And.intro (by first | rfl | (simp [AV.pure, pureL]; done) | fail) ?_) | refine ev_fin0 (And.intro (by first | rfl | (simp [AV.pure, pureL]; done) | fail) ?_))
        (conv => whnf); exact And.intro (by first | rfl | (simp [AV.pure, pureL]; done) | fail) rfl
      | some a' =>
        rw [hs] at hrd
        rw [← hsl] at hrd
        have go := go c1 c2 hnb a' hs
        simp only [readRet] at hrd
        by_cases hq : 1 ≤ k.toNat ∧ k.toNat ≤ 3
        · rw [show isKind k.toNat = true from by simp [isKind]; omega] at hrd
          rw [show ((nd + isReq k.toNat : Nat) : Int) = (nd : Int) + 1 from by simp [isReq, hq]] at go
          refine ev_loop' (W_ok 300 _ _ _ _ ?_)
          repeat' ((conv => whnf); first | refine zAndT hbit ?_ | refine zNotB ?_ | refine bslP (by first | rfl | (simp [pureL, pureLL, AV.pure]; done) | fail) rfl ?_ | refine TakeC.full (by first | rfl | omega | (simp; done) | (simp; omega) | fail) ?_ | refine zBs ?_ | refine zBn ?_ | refine zBv rfl rfl ?_ | refine zN ?_ | refine zC ?_ | refine zC4 ?_ | refine zOr16 ?_ | refine zC1 ?_ | refine zByte ?_ | refine zMaxL ?_ | refine zMaxR ?_ | refine zMinL ?_ | refine zMinR ?_ | refine zShr ?_ | refine zC8 ?_ | refine zQ ?_ | refine zR ?_ | refine zS ?_ | refine zA ?_ | refine zM ?_ | refine xr rfl ?_ | refine ai rfl ?_ | refine condT ?_ | refine condF ?_ | refine condG1 ?_ | refine condG0 ?_ | refine cD ?_ | refine dD ?_ | refine cB ?_ | refine dB ?_ | refine cN ?_ | refine dN ?_ | refine cV ?_ | refine dV ?_ | refine cE ?_ | refine dE ?_ | refine condX0 ?_ | refine condX1 ?_ | refine condNot ?_ | refine condAnd ?_ | refine condOr ?_ | refine aO ?_ | refine aB ?_ | refine aR ?_ | refine aR ?_ (by simp; omega) | refine xr (by assumption) ?_ | refine ai (by assumption) ?_ | refine kV (hget) ?_ | refine kV (hflag) ?_ | refine kV (hwg) ?_ | refine kX [(70, _, _), (300, _, _)] [] ⟨rfl, rfl, trivial⟩ trivial (hrd) ?_ | refine condD (fun h => ?_) (fun h => ?_) | refine condB (fun h => ?_) (fun h => ?_) | refine condN (fun h => ?_) (fun h => ?_) | refine condE (fun h => ?_) (fun h => ?_) | refine condV (fun h => ?_) (fun h => ?_))
          refine ev_keep [4, 0, 8, 6, 1, 7] [68, 70, 300] ?_
          rw [tail_eq b _ _ (by omega), show (4 + (n : Int)).toNat = 4 + n from by omega]
          exact go _ _ _ _ _ _
        · rw [show ((nd + isReq k.toNat : Nat) : Int) = (nd : Int) from by simp [isReq, hq]] at go
          cases hik : isKind k.toNat
          · rw [hik] at hrd
            refine ev_loop' (W_ok 300 _ _ _ _ ?_)
            repeat' ((conv => whnf); first | refine zAndT hbit ?_ | refine zNotB ?_ | refine bslP (by first | rfl | (simp [pureL, pureLL, AV.pure]; done) | fail) rfl ?_ | refine TakeC.full (by first | rfl | omega | (simp; done) | (simp; omega) | fail) ?_ | refine zBs ?_ | refine zBn ?_ | refine zBv rfl rfl ?_ | refine zN ?_ | refine zC ?_ | refine zC4 ?_ | refine zOr16 ?_ | refine zC1 ?_ | refine zByte ?_ | refine zMaxL ?_ | refine zMaxR ?_ | refine zMinL ?_ | refine zMinR ?_ | refine zShr ?_ | refine zC8 ?_ | refine zQ ?_ | refine zR ?_ | refine zS ?_ | refine zA ?_ | refine zM ?_ | refine xr rfl ?_ | refine ai rfl ?_ | refine condT ?_ | refine condF ?_ | refine condG1 ?_ | refine condG0 ?_ | refine cD ?_ | refine dD ?_ | refine cB ?_ | refine dB ?_ | refine cN ?_ | refine dN ?_ | refine cV ?_ | refine dV ?_ | refine cE ?_ | refine dE ?_ | refine condX0 ?_ | refine condX1 ?_ | refine condNot ?_ | refine condAnd ?_ | refine condOr ?_ | refine aO ?_ | refine aB ?_ | refine aR ?_ | refine aR ?_ (by simp; omega) | refine xr (by assumption) ?_ | refine ai (by assumption) ?_ | refine kV (hget) ?_ | refine kV (hflag) ?_ | refine kV (hwg) ?_ | refine kX [(70, _, _), (300, _, _)] [] ⟨rfl, rfl, trivial⟩ trivial (hrd) ?_ | refine condD (fun h => ?_) (fun h => ?_) | refine condB (fun h => ?_) (fun h => ?_) | refine condN (fun h => ?_) (fun h => ?_) | refine condE (fun h => ?_) (fun h => ?_) | refine condV (fun h => ?_) (fun h => ?_))
            all_goals
              refine ev_keep [4, 0, 8, 6, 1, 7] [68, 70, 300] ?_
              rw [tail_eq b _ _ (by omega), show (4 + (n : Int)).toNat = 4 + n from by omega]
              exact go _ _ _ _ _ _
          · rw [hik] at hrd
            refine ev_loop' (W_ok 300 _ _ _ _ ?_)
            repeat' ((conv => whnf); first | refine zAndT hbit ?_ | refine zNotB ?_ | refine bslP (by first | rfl | (simp [pureL, pureLL, AV.pure]; done) | fail) rfl ?_ | refine TakeC.full (by first | rfl | omega | (simp; done) | (simp; omega) | fail) ?_ | refine zBs ?_ | refine zBn ?_ | refine zBv rfl rfl ?_ | refine zN ?_ | refine zC ?_ | refine zC4 ?_ | refine zOr16 ?_ | refine zC1 ?_ | refine zByte ?_ | refine zMaxL ?_ | refine zMaxR ?_ | refine zMinL ?_ | refine zMinR ?_ | refine zShr ?_ | refine zC8 ?_ | refine zQ ?_ | refine zR ?_ | refine zS ?_ | refine zA ?_ | refine zM ?_ | refine xr rfl ?_ | refine ai rfl ?_ | refine condT ?_ | refine condF ?_ | refine condG1 ?_ | refine condG0 ?_ | refine cD ?_ | refine dD ?_ | refine cB ?_ | refine dB ?_ | refine cN ?_ | refine dN ?_ | refine cV ?_ | refine dV ?_ | refine cE ?_ | refine dE ?_ | refine condX0 ?_ | refine condX1 ?_ | refine condNot ?_ | refine condAnd ?_ | refine condOr ?_ | refine aO ?_ | refine aB ?_ | refine aR ?_ | refine aR ?_ (by simp; omega) | refine xr (by assumption) ?_ | refine ai (by assumption) ?_ | refine kV (hget) ?_ | refine kV (hflag) ?_ | refine kV (hwg) ?_ | refine kX [(70, _, _), (300, _, _)] [] ⟨rfl, rfl, trivial⟩ trivial (hrd) ?_ | refine condD (fun h => ?_) (fun h => ?_) | refine condB (fun h => ?_) (fun h => ?_) | refine condN (fun h => ?_) (fun h => ?_) | refine condE (fun h => ?_) (fun h => ?_) | refine condV (fun h => ?_) (fun h => ?_))
            all_goals
              refine ev_keep [4, 0, 8, 6, 1, 7] [68, 70, 300] ?_
              rw [tail_eq b _ _ (by omega), show (4 + (n : Int)).toNat = 4 + n from by omega]
              exact go _ _ _ _ _ _
  · rw [h3 c1 c2 (.inl c3)]
    refine ev_loop' (W_ok 300 _ _ _ _ ?_)
    repeat' ((conv => whnf); first | refine zAndT hbit ?_ | refine zNotB ?_ | refine bslP (by first | rfl | (simp [pureL, pureLL, AV.pure]; done) | fail) rfl ?_ | refine TakeC.full (by first | rfl | omega | (simp; done) | (simp; omega) | fail) ?_ | refine zBs ?_ | refine zBn ?_ | refine zBv rfl rfl ?_ | refine zN ?_ | refine zC ?_ | refine zC4 ?_ | refine zOr16 ?_ | refine zC1 ?_ | refine zByte ?_ | refine zMaxL ?_ | refine zMaxR ?_ | refine zMinL ?_ | refine zMinR ?_ | refine zShr ?_ | refine zC8 ?_ | refine zQ ?_ | refine zR ?_ | refine zS ?_ | refine zA ?_ | refine zM ?_ | refine xr rfl ?_ | refine ai rfl ?_ | refine condT ?_ | refine condF ?_ | refine condG1 ?_ | refine condG0 ?_ | refine cD ?_ | refine dD ?_ | refine cB ?_ | refine dB ?_ | refine cN ?_ | refine dN ?_ | refine cV ?_ | refine dV ?_ | refine cE ?_ | refine dE ?_ | refine condX0 ?_ | refine condX1 ?_ | refine condNot ?_ | refine condAnd ?_ | refine condOr ?_ | refine aO ?_ | refine aB ?_ | refine aR ?_ | refine aR ?_ (by simp; omega) | refine xr (by assumption) ?_ | refine ai (by assumption) ?_ | refine kV (hget) ?_ | refine kV (hflag) ?_ | refine kV (hwg) ?_ | refine condD (fun h => ?_) (fun h => ?_) | refine condB (fun h => ?_) (fun h => ?_) | refine condN (fun h => ?_) (fun h => ?_) | refine condE (fun h => ?_) (fun h => ?_) | refine condV (fun h => ?_) (fun h => ?_))
    refine ev_le [] [(68, some (_, .cells zeroA.enc))] trivial ⟨⟨rfl, .refl _, LeP.nil 2, .refl _, .refl _, .refl _, .refl _, .refl _, .refl _, .refl _, .refl _, .refl _, LeP.nil 1, .refl _, .refl _, LeP.nil 1, LeP.nil 2, trivial⟩, trivial⟩ ?_
    (first | refine ev_fin (And.intro (by first | rfl | (simp [AV.pure, pureL]; done) | fail) ?_) | refine ev_fin0 (And.intro (by first | rfl | (simp [AV.pure, pureL]; done) | fail) ?_))
    (conv => whnf); exact And.intro (by first | rfl | (simp [AV.pure, pureL]; done) | fail) rfl
end Go.AM.IR
set_option maxHeartbeats 4000000
set_option maxRecDepth 20000
namespace Go.AM.IR
theorem attD_short (c k n : UInt8) (r : List UInt8) (hb : bit16 c = false) : attD (c :: k :: n :: r) = if r.length < n.toNat then none else some ⟨c, k, false, r.take n.toNat, r.drop n.toNat⟩ := by
  simp [attD, hb]
theorem attD_long (c k n m : UInt8) (r : List UInt8) (hb : bit16 c = true) : attD (c :: k :: n :: m :: r) = if r.length < n.toNat * 256 + m.toNat then none else some ⟨c, k, true, r.take (n.toNat * 256 + m.toNat), r.drop (n.toNat * 256 + m.toNat)⟩ := by
  simp [attD, hb]
theorem isReq_le (k : Nat) : isReq k ≤ 1 := by unfold isReq; split <;> omega
theorem drop_len3 (c k n : UInt8) (r : List UInt8) (x : Nat) : (c :: k :: n :: r).drop (3 + x) = r.drop x := by rw [Nat.add_comm]; rfl
theorem drop_len4 (c k n m : UInt8) (r : List UInt8) (x : Nat) : (c :: k :: n :: m :: r).drop (4 + x) = r.drop x := by rw [Nat.add_comm]; rfl
theorem dec_loop69 (wide : Bool) (w N : Nat) (hw : wd wide = w) (hN : N < 2 ^ 29) : ∀ (f : Nat) (b : List UInt8) (last : Int) (nd : Nat) (a : Attrs) (T : List (Nat × AV)) (H : Heap) (c g1 g2 g3 : Nat) (hf : b.length ≤ f) (hu : a.unknown.length + b.length ≤ N) (hnd : nd + b.length ≤ N) (hD : DB N a),
   Ev G ⟨f69x21LH, ⟨(4, .ref 68 g1 0) :: (0, .sl 1 (byteCells b)) :: (8, .int .i64 (nd : Int)) :: (6, .ref 70 g2 0) :: (1, .bool wide) :: (7, .int .i64 last) :: T, (68, some (g1, .cells zeroC)) :: (70, some (g2, .cells (a.cellsV (.vs 300 g3 a.unknown.length)))) :: (300, some (g3, .vec 2 (a.unknown.map TLV.enc))) :: H, c⟩, [.cell 4 (some 16), .t 5], 0⟩ (decR (decF w f b last nd a))
  | f, [], last, nd, a, T, H, c_, g1, g2, g3, hf, hu, hnd, hD => by
    rw [show decF w f [] last nd a = finD nd a from by cases f <;> rfl]
    have hul : (a.unknown.map TLV.enc).length = a.unknown.length := by simp
    have hck := check_gives65 a (hD.lenB (by omega) (by omega))
    refine ev_frzk [(300, _, _)] [4, 0, 8, 6, 1, 7] [68, 70] ⟨rfl, (by first | rfl | (simp [Blk.pure, pureL, pureLL, AV.pure, *]; done) | fail), trivial⟩ ?_; repeat ((conv => whnf); first | refine And.intro (by first | rfl | omega | (simp [pureL, pureLL, AV.pure]; done) | (simp; omega) | (simp [pureL, pureLL, AV.pure, *]; done) | assumption | fail) ?_ | intro T H)
    by_cases h3 : nd < 3
    · rw [show finD nd a = (6, zeroA) from by rw [finD, if_pos h3]]
      refine ev_loop' (W_ok 300 _ _ _ _ ?_)
      repeat' ((conv => whnf); first | refine bslP (by first | rfl | (simp [pureL, pureLL, AV.pure]; done) | fail) rfl ?_ | refine TakeC.full (by first | rfl | omega | (simp; done) | (simp; omega) | fail) ?_ | refine zBs ?_ | refine zBn ?_ | refine zBv rfl rfl ?_ | refine zN ?_ | refine zC ?_ | refine zC4 ?_ | refine zOr16 ?_ | refine zC1 ?_ | refine zByte ?_ | refine zMaxL ?_ | refine zMaxR ?_ | refine zMinL ?_ | refine zMinR ?_ | refine zShr ?_ | refine zC8 ?_ | refine zQ ?_ | refine zR ?_ | refine zS ?_ | refine zA ?_ | refine zM ?_ | refine xr rfl ?_ | refine ai rfl ?_ | refine condT ?_ | refine condF ?_ | refine condG1 ?_ | refine condG0 ?_ | refine cD ?_ | refine dD ?_ | refine cB ?_ | refine dB ?_ | refine cN ?_ | refine dN ?_ | refine cV ?_ | refine dV ?_ | refine cE ?_ | refine dE ?_ | refine condX0 ?_ | refine condX1 ?_ | refine condNot ?_ | refine condAnd ?_ | refine condOr ?_ | refine aO ?_ | refine aB ?_ | refine aR ?_ | refine aR ?_ (by simp; omega) | refine xr (by assumption) ?_ | refine ai (by assumption) ?_ | refine condD (fun h => ?_) (fun h => ?_) | refine condB (fun h => ?_) (fun h => ?_) | refine condN (fun h => ?_) (fun h => ?_) | refine condE (fun h => ?_) (fun h => ?_) | refine condV (fun h => ?_) (fun h => ?_))
      refine ev_le [] [(68, some (_, .cells zeroA.enc))] trivial ⟨⟨rfl, .refl _, LeP.nil 2, .refl _, .refl _, .refl _, .refl _, .refl _, .refl _, .refl _, .refl _, .refl _, LeP.nil 1, .refl _, .refl _, LeP.nil 1, LeP.nil 2, trivial⟩, trivial⟩ ?_
      (first | refine ev_fin (And.intro (by first | rfl | (simp [AV.pure, pureL]; done) | fail) ?_) | refine ev_fin0 (And.intro (by first | rfl | (simp [AV.pure, pureL]; done) | fail) ?_))
      (conv => whnf); exact And.intro (by first | rfl | (simp [AV.pure, pureL]; done) | fail) rfl
    · by_cases h0 : checkS a = 0
      · rw [show finD nd a = (0, a) from by rw [finD, if_neg h3, if_pos h0]]
        rw [h0] at hck
        refine ev_loop' (W_ok 300 _ _ _ _ ?_)
        repeat' ((conv => whnf); first | refine bslP (by first | rfl | (simp [pureL, pureLL, AV.pure]; done) | fail) rfl ?_ | refine TakeC.full (by first | rfl | omega | (simp; done) | (simp; omega) | fail) ?_ | refine zBs ?_ | refine zBn ?_ | refine zBv rfl rfl ?_ | refine zN ?_ | refine zC ?_ | refine zC4 ?_ | refine zOr16 ?_ | refine zC1 ?_ | refine zByte ?_ | refine zMaxL ?_ | refine zMaxR ?_ | refine zMinL ?_ | refine zMinR ?_ | refine zShr ?_ | refine zC8 ?_ | refine zQ ?_ | refine zR ?_ | refine zS ?_ | refine zA ?_ | refine zM ?_ | refine xr rfl ?_ | refine ai rfl ?_ | refine condT ?_ | refine condF ?_ | refine condG1 ?_ | refine condG0 ?_ | refine cD ?_ | refine dD ?_ | refine cB ?_ | refine dB ?_ | refine cN ?_ | refine dN ?_ | refine cV ?_ | refine dV ?_ | refine cE ?_ | refine dE ?_ | refine condX0 ?_ | refine condX1 ?_ | refine condNot ?_ | refine condAnd ?_ | refine condOr ?_ | refine aO ?_ | refine aB ?_ | refine aR ?_ | refine aR ?_ (by simp; omega) | refine xr (by assumption) ?_ | refine ai (by assumption) ?_ | refine kV (hck) ?_ | refine condD (fun h => ?_) (fun h => ?_) | refine condB (fun h => ?_) (fun h => ?_) | refine condN (fun h => ?_) (fun h => ?_) | refine condE (fun h => ?_) (fun h => ?_) | refine condV (fun h => ?_) (fun h => ?_))
        (first | refine ev_fin (And.intro (by first | rfl | (simp [AV.pure, pureL]; done) | fail) ?_) | refine ev_fin0 (And.intro (by first | rfl | (simp [AV.pure, pureL]; done) | fail) ?_))
        (conv => whnf); exact And.intro (by simp [AV.pure, pureL]) rfl
      · rw [show finD nd a = (checkS a, zeroA) from by rw [finD, if_neg h3, if_neg h0]]
        refine ev_loop' (W_ok 300 _ _ _ _ ?_)
        repeat' ((conv => whnf); first | refine bslP (by first | rfl | (simp [pureL, pureLL, AV.pure]; done) | fail) rfl ?_ | refine TakeC.full (by first | rfl | omega | (simp; done) | (simp; omega) | fail) ?_ | refine zBs ?_ | refine zBn ?_ | refine zBv rfl rfl ?_ | refine zN ?_ | refine zC ?_ | refine zC4 ?_ | refine zOr16 ?_ | refine zC1 ?_ | refine zByte ?_ | refine zMaxL ?_ | refine zMaxR ?_ | refine zMinL ?_ | refine zMinR ?_ | refine zShr ?_ | refine zC8 ?_ | refine zQ ?_ | refine zR ?_ | refine zS ?_ | refine zA ?_ | refine zM ?_ | refine xr rfl ?_ | refine ai rfl ?_ | refine condT ?_ | refine condF ?_ | refine condG1 ?_ | refine condG0 ?_ | refine cD ?_ | refine dD ?_ | refine cB ?_ | refine dB ?_ | refine cN ?_ | refine dN ?_ | refine cV ?_ | refine dV ?_ | refine cE ?_ | refine dE ?_ | refine condX0 ?_ | refine condX1 ?_ | refine condNot ?_ | refine condAnd ?_ | refine condOr ?_ | refine aO ?_ | refine aB ?_ | refine aR ?_ | refine aR ?_ (by simp; omega) | refine xr (by assumption) ?_ | refine ai (by assumption) ?_ | refine kV (hck) ?_ | refine condD (fun h => ?_) (fun h => ?_) | refine condB (fun h => ?_) (fun h => ?_) | refine condN (fun h => ?_) (fun h => ?_) | refine condE (fun h => ?_) (fun h => ?_) | refine condV (fun h => ?_) (fun h => ?_))
        refine ev_le [] [(68, some (_, .cells zeroA.enc))] trivial ⟨⟨rfl, .refl _, LeP.nil 2, .refl _, .refl _, .refl _, .refl _, .refl _, .refl _, .refl _, .refl _, .refl _, LeP.nil 1, .refl _, .refl _, LeP.nil 1, LeP.nil 2, trivial⟩, trivial⟩ ?_
        (first | refine ev_fin (And.intro (by first | rfl | (simp [AV.pure, pureL]; done) | fail) ?_) | refine ev_fin0 (And.intro (by first | rfl | (simp [AV.pure, pureL]; done) | fail) ?_))
        (conv => whnf); exact And.intro (by first | rfl | (simp [AV.pure, pureL]; done) | fail) rfl
  | 0, c :: r, last, nd, a, T, H, c_, g1, g2, g3, hf, hu, hnd, hD => absurd hf (by simp)
  | f + 1, [c], last, nd, a, T, H, c_, g1, g2, g3, hf, hu, hnd, hD => by
    rw [decF_none rfl]
    cases hbit : bit16 c
    · refine ev_loop' (W_ok 300 _ _ _ _ ?_)
      repeat' ((conv => whnf); first | refine zAndF hbit ?_ | refine bslP (by first | rfl | (simp [pureL, pureLL, AV.pure]; done) | fail) rfl ?_ | refine TakeC.full (by first | rfl | omega | (simp; done) | (simp; omega) | fail) ?_ | refine zBs ?_ | refine zBn ?_ | refine zBv rfl rfl ?_ | refine zN ?_ | refine zC ?_ | refine zC4 ?_ | refine zOr16 ?_ | refine zC1 ?_ | refine zByte ?_ | refine zMaxL ?_ | refine zMaxR ?_ | refine zMinL ?_ | refine zMinR ?_ | refine zShr ?_ | refine zC8 ?_ | refine zQ ?_ | refine zR ?_ | refine zS ?_ | refine zA ?_ | refine zM ?_ | refine xr rfl ?_ | refine ai rfl ?_ | refine condT ?_ | refine condF ?_ | refine condG1 ?_ | refine condG0 ?_ | refine cD ?_ | refine dD ?_ | refine cB ?_ | refine dB ?_ | refine cN ?_ | refine dN ?_ | refine cV ?_ | refine dV ?_ | refine cE ?_ | refine dE ?_ | refine condX0 ?_ | refine condX1 ?_ | refine condNot ?_ | refine condAnd ?_ | refine condOr ?_ | refine aO ?_ | refine aB ?_ | refine aR ?_ | refine aR ?_ (by simp; omega) | refine xr (by assumption) ?_ | refine ai (by assumption) ?_ | refine condD (fun h => ?_) (fun h => ?_) | refine condB (fun h => ?_) (fun h => ?_) | refine condN (fun h => ?_) (fun h => ?_) | refine condE (fun h => ?_) (fun h => ?_) | refine condV (fun h => ?_) (fun h => ?_))
      refine ev_le [] [(68, some (_, .cells zeroA.enc))] trivial ⟨⟨rfl, .refl _, LeP.nil 2, .refl _, .refl _, .refl _, .refl _, .refl _, .refl _, .refl _, .refl _, .refl _, LeP.nil 1, .refl _, .refl _, LeP.nil 1, LeP.nil 2, trivial⟩, trivial⟩ ?_
      (first | refine ev_fin (And.intro (by first | rfl | (simp [AV.pure, pureL]; done) | fail) ?_) | refine ev_fin0 (And.intro (by first | rfl | (simp [AV.pure, pureL]; done) | fail) ?_))
      (conv => whnf); exact And.intro (by first | rfl | (simp [AV.pure, pureL]; done) | fail) rfl
    · refine ev_loop' (W_ok 300 _ _ _ _ ?_)
      repeat' ((conv => whnf); first | refine zAndT hbit ?_ | refine bslP (by first | rfl | (simp [pureL, pureLL, AV.pure]; done) | fail) rfl ?_ | refine TakeC.full (by first | rfl | omega | (simp; done) | (simp; omega) | fail) ?_ | refine zBs ?_ | refine zBn ?_ | refine zBv rfl rfl ?_ | refine zN ?_ | refine zC ?_ | refine zC4 ?_ | refine zOr16 ?_ | refine zC1 ?_ | refine zByte ?_ | refine zMaxL ?_ | refine zMaxR ?_ | refine zMinL ?_ | refine zMinR ?_ | refine zShr ?_ | refine zC8 ?_ | refine zQ ?_ | refine zR ?_ | refine zS ?_ | refine zA ?_ | refine zM ?_ | refine xr rfl ?_ | refine ai rfl ?_ | refine condT ?_ | refine condF ?_ | refine condG1 ?_ | refine condG0 ?_ | refine cD ?_ | refine dD ?_ | refine cB ?_ | refine dB ?_ | refine cN ?_ | refine dN ?_ | refine cV ?_ | refine dV ?_ | refine cE ?_ | refine dE ?_ | refine condX0 ?_ | refine condX1 ?_ | refine condNot ?_ | refine condAnd ?_ | refine condOr ?_ | refine aO ?_ | refine aB ?_ | refine aR ?_ | refine aR ?_ (by simp; omega) | refine xr (by assumption) ?_ | refine ai (by assumption) ?_ | refine condD (fun h => ?_) (fun h => ?_) | refine condB (fun h => ?_) (fun h => ?_) | refine condN (fun h => ?_) (fun h => ?_) | refine condE (fun h => ?_) (fun h => ?_) | refine condV (fun h => ?_) (fun h => ?_))
      refine ev_le [] [(68, some (_, .cells zeroA.enc))] trivial ⟨⟨rfl, .refl _, LeP.nil 2, .refl _, .refl _, .refl _, .refl _, .refl _, .refl _, .refl _, .refl _, .refl _, LeP.nil 1, .refl _, .refl _, LeP.nil 1, LeP.nil 2, trivial⟩, trivial⟩ ?_
      (first | refine ev_fin (And.intro (by first | rfl | (simp [AV.pure, pureL]; done) | fail) ?_) | refine ev_fin0 (And.intro (by first | rfl | (simp [AV.pure, pureL]; done) | fail) ?_))
      (conv => whnf); exact And.intro (by first | rfl | (simp [AV.pure, pureL]; done) | fail) rfl
  | f + 1, [c, k], last, nd, a, T, H, c_, g1, g2, g3, hf, hu, hnd, hD => by
    rw [decF_none rfl]
    cases hbit : bit16 c
    · refine ev_loop' (W_ok 300 _ _ _ _ ?_)
      repeat' ((conv => whnf); first | refine zAndF hbit ?_ | refine bslP (by first | rfl | (simp [pureL, pureLL, AV.pure]; done) | fail) rfl ?_ | refine TakeC.full (by first | rfl | omega | (simp; done) | (simp; omega) | fail) ?_ | refine zBs ?_ | refine zBn ?_ | refine zBv rfl rfl ?_ | refine zN ?_ | refine zC ?_ | refine zC4 ?_ | refine zOr16 ?_ | refine zC1 ?_ | refine zByte ?_ | refine zMaxL ?_ | refine zMaxR ?_ | refine zMinL ?_ | refine zMinR ?_ | refine zShr ?_ | refine zC8 ?_ | refine zQ ?_ | refine zR ?_ | refine zS ?_ | refine zA ?_ | refine zM ?_ | refine xr rfl ?_ | refine ai rfl ?_ | refine condT ?_ | refine condF ?_ | refine condG1 ?_ | refine condG0 ?_ | refine cD ?_ | refine dD ?_ | refine cB ?_ | refine dB ?_ | refine cN ?_ | refine dN ?_ | refine cV ?_ | refine dV ?_ | refine cE ?_ | refine dE ?_ | refine condX0 ?_ | refine condX1 ?_ | refine condNot ?_ | refine condAnd ?_ | refine condOr ?_ | refine aO ?_ | refine aB ?_ | refine aR ?_ | refine aR ?_ (by simp; omega) | refine xr (by assumption) ?_ | refine ai (by assumption) ?_ | refine condD (fun h => ?_) (fun h => ?_) | refine condB (fun h => ?_) (fun h => ?_) | refine condN (fun h => ?_) (fun h => ?_) | refine condE (fun h => ?_) (fun h => ?_) | refine condV (fun h => ?_) (fun h => ?_))
      refine ev_le [] [(68, some (_, .cells zeroA.enc))] trivial ⟨⟨rfl, .refl _, LeP.nil 2, .refl _, .refl _, .refl _, .refl _, .refl _, .refl _, .refl _, .refl _, .refl _, LeP.nil 1, .refl _, .refl _, LeP.nil 1, LeP.nil 2, trivial⟩, trivial⟩ ?_
      (first | refine ev_fin (And.intro (by first | rfl | (simp [AV.pure, pureL]; done) | fail) ?_) | refine ev_fin0 (And.intro (by first | rfl | (simp [AV.pure, pureL]; done) | fail) ?_))
      (conv => whnf); exact And.intro (by first | rfl | (simp [AV.pure, pureL]; done) | fail) rfl
    · refine ev_loop' (W_ok 300 _ _ _ _ ?_)
      repeat' ((conv => whnf); first | refine zAndT hbit ?_ | refine bslP (by first | rfl | (simp [pureL, pureLL, AV.pure]; done) | fail) rfl ?_ | refine TakeC.full (by first | rfl | omega | (simp; done) | (simp; omega) | fail) ?_ | refine zBs ?_ | refine zBn ?_ | refine zBv rfl rfl ?_ | refine zN ?_ | refine zC ?_ | refine zC4 ?_ | refine zOr16 ?_ | refine zC1 ?_ | refine zByte ?_ | refine zMaxL ?_ | refine zMaxR ?_ | refine zMinL ?_ | refine zMinR ?_ | refine zShr ?_ | refine zC8 ?_ | refine zQ ?_ | refine zR ?_ | refine zS ?_ | refine zA ?_ | refine zM ?_ | refine xr rfl ?_ | refine ai rfl ?_ | refine condT ?_ | refine condF ?_ | refine condG1 ?_ | refine condG0 ?_ | refine cD ?_ | refine dD ?_ | refine cB ?_ | refine dB ?_ | refine cN ?_ | refine dN ?_ | refine cV ?_ | refine dV ?_ | refine cE ?_ | refine dE ?_ | refine condX0 ?_ | refine condX1 ?_ | refine condNot ?_ | refine condAnd ?_ | refine condOr ?_ | refine aO ?_ | refine aB ?_ | refine aR ?_ | refine aR ?_ (by simp; omega) | refine xr (by assumption) ?_ | refine ai (by assumption) ?_ | refine condD (fun h => ?_) (fun h => ?_) | refine condB (fun h => ?_) (fun h => ?_) | refine condN (fun h => ?_) (fun h => ?_) | refine condE (fun h => ?_) (fun h => ?_) | refine condV (fun h => ?_) (fun h => ?_))
      refine ev_le [] [(68, some (_, .cells zeroA.enc))] trivial ⟨⟨rfl, .refl _, LeP.nil 2, .refl _, .refl _, .refl _, .refl _, .refl _, .refl _, .refl _, .refl _, .refl _, LeP.nil 1, .refl _, .refl _, LeP.nil 1, LeP.nil 2, trivial⟩, trivial⟩ ?_
      (first | refine ev_fin (And.intro (by first | rfl | (simp [AV.pure, pureL]; done) | fail) ?_) | refine ev_fin0 (And.intro (by first | rfl | (simp [AV.pure, pureL]; done) | fail) ?_))
      (conv => whnf); exact And.intro (by first | rfl | (simp [AV.pure, pureL]; done) | fail) rfl
  | f + 1, c :: k :: n :: r, last, nd, a, T, H, c_, g1, g2, g3, hf, hu, hnd, hD => by
    have hn := n.toNat_lt
    have hle : (c :: k :: n :: r).length = r.length + 3 := rfl
    have hrq := isReq_le k.toNat
    cases hbit : bit16 c
    · have hget := get_gives93 (c :: k :: n :: r) (by omega) 2 1 (by omega) (by omega) (by omega) (by omega)
      rw [show rd (((c :: k :: n :: r).drop (2 : Int).toNat).take (1 : Int).toNat) = n.toNat from by simp [rd]] at hget
      have hat := attD_short c k n r hbit
      refine dec_short69 wide w N hw hN (c :: k :: n :: r) [] [] c k n.toNat rfl rfl hbit (by omega) (by omega) hget (by omega) last nd (by omega) a (by omega) _ ?_ ?_ ?_ ?_ ?_ T H c_ g1 g2 g3
      all_goals try simp only [drop_len3, show ∀ x : List UInt8, (c :: k :: n :: x).drop 3 = x from fun _ => rfl]
      · intro q; rw [if_pos (by omega)] at hat; rw [decF_none hat]
      · intro q q2; rw [if_neg (by omega)] at hat; rw [decF_some hat, if_pos q2]
      · intro q q2 q3; rw [if_neg (by omega)] at hat; rw [decF_some hat, if_neg q2, if_pos q3]
      · intro q q2 q3 q4; rw [if_neg (by omega)] at hat; rw [decF_some hat, if_neg q2, if_neg q3]; simp only [q4]
      · intro q q2 q3 a' q4 T H c_ g1 g2 g3
        rw [if_neg (by omega)] at hat; rw [decF_some hat, if_neg q2, if_neg q3]; simp only [q4]
        obtain ⟨d1, d2⟩ := setA_DB hD (by simp; omega) q4
        exact dec_loop69 wide w N hw hN f _ _ _ a' T H c_ g1 g2 g3 (by simp; omega) (by simp; omega) (by simp; omega) d1
    · cases r with
      | nil =>
        rw [decF_none (show attD [c, k, n] = none from by simp [attD, hbit])]
        refine ev_loop' (W_ok 300 _ _ _ _ ?_)
        repeat' ((conv => whnf); first | refine zAndT hbit ?_ | refine bslP (by first | rfl | (simp [pureL, pureLL, AV.pure]; done) | fail) rfl ?_ | refine TakeC.full (by first | rfl | omega | (simp; done) | (simp; omega) | fail) ?_ | refine zBs ?_ | refine zBn ?_ | refine zBv rfl rfl ?_ | refine zN ?_ | refine zC ?_ | refine zC4 ?_ | refine zOr16 ?_ | refine zC1 ?_ | refine zByte ?_ | refine zMaxL ?_ | refine zMaxR ?_ | refine zMinL ?_ | refine zMinR ?_ | refine zShr ?_ | refine zC8 ?_ | refine zQ ?_ | refine zR ?_ | refine zS ?_ | refine zA ?_ | refine zM ?_ | refine xr rfl ?_ | refine ai rfl ?_ | refine condT ?_ | refine condF ?_ | refine condG1 ?_ | refine condG0 ?_ | refine cD ?_ | refine dD ?_ | refine cB ?_ | refine dB ?_ | refine cN ?_ | refine dN ?_ | refine cV ?_ | refine dV ?_ | refine cE ?_ | refine dE ?_ | refine condX0 ?_ | refine condX1 ?_ | refine condNot ?_ | refine condAnd ?_ | refine condOr ?_ | refine aO ?_ | refine aB ?_ | refine aR ?_ | refine aR ?_ (by simp; omega) | refine xr (by assumption) ?_ | refine ai (by assumption) ?_ | refine condD (fun h => ?_) (fun h => ?_) | refine condB (fun h => ?_) (fun h => ?_) | refine condN (fun h => ?_) (fun h => ?_) | refine condE (fun h => ?_) (fun h => ?_) | refine condV (fun h => ?_) (fun h => ?_))
        refine ev_le [] [(68, some (_, .cells zeroA.enc))] trivial ⟨⟨rfl, .refl _, LeP.nil 2, .refl _, .refl _, .refl _, .refl _, .refl _, .refl _, .refl _, .refl _, .refl _, LeP.nil 1, .refl _, .refl _, LeP.nil 1, LeP.nil 2, trivial⟩, trivial⟩ ?_
        (first | refine ev_fin (And.intro (by first | rfl | (simp [AV.pure, pureL]; done) | fail) ?_) | refine ev_fin0 (And.intro (by first | rfl | (simp [AV.pure, pureL]; done) | fail) ?_))
        (conv => whnf); exact And.intro (by first | rfl | (simp [AV.pure, pureL]; done) | fail) rfl
      | cons m r =>
        have hm := m.toNat_lt
        simp only [List.length_cons] at hle
        have hget := get_gives93 (c :: k :: n :: m :: r) (by simp only [List.length_cons] at hf hu hnd ⊢; omega) 2 2 (by omega) (by omega) (by omega) (by simp only [List.length_cons]; omega)
        rw [show rd (((c :: k :: n :: m :: r).drop (2 : Int).toNat).take (2 : Int).toNat) = n.toNat * 256 + m.toNat from by simp [rd]] at hget
        have hat := attD_long c k n m r hbit
        simp only [List.length_cons] at hf hu hnd
        refine dec_long69 wide w N hw hN (c :: k :: n :: m :: r) [] [] c k (n.toNat * 256 + m.toNat) rfl rfl hbit (by simp only [List.length_cons]; omega) (by simp only [List.length_cons]; omega) hget (by omega) last nd (by omega) a (by omega) _ ?_ ?_ ?_ ?_ ?_ T H c_ g1 g2 g3
        all_goals try simp only [drop_len4, List.length_cons, show ∀ x : List UInt8, (c :: k :: n :: m :: x).drop 4 = x from fun _ => rfl]
        · intro q; rw [if_pos (by omega)] at hat; rw [decF_none hat]
        · intro q q2; rw [if_neg (by omega)] at hat; rw [decF_some hat, if_pos q2]
        · intro q q2 q3; rw [if_neg (by omega)] at hat; rw [decF_some hat, if_neg q2, if_pos q3]
        · intro q q2 q3 q4; rw [if_neg (by omega)] at hat; rw [decF_some hat, if_neg q2, if_neg q3]; simp only [q4]
        · intro q q2 q3 a' q4 T H c_ g1 g2 g3
          rw [if_neg (by omega)] at hat; rw [decF_some hat, if_neg q2, if_neg q3]; simp only [q4]
          obtain ⟨d1, d2⟩ := setA_DB hD (by simp; omega) q4
          exact dec_loop69 wide w N hw hN f _ _ _ a' T H c_ g1 g2 g3 (by simp; omega) (by simp; omega) (by simp; omega) d1
theorem decode_gives69 (b : List UInt8) (wide : Bool) (hb : b.length < 2 ^ 28) : Gives G 69 [.sl 1 (byteCells b), .bool wide] [] (decR (decD (wd wide) b)) := by
  refine gives_code (F := f69) rfl rfl (W_ok 300 _ _ _ _ ?_)
  repeat' ((conv => whnf); first | refine bslP (by first | rfl | (simp [pureL, pureLL, AV.pure]; done) | fail) rfl ?_ | refine TakeC.full (by first | rfl | omega | (simp; done) | (simp; omega) | fail) ?_ | refine zBs ?_ | refine zBn ?_ | refine zBv rfl rfl ?_ | refine zN ?_ | refine zC ?_ | refine zC4 ?_ | refine zOr16 ?_ | refine zC1 ?_ | refine zByte ?_ | refine zMaxL ?_ | refine zMaxR ?_ | refine zMinL ?_ | refine zMinR ?_ | refine zShr ?_ | refine zC8 ?_ | refine zQ ?_ | refine zR ?_ | refine zS ?_ | refine zA ?_ | refine zM ?_ | refine xr rfl ?_ | refine ai rfl ?_ | refine condT ?_ | refine condF ?_ | refine condG1 ?_ | refine condG0 ?_ | refine cD ?_ | refine dD ?_ | refine cB ?_ | refine dB ?_ | refine cN ?_ | refine dN ?_ | refine cV ?_ | refine dV ?_ | refine cE ?_ | refine dE ?_ | refine condX0 ?_ | refine condX1 ?_ | refine condNot ?_ | refine condAnd ?_ | refine condOr ?_ | refine aO ?_ | refine aB ?_ | refine aR ?_ | refine aR ?_ (by simp; omega) | refine xr (by assumption) ?_ | refine ai (by assumption) ?_ | refine condD (fun h => ?_) (fun h => ?_) | refine condB (fun h => ?_) (fun h => ?_) | refine condN (fun h => ?_) (fun h => ?_) | refine condE (fun h => ?_) (fun h => ?_) | refine condV (fun h => ?_) (fun h => ?_))
  refine ev_nil 300 2 [] [(70, some (_, .cells (zeroA.cellsV (.vs 300 _ 0))))] trivial ⟨⟨rfl, .refl _, LeP.nil 2, .refl _, .refl _, .refl _, .refl _, .refl _, .refl _, .refl _, .refl _, .refl _, LeP.nil 1, .refl _, .refl _, LeP.nil 1, LeP.nilV _ _ _, trivial⟩, trivial⟩ ?_
  refine ev_keep [4, 0, 8, 6, 1, 7] [68, 70, 300] ?_
  exact dec_loop69 wide (wd wide) b.length rfl (by omega) b.length b (-1) 0 zeroA _ _ _ _ _ _ (Nat.le_refl _) (by simp [zeroA]) (by simp) ⟨by simp [zeroA], by simp [zeroA], by simp [zeroA], by simp [zeroA], by simp [zeroA]⟩
end Go.AM.IR
set_option maxHeartbeats 4000000
set_option maxRecDepth 20000
namespace Go.AM.IR
deriving instance DecidableEq for Seg, TLV, Attrs
theorem eq_loop99 (la lb : List Int) (hlen : la.length = lb.length) (hl : la.length < 2 ^ 40) : ∀ (r1 d1 r2 d2 : List Int) (T : List (Nat × AV)) (H : Heap) (c : Nat) (n : Int) (e1 : la = d1 ++ r1) (e2 : lb = d2 ++ r2) (hn1 : n = d1.length) (hn2 : n = d2.length),
   Ev G ⟨f99x9LH, ⟨(13, .int .i64 n) :: (1, .sl 1 (lb.map encU)) :: (0, .sl 1 (la.map encU)) :: (12, .int .i64 la.length) :: T, H, c⟩, [.t 4], 0⟩ ⟨.bool (decide (r1 = r2)), []⟩
  | [], d1, [], d2, T, H, c, n, e1, e2, hn1, hn2 => by
    have hd : la.length = d1.length := by simp [e1]
    refine ev_loop' (W_ok 300 _ _ _ _ ?_)
    repeat' ((conv => whnf); first | refine bslP (by first | rfl | (simp [pureL, pureLL, AV.pure]; done) | fail) rfl ?_ | refine TakeC.full (by first | rfl | omega | (simp; done) | (simp; omega) | fail) ?_ | refine zBs ?_ | refine zBn ?_ | refine zBv rfl rfl ?_ | refine zN ?_ | refine zC ?_ | refine zC4 ?_ | refine zOr16 ?_ | refine zC1 ?_ | refine zByte ?_ | refine zMaxL ?_ | refine zMaxR ?_ | refine zMinL ?_ | refine zMinR ?_ | refine zShr ?_ | refine zC8 ?_ | refine zQ ?_ | refine zR ?_ | refine zS ?_ | refine zA ?_ | refine zM ?_ | refine xr rfl ?_ | refine ai rfl ?_ | refine condT ?_ | refine condF ?_ | refine condG1 ?_ | refine condG0 ?_ | refine cD ?_ | refine dD ?_ | refine cB ?_ | refine dB ?_ | refine cN ?_ | refine dN ?_ | refine cV ?_ | refine dV ?_ | refine cE ?_ | refine dE ?_ | refine condX0 ?_ | refine condX1 ?_ | refine condNot ?_ | refine condAnd ?_ | refine condOr ?_ | refine aO ?_ | refine aB ?_ | refine aR ?_ | refine aR ?_ (by simp; omega) | refine xr (by assumption) ?_ | refine ai (by assumption) ?_ | refine condD (fun h => ?_) (fun h => ?_) | refine condB (fun h => ?_) (fun h => ?_) | refine condN (fun h => ?_) (fun h => ?_) | refine condE (fun h => ?_) (fun h => ?_) | refine condV (fun h => ?_) (fun h => ?_))
    all_goals try ((first | refine ev_fin (And.intro (by first | rfl | (simp [AV.pure, pureL]; done) | fail) ?_) | refine ev_fin0 (And.intro (by first | rfl | (simp [AV.pure, pureL]; done) | fail) ?_)); first | rfl | (simp [Bool.cond_eq_ite, *]; done) | (simp [Bool.cond_eq_ite, *]; omega))
  | x :: r1, d1, y :: r2, d2, T, H, c, n, e1, e2, hn1, hn2 => by
    have hd : la.length = d1.length + (r1.length + 1) := by simp [e1]
    have hx : (la.map encU)[n.toNat]? = some (encU x) := by simp [e1, hn1]
    have hy : (lb.map encU)[n.toNat]? = some (encU y) := by simp [e2, hn2]
    refine ev_loop' (W_ok 300 _ _ _ _ ?_)
    repeat' ((conv => whnf); first | refine bslP (by first | rfl | (simp [pureL, pureLL, AV.pure]; done) | fail) rfl ?_ | refine TakeC.full (by first | rfl | omega | (simp; done) | (simp; omega) | fail) ?_ | refine zBs ?_ | refine zBn ?_ | refine zBv rfl rfl ?_ | refine zN ?_ | refine zC ?_ | refine zC4 ?_ | refine zOr16 ?_ | refine zC1 ?_ | refine zByte ?_ | refine zMaxL ?_ | refine zMaxR ?_ | refine zMinL ?_ | refine zMinR ?_ | refine zShr ?_ | refine zC8 ?_ | refine zQ ?_ | refine zR ?_ | refine zS ?_ | refine zA ?_ | refine zM ?_ | refine xr rfl ?_ | refine ai rfl ?_ | refine condT ?_ | refine condF ?_ | refine condG1 ?_ | refine condG0 ?_ | refine cD ?_ | refine dD ?_ | refine cB ?_ | refine dB ?_ | refine cN ?_ | refine dN ?_ | refine cV ?_ | refine dV ?_ | refine cE ?_ | refine dE ?_ | refine condX0 ?_ | refine condX1 ?_ | refine condNot ?_ | refine condAnd ?_ | refine condOr ?_ | refine aO ?_ | refine aB ?_ | refine aR ?_ | refine aR ?_ (by simp; omega) | refine xr (by assumption) ?_ | refine ai (by assumption) ?_ | refine condD (fun h => ?_) (fun h => ?_) | refine condB (fun h => ?_) (fun h => ?_) | refine condN (fun h => ?_) (fun h => ?_) | refine condE (fun h => ?_) (fun h => ?_) | refine condV (fun h => ?_) (fun h => ?_))
    all_goals try ((first | refine ev_fin (And.intro (by first | rfl | (simp [AV.pure, pureL]; done) | fail) ?_) | refine ev_fin0 (And.intro (by first | rfl | (simp [AV.pure, pureL]; done) | fail) ?_)); first | rfl | (simp [Bool.cond_eq_ite, *]; done) | (simp [Bool.cond_eq_ite, *]; omega))
    rw [show decide (x :: r1 = y :: r2) = decide (r1 = r2) from by simp [*]]
    refine ev_keep [13, 1, 0, 12] [] ?_; exact eq_loop99 la lb hlen hl r1 (d1 ++ [x]) r2 (d2 ++ [y]) _ _ _ (n + 1) (by simp [e1]) (by simp [e2]) (by simp [hn1]) (by simp; omega)
  | [], d1, y :: r2, d2, T, H, c, n, e1, e2, hn1, hn2 => by
    exfalso; rw [e1, e2] at hlen; simp at hlen; omega
  | x :: r1, d1, [], d2, T, H, c, n, e1, e2, hn1, hn2 => by
    exfalso; rw [e1, e2] at hlen; simp at hlen; omega
theorem eq_gives99 (la lb : List Int) (h1 : la.length < 2 ^ 40) (h2 : lb.length < 2 ^ 40) : Gives G 99 [.sl 1 (la.map encU), .sl 1 (lb.map encU)] [] ⟨.bool (decide (la = lb)), []⟩ := by
  have l1 : (la.map encU).length = la.length := by simp
  have l2 : (lb.map encU).length = lb.length := by simp
  by_cases hlen : la.length = lb.length
  · refine gives_code (F := f99) rfl rfl (W_ok 300 _ _ _ _ ?_)
    repeat' ((conv => whnf); first | refine bslP (by first | rfl | (simp [pureL, pureLL, AV.pure]; done) | fail) rfl ?_ | refine TakeC.full (by first | rfl | omega | (simp; done) | (simp; omega) | fail) ?_ | refine zBs ?_ | refine zBn ?_ | refine zBv rfl rfl ?_ | refine zN ?_ | refine zC ?_ | refine zC4 ?_ | refine zOr16 ?_ | refine zC1 ?_ | refine zByte ?_ | refine zMaxL ?_ | refine zMaxR ?_ | refine zMinL ?_ | refine zMinR ?_ | refine zShr ?_ | refine zC8 ?_ | refine zQ ?_ | refine zR ?_ | refine zS ?_ | refine zA ?_ | refine zM ?_ | refine xr rfl ?_ | refine ai rfl ?_ | refine condT ?_ | refine condF ?_ | refine condG1 ?_ | refine condG0 ?_ | refine cD ?_ | refine dD ?_ | refine cB ?_ | refine dB ?_ | refine cN ?_ | refine dN ?_ | refine cV ?_ | refine dV ?_ | refine cE ?_ | refine dE ?_ | refine condX0 ?_ | refine condX1 ?_ | refine condNot ?_ | refine condAnd ?_ | refine condOr ?_ | refine aO ?_ | refine aB ?_ | refine aR ?_ | refine aR ?_ (by simp; omega) | refine xr (by assumption) ?_ | refine ai (by assumption) ?_ | refine condD (fun h => ?_) (fun h => ?_) | refine condB (fun h => ?_) (fun h => ?_) | refine condN (fun h => ?_) (fun h => ?_) | refine condE (fun h => ?_) (fun h => ?_) | refine condV (fun h => ?_) (fun h => ?_))
    refine ev_keep [13, 1, 0, 12] [] ?_
    rw [l1]
    exact eq_loop99 la lb hlen h1 la [] lb [] _ _ _ 0 rfl rfl rfl rfl
  · rw [show decide (la = lb) = false from by simp; intro h; exact hlen (by rw [h])]
    refine gives_code (F := f99) rfl rfl (W_ok 300 _ _ _ _ ?_)
    repeat' ((conv => whnf); first | refine bslP (by first | rfl | (simp [pureL, pureLL, AV.pure]; done) | fail) rfl ?_ | refine TakeC.full (by first | rfl | omega | (simp; done) | (simp; omega) | fail) ?_ | refine zBs ?_ | refine zBn ?_ | refine zBv rfl rfl ?_ | refine zN ?_ | refine zC ?_ | refine zC4 ?_ | refine zOr16 ?_ | refine zC1 ?_ | refine zByte ?_ | refine zMaxL ?_ | refine zMaxR ?_ | refine zMinL ?_ | refine zMinR ?_ | refine zShr ?_ | refine zC8 ?_ | refine zQ ?_ | refine zR ?_ | refine zS ?_ | refine zA ?_ | refine zM ?_ | refine xr rfl ?_ | refine ai rfl ?_ | refine condT ?_ | refine condF ?_ | refine condG1 ?_ | refine condG0 ?_ | refine cD ?_ | refine dD ?_ | refine cB ?_ | refine dB ?_ | refine cN ?_ | refine dN ?_ | refine cV ?_ | refine dV ?_ | refine cE ?_ | refine dE ?_ | refine condX0 ?_ | refine condX1 ?_ | refine condNot ?_ | refine condAnd ?_ | refine condOr ?_ | refine aO ?_ | refine aB ?_ | refine aR ?_ | refine aR ?_ (by simp; omega) | refine xr (by assumption) ?_ | refine ai (by assumption) ?_ | refine condD (fun h => ?_) (fun h => ?_) | refine condB (fun h => ?_) (fun h => ?_) | refine condN (fun h => ?_) (fun h => ?_) | refine condE (fun h => ?_) (fun h => ?_) | refine condV (fun h => ?_) (fun h => ?_))
    all_goals try ((first | refine ev_fin (And.intro (by first | rfl | (simp [AV.pure, pureL]; done) | fail) ?_) | refine ev_fin0 (And.intro (by first | rfl | (simp [AV.pure, pureL]; done) | fail) ?_)); first | rfl | (simp [Bool.cond_eq_ite, *]; done) | (simp [Bool.cond_eq_ite, *]; omega))
theorem in_loop97 (pa pb : List Seg) (hlen : pa.length = pb.length) (hl : pa.length < 2 ^ 40) (i : Int) (s t : Seg) (h0 : 0 ≤ i) (hs : (pa.map Seg.enc)[i.toNat]? = some s.enc) (ht : (pb.map Seg.enc)[i.toNat]? = some t.enc) (hi : i < 2 ^ 40)
   (hst : s.as.length = t.as.length) (hsl : s.as.length < 2 ^ 40) (R : Bool)
   (go : ∀ T H c, Ev G ⟨f97x16LH, ⟨(14, .int .i64 (i + 1)) :: (1, .sl 2 (pb.map Seg.enc)) :: (0, .sl 2 (pa.map Seg.enc)) :: (13, .int .i64 pa.length) :: T, H, c⟩, [.t 4], 0⟩ ⟨.bool R, []⟩) : ∀ (r1 d1 r2 d2 : List Int) (T : List (Nat × AV)) (H : Heap) (c : Nat) (n : Int) (e1 : s.as = d1 ++ r1) (e2 : t.as = d2 ++ r2) (hn1 : n = d1.length) (hn2 : n = d2.length),
   Ev G ⟨f97x14LH, ⟨(49, .int .i64 n) :: (5, .int .i64 i) :: (1, .sl 2 (pb.map Seg.enc)) :: (0, .sl 2 (pa.map Seg.enc)) :: (13, .int .i64 pa.length) :: (14, .int .i64 i) :: (48, .int .i64 s.as.length) :: T, H, c⟩, [.t 4], 0⟩ ⟨.bool (decide (r1 = r2) && R), []⟩
  | [], d1, [], d2, T, H, c, n, e1, e2, hn1, hn2 => by
    have hd : s.as.length = d1.length := by simp [e1]
    refine ev_loop' (W_ok 300 _ _ _ _ ?_)
    repeat' ((conv => whnf); first | refine bslP (by first | rfl | (simp [pureL, pureLL, AV.pure]; done) | fail) rfl ?_ | refine TakeC.full (by first | rfl | omega | (simp; done) | (simp; omega) | fail) ?_ | refine zBs ?_ | refine zBn ?_ | refine zBv rfl rfl ?_ | refine zN ?_ | refine zC ?_ | refine zC4 ?_ | refine zOr16 ?_ | refine zC1 ?_ | refine zByte ?_ | refine zMaxL ?_ | refine zMaxR ?_ | refine zMinL ?_ | refine zMinR ?_ | refine zShr ?_ | refine zC8 ?_ | refine zQ ?_ | refine zR ?_ | refine zS ?_ | refine zA ?_ | refine zM ?_ | refine xr rfl ?_ | refine ai rfl ?_ | refine condT ?_ | refine condF ?_ | refine condG1 ?_ | refine condG0 ?_ | refine cD ?_ | refine dD ?_ | refine cB ?_ | refine dB ?_ | refine cN ?_ | refine dN ?_ | refine cV ?_ | refine dV ?_ | refine cE ?_ | refine dE ?_ | refine condX0 ?_ | refine condX1 ?_ | refine condNot ?_ | refine condAnd ?_ | refine condOr ?_ | refine aO ?_ | refine aB ?_ | refine aR ?_ | refine aR ?_ (by simp; omega) | refine xr (by assumption) ?_ | refine ai (by assumption) ?_ | refine condD (fun h => ?_) (fun h => ?_) | refine condB (fun h => ?_) (fun h => ?_) | refine condN (fun h => ?_) (fun h => ?_) | refine condE (fun h => ?_) (fun h => ?_) | refine condV (fun h => ?_) (fun h => ?_))
    refine ev_keep [14, 1, 0, 13] [] ?_
    rw [show (decide (([] : List Int) = []) && R) = R from by simp]
    exact go _ _ _
  | x :: r1, d1, y :: r2, d2, T, H, c, n, e1, e2, hn1, hn2 => by
    have hd : s.as.length = d1.length + (r1.length + 1) := by simp [e1]
    have hx : (s.as.map encI)[n.toNat]? = some (encI x) := by simp [e1, hn1]
    have hy : (t.as.map encI)[n.toNat]? = some (encI y) := by simp [e2, hn2]
    refine ev_loop' (W_ok 300 _ _ _ _ ?_)
    repeat' ((conv => whnf); first | refine bslP (by first | rfl | (simp [pureL, pureLL, AV.pure]; done) | fail) rfl ?_ | refine TakeC.full (by first | rfl | omega | (simp; done) | (simp; omega) | fail) ?_ | refine zBs ?_ | refine zBn ?_ | refine zBv rfl rfl ?_ | refine zN ?_ | refine zC ?_ | refine zC4 ?_ | refine zOr16 ?_ | refine zC1 ?_ | refine zByte ?_ | refine zMaxL ?_ | refine zMaxR ?_ | refine zMinL ?_ | refine zMinR ?_ | refine zShr ?_ | refine zC8 ?_ | refine zQ ?_ | refine zR ?_ | refine zS ?_ | refine zA ?_ | refine zM ?_ | refine xr rfl ?_ | refine ai rfl ?_ | refine condT ?_ | refine condF ?_ | refine condG1 ?_ | refine condG0 ?_ | refine cD ?_ | refine dD ?_ | refine cB ?_ | refine dB ?_ | refine cN ?_ | refine dN ?_ | refine cV ?_ | refine dV ?_ | refine cE ?_ | refine dE ?_ | refine condX0 ?_ | refine condX1 ?_ | refine condNot ?_ | refine condAnd ?_ | refine condOr ?_ | refine aO ?_ | refine aB ?_ | refine aR ?_ | refine aR ?_ (by simp; omega) | refine xr (by assumption) ?_ | refine ai (by assumption) ?_ | refine condD (fun h => ?_) (fun h => ?_) | refine condB (fun h => ?_) (fun h => ?_) | refine condN (fun h => ?_) (fun h => ?_) | refine condE (fun h => ?_) (fun h => ?_) | refine condV (fun h => ?_) (fun h => ?_))
    all_goals try ((first | refine ev_fin (And.intro (by first | rfl | (simp [AV.pure, pureL]; done) | fail) ?_) | refine ev_fin0 (And.intro (by first | rfl | (simp [AV.pure, pureL]; done) | fail) ?_)); first | rfl | (simp [Bool.cond_eq_ite, *]; done) | (simp [Bool.cond_eq_ite, *]; omega))
    rw [show decide (x :: r1 = y :: r2) = decide (r1 = r2) from by simp [*]]
    refine ev_keep [49, 5, 1, 0, 13, 14, 48] [] ?_; exact in_loop97 pa pb hlen hl i s t h0 hs ht hi hst hsl R go r1 (d1 ++ [x]) r2 (d2 ++ [y]) _ _ _ (n + 1) (by simp [e1]) (by simp [e2]) (by simp [hn1]) (by simp; omega)
  | [], d1, y :: r2, d2, T, H, c, n, e1, e2, hn1, hn2 => by
    exfalso; rw [e1, e2] at hst; simp at hst; omega
  | x :: r1, d1, [], d2, T, H, c, n, e1, e2, hn1, hn2 => by
    exfalso; rw [e1, e2] at hst; simp at hst; omega
theorem out_loop97 (pa pb : List Seg) (hlen : pa.length = pb.length) (hl : pa.length < 2 ^ 40) (ha : ∀ s ∈ pa, s.as.length < 2 ^ 40) (hb : ∀ s ∈ pb, s.as.length < 2 ^ 40) : ∀ (r1 d1 r2 d2 : List Seg) (T : List (Nat × AV)) (H : Heap) (c : Nat) (n : Int) (e1 : pa = d1 ++ r1) (e2 : pb = d2 ++ r2) (hn1 : n = d1.length) (hn2 : n = d2.length),
   Ev G ⟨f97x16LH, ⟨(14, .int .i64 n) :: (1, .sl 2 (pb.map Seg.enc)) :: (0, .sl 2 (pa.map Seg.enc)) :: (13, .int .i64 pa.length) :: T, H, c⟩, [.t 4], 0⟩ ⟨.bool (decide (r1 = r2)), []⟩
  | [], d1, [], d2, T, H, c, n, e1, e2, hn1, hn2 => by
    have hd : pa.length = d1.length := by simp [e1]
    refine ev_loop' (W_ok 300 _ _ _ _ ?_)
    repeat' ((conv => whnf); first | refine bslP (by first | rfl | (simp [pureL, pureLL, AV.pure]; done) | fail) rfl ?_ | refine TakeC.full (by first | rfl | omega | (simp; done) | (simp; omega) | fail) ?_ | refine zBs ?_ | refine zBn ?_ | refine zBv rfl rfl ?_ | refine zN ?_ | refine zC ?_ | refine zC4 ?_ | refine zOr16 ?_ | refine zC1 ?_ | refine zByte ?_ | refine zMaxL ?_ | refine zMaxR ?_ | refine zMinL ?_ | refine zMinR ?_ | refine zShr ?_ | refine zC8 ?_ | refine zQ ?_ | refine zR ?_ | refine zS ?_ | refine zA ?_ | refine zM ?_ | refine xr rfl ?_ | refine ai rfl ?_ | refine condT ?_ | refine condF ?_ | refine condG1 ?_ | refine condG0 ?_ | refine cD ?_ | refine dD ?_ | refine cB ?_ | refine dB ?_ | refine cN ?_ | refine dN ?_ | refine cV ?_ | refine dV ?_ | refine cE ?_ | refine dE ?_ | refine condX0 ?_ | refine condX1 ?_ | refine condNot ?_ | refine condAnd ?_ | refine condOr ?_ | refine aO ?_ | refine aB ?_ | refine aR ?_ | refine aR ?_ (by simp; omega) | refine xr (by assumption) ?_ | refine ai (by assumption) ?_ | refine condD (fun h => ?_) (fun h => ?_) | refine condB (fun h => ?_) (fun h => ?_) | refine condN (fun h => ?_) (fun h => ?_) | refine condE (fun h => ?_) (fun h => ?_) | refine condV (fun h => ?_) (fun h => ?_))
    all_goals try ((first | refine ev_fin (And.intro (by first | rfl | (simp [AV.pure, pureL]; done) | fail) ?_) | refine ev_fin0 (And.intro (by first | rfl | (simp [AV.pure, pureL]; done) | fail) ?_)); first | rfl | (simp [Bool.cond_eq_ite, *]; done) | (simp [Bool.cond_eq_ite, *]; omega))
  | x :: r1, d1, y :: r2, d2, T, H, c, n, e1, e2, hn1, hn2 => by
    have hd : pa.length = d1.length + (r1.length + 1) := by simp [e1]
    have hx : (pa.map Seg.enc)[n.toNat]? = some x.enc := by simp [e1, hn1]
    have hy : (pb.map Seg.enc)[n.toNat]? = some y.enc := by simp [e2, hn2]
    have hxl := ha x (by simp [e1])
    have hyl := hb y (by simp [e2])
    have l1 : (x.as.map encI).length = x.as.length := by simp
    have l2 : (y.as.map encI).length = y.as.length := by simp
    have hee : (x = y) ↔ (x.kind = y.kind ∧ x.as = y.as) := by cases x; cases y; simp
    have ih := fun T H c => out_loop97 pa pb hlen hl ha hb r1 (d1 ++ [x]) r2 (d2 ++ [y]) T H c (n + 1) (by simp [e1]) (by simp [e2]) (by simp [hn1]) (by simp; omega)
    by_cases hk : x.kind = y.kind
    · by_cases hal : x.as.length = y.as.length
      · refine ev_loop' (W_ok 300 _ _ _ _ ?_)
        repeat' ((conv => whnf); first | refine bslP (by first | rfl | (simp [pureL, pureLL, AV.pure]; done) | fail) rfl ?_ | refine TakeC.full (by first | rfl | omega | (simp; done) | (simp; omega) | fail) ?_ | refine zBs ?_ | refine zBn ?_ | refine zBv rfl rfl ?_ | refine zN ?_ | refine zC ?_ | refine zC4 ?_ | refine zOr16 ?_ | refine zC1 ?_ | refine zByte ?_ | refine zMaxL ?_ | refine zMaxR ?_ | refine zMinL ?_ | refine zMinR ?_ | refine zShr ?_ | refine zC8 ?_ | refine zQ ?_ | refine zR ?_ | refine zS ?_ | refine zA ?_ | refine zM ?_ | refine xr rfl ?_ | refine ai rfl ?_ | refine condT ?_ | refine condF ?_ | refine condG1 ?_ | refine condG0 ?_ | refine cD ?_ | refine dD ?_ | refine cB ?_ | refine dB ?_ | refine cN ?_ | refine dN ?_ | refine cV ?_ | refine dV ?_ | refine cE ?_ | refine dE ?_ | refine condX0 ?_ | refine condX1 ?_ | refine condNot ?_ | refine condAnd ?_ | refine condOr ?_ | refine aO ?_ | refine aB ?_ | refine aR ?_ | refine aR ?_ (by simp; omega) | refine xr (by assumption) ?_ | refine ai (by assumption) ?_ | refine condD (fun h => ?_) (fun h => ?_) | refine condB (fun h => ?_) (fun h => ?_) | refine condN (fun h => ?_) (fun h => ?_) | refine condE (fun h => ?_) (fun h => ?_) | refine condV (fun h => ?_) (fun h => ?_))
        refine ev_keep [49, 5, 1, 0, 13, 14, 48] [] ?_
        rw [l1]
        have := in_loop97 pa pb hlen hl n x y (by omega) hx hy (by omega) hal hxl _ ih x.as [] y.as []
        rw [show decide (x :: r1 = y :: r2) = (decide (x.as = y.as) && decide (r1 = r2)) from by simp [hee, hk]]
        exact this _ _ _ 0 rfl rfl rfl rfl
      · rw [show decide (x :: r1 = y :: r2) = false from by simp [hee]; intro _ h; exact absurd (by rw [h]) hal]
        refine ev_loop' (W_ok 300 _ _ _ _ ?_)
        repeat' ((conv => whnf); first | refine bslP (by first | rfl | (simp [pureL, pureLL, AV.pure]; done) | fail) rfl ?_ | refine TakeC.full (by first | rfl | omega | (simp; done) | (simp; omega) | fail) ?_ | refine zBs ?_ | refine zBn ?_ | refine zBv rfl rfl ?_ | refine zN ?_ | refine zC ?_ | refine zC4 ?_ | refine zOr16 ?_ | refine zC1 ?_ | refine zByte ?_ | refine zMaxL ?_ | refine zMaxR ?_ | refine zMinL ?_ | refine zMinR ?_ | refine zShr ?_ | refine zC8 ?_ | refine zQ ?_ | refine zR ?_ | refine zS ?_ | refine zA ?_ | refine zM ?_ | refine xr rfl ?_ | refine ai rfl ?_ | refine condT ?_ | refine condF ?_ | refine condG1 ?_ | refine condG0 ?_ | refine cD ?_ | refine dD ?_ | refine cB ?_ | refine dB ?_ | refine cN ?_ | refine dN ?_ | refine cV ?_ | refine dV ?_ | refine cE ?_ | refine dE ?_ | refine condX0 ?_ | refine condX1 ?_ | refine condNot ?_ | refine condAnd ?_ | refine condOr ?_ | refine aO ?_ | refine aB ?_ | refine aR ?_ | refine aR ?_ (by simp; omega) | refine xr (by assumption) ?_ | refine ai (by assumption) ?_ | refine condD (fun h => ?_) (fun h => ?_) | refine condB (fun h => ?_) (fun h => ?_) | refine condN (fun h => ?_) (fun h => ?_) | refine condE (fun h => ?_) (fun h => ?_) | refine condV (fun h => ?_) (fun h => ?_))
        all_goals try ((first | refine ev_fin (And.intro (by first | rfl | (simp [AV.pure, pureL]; done) | fail) ?_) | refine ev_fin0 (And.intro (by first | rfl | (simp [AV.pure, pureL]; done) | fail) ?_)); first | rfl | (simp [Bool.cond_eq_ite, *]; done) | (simp [Bool.cond_eq_ite, *]; omega))
    · rw [show decide (x :: r1 = y :: r2) = false from by simp [hee, hk]]
      refine ev_loop' (W_ok 300 _ _ _ _ ?_)
      repeat' ((conv => whnf); first | refine bslP (by first | rfl | (simp [pureL, pureLL, AV.pure]; done) | fail) rfl ?_ | refine TakeC.full (by first | rfl | omega | (simp; done) | (simp; omega) | fail) ?_ | refine zBs ?_ | refine zBn ?_ | refine zBv rfl rfl ?_ | refine zN ?_ | refine zC ?_ | refine zC4 ?_ | refine zOr16 ?_ | refine zC1 ?_ | refine zByte ?_ | refine zMaxL ?_ | refine zMaxR ?_ | refine zMinL ?_ | refine zMinR ?_ | refine zShr ?_ | refine zC8 ?_ | refine zQ ?_ | refine zR ?_ | refine zS ?_ | refine zA ?_ | refine zM ?_ | refine xr rfl ?_ | refine ai rfl ?_ | refine condT ?_ | refine condF ?_ | refine condG1 ?_ | refine condG0 ?_ | refine cD ?_ | refine dD ?_ | refine cB ?_ | refine dB ?_ | refine cN ?_ | refine dN ?_ | refine cV ?_ | refine dV ?_ | refine cE ?_ | refine dE ?_ | refine condX0 ?_ | refine condX1 ?_ | refine condNot ?_ | refine condAnd ?_ | refine condOr ?_ | refine aO ?_ | refine aB ?_ | refine aR ?_ | refine aR ?_ (by simp; omega) | refine xr (by assumption) ?_ | refine ai (by assumption) ?_ | refine condD (fun h => ?_) (fun h => ?_) | refine condB (fun h => ?_) (fun h => ?_) | refine condN (fun h => ?_) (fun h => ?_) | refine condE (fun h => ?_) (fun h => ?_) | refine condV (fun h => ?_) (fun h => ?_))
      all_goals try ((first | refine ev_fin (And.intro (by first | rfl | (simp [AV.pure, pureL]; done) | fail) ?_) | refine ev_fin0 (And.intro (by first | rfl | (simp [AV.pure, pureL]; done) | fail) ?_)); first | rfl | (simp [Bool.cond_eq_ite, *]; done) | (simp [Bool.cond_eq_ite, *]; omega))
  | [], d1, y :: r2, d2, T, H, c, n, e1, e2, hn1, hn2 => by
    exfalso; rw [e1, e2] at hlen; simp at hlen; omega
  | x :: r1, d1, [], d2, T, H, c, n, e1, e2, hn1, hn2 => by
    exfalso; rw [e1, e2] at hlen; simp at hlen; omega
theorem same_gives97 (pa pb : List Seg) (h1 : pa.length < 2 ^ 40) (h2 : pb.length < 2 ^ 40) (ha : ∀ s ∈ pa, s.as.length < 2 ^ 40) (hb : ∀ s ∈ pb, s.as.length < 2 ^ 40) : Gives G 97 [.sl 2 (pa.map Seg.enc), .sl 2 (pb.map Seg.enc)] [] ⟨.bool (decide (pa = pb)), []⟩ := by
  have l1 : (pa.map Seg.enc).length = pa.length := by simp
  have l2 : (pb.map Seg.enc).length = pb.length := by simp
  by_cases hlen : pa.length = pb.length
  · refine gives_code (F := f97) rfl rfl (W_ok 300 _ _ _ _ ?_)
    repeat' ((conv => whnf); first | refine bslP (by first | rfl | (simp [pureL, pureLL, AV.pure]; done) | fail) rfl ?_ | refine TakeC.full (by first | rfl | omega | (simp; done) | (simp; omega) | fail) ?_ | refine zBs ?_ | refine zBn ?_ | refine zBv rfl rfl ?_ | refine zN ?_ | refine zC ?_ | refine zC4 ?_ | refine zOr16 ?_ | refine zC1 ?_ | refine zByte ?_ | refine zMaxL ?_ | refine zMaxR ?_ | refine zMinL ?_ | refine zMinR ?_ | refine zShr ?_ | refine zC8 ?_ | refine zQ ?_ | refine zR ?_ | refine zS ?_ | refine zA ?_ | refine zM ?_ | refine xr rfl ?_ | refine ai rfl ?_ | refine condT ?_ | refine condF ?_ | refine condG1 ?_ | refine condG0 ?_ | refine cD ?_ | refine dD ?_ | refine cB ?_ | refine dB ?_ | refine cN ?_ | refine dN ?_ | refine cV ?_ | refine dV ?_ | refine cE ?_ | refine dE ?_ | refine condX0 ?_ | refine condX1 ?_ | refine condNot ?_ | refine condAnd ?_ | refine condOr ?_ | refine aO ?_ | refine aB ?_ | refine aR ?_ | refine aR ?_ (by simp; omega) | refine xr (by assumption) ?_ | refine ai (by assumption) ?_ | refine condD (fun h => ?_) (fun h => ?_) | refine condB (fun h => ?_) (fun h => ?_) | refine condN (fun h => ?_) (fun h => ?_) | refine condE (fun h => ?_) (fun h => ?_) | refine condV (fun h => ?_) (fun h => ?_))
    refine ev_keep [14, 1, 0, 13] [] ?_
    rw [l1]
    exact out_loop97 pa pb hlen h1 ha hb pa [] pb [] _ _ _ 0 rfl rfl rfl rfl
  · rw [show decide (pa = pb) = false from by simp; intro h; exact hlen (by rw [h])]
    refine gives_code (F := f97) rfl rfl (W_ok 300 _ _ _ _ ?_)
    repeat' ((conv => whnf); first | refine bslP (by first | rfl | (simp [pureL, pureLL, AV.pure]; done) | fail) rfl ?_ | refine TakeC.full (by first | rfl | omega | (simp; done) | (simp; omega) | fail) ?_ | refine zBs ?_ | refine zBn ?_ | refine zBv rfl rfl ?_ | refine zN ?_ | refine zC ?_ | refine zC4 ?_ | refine zOr16 ?_ | refine zC1 ?_ | refine zByte ?_ | refine zMaxL ?_ | refine zMaxR ?_ | refine zMinL ?_ | refine zMinR ?_ | refine zShr ?_ | refine zC8 ?_ | refine zQ ?_ | refine zR ?_ | refine zS ?_ | refine zA ?_ | refine zM ?_ | refine xr rfl ?_ | refine ai rfl ?_ | refine condT ?_ | refine condF ?_ | refine condG1 ?_ | refine condG0 ?_ | refine cD ?_ | refine dD ?_ | refine cB ?_ | refine dB ?_ | refine cN ?_ | refine dN ?_ | refine cV ?_ | refine dV ?_ | refine cE ?_ | refine dE ?_ | refine condX0 ?_ | refine condX1 ?_ | refine condNot ?_ | refine condAnd ?_ | refine condOr ?_ | refine aO ?_ | refine aB ?_ | refine aR ?_ | refine aR ?_ (by simp; omega) | refine xr (by assumption) ?_ | refine ai (by assumption) ?_ | refine condD (fun h => ?_) (fun h => ?_) | refine condB (fun h => ?_) (fun h => ?_) | refine condN (fun h => ?_) (fun h => ?_) | refine condE (fun h => ?_) (fun h => ?_) | refine condV (fun h => ?_) (fun h => ?_))
    all_goals try ((first | refine ev_fin (And.intro (by first | rfl | (simp [AV.pure, pureL]; done) | fail) ?_) | refine ev_fin0 (And.intro (by first | rfl | (simp [AV.pure, pureL]; done) | fail) ?_)); first | rfl | (simp [Bool.cond_eq_ite, *]; done) | (simp [Bool.cond_eq_ite, *]; omega))
end Go.AM.IR
set_option maxHeartbeats 4000000
set_option maxRecDepth 20000
namespace Go.AM.IR
@[simp] theorem pure_bytesL (l : List UInt8) : pureLL (byteCells l) = true := pureLL_bytes l
theorem bytesSame_gives98 (x y : List UInt8) : Gives G 98 [.sl 1 (byteCells x), .sl 1 (byteCells y)] [] ⟨.bool (decide (x = y)), []⟩ := by
  rw [show decide (x = y) = (x == y) from by by_cases h : x = y <;> simp [h]]
  refine gives_code (F := f98) rfl rfl (W_ok 300 _ _ _ _ ?_)
  repeat' ((conv => whnf); first | refine bslP (by first | rfl | (simp [pureL, pureLL, AV.pure]; done) | fail) rfl ?_ | refine TakeC.full (by first | rfl | omega | (simp; done) | (simp; omega) | fail) ?_ | refine zBs ?_ | refine zBn ?_ | refine zBv rfl rfl ?_ | refine zN ?_ | refine zC ?_ | refine zC4 ?_ | refine zOr16 ?_ | refine zC1 ?_ | refine zByte ?_ | refine zMaxL ?_ | refine zMaxR ?_ | refine zMinL ?_ | refine zMinR ?_ | refine zShr ?_ | refine zC8 ?_ | refine zQ ?_ | refine zR ?_ | refine zS ?_ | refine zA ?_ | refine zM ?_ | refine xr rfl ?_ | refine ai rfl ?_ | refine condT ?_ | refine condF ?_ | refine condG1 ?_ | refine condG0 ?_ | refine cD ?_ | refine dD ?_ | refine cB ?_ | refine dB ?_ | refine cN ?_ | refine dN ?_ | refine cV ?_ | refine dV ?_ | refine cE ?_ | refine dE ?_ | refine condX0 ?_ | refine condX1 ?_ | refine condNot ?_ | refine condAnd ?_ | refine condOr ?_ | refine aO ?_ | refine aB ?_ | refine aR ?_ | refine aR ?_ (by simp; omega) | refine xr (by assumption) ?_ | refine ai (by assumption) ?_ | refine condD (fun h => ?_) (fun h => ?_) | refine condB (fun h => ?_) (fun h => ?_) | refine condN (fun h => ?_) (fun h => ?_) | refine condE (fun h => ?_) (fun h => ?_) | refine condV (fun h => ?_) (fun h => ?_))
  all_goals try ((first | refine ev_fin (And.intro (by first | rfl | (simp [AV.pure, pureL]; done) | fail) ?_) | refine ev_fin0 (And.intro (by first | rfl | (simp [AV.pure, pureL]; done) | fail) ?_)); first | rfl | (simp [Bool.cond_eq_ite, *]; done) | (simp [Bool.cond_eq_ite, *]; omega))
structure LenC (a : Attrs) : Prop where
  path : a.path.length < 2 ^ 40
  segs : ∀ s ∈ a.path, s.as.length < 2 ^ 40
  comms : a.comms.length < 2 ^ 40
  clusters : a.clusters.length < 2 ^ 40
  unknown : a.unknown.length < 2 ^ 40
theorem unk_loop70 (a b : Attrs) (ha : LenC a) (hb : LenC b) (hlen : a.unknown.length = b.unknown.length) : ∀ (r1 d1 r2 d2 : List TLV) (T : List (Nat × AV)) (H : Heap) (c : Nat) (n : Int) (e1 : a.unknown = d1 ++ r1) (e2 : b.unknown = d2 ++ r2) (hn1 : n = d1.length) (hn2 : n = d2.length),
   Ev G ⟨f70x11LH, ⟨(106, .int .i64 n) :: (3, .ref 67 2 0) :: (2, .ref 66 1 0) :: (105, .int .i64 a.unknown.length) :: T, (66, some (1, .cells a.enc)) :: (67, some (2, .cells b.enc)) :: H, c⟩, [.t 4], 0⟩ ⟨.bool ((decide (r1 = r2) && (decide (a.comms = b.comms) && decide (a.clusters = b.clusters)))), []⟩
  | [], d1, [], d2, T, H, c, n, e1, e2, hn1, hn2 => by
    have hul := ha.unknown
    have hd : a.unknown.length = d1.length := by simp [e1]
    refine ev_loop' (W_ok 300 _ _ _ _ ?_)
    repeat' ((conv => whnf); first | refine bslP (by first | rfl | (simp [pureL, pureLL, AV.pure]; done) | fail) rfl ?_ | refine TakeC.full (by first | rfl | omega | (simp; done) | (simp; omega) | fail) ?_ | refine zBs ?_ | refine zBn ?_ | refine zBv rfl rfl ?_ | refine zN ?_ | refine zC ?_ | refine zC4 ?_ | refine zOr16 ?_ | refine zC1 ?_ | refine zByte ?_ | refine zMaxL ?_ | refine zMaxR ?_ | refine zMinL ?_ | refine zMinR ?_ | refine zShr ?_ | refine zC8 ?_ | refine zQ ?_ | refine zR ?_ | refine zS ?_ | refine zA ?_ | refine zM ?_ | refine xr rfl ?_ | refine ai rfl ?_ | refine condT ?_ | refine condF ?_ | refine condG1 ?_ | refine condG0 ?_ | refine cD ?_ | refine dD ?_ | refine cB ?_ | refine dB ?_ | refine cN ?_ | refine dN ?_ | refine cV ?_ | refine dV ?_ | refine cE ?_ | refine dE ?_ | refine condX0 ?_ | refine condX1 ?_ | refine condNot ?_ | refine condAnd ?_ | refine condOr ?_ | refine aO ?_ | refine aB ?_ | refine aR ?_ | refine aR ?_ (by simp; omega) | refine xr (by assumption) ?_ | refine ai (by assumption) ?_ | refine kV (bytesSame_gives98 _ _) ?_ | refine kV (eq_gives99 _ _ ha.comms hb.comms) ?_ | refine kV (eq_gives99 _ _ ha.clusters hb.clusters) ?_ | refine condD (fun h => ?_) (fun h => ?_) | refine condB (fun h => ?_) (fun h => ?_) | refine condN (fun h => ?_) (fun h => ?_) | refine condE (fun h => ?_) (fun h => ?_) | refine condV (fun h => ?_) (fun h => ?_))
    all_goals try ((first | refine ev_fin (And.intro (by first | rfl | (simp [AV.pure, pureL]; done) | fail) ?_) | refine ev_fin0 (And.intro (by first | rfl | (simp [AV.pure, pureL]; done) | fail) ?_)); first | rfl | (simp [Bool.cond_eq_ite, *]; done) | (simp [Bool.cond_eq_ite, *]; omega))
  | x :: r1, d1, y :: r2, d2, T, H, c, n, e1, e2, hn1, hn2 => by
    have hul := ha.unknown
    have hd : a.unknown.length = d1.length + (r1.length + 1) := by simp [e1]
    have hx : (a.unknown.map TLV.enc)[n.toNat]? = some x.enc := by simp [e1, hn1]
    have hy : (b.unknown.map TLV.enc)[n.toNat]? = some y.enc := by simp [e2, hn2]
    have hee : (x = y) ↔ (x.kind = y.kind ∧ x.value = y.value) := by cases x; cases y; simp
    refine ev_loop' (W_ok 300 _ _ _ _ ?_)
    repeat' ((conv => whnf); first | refine bslP (by first | rfl | (simp [pureL, pureLL, AV.pure]; done) | fail) rfl ?_ | refine TakeC.full (by first | rfl | omega | (simp; done) | (simp; omega) | fail) ?_ | refine zBs ?_ | refine zBn ?_ | refine zBv rfl rfl ?_ | refine zN ?_ | refine zC ?_ | refine zC4 ?_ | refine zOr16 ?_ | refine zC1 ?_ | refine zByte ?_ | refine zMaxL ?_ | refine zMaxR ?_ | refine zMinL ?_ | refine zMinR ?_ | refine zShr ?_ | refine zC8 ?_ | refine zQ ?_ | refine zR ?_ | refine zS ?_ | refine zA ?_ | refine zM ?_ | refine xr rfl ?_ | refine ai rfl ?_ | refine condT ?_ | refine condF ?_ | refine condG1 ?_ | refine condG0 ?_ | refine cD ?_ | refine dD ?_ | refine cB ?_ | refine dB ?_ | refine cN ?_ | refine dN ?_ | refine cV ?_ | refine dV ?_ | refine cE ?_ | refine dE ?_ | refine condX0 ?_ | refine condX1 ?_ | refine condNot ?_ | refine condAnd ?_ | refine condOr ?_ | refine aO ?_ | refine aB ?_ | refine aR ?_ | refine aR ?_ (by simp; omega) | refine xr (by assumption) ?_ | refine ai (by assumption) ?_ | refine kV (bytesSame_gives98 _ _) ?_ | refine kV (eq_gives99 _ _ ha.comms hb.comms) ?_ | refine kV (eq_gives99 _ _ ha.clusters hb.clusters) ?_ | refine condD (fun h => ?_) (fun h => ?_) | refine condB (fun h => ?_) (fun h => ?_) | refine condN (fun h => ?_) (fun h => ?_) | refine condE (fun h => ?_) (fun h => ?_) | refine condV (fun h => ?_) (fun h => ?_))
    all_goals try ((first | refine ev_fin (And.intro (by first | rfl | (simp [AV.pure, pureL]; done) | fail) ?_) | refine ev_fin0 (And.intro (by first | rfl | (simp [AV.pure, pureL]; done) | fail) ?_)); first | rfl | (simp [hee, Bool.cond_eq_ite, *]; done) | (simp [hee, Bool.cond_eq_ite, *]; omega))
    rw [show ((decide (x :: r1 = y :: r2) && (decide (a.comms = b.comms) && decide (a.clusters = b.clusters)))) = ((decide (r1 = r2) && (decide (a.comms = b.comms) && decide (a.clusters = b.clusters)))) from by simp [hee, *]]
    refine ev_keep [106, 3, 2, 105] [66, 67] ?_; exact unk_loop70 a b ha hb hlen r1 (d1 ++ [x]) r2 (d2 ++ [y]) _ _ _ (n + 1) (by simp [e1]) (by simp [e2]) (by simp [hn1]) (by simp; omega)
  | [], d1, y :: r2, d2, T, H, c, n, e1, e2, hn1, hn2 => by
    exfalso; rw [e1, e2] at hlen; simp at hlen; omega
  | x :: r1, d1, [], d2, T, H, c, n, e1, e2, hn1, hn2 => by
    exfalso; rw [e1, e2] at hlen; simp at hlen; omega
theorem same_gives70 (a b : Attrs) (ha : LenC a) (hb : LenC b) : Gives G 70 [.agg a.enc, .agg b.enc] [] ⟨.bool (decide (a = b)), []⟩ := by
  have hab : (a = b) ↔ (a.origin = b.origin ∧ a.path = b.path ∧ a.nextHop = b.nextHop ∧ a.hasMED = b.hasMED ∧ a.med = b.med ∧ a.hasPref = b.hasPref ∧ a.pref = b.pref ∧ a.atomic = b.atomic ∧ a.hasAggr = b.hasAggr ∧ a.aggrAS = b.aggrAS ∧ a.aggrAddr = b.aggrAddr ∧ a.comms = b.comms ∧ a.hasOrig = b.hasOrig ∧ a.orig = b.orig ∧ a.clusters = b.clusters ∧ a.unknown = b.unknown) := by cases a; cases b; simp
  have l1 : (a.unknown.map TLV.enc).length = a.unknown.length := by simp
  have l2 : (b.unknown.map TLV.enc).length = b.unknown.length := by simp
  by_cases hlen : a.unknown.length = b.unknown.length
  · refine gives_code (F := f70) rfl rfl (W_ok 300 _ _ _ _ ?_)
    repeat' ((conv => whnf); first | refine bslP (by first | rfl | (simp [pureL, pureLL, AV.pure]; done) | fail) rfl ?_ | refine TakeC.full (by first | rfl | omega | (simp; done) | (simp; omega) | fail) ?_ | refine zBs ?_ | refine zBn ?_ | refine zBv rfl rfl ?_ | refine zN ?_ | refine zC ?_ | refine zC4 ?_ | refine zOr16 ?_ | refine zC1 ?_ | refine zByte ?_ | refine zMaxL ?_ | refine zMaxR ?_ | refine zMinL ?_ | refine zMinR ?_ | refine zShr ?_ | refine zC8 ?_ | refine zQ ?_ | refine zR ?_ | refine zS ?_ | refine zA ?_ | refine zM ?_ | refine xr rfl ?_ | refine ai rfl ?_ | refine condT ?_ | refine condF ?_ | refine condG1 ?_ | refine condG0 ?_ | refine cD ?_ | refine dD ?_ | refine cB ?_ | refine dB ?_ | refine cN ?_ | refine dN ?_ | refine cV ?_ | refine dV ?_ | refine cE ?_ | refine dE ?_ | refine condX0 ?_ | refine condX1 ?_ | refine condNot ?_ | refine condAnd ?_ | refine condOr ?_ | refine aO ?_ | refine aB ?_ | refine aR ?_ | refine aR ?_ (by simp; omega) | refine xr (by assumption) ?_ | refine ai (by assumption) ?_ | refine kV (same_gives97 _ _ ha.path hb.path ha.segs hb.segs) ?_ | refine kV (eq_gives99 _ _ ha.comms hb.comms) ?_ | refine kV (eq_gives99 _ _ ha.clusters hb.clusters) ?_ | refine condD (fun h => ?_) (fun h => ?_) | refine condB (fun h => ?_) (fun h => ?_) | refine condN (fun h => ?_) (fun h => ?_) | refine condE (fun h => ?_) (fun h => ?_) | refine condV (fun h => ?_) (fun h => ?_))
    all_goals try ((first | refine ev_fin (And.intro (by first | rfl | (simp [AV.pure, pureL]; done) | fail) ?_) | refine ev_fin0 (And.intro (by first | rfl | (simp [AV.pure, pureL]; done) | fail) ?_)); first | rfl | (simp [hab, Bool.cond_eq_ite, *]; done) | (simp [hab, Bool.cond_eq_ite, *]; omega))
    refine ev_keep [106, 3, 2, 105] [66, 67] ?_
    rw [l1, show decide (a = b) = ((decide (a.unknown = b.unknown) && (decide (a.comms = b.comms) && decide (a.clusters = b.clusters)))) from by simp [hab, *]; rw [Bool.eq_iff_iff]; simp [and_comm, and_assoc, and_left_comm]]
    exact unk_loop70 a b ha hb hlen a.unknown [] b.unknown [] _ _ _ 0 rfl rfl rfl rfl
  · have hne : ¬ a.unknown = b.unknown := fun h => hlen (by rw [h])
    rw [show decide (a = b) = false from by simp [hab, hne]]
    refine gives_code (F := f70) rfl rfl (W_ok 300 _ _ _ _ ?_)
    repeat' ((conv => whnf); first | refine bslP (by first | rfl | (simp [pureL, pureLL, AV.pure]; done) | fail) rfl ?_ | refine TakeC.full (by first | rfl | omega | (simp; done) | (simp; omega) | fail) ?_ | refine zBs ?_ | refine zBn ?_ | refine zBv rfl rfl ?_ | refine zN ?_ | refine zC ?_ | refine zC4 ?_ | refine zOr16 ?_ | refine zC1 ?_ | refine zByte ?_ | refine zMaxL ?_ | refine zMaxR ?_ | refine zMinL ?_ | refine zMinR ?_ | refine zShr ?_ | refine zC8 ?_ | refine zQ ?_ | refine zR ?_ | refine zS ?_ | refine zA ?_ | refine zM ?_ | refine xr rfl ?_ | refine ai rfl ?_ | refine condT ?_ | refine condF ?_ | refine condG1 ?_ | refine condG0 ?_ | refine cD ?_ | refine dD ?_ | refine cB ?_ | refine dB ?_ | refine cN ?_ | refine dN ?_ | refine cV ?_ | refine dV ?_ | refine cE ?_ | refine dE ?_ | refine condX0 ?_ | refine condX1 ?_ | refine condNot ?_ | refine condAnd ?_ | refine condOr ?_ | refine aO ?_ | refine aB ?_ | refine aR ?_ | refine aR ?_ (by simp; omega) | refine xr (by assumption) ?_ | refine ai (by assumption) ?_ | refine kV (same_gives97 _ _ ha.path hb.path ha.segs hb.segs) ?_ | refine kV (eq_gives99 _ _ ha.comms hb.comms) ?_ | refine kV (eq_gives99 _ _ ha.clusters hb.clusters) ?_ | refine condD (fun h => ?_) (fun h => ?_) | refine condB (fun h => ?_) (fun h => ?_) | refine condN (fun h => ?_) (fun h => ?_) | refine condE (fun h => ?_) (fun h => ?_) | refine condV (fun h => ?_) (fun h => ?_))
    all_goals try ((first | refine ev_fin (And.intro (by first | rfl | (simp [AV.pure, pureL]; done) | fail) ?_) | refine ev_fin0 (And.intro (by first | rfl | (simp [AV.pure, pureL]; done) | fail) ?_)); first | rfl | (simp [Bool.cond_eq_ite, *]; done) | (simp [Bool.cond_eq_ite, *]; omega))
end Go.AM.IR
set_option maxHeartbeats 4000000
set_option maxRecDepth 20000
namespace Go.AM.IR
@[simp] theorem pureLL_takeB (b : List UInt8) (n : Nat) : pureLL ((byteCells b).take n) = true := pureLL_cut b 0 n
theorem encR_cases2 (a : Attrs) (w : Bool) : (checkS a ≠ 0 ∧ encR a w = ⟨.tup [.con (.slice none 0 0), .int .i64 (checkS a)], []⟩) ∨ (checkS a = 0 ∧ encBad a w = true ∧ encR a w = ⟨.tup [.con (.slice none 0 0), .int .i64 5], []⟩) ∨ (checkS a = 0 ∧ encBad a w = false ∧ encR a w = ⟨.tup [.vs 0 0 (encB a w).length, .int .i64 0], [(false, .vec 1 (byteCells (encB a w)))]⟩) := by
  unfold encR encRet
  by_cases hc : checkS a = 0
  · rw [if_pos hc]
    cases hb : encBad a w
    · exact .inr (.inr ⟨hc, rfl, by simp⟩)
    · exact .inr (.inl ⟨hc, rfl, by simp⟩)
  · rw [if_neg hc]; exact .inl ⟨hc, rfl⟩
theorem lenC_of2 {a : Attrs} (h : AB a) : LenC a where
  path := h.path
  segs s hs := by
    have h1 := h.flat
    have h2 : s.as.length ≤ (flatS a.path).length := by
      unfold flatS
      obtain ⟨p, q, e⟩ := List.append_of_mem hs
      rw [e]; simp; omega
    omega
  comms := h.comms
  clusters := h.clusters
  unknown := h.unknown
theorem law60_gives (a : Attrs) (wide : Bool) (hb : AB a) (ha : a.ok) : Gives G 60 [.agg a.enc, .bool wide] [] ⟨.bool true, []⟩ := by
  have h1 := encode67 a wide hb ha
  rcases encR_cases2 a wide with ⟨c1, e1⟩ | ⟨c1, b1, e1⟩ | ⟨c1, b1, e1⟩
  · rw [e1] at h1
    refine gives_code (F := f60) rfl rfl (W_ok 300 _ _ _ _ ?_)
    repeat' ((conv => whnf); first | refine bslP (by first | rfl | (simp [pureL, pureLL, AV.pure]; done) | fail) rfl ?_ | refine TakeC.full (by first | rfl | omega | (simp; done) | (simp; omega) | fail) ?_ | refine zBs ?_ | refine zBn ?_ | refine zBv rfl rfl ?_ | refine zN ?_ | refine zC ?_ | refine zC4 ?_ | refine zOr16 ?_ | refine zC1 ?_ | refine zByte ?_ | refine zMaxL ?_ | refine zMaxR ?_ | refine zMinL ?_ | refine zMinR ?_ | refine zShr ?_ | refine zC8 ?_ | refine zQ ?_ | refine zR ?_ | refine zS ?_ | refine zA ?_ | refine zM ?_ | refine xr rfl ?_ | refine ai rfl ?_ | refine condT ?_ | refine condF ?_ | refine condG1 ?_ | refine condG0 ?_ | refine cD ?_ | refine dD ?_ | refine cB ?_ | refine dB ?_ | refine cN ?_ | refine dN ?_ | refine cV ?_ | refine dV ?_ | refine cE ?_ | refine dE ?_ | refine condX0 ?_ | refine condX1 ?_ | refine condNot ?_ | refine condAnd ?_ | refine condOr ?_ | refine aO ?_ | refine aB ?_ | refine aR ?_ | refine aR ?_ (by simp; omega) | refine xr (by assumption) ?_ | refine ai (by assumption) ?_ | refine kV (large_gives21 a hb) ?_ | refine kV (awake36_gives) ?_ | refine kV (h1) ?_ | refine condD (fun h => ?_) (fun h => ?_) | refine condB (fun h => ?_) (fun h => ?_) | refine condN (fun h => ?_) (fun h => ?_) | refine condE (fun h => ?_) (fun h => ?_) | refine condV (fun h => ?_) (fun h => ?_))
    all_goals try ((first | refine ev_fin (And.intro (by first | rfl | (simp [AV.pure, pureL]; done) | fail) ?_) | refine ev_fin0 (And.intro (by first | rfl | (simp [AV.pure, pureL]; done) | fail) ?_)); first | rfl | (simp [Bool.cond_eq_ite, *]; done) | (simp [Bool.cond_eq_ite, *]; omega))
  · rw [e1] at h1
    refine gives_code (F := f60) rfl rfl (W_ok 300 _ _ _ _ ?_)
    repeat' ((conv => whnf); first | refine bslP (by first | rfl | (simp [pureL, pureLL, AV.pure]; done) | fail) rfl ?_ | refine TakeC.full (by first | rfl | omega | (simp; done) | (simp; omega) | fail) ?_ | refine zBs ?_ | refine zBn ?_ | refine zBv rfl rfl ?_ | refine zN ?_ | refine zC ?_ | refine zC4 ?_ | refine zOr16 ?_ | refine zC1 ?_ | refine zByte ?_ | refine zMaxL ?_ | refine zMaxR ?_ | refine zMinL ?_ | refine zMinR ?_ | refine zShr ?_ | refine zC8 ?_ | refine zQ ?_ | refine zR ?_ | refine zS ?_ | refine zA ?_ | refine zM ?_ | refine xr rfl ?_ | refine ai rfl ?_ | refine condT ?_ | refine condF ?_ | refine condG1 ?_ | refine condG0 ?_ | refine cD ?_ | refine dD ?_ | refine cB ?_ | refine dB ?_ | refine cN ?_ | refine dN ?_ | refine cV ?_ | refine dV ?_ | refine cE ?_ | refine dE ?_ | refine condX0 ?_ | refine condX1 ?_ | refine condNot ?_ | refine condAnd ?_ | refine condOr ?_ | refine aO ?_ | refine aB ?_ | refine aR ?_ | refine aR ?_ (by simp; omega) | refine xr (by assumption) ?_ | refine ai (by assumption) ?_ | refine kV (large_gives21 a hb) ?_ | refine kV (awake36_gives) ?_ | refine kV (h1) ?_ | refine condD (fun h => ?_) (fun h => ?_) | refine condB (fun h => ?_) (fun h => ?_) | refine condN (fun h => ?_) (fun h => ?_) | refine condE (fun h => ?_) (fun h => ?_) | refine condV (fun h => ?_) (fun h => ?_))
    all_goals try ((first | refine ev_fin (And.intro (by first | rfl | (simp [AV.pure, pureL]; done) | fail) ?_) | refine ev_fin0 (And.intro (by first | rfl | (simp [AV.pure, pureL]; done) | fail) ?_)); first | rfl | (simp [Bool.cond_eq_ite, *]; done) | (simp [Bool.cond_eq_ite, *]; omega))
  · rw [e1] at h1
    have hl := encB_le (valid_of c1) wide
    obtain ⟨q1, q2⟩ := enc_dec ha c1 wide b1
    have hne : (encB a wide).length ≠ 0 := by
      rw [← ents_flat c1 wide]
      obtain ⟨x, y, hxy, _⟩ := putB_cons 1 [UInt8.ofNat a.origin.toNat]
      simp only [entsA, flatE, List.flatMap_cons, List.length_append]
      rw [show ((1 : Nat) : Int) = 1 from rfl, hxy]
      simp only [List.length_cons]; omega
    have la := lenC_of2 hb
    have hs := same_gives70 a a la la
    rw [show decide (a = a) = true from by simp] at hs
    have d1 := decode_gives69 (encB a wide) wide (by omega)
    have d2 := decode_gives69 (encB a wide).dropLast wide (by simp; omega)
    rw [q1, decR] at d1
    rw [q2, decR] at d2
    generalize encB a wide = B at *
    have hbl := byteCells_length B
    have hcut : ((byteCells B).drop 0).take ((((byteCells B).length : Int) - 1).toNat - 0) = byteCells B.dropLast := by
      rw [List.drop_zero, show (((byteCells B).length : Int) - 1).toNat - 0 = B.length - 1 from by omega, byteCells, ← List.map_take, List.dropLast_eq_take]
      rfl
    rw [← hcut] at d2
    refine gives_code (F := f60) rfl rfl ?_
    refine ev_seq (b := suf 1 f60.body) ?_
    refine W_okd 1 300 _ _ _ _ ?_
    repeat' ((conv => whnf); first | refine bslP (by first | rfl | (simp [pureL, pureLL, AV.pure]; done) | fail) rfl ?_ | refine TakeC.full (by first | rfl | omega | (simp; done) | (simp; omega) | fail) ?_ | refine zBs ?_ | refine zBn ?_ | refine zBv rfl rfl ?_ | refine zN ?_ | refine zC ?_ | refine zC4 ?_ | refine zOr16 ?_ | refine zC1 ?_ | refine zByte ?_ | refine zMaxL ?_ | refine zMaxR ?_ | refine zMinL ?_ | refine zMinR ?_ | refine zShr ?_ | refine zC8 ?_ | refine zQ ?_ | refine zR ?_ | refine zS ?_ | refine zA ?_ | refine zM ?_ | refine xr rfl ?_ | refine ai rfl ?_ | refine condT ?_ | refine condF ?_ | refine condG1 ?_ | refine condG0 ?_ | refine cD ?_ | refine dD ?_ | refine cB ?_ | refine dB ?_ | refine cN ?_ | refine dN ?_ | refine cV ?_ | refine dV ?_ | refine cE ?_ | refine dE ?_ | refine condX0 ?_ | refine condX1 ?_ | refine condNot ?_ | refine condAnd ?_ | refine condOr ?_ | refine aO ?_ | refine aB ?_ | refine aR ?_ | refine aR ?_ (by simp; omega) | refine xr (by assumption) ?_ | refine ai (by assumption) ?_ | refine condD (fun h => ?_) (fun h => ?_) | refine condB (fun h => ?_) (fun h => ?_) | refine condN (fun h => ?_) (fun h => ?_) | refine condE (fun h => ?_) (fun h => ?_) | refine condV (fun h => ?_) (fun h => ?_))
    refine ev_seq (b := suf 2 f60.body) ?_
    refine W_okd 1 300 _ _ _ _ ?_
    repeat' ((conv => whnf); first | refine bslP (by first | rfl | (simp [pureL, pureLL, AV.pure]; done) | fail) rfl ?_ | refine TakeC.full (by first | rfl | omega | (simp; done) | (simp; omega) | fail) ?_ | refine zBs ?_ | refine zBn ?_ | refine zBv rfl rfl ?_ | refine zN ?_ | refine zC ?_ | refine zC4 ?_ | refine zOr16 ?_ | refine zC1 ?_ | refine zByte ?_ | refine zMaxL ?_ | refine zMaxR ?_ | refine zMinL ?_ | refine zMinR ?_ | refine zShr ?_ | refine zC8 ?_ | refine zQ ?_ | refine zR ?_ | refine zS ?_ | refine zA ?_ | refine zM ?_ | refine xr rfl ?_ | refine ai rfl ?_ | refine condT ?_ | refine condF ?_ | refine condG1 ?_ | refine condG0 ?_ | refine cD ?_ | refine dD ?_ | refine cB ?_ | refine dB ?_ | refine cN ?_ | refine dN ?_ | refine cV ?_ | refine dV ?_ | refine cE ?_ | refine dE ?_ | refine condX0 ?_ | refine condX1 ?_ | refine condNot ?_ | refine condAnd ?_ | refine condOr ?_ | refine aO ?_ | refine aB ?_ | refine aR ?_ | refine aR ?_ (by simp; omega) | refine xr (by assumption) ?_ | refine ai (by assumption) ?_ | refine kV (large_gives21 a hb) ?_ | refine kV (awake36_gives) ?_ | refine condD (fun h => ?_) (fun h => ?_) | refine condB (fun h => ?_) (fun h => ?_) | refine condN (fun h => ?_) (fun h => ?_) | refine condE (fun h => ?_) (fun h => ?_) | refine condV (fun h => ?_) (fun h => ?_))
    all_goals try ((first | refine ev_fin (And.intro (by first | rfl | (simp [AV.pure, pureL]; done) | fail) ?_) | refine ev_fin0 (And.intro (by first | rfl | (simp [AV.pure, pureL]; done) | fail) ?_)); first | rfl | (simp [Bool.cond_eq_ite, *]; done) | (simp [Bool.cond_eq_ite, *]; omega))
    refine ev_seq (b := suf 3 f60.body) ?_
    refine W_okd 1 300 _ _ _ _ ?_
    repeat' ((conv => whnf); first | refine bslP (by first | rfl | (simp [pureL, pureLL, AV.pure]; done) | fail) rfl ?_ | refine TakeC.full (by first | rfl | omega | (simp; done) | (simp; omega) | fail) ?_ | refine zBs ?_ | refine zBn ?_ | refine zBv rfl rfl ?_ | refine zN ?_ | refine zC ?_ | refine zC4 ?_ | refine zOr16 ?_ | refine zC1 ?_ | refine zByte ?_ | refine zMaxL ?_ | refine zMaxR ?_ | refine zMinL ?_ | refine zMinR ?_ | refine zShr ?_ | refine zC8 ?_ | refine zQ ?_ | refine zR ?_ | refine zS ?_ | refine zA ?_ | refine zM ?_ | refine xr rfl ?_ | refine ai rfl ?_ | refine condT ?_ | refine condF ?_ | refine condG1 ?_ | refine condG0 ?_ | refine cD ?_ | refine dD ?_ | refine cB ?_ | refine dB ?_ | refine cN ?_ | refine dN ?_ | refine cV ?_ | refine dV ?_ | refine cE ?_ | refine dE ?_ | refine condX0 ?_ | refine condX1 ?_ | refine condNot ?_ | refine condAnd ?_ | refine condOr ?_ | refine aO ?_ | refine aB ?_ | refine aR ?_ | refine aR ?_ (by simp; omega) | refine xr (by assumption) ?_ | refine ai (by assumption) ?_ | refine kN (h1) ?_ | refine condD (fun h => ?_) (fun h => ?_) | refine condB (fun h => ?_) (fun h => ?_) | refine condN (fun h => ?_) (fun h => ?_) | refine condE (fun h => ?_) (fun h => ?_) | refine condV (fun h => ?_) (fun h => ?_))
    refine ev_frzk [(81, _, _)] [5, 6, 2, 1] [66] ⟨rfl, (by first | rfl | (simp [Blk.pure, pureL, pureLL, AV.pure, *]; done) | fail), trivial⟩ ?_; repeat ((conv => whnf); first | refine And.intro (by first | rfl | omega | (simp [pureL, pureLL, AV.pure]; done) | (simp; omega) | (simp [pureL, pureLL, AV.pure, *]; done) | assumption | fail) ?_ | intro T H)
    refine W_ok 300 _ _ _ _ ?_
    repeat' ((conv => whnf); first | refine bslP (by first | rfl | (simp [pureL, pureLL, AV.pure]; done) | fail) rfl ?_ | refine TakeC.full (by first | rfl | omega | (simp; done) | (simp; omega) | fail) ?_ | refine zBs ?_ | refine zBn ?_ | refine zBv rfl rfl ?_ | refine zN ?_ | refine zC ?_ | refine zC4 ?_ | refine zOr16 ?_ | refine zC1 ?_ | refine zByte ?_ | refine zMaxL ?_ | refine zMaxR ?_ | refine zMinL ?_ | refine zMinR ?_ | refine zShr ?_ | refine zC8 ?_ | refine zQ ?_ | refine zR ?_ | refine zS ?_ | refine zA ?_ | refine zM ?_ | refine xr rfl ?_ | refine ai rfl ?_ | refine condT ?_ | refine condF ?_ | refine condG1 ?_ | refine condG0 ?_ | refine cD ?_ | refine dD ?_ | refine cB ?_ | refine dB ?_ | refine cN ?_ | refine dN ?_ | refine cV ?_ | refine dV ?_ | refine cE ?_ | refine dE ?_ | refine condX0 ?_ | refine condX1 ?_ | refine condNot ?_ | refine condAnd ?_ | refine condOr ?_ | refine aO ?_ | refine aB ?_ | refine aR ?_ | refine aR ?_ (by simp; omega) | refine xr (by assumption) ?_ | refine ai (by assumption) ?_ | refine callW (d1) ?_ | refine callW (d2) ?_ | refine kV (hs) ?_ | refine kV (awake36_gives) ?_ | refine condD (fun h => ?_) (fun h => ?_) | refine condB (fun h => ?_) (fun h => ?_) | refine condN (fun h => ?_) (fun h => ?_) | refine condE (fun h => ?_) (fun h => ?_) | refine condV (fun h => ?_) (fun h => ?_))
    all_goals try ((first | refine ev_fin (And.intro (by first | rfl | (simp [AV.pure, pureL]; done) | fail) ?_) | refine ev_fin0 (And.intro (by first | rfl | (simp [AV.pure, pureL]; done) | fail) ?_)); first | rfl | (simp [Bool.cond_eq_ite, *]; done) | (simp [Bool.cond_eq_ite, *]; omega))
theorem law60_all (ass : List (List AV)) (h : ArgsT [tAttrs, .bool] ass) (hb : bkLL ass ≤ 1048576) : Gives G 60 (argsA [tAttrs, .bool] ass) [] ⟨.bool true, []⟩ := by
  obtain ⟨x, s1, rfl, h1, h⟩ := argsT_cons h
  obtain ⟨y, s2, rfl, h2, h⟩ := argsT_cons h
  obtain rfl := argsT_nil h
  obtain ⟨a, rfl, ha⟩ := T_attrs h1
  obtain ⟨w, rfl⟩ := h2
  simp only [bkLL] at hb
  exact law60_gives a w (ab_of a (by omega)) ha
end Go.AM.IR
