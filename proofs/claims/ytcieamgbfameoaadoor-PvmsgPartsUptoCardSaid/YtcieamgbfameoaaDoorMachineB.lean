/- An abstract machine for programs of this language: its functions give what the calls of the program give (theorem gives_fsem). -/
import Derived.Test.YtcieamgbfameoaaDoorMachineA
set_option linter.unusedVariables false
set_option linter.unusedSimpArgs false
namespace Go.AM
open Go.RowKit
def wksO : Option Eff → List Nat
  | some e => wks e.wr
  | none => []
def rdO : Option Eff → List Nat
  | some e => e.rd
  | none => []
def FSt.appO (F : FSt) (d : Option Nat) : Option Eff → FSt
  | some e => F.app d e
  | none => F.put d skipV
theorem hov_not {l : Heap} {f : HF} {k : Nat} (h : k ∉ wks l) : hov l f k = f k := by
  induction l with
  | nil => rfl
  | cons x r ih =>
    obtain ⟨t, v⟩ := x
    simp only [wks, List.mem_cons, not_or] at h
    simp only [hov, up]
    rw [if_neg h.1]; exact ih h.2
theorem hov_mem {l : Heap} {f f' : HF} {k : Nat} (h : k ∈ wks l) : hov l f k = hov l f' k := by
  induction l with
  | nil => simp [wks] at h
  | cons x r ih =>
    obtain ⟨t, v⟩ := x
    simp only [wks, List.mem_cons] at h
    simp only [hov, up]
    split
    · rfl
    · rename_i hne; exact ih (h.resolve_left hne)
theorem hov_comm {l l' : Heap} {f : HF} (h : ∀ k ∈ wks l, k ∉ wks l') : hov l' (hov l f) = hov l (hov l' f) := by
  funext k
  by_cases h1 : k ∈ wks l
  · rw [hov_not (h k h1), hov_mem h1]
  · rw [hov_not (l := l) h1]
    by_cases h2 : k ∈ wks l'
    · exact hov_mem h2
    · rw [hov_not h2, hov_not h2, hov_not h1]
theorem FSt.ext' {F G : FSt} (h1 : ∀ t, F.tm t = G.tm t) (h2 : ∀ k, F.hp k = G.hp k) : F = G := by
  cases F; cases G; simp only [FSt.mk.injEq]; exact ⟨funext h1, funext h2⟩
theorem appO_hp (F : FSt) (d : Option Nat) (e : Option Eff) (k : Nat) (h : k ∉ wksO e) : (F.appO d e).hp k = F.hp k := by
  cases e with
  | none => rfl
  | some e => exact hov_not h
theorem appO_tm (F : FSt) (d : Option Nat) (e : Option Eff) (t : Nat) (h : d ≠ some t) : (F.appO d e).tm t = F.tm t := by
  cases e <;> simp [FSt.appO, FSt.put, FSt.app, h]
theorem appO_comm (F : FSt) {d d' : Option Nat} {e e' : Option Eff} (hd : ∀ t, d = some t → d' ≠ some t) (hw : ∀ k ∈ wksO e, k ∉ wksO e') : (F.appO d e).appO d' e' = (F.appO d' e').appO d e := by
  refine FSt.ext' (fun t => ?_) fun k => ?_
  · by_cases h1 : d = some t
    · rw [appO_tm _ _ _ _ (hd t h1)]
      cases e <;> simp [FSt.appO, FSt.put, FSt.app, h1]
    · rw [appO_tm (F.appO d' e') _ _ _ h1]
      by_cases h2 : d' = some t
      · cases e' <;> simp [FSt.appO, FSt.put, FSt.app, h2]
      · rw [appO_tm _ _ _ _ h2, appO_tm _ _ _ _ h1, appO_tm _ _ _ _ h2]
  · cases e <;> cases e' <;> simp only [FSt.appO, FSt.put, FSt.app]
    exact congrFun (hov_comm hw) k
abbrev Effs := List (Option Nat × Option Eff)
def FL : Effs → (Nat → Bool) → Nat → FSt → FSt
  | [], _, _, F => F
  | (d, e) :: r, L, k, F => FL r L (k + 1) (bif L k then F.appO d e else F)
theorem FL_tm (t : Nat) : ∀ (es : Effs) (L L' : Nat → Bool) (k : Nat) (F F' : FSt), (∀ j x, es[j]? = some x → L (k + j) ≠ L' (k + j) → x.1 ≠ some t) → F.tm t = F'.tm t → (FL es L k F).tm t = (FL es L' k F').tm t
  | [], _, _, _, _, _, _, h => h
  | (d, e) :: r, L, L', k, F, F', hj, h => by
    refine FL_tm t r L L' (k + 1) _ _ (fun j x hx hne => hj (j + 1) x (by simpa using hx) (by rwa [show k + (j + 1) = k + 1 + j from by omega])) ?_
    by_cases hl : L k = L' k
    · rw [← hl]
      cases L k with
      | false => exact h
      | true =>
        dsimp only [cond]
        by_cases hd : d = some t
        · cases e <;> simp [FSt.appO, FSt.put, FSt.app, hd]
        · rw [appO_tm _ _ _ _ hd, appO_tm _ _ _ _ hd]; exact h
    · have := hj 0 (d, e) (by simp) (by simpa using hl)
      have q : ∀ (b : Bool) (G : FSt), (bif b then G.appO d e else G).tm t = G.tm t := fun b G => by cases b; rfl; exact appO_tm _ _ _ _ this
      rw [q, q]; exact h
theorem FL_hp (t : Nat) : ∀ (es : Effs) (L L' : Nat → Bool) (k : Nat) (F F' : FSt), (∀ j x, es[j]? = some x → L (k + j) ≠ L' (k + j) → t ∉ wksO x.2) → F.hp t = F'.hp t → (FL es L k F).hp t = (FL es L' k F').hp t
  | [], _, _, _, _, _, _, h => h
  | (d, e) :: r, L, L', k, F, F', hj, h => by
    refine FL_hp t r L L' (k + 1) _ _ (fun j x hx hne => hj (j + 1) x (by simpa using hx) (by rwa [show k + (j + 1) = k + 1 + j from by omega])) ?_
    by_cases hl : L k = L' k
    · rw [← hl]
      cases L k with
      | false => exact h
      | true =>
        dsimp only [cond]
        by_cases hd : t ∈ wksO e
        · cases e with
          | none => simp [wksO] at hd
          | some e => exact hov_mem hd
        · rw [appO_hp _ _ _ _ hd, appO_hp _ _ _ _ hd]; exact h
    · have := hj 0 (d, e) (by simp) (by simpa using hl)
      have q : ∀ (b : Bool) (G : FSt), (bif b then G.appO d e else G).hp t = G.hp t := fun b G => by cases b; rfl; exact appO_hp _ _ _ _ this
      rw [q, q]; exact h
theorem FL_insert : ∀ (es : Effs) (L : Nat → Bool) (k i : Nat) (d : Option Nat) (e : Option Eff) (F : FSt), es[i]? = some (d, e) → L (k + i) = false →
    (∀ j x, es[j]? = some x → i < j → L (k + j) = true → (∀ t, d = some t → x.1 ≠ some t) ∧ ∀ t ∈ wksO e, t ∉ wksO x.2) →
    FL es (fun x => L x || x == k + i) k F = (FL es L k F).appO d e
  | [], _, _, _, _, _, _, h, _, _ => by simp at h
  | (d0, e0) :: r, L, k, 0, d, e, F, h, hL, hj => by
    obtain ⟨rfl, rfl⟩ : d0 = d ∧ e0 = e := by simpa using h
    simp only [Nat.add_zero] at hL
    have push : ∀ (r : Effs) (k' : Nat) (G : FSt), k < k' → (∀ j x, r[j]? = some x → L (k' + j) = true → (∀ t, d0 = some t → x.1 ≠ some t) ∧ ∀ t ∈ wksO e0, t ∉ wksO x.2) →
        FL r (fun x => L x || x == k) k' (G.appO d0 e0) = (FL r L k' G).appO d0 e0 := by
      intro r
      induction r with
      | nil => intro k' G _ _; rfl
      | cons x r ih =>
        obtain ⟨d', e'⟩ := x
        intro k' G hk hr
        simp only [FL]
        have hne : (k' == k) = false := by simp; omega
        rw [hne, Bool.or_false]
        have hr' := fun j x (hx : r[j]? = some x) (hl : L (k' + 1 + j) = true) => hr (j + 1) x (by simpa using hx) (by rwa [show k' + (j + 1) = k' + 1 + j from by omega])
        cases hl : L k' with
        | false => exact ih (k' + 1) G (by omega) hr'
        | true =>
          dsimp only [cond]
          obtain ⟨q1, q2⟩ := hr 0 (d', e') (by simp) (by simpa using hl)
          rw [appO_comm G q1 q2]
          exact ih (k' + 1) (G.appO d' e') (by omega) hr'
    simp only [FL, Nat.add_zero, hL, beq_self_eq_true, Bool.false_or, cond_true, cond_false]
    refine push r (k + 1) F (by omega) fun j x hx hl => hj (j + 1) x (by simpa using hx) (by omega) (by rwa [show k + (j + 1) = k + 1 + j from by omega])
  | (d0, e0) :: r, L, k, i + 1, d, e, F, h, hL, hj => by
    simp only [FL]
    have hne : (k == k + (i + 1)) = false := by simp
    rw [hne, Bool.or_false]
    have := FL_insert r L (k + 1) i d e (bif L k then F.appO d0 e0 else F) (by simpa using h) (by rwa [show k + 1 + i = k + (i + 1) from by omega])
      (fun j x hx hij hl => hj (j + 1) x (by simpa using hx) (by omega) (by rwa [show k + (j + 1) = k + 1 + j from by omega]))
    rw [show k + (i + 1) = k + 1 + i from by omega]
    exact this
def wantedF (F : FSt) : Option (Nat × Bool) → Option Bool
  | none => some true
  | some (t, w) => match F.tm t with
    | .bool b => some (b == w)
    | .con (.tuple _) => some false
    | _ => none
theorem wantedF_fs (A : AS) (g : Option (Nat × Bool)) : wantedF A.fs g = wantedA A.tm g := by cases g <;> rfl
def looks (o : AOper) : List Nat := (o.op.opds.filterMap fun | .t n => some n | _ => none) ++ (o.guard.map (·.1)).toList
def evF (F : FSt) : Opd → AV
  | .t n => F.tm n
  | .c v => v
theorem evF_fs (A : AS) : evF A.fs = evo A.tm := by funext x; cases x <;> rfl
structure OpRel (P : Program) (N : Nums) (n : Nat) (ops : Array Oper) (i : Nat) (o : Oper) (ao : AOper) : Prop where
  op : compOp P N o = some ao.op
  dst : ao.dst = o.dst
  bd : ∀ d, o.dst = some d → d < n
  guard : match o.guard, ao.guard with
    | none, none => True
    | some (j, w), some (t, w') => w = w' ∧ (ops[j]?).bind (·.dst) = some t
    | _, _ => False
  after : ∀ e ∈ o.after, Region.binds .any e = true → e.on ∈ ao.after
  after' : ∀ j ∈ ao.after, j < i ∧ ∃ e ∈ o.after, Region.binds .any e = true ∧ e.on = j
def apartT (x y : AOper) : Prop := (∀ t, x.dst = some t → t ∉ looks y ∧ y.dst ≠ some t) ∧ ∀ t, y.dst = some t → t ∉ looks x
def wrO : Option Eff → Heap
  | some e => e.wr
  | none => []
def sfO : Option Eff → List (Nat × Nat × Nat × List AV)
  | some e => e.sf
  | none => []
def hdisj (e e' : Option Eff) : Prop := ∀ k, (k ∈ wksO e → k ∉ rdO e' ∧ k ∉ wksO e') ∧ (k ∈ wksO e' → k ∉ rdO e ∨ ∀ f, Sft (sfO e) k (hov (wrO e') f k))
theorem FL_hpS (t : Nat) (P : Option (Nat × Blk) → Prop) : ∀ (es : Effs) (L L' : Nat → Bool) (k : Nat) (F F' : FSt), (∀ j x, es[j]? = some x → L (k + j) ≠ L' (k + j) → t ∉ wksO x.2 ∨ (L (k + j) = true ∧ ∀ f, P (hov (wrO x.2) f t))) → (F.hp t = F'.hp t ∨ P (F.hp t)) → ((FL es L k F).hp t = (FL es L' k F').hp t ∨ P ((FL es L k F).hp t))
  | [], _, _, _, _, _, _, h => h
  | (d, e) :: r, L, L', k, F, F', hj, h => by
    refine FL_hpS t P r L L' (k + 1) _ _ (fun j x hx hne => ?_) ?_
    · have := hj (j + 1) x (by simpa using hx) (by rwa [show k + (j + 1) = k + 1 + j from by omega])
      rwa [show k + (j + 1) = k + 1 + j from by omega] at this
    · by_cases hl : L k = L' k
      · rw [← hl]
        cases L k with
        | false => exact h
        | true =>
          dsimp only [cond]
          by_cases hd : t ∈ wksO e
          · left
            cases e with
            | none => simp [wksO] at hd
            | some e => exact hov_mem hd
          · rw [appO_hp _ _ _ _ hd, appO_hp _ _ _ _ hd]; exact h
      · have hq := hj 0 (d, e) (by simp) (by simpa using hl)
        rw [Nat.add_zero] at hq
        by_cases hd : t ∈ wksO e
        · obtain ⟨h1, h2⟩ := hq.resolve_left (fun q => q hd)
          right
          rw [h1]
          dsimp only [cond]
          cases e with
          | none => simp [wksO] at hd
          | some e => exact h2 _
        · have q : ∀ (b : Bool) (G : FSt), (bif b then G.appO d e else G).hp t = G.hp t := fun b G => by cases b; rfl; exact appO_hp _ _ _ _ hd
          rw [q, q]; exact h
section
variable {P : Program} {C : Ctx} {N : Nums}
def Does (P : Program) (C : Ctx) (o : Oper) (g : Nat) (d : Option Nat) (e : Eff) (F : FSt) : Prop :=
  ∀ U a w (K : Act → World → Prop) (Q : Exit → Act → World → Prop), ¬ U g → Rel C U F a w → (∀ a' w', Rel C (Or1 U g) (F.app d e) a' w' → K a' w') → o.wp P a w K Q
structure OneOk (P : Program) (C : Ctx) (N : Nums) (ops : Array Oper) (c0 : Nat) (i : Nat) (o : Oper) (ao : AOper) (e : Option Eff) (F : FSt) : Prop where
  rel : OpRel P N C.n ops i o ao
  none_ : e = none → wantedF F ao.guard = some false
  some_ : ∀ x, e = some x → wantedF F ao.guard = some true ∧ ∀ F', (∀ t ∈ looks ao, F'.tm t = F.tm t) → (∀ k ∈ x.rd, F'.hp k = F.hp k ∨ Sft x.sf k (F'.hp k)) → Does P C o (c0 + i) ao.dst x F'
theorem wanted_real {C : Ctx} {U : Nat → Prop} {F : FSt} {a : Act} {w : World} (hR : Rel C U F a w) {ops : Array Oper} {n i : Nat} {o : Oper} {ao : AOper} (hr : OpRel P N n ops i o ao) {b : Bool} (h : wantedF F ao.guard = some b) : Region.wanted o (yielded ops a.tmps) = b := by
  have hg := hr.guard
  unfold Region.wanted
  cases ho : o.guard with
  | none =>
    rw [ho] at hg
    cases hag : ao.guard with
    | none => rw [hag] at h; simpa [wantedF] using h
    | some x => rw [hag] at hg; exact hg.elim
  | some x =>
    obtain ⟨j, wv⟩ := x
    rw [ho] at hg
    cases hag : ao.guard with
    | none => rw [hag] at hg; exact hg.elim
    | some y =>
      obtain ⟨t, w'⟩ := y
      rw [hag] at hg h
      obtain ⟨rfl, ht⟩ := hg
      obtain ⟨S, β, used, hRC⟩ := hR
      have hv := hRC.tm t
      simp only [wantedF] at h
      split at h
      · rename_i b' hb
        rw [hb] at hv
        have := hv.bool_inv
        obtain rfl := Option.some.inj h
        have hy : yielded ops a.tmps j = some b' := by
          unfold yielded
          rw [ht, Option.bind_some]
          have : a.tmps[t]? = some (.bool b') := by
            rw [Array.getD_eq_getD_getElem?] at this
            cases hq : a.tmps[t]? with
            | none => rw [hq] at this; simp [undef] at this
            | some v => rw [hq] at this; simpa using this
          rw [this]
        dsimp only
        rw [hy]
        cases b' <;> cases wv <;> rfl
      · rename_i v hb
        rw [hb] at hv
        have hv' := hv.con_inv
        obtain rfl := Option.some.inj h
        have hy : yielded ops a.tmps j = none := by
          unfold yielded
          rw [ht, Option.bind_some]
          rw [Array.getD_eq_getD_getElem?] at hv'
          cases hq : a.tmps[t]? with
          | none => rfl
          | some v' =>
            rw [hq] at hv'
            have : v' = .tuple v := by simpa using hv'
            subst this
            rfl
        dsimp only
        rw [hy]
        rfl
      · cases h
def Upto (c0 : Nat) (L : Nat → Bool) : Nat → Prop := fun g => g < c0 ∨ ∃ j, L j = true ∧ g = c0 + j
theorem Rel.wide {C : Ctx} {U U' : Nat → Prop} {F : FSt} {a : Act} {w : World} (h : Rel C U F a w) (hU : ∀ x, U x → U' x) : Rel C U' F a w :=
  let ⟨S, β, used, hi, b, c, d⟩ := h
  ⟨S, β, used, hi.wide hU, b, c, d⟩
theorem Rel.put {C : Ctx} {U : Nat → Prop} {F : FSt} {a : Act} {w : World} (h : Rel C U F a w) (d : Option Nat) (hd : ∀ t, d = some t → t < C.n) : Rel C U (F.put d skipV) (a.put d undef) w :=
  let ⟨S, β, used, hr⟩ := h
  ⟨S, β, used, hr.step hr.hi (.refl _) d hd (show V _ undef skipV from .con _)⟩
theorem any_ok {ops : Array Oper} {aos : List AOper} {es : Effs} {F0 : FSt} {c0 : Nat} {Q : Exit → Act → World → Prop} (clo : Nat → List Nat)
    (hclo : ∀ i ao, aos[i]? = some ao → ∀ j ∈ clo i, j ∈ ao.after ∨ ∃ k ∈ ao.after, j ∈ clo k)
    (hl : aos.length = ops.size) (hl2 : es.length = ops.size)
    (hone : ∀ i o ao x, ops[i]? = some o → aos[i]? = some ao → es[i]? = some x → x.1 = ao.dst ∧ OneOk P C N ops c0 i o ao x.2 (FL es (fun j => decide (j < i)) 0 F0))
    (hpair : ∀ i j ai aj xi xj, i < j → aos[i]? = some ai → aos[j]? = some aj → es[i]? = some xi → es[j]? = some xj → i ∈ clo j ∨ (apartT ai aj ∧ hdisj xi.2 xj.2))
    (hQ : ∀ a w, Rel C (Upto c0 fun j => decide (j < ops.size)) (FL es (fun _ => true) 0 F0) a w → Q .normal a w) :
    ∀ (fuel : Nat) (listed : Array Bool) (a : Act) (w : World), listed.size = ops.size → ((List.range ops.size).countP fun i => !listed.getD i false) ≤ fuel →
      (∀ i, listed.getD i false = true → ∀ j ∈ clo i, listed.getD j false = true) →
      Rel C (Upto c0 fun i => listed.getD i false) (FL es (fun i => listed.getD i false) 0 F0) a w → wpAny P .any ops Q fuel listed a w := by
  have get : ∀ i, i < ops.size → ∃ o ao x, ops[i]? = some o ∧ aos[i]? = some ao ∧ es[i]? = some x := fun i hi =>
    ⟨ops[i], aos[i]'(by omega), es[i]'(by omega), by simp [hi], by rw [List.getElem?_eq_getElem], by rw [List.getElem?_eq_getElem]⟩
  -- all listed: the end
  have fin : ∀ (listed : Array Bool) (a : Act) (w : World), listed.size = ops.size → (∀ i, i < ops.size → listed.getD i false = true) → Rel C (Upto c0 fun i => listed.getD i false) (FL es (fun i => listed.getD i false) 0 F0) a w → Q .normal a w := fun listed a w hsz hall hR => by
    refine hQ a w ?_
    have : FL es (fun i => listed.getD i false) 0 F0 = FL es (fun _ => true) 0 F0 := FSt.ext'
      (fun t => FL_tm t es _ _ 0 F0 F0 (fun j x hx hne => absurd (by
        have hj : j < es.length := by
          rcases Nat.lt_or_ge j es.length with q | q
          · exact q
          · rw [List.getElem?_eq_none q] at hx; cases hx
        rw [Nat.zero_add]; exact hall j (by omega)) hne) rfl)
      (fun t => FL_hp t es _ _ 0 F0 F0 (fun j x hx hne => absurd (by
        have hj : j < es.length := by
          rcases Nat.lt_or_ge j es.length with q | q
          · exact q
          · rw [List.getElem?_eq_none q] at hx; cases hx
        rw [Nat.zero_add]; exact hall j (by omega)) hne) rfl)
    rw [← this]
    refine hR.wide fun x hx => hx.elim .inl fun ⟨j, hj, e⟩ => .inr ⟨j, ?_, e⟩
    rcases Nat.lt_or_ge j listed.size with q | q
    · rw [hsz] at q; simpa using q
    · have hj' : listed.getD j false = true := hj
      simp [Array.getD, Nat.not_lt.2 q] at hj'
  have ready_all : ∀ (listed : Array Bool), listed.size = ops.size → Region.ready .any ops listed = [] → ∀ i, i < ops.size → listed.getD i false = true := by
    intro listed hsz hr i
    induction i using Nat.strongRecOn with
    | _ i ih =>
      intro hi
      cases hq : listed.getD i false with
      | true => rfl
      | false =>
        exfalso
        obtain ⟨o, ao, x, h1, h2, h3⟩ := get i hi
        have hrel := (hone i o ao x h1 h2 h3).2.rel
        have : i ∈ Region.ready .any ops listed := by
          rw [mem_ready]
          refine ⟨?_, o, h1, fun e he hb => ?_⟩
          · have : i < listed.size := by omega
            simpa [Array.getD, this] using hq
          · have hlt := (hrel.after' e.on (hrel.after e he hb)).1
            exact ih e.on hlt (by omega)
        rw [hr] at this; cases this
  intro fuel
  induction fuel with
  | zero =>
    intro listed a w hsz hcnt _ hR
    have hall : ∀ i, i < ops.size → listed.getD i false = true := fun i hi => by
      have := List.countP_eq_zero.1 (Nat.le_zero.1 hcnt) i (by simpa using hi)
      simpa using this
    refine ⟨?_, fin listed a w hsz hall hR⟩
    rw [List.eq_nil_iff_forall_not_mem]
    intro i hi
    rw [mem_ready] at hi
    obtain ⟨h0, o, ho, _⟩ := hi
    have hlt : i < ops.size := by
      rcases Nat.lt_or_ge i ops.size with q | q
      · exact q
      · rw [Array.getElem?_eq_none q] at ho; cases ho
    have h1 := hall i hlt
    have : i < listed.size := by omega
    simp [Array.getD, this] at h0 h1
    rw [h0] at h1; cases h1
  | succ fuel ih =>
    intro listed a w hsz hcnt hdown hR
    refine ⟨fun hr => fin listed a w hsz (ready_all listed hsz hr) hR, fun i hi => ?_⟩
    rw [mem_ready] at hi
    obtain ⟨h0, o, ho, hall⟩ := hi
    have hlt : i < ops.size := by
      rcases Nat.lt_or_ge i ops.size with q | q
      · exact q
      · rw [Array.getElem?_eq_none q] at ho; cases ho
    have hil : i < listed.size := by omega
    have hLi : listed.getD i false = false := by simp [Array.getD, hil] at h0 ⊢; exact h0
    obtain ⟨o', ao, x, h1, h2, h3⟩ := get i hlt
    obtain rfl : o' = o := by rw [ho] at h1; exact (Option.some.inj h1).symm
    obtain ⟨hx1, hok⟩ := hone i o' ao x h1 h2 h3
    have hdeps : ∀ j ∈ clo i, listed.getD j false = true := fun j hj => by
      have hdir : ∀ j ∈ ao.after, listed.getD j false = true := fun j hj => by
        obtain ⟨_, e, he, hb, rfl⟩ := hok.rel.after' j hj
        exact hall e he hb
      rcases hclo i ao h2 j hj with q | ⟨k, q, q'⟩
      · exact hdir j q
      · exact hdown k (hdir k q) j q'
    -- where the listed set and the text's prefix part, nothing that matters is written
    have part : ∀ j xj, es[j]? = some xj → listed.getD j false ≠ decide (j < i) → (∃ aj, aos[j]? = some aj ∧ ((j < i ∧ apartT aj ao ∧ hdisj xj.2 x.2) ∨ (i < j ∧ apartT ao aj ∧ hdisj x.2 xj.2))) := fun j xj hxj hne => by
      have hj : j < es.length := by
        rcases Nat.lt_or_ge j es.length with q | q
        · exact q
        · rw [List.getElem?_eq_none q] at hxj; cases hxj
      obtain ⟨oj, aj, xj', g1, g2, g3⟩ := get j (by omega)
      obtain rfl : xj' = xj := by rw [g3] at hxj; exact Option.some.inj hxj
      refine ⟨aj, g2, ?_⟩
      rcases Nat.lt_trichotomy j i with q | q | q
      · left
        have hu : listed.getD j false = false := by
          cases hq : listed.getD j false with
          | false => rfl
          | true => rw [hq] at hne; simp [q] at hne
        rcases hpair j i aj ao xj' x q g2 h2 g3 h3 with hd | ⟨p1, p2⟩
        · rw [hdeps j hd] at hu; cases hu
        · exact ⟨q, p1, p2⟩
      · exfalso; subst q; rw [hLi] at hne; simp at hne
      · right
        have hu : listed.getD j false = true := by
          cases hq : listed.getD j false with
          | true => rfl
          | false => rw [hq] at hne; exfalso; apply hne; simp; omega
        rcases hpair i j ao aj x xj' q h2 g2 h3 g3 with hd | ⟨p1, p2⟩
        · rw [hdown j hu i hd] at hLi; cases hLi
        · exact ⟨q, p1, p2⟩
    have htm : ∀ t ∈ looks ao, (FL es (fun i => listed.getD i false) 0 F0).tm t = (FL es (fun j => decide (j < i)) 0 F0).tm t := fun t ht =>
      FL_tm t es _ _ 0 F0 F0 (fun j xj hxj hne => by
        rw [Nat.zero_add] at hne
        obtain ⟨aj, g2, hp⟩ := part j xj hxj hne
        obtain ⟨oj, aj', xj', y1, y2, y3⟩ := get j (by
          rcases Nat.lt_or_ge j es.length with q | q
          · omega
          · rw [List.getElem?_eq_none q] at hxj; cases hxj)
        obtain rfl : aj' = aj := by rw [y2] at g2; exact Option.some.inj g2
        obtain rfl : xj' = xj := by rw [y3] at hxj; exact Option.some.inj hxj
        have hdj := (hone j oj aj' xj' y1 y2 y3).1
        rw [hdj]
        intro e
        rcases hp with ⟨_, p1, _⟩ | ⟨_, p1, _⟩
        · exact (p1.1 t e).1 ht
        · exact p1.2 t e ht) rfl
    have hhp : ∀ k ∈ rdO x.2, (FL es (fun i => listed.getD i false) 0 F0).hp k = (FL es (fun j => decide (j < i)) 0 F0).hp k ∨ Sft (sfO x.2) k ((FL es (fun i => listed.getD i false) 0 F0).hp k) := fun k hk =>
      FL_hpS k (Sft (sfO x.2) k) es _ _ 0 F0 F0 (fun j xj hxj hne => by
        rw [Nat.zero_add] at hne
        obtain ⟨aj, g2, hp⟩ := part j xj hxj hne
        rcases hp with ⟨_, _, p2⟩ | ⟨hij, _, p2⟩
        · exact .inl fun hw => ((p2 k).1 hw).1 hk
        · by_cases hw : k ∈ wksO xj.2
          · right
            refine ⟨?_, ((p2 k).2 hw).resolve_left (fun q => q hk)⟩
            rw [Nat.zero_add]
            cases hq : listed.getD j false with
            | true => rfl
            | false => rw [hq] at hne; exfalso; apply hne; simp; omega
          · exact .inl hw) (.inl rfl)
    have hwant : wantedF (FL es (fun i => listed.getD i false) 0 F0) ao.guard = wantedF (FL es (fun j => decide (j < i)) 0 F0) ao.guard := by
      cases hg : ao.guard with
      | none => rfl
      | some y =>
        obtain ⟨t, wv⟩ := y
        simp only [wantedF]
        rw [htm t (by simp [looks, hg])]
    have hins : FL es (fun y => (listed.setIfInBounds i true).getD y false) 0 F0 = (FL es (fun i => listed.getD i false) 0 F0).appO ao.dst x.2 := by
      have e1 : (fun y => (listed.setIfInBounds i true).getD y false) = fun y => listed.getD y false || y == 0 + i := by
        funext y
        by_cases hy : y = i
        · subst hy; simp [Array.getD, hil]
        · rw [getD_set_ne false (Ne.symm hy)]; simp [hy]
      rw [e1]
      refine FL_insert es _ 0 i ao.dst x.2 F0 (by rw [h3, ← hx1]) (by simpa using hLi) fun j xj hxj hij hlj => ?_
      rw [Nat.zero_add] at hlj
      obtain ⟨aj, g2, hp⟩ := part j xj hxj (by simp only [hlj]; simp; omega)
      obtain ⟨oj, aj', xj', y1, y2, y3⟩ := get j (by
        rcases Nat.lt_or_ge j es.length with q | q
        · omega
        · rw [List.getElem?_eq_none q] at hxj; cases hxj)
      obtain rfl : aj' = aj := by rw [y2] at g2; exact Option.some.inj g2
      obtain rfl : xj' = xj := by rw [y3] at hxj; exact Option.some.inj hxj
      have hdj := (hone j oj aj' xj' y1 y2 y3).1
      rcases hp with ⟨q, _⟩ | ⟨_, p1, p2⟩
      · omega
      · exact ⟨fun t ht => by rw [hdj]; exact (p1.1 t ht).2, fun k hk => ((p2 k).1 hk).2⟩
    have hU : ∀ g, Or1 (Upto c0 fun i => listed.getD i false) (c0 + i) g → Upto c0 (fun y => (listed.setIfInBounds i true).getD y false) g := by
      rintro g ((hg | ⟨j, hj, rfl⟩) | rfl)
      · exact .inl hg
      · exact .inr ⟨j, getD_set_true hj, rfl⟩
      · exact .inr ⟨i, by simp [Array.getD, hil], rfl⟩
    have hsz' : (listed.setIfInBounds i true).size = ops.size := by simpa using hsz
    have hdown' : ∀ i', (listed.setIfInBounds i true).getD i' false = true → ∀ j ∈ clo i', (listed.setIfInBounds i true).getD j false = true := fun i' hl' j hj => by
      by_cases e : i' = i
      · subst e
        exact getD_set_true (hdeps j hj)
      · rw [getD_set_ne false (Ne.symm e)] at hl'
        exact getD_set_true (hdown i' hl' j hj)
    have hcnt' : ((List.range ops.size).countP fun y => !(listed.setIfInBounds i true).getD y false) ≤ fuel := by
      have key : ∀ l : List Nat, l.Nodup → i ∈ l → (l.countP fun y => !(listed.setIfInBounds i true).getD y false) + 1 = l.countP fun y => !listed.getD y false := by
        intro l
        induction l with
        | nil => intro _ h; cases h
        | cons y l ihl =>
          intro hnd hm
          rw [List.nodup_cons] at hnd
          by_cases e : y = i
          · subst e
            have hsame : (l.countP fun z => !(listed.setIfInBounds y true).getD z false) = l.countP fun z => !listed.getD z false := by
              apply List.countP_congr
              intro z hz
              rw [getD_set_ne false (fun (q : y = z) => hnd.1 (q ▸ hz))]
            have t1 : (listed.setIfInBounds y true).getD y false = true := by simp [Array.getD, hil]
            rw [List.countP_cons_of_neg (by simp only [t1]; simp), List.countP_cons_of_pos (by simp only [hLi]; simp), hsame]
          · have hm' : i ∈ l := by simpa [Ne.symm e] using hm
            have := ihl hnd.2 hm'
            have hy : (listed.setIfInBounds i true).getD y false = listed.getD y false := getD_set_ne false (Ne.symm e)
            cases hq : listed.getD y false with
            | true => rw [List.countP_cons_of_neg (by simp only [hy, hq]; simp), List.countP_cons_of_neg (by simp only [hq]; simp)]; exact this
            | false => rw [List.countP_cons_of_pos (by simp only [hy, hq]; simp), List.countP_cons_of_pos (by simp only [hq]; simp)]; omega
      have := key (List.range ops.size) List.nodup_range (by simpa using hlt)
      omega
    unfold wpOp
    simp only [ho]
    cases hx2 : x.2 with
    | none =>
      have hw := hok.none_ hx2
      rw [← hwant] at hw
      rw [wanted_real hR hok.rel hw]
      simp only [Bool.false_eq_true, if_false]
      refine ih _ _ _ hsz' hcnt' hdown' ?_
      rw [hins, hx2, ← hok.rel.dst]
      exact (hR.put ao.dst (fun d hd => hok.rel.bd d (by rw [← hok.rel.dst]; exact hd))).wide fun y hy => hU y (.inl hy)
    | some e =>
      obtain ⟨hw, hdo⟩ := hok.some_ e hx2
      rw [← hwant] at hw
      rw [wanted_real hR hok.rel hw]
      simp only [if_true]
      refine .inl (hdo _ htm (fun k hk => by have := hhp k (by rw [hx2]; exact hk); rw [hx2] at this; exact this) _ a w _ Q ?_ hR fun a' w' hR' => ?_)
      · rintro (hg | ⟨j, hj, hg⟩)
        · omega
        · obtain rfl : j = i := by omega
          have hj' : listed.getD j false = true := hj
          rw [hLi] at hj'; cases hj'
      · refine ih _ _ _ hsz' hcnt' hdown' ?_
        rw [hins, hx2]
        exact hR'.wide hU
end
end Go.AM
namespace Go.AM
open Go.RowKit
mutual
theorem AV.pure_of_keys : ∀ a : AV, a.keys true = [] → a.pure = true
  | .any, _ | .int _ _, _ | .bool _, _ | .str _, _ | .con _, _ => rfl
  | .agg cs, h | .rp cs, h | .fn _ cs, h | .tup cs, h => by simp only [AV.pure]; exact pureL_of_keys cs (by simpa [AV.keys] using h)
  | .sl _ es, h => by simp only [AV.pure]; exact pureLL_of_keys es (by simpa [AV.keys] using h)
  | .ref _ _ _, h | .er _ _ _ _, h | .vs _ _ _, h | .vw _ _ _ _, h => by simp [AV.keys] at h
  | .ifc _ v, h => by simp only [AV.pure]; exact AV.pure_of_keys v (by simpa [AV.keys] using h)
theorem pureL_of_keys : ∀ l : List AV, keysL true l = [] → pureL l = true
  | [], _ => rfl
  | a :: r, h => by
    simp only [keysL, List.append_eq_nil_iff] at h
    simp only [pureL, AV.pure_of_keys a h.1, pureL_of_keys r h.2, Bool.and_self]
theorem pureLL_of_keys : ∀ l : List (List AV), keysLL true l = [] → pureLL l = true
  | [], _ => rfl
  | a :: r, h => by
    simp only [keysLL, List.append_eq_nil_iff] at h
    simp only [pureLL, pureL_of_keys a h.1, pureLL_of_keys r h.2, Bool.and_self]
end
theorem V.pure_env {E E' : Env} (hro : ∀ b o u, E.ro b o u → E'.ro b o u) (hn : E'.num = E.num) (ht : E'.tnum = E.tnum) {v : Value} {a : AV} (h : V E v a) (hp : a.pure = true) : V E' v a := by
  have := h.ren (E' := E') (φ := fun _ _ => .dead) ⟨hro, hn, ht, fun _ _ _ => trivial⟩
  rwa [AV.ren_pure _ a hp] at this
theorem dryL_getD : ∀ (l : List AV) (i : Nat), dryL l = true → i < l.length → (l.getD i .any).dry = true
  | [], _, _, h => by simp at h
  | a :: r, 0, h, _ => by simp only [dryL, Bool.and_eq_true] at h; simpa using h.1
  | a :: r, i + 1, h, hi => by simp only [dryL, Bool.and_eq_true] at h; simpa using dryL_getD r i h.2 (by simpa using hi)
theorem V.dry_env {E E' : Env} (hn : E'.num = E.num) (ht : E'.tnum = E.tnum) {v : Value} {a : AV} (h : V E v a) (hd : a.dry = true) : V E' v a := by
  induction h with
  | any v => exact .any v
  | int k n => exact .int k n
  | bool b => exact .bool b
  | str s => exact .str s
  | con v => exact .con v
  | agg cs as hl hf _ ih => exact .agg cs as hl hf fun i hi => ih i hi (dryL_getD as i (by simpa [AV.dry] using hd) hi)
  | sl s es a n c hn' hs hc u hb _ ih =>
    cases es with
    | nil => exact .sl s [] a n c hn' hs hc u (fun q => absurd rfl q) (fun i hi => by simp at hi)
    | cons => simp [AV.dry] at hd
  | rp => simp [AV.dry] at hd
  | ref => simp [AV.dry] at hd
  | er => simp [AV.dry] at hd
  | vs => simp [AV.dry] at hd
  | vw => simp [AV.dry] at hd
  | fn f cs as hl _ ih => rw [← hn]; exact .fn f cs as hl fun i hi => ih i hi (dryL_getD as i (by simpa [AV.dry] using hd) hi)
  | tup cs as hl _ ih => exact .tup cs as hl fun i hi => ih i hi (dryL_getD as i (by simpa [AV.dry] using hd) hi)
  | ifc t v a _ ih => rw [← ht]; exact .ifc t v a (ih (by simpa [AV.dry] using hd))
theorem CellsOk.ren {E E' : Env} {φ : Nat → Nat → Tgt} (r : RenOk E E' φ) {w : World} {b o : Nat} {cs : List AV} (h : CellsOk E w b o cs) : CellsOk E' w b o (renL φ cs) := fun j hj => by
  rw [renL_length] at hj
  obtain ⟨u, h1, h2, h3, h4⟩ := h j hj
  exact ⟨u, h1, h2, h3, by rw [renL_getD]; exact h4.ren r⟩
theorem BlkOk.ren {E E' : Env} {φ : Nat → Nat → Tgt} (r : RenOk E E' φ) {w : World} {p : Place} {b : Blk} (h : BlkOk E w p b) : BlkOk E' w p (b.ren φ) := by
  cases b with
  | cells cs => exact ⟨h.1, h.2.ren r⟩
  | vec s es =>
    obtain ⟨h1, h2, h3, h4, h5, h6⟩ := h
    refine ⟨h1, fun i hi => ?_, by rw [renLL_length]; exact h3, fun hn => ?_, h5, fun i hi => ?_⟩
    · rw [renLL_length] at hi; rw [renLL_getD, renL_length]; exact h2 i hi
    · obtain ⟨q1, q2⟩ := h4 hn; subst q1; exact ⟨rfl, q2⟩
    · rw [renLL_length] at hi; rw [renLL_getD]; exact (h6 i hi).ren r
theorem BlkRo_of_pure {E E' : Env} {w : World} {p : Place} {b : Blk} (h : BlkOk E w p b) (hp : b.pure = true) (hro : ∀ b o u, E.ro b o u → E'.ro b o u) (hn : E'.num = E.num) (ht : E'.tnum = E.tnum)
    (hb : ∀ o u, w.cell? ⟨p.blk, o, none⟩ = some u → u.oneCell' = true → p.isNil = false → E'.ro p.blk o u) : BlkRo E' p b := by
  have r : RenOk E E' (fun _ _ => .dead) := ⟨hro, hn, ht, fun _ _ _ => trivial⟩
  have h' := BlkOk.ren r h
  have e : b.ren (fun _ _ => .dead) = b := by
    cases b with
    | cells cs => simp only [Blk.ren]; rw [renL_pure _ cs hp]
    | vec s es => simp only [Blk.ren]; rw [renLL_pure _ es hp]
  rw [e] at h'
  exact BlkRo_of (S' := fun _ => True) h' (fun bk o u hc h1 hbk hnn => by subst hbk; exact hb o u hc h1 hnn) (.refl E')
def hpB (bs : List Blk) : HF := fun k => (bs[k]?).map fun b => (0, b)
def hpR (bs : List (Bool × Blk)) : HF := fun k => (bs[k]?).map fun x => (0, x.2)
def used0 (n : Nat) : Nat → Nat → Prop := fun k g => k < n ∧ g = 0
structure RetC (C : Ctx) (m : Nat) (w' : World) (v : Value) (t : Ret) (S1 : Nat → Prop) (β1 : Nat → Place) : Prop where
  kept : Kept C.X C.W0 w'
  s : ∀ b, S1 b → b < w'.heap.size ∧ (C.W0.heap.size ≤ b ∨ C.S0 b)
  keep : ∀ b, C.S0 b → ¬ C.X b → S1 b
  val : V (mkEnv C S1 β1 (used0 t.bs.length) (hpR t.bs) w') v t.r
  at_ : ∀ k x, t.bs[k]? = some x → ((β1 k).isNil = false → S1 (β1 k).blk ∧ (C.W0.heap.size ≤ (β1 k).blk ∨ C.X (β1 k).blk)) ∧ BlkOk (mkEnv C S1 β1 (used0 t.bs.length) (hpR t.bs) w') w' (β1 k) x.2
  inj : ∀ k k', k < t.bs.length → k' < t.bs.length → (β1 k).isNil = false → (β1 k').isNil = false → (β1 k).blk = (β1 k').blk → k = k'
  pl : ∀ k x, k < m → t.bs[k]? = some x → x.1 = true → β1 k = C.π k
  len : m ≤ t.bs.length
def E0 (C : Ctx) : Env where
  ro b o u := b < C.W0.heap.size ∧ ¬ C.X b ∧ ¬ C.S0 b ∧ C.W0.cell? ⟨b, o, none⟩ = some u ∧ u.oneCell' = true
  lv _ _ := none
  used _ _ := False
  num := C.num
  tnum := C.tnum
def GlC (N : Nums) (C : Ctx) : Prop := ∀ g cs, N.gl g = some cs → pureL cs = true → V (E0 C) (.pointer (some ⟨g, 0, none⟩)) (.rp cs)
def GoC (N : Nums) (C : Ctx) : Prop := ∀ g o, N.go g = some o → g < C.W0.heap.size ∧ ¬ C.X g ∧ ¬ C.S0 g ∧ C.W0.heap[g]? = some o
def NumOk (N : Nums) (C : Ctx) : Prop := C.num = N.num ∧ GlC N C ∧ GoC N C
theorem GlC.at_hi {C : Ctx} {U : Nat → Prop} {hp : HF} {w : World} {S : Nat → Prop} {β : Nat → Place} {used : Nat → Nat → Prop} {N : Nums} (h : HI C U hp w S β used) (hg : GlC N C) {g : Nat} {cs : List AV} (h1 : N.gl g = some cs) (h2 : pureL cs = true) :
    V (mkEnv C S β used hp w) (.pointer (some ⟨g, 0, none⟩)) (.rp cs) := by
  refine V.pure_env (E := E0 C) (E' := mkEnv C S β used hp w) (fun b o u q => ?_) rfl rfl (hg g cs h1 h2) (by simpa [AV.pure] using h2)
  obtain ⟨q1, q2, q3, q4, q5⟩ := q
  refine ⟨fun hs => ?_, ?_, q5⟩
  · rcases (h.s b hs).2 with z | z
    · omega
    · exact q3 z
  · rw [World.cell?_of_block (h.kept.block b q1 q2)]; exact q4
structure Entry (C : Ctx) (N : Nums) (vs : Array Value) (args : List AV) (bs : List Blk) : Prop where
  num : NumOk N C
  tnum : C.tnum = N.tnum
  hi : HI C (fun g => g = 0) (hpB bs) C.W0 C.S0 C.π (used0 bs.length)
  size : vs.size = args.length
  at_ : ∀ i, i < args.length → V (mkEnv C C.S0 C.π (used0 bs.length) (hpB bs) C.W0) (vs.getD i undef) (args.getD i .any)
def FSem (P : Program) (N : Nums) (f : Nat) (args : List AV) (bs : List Blk) (t : Ret) : Prop :=
  ∀ (C : Ctx) (vs : Array Value), Entry C N vs args bs → Calls P (N.num f) vs C.W0 fun e w' => ∃ v, e = .returned v ∧ ∃ S1 β1, RetC C bs.length w' v t S1 β1
theorem idx_some {k : Nat} : ∀ {D : List Nat} {i : Nat}, idx k D = some i → D[i]? = some k
  | [], _, h => by cases h
  | x :: r, i, h => by
    simp only [idx] at h
    split at h
    · rename_i e; obtain rfl := Option.some.inj h; simp [e]
    · obtain ⟨j, h1, rfl⟩ := map_some h
      simpa using idx_some h1
theorem idx_at {k : Nat} : ∀ {D : List Nat}, k ∈ D → ∃ i, idx k D = some i
  | x :: r, h => by
    simp only [idx]
    split
    · exact ⟨0, rfl⟩
    · rename_i e
      obtain ⟨i, hi⟩ := idx_at (D := r) (by simpa [Ne.symm e] using h)
      exact ⟨i + 1, by rw [hi]; rfl⟩
theorem dedup_nodup : ∀ l : List Nat, (dedup l).Nodup
  | [] => List.nodup_nil
  | k :: r => by
    simp only [dedup]
    cases h : (dedup r).contains k with
    | true => exact dedup_nodup r
    | false =>
      refine List.nodup_cons.2 ⟨?_, dedup_nodup r⟩
      intro hm; simp [hm] at h
theorem nodupB_spec : ∀ {l : List Nat}, nodupB l = true → l.Nodup
  | [], _ => List.nodup_nil
  | k :: r, h => by
    simp only [nodupB, Bool.and_eq_true] at h
    refine List.nodup_cons.2 ⟨?_, nodupB_spec h.2⟩
    intro hm; simp [hm] at h
theorem nodup_idx : ∀ {l : List Nat}, l.Nodup → ∀ {i j k : Nat}, l[i]? = some k → l[j]? = some k → i = j
  | [], _, i, _, _, h, _ => by simp at h
  | x :: r, hn, i, j, k, hi, hj => by
    rw [List.nodup_cons] at hn
    cases i with
    | zero =>
      cases j with
      | zero => rfl
      | succ j =>
        obtain rfl : x = k := by simpa using hi
        exact absurd (List.mem_of_getElem? (by simpa using hj)) hn.1
    | succ i =>
      cases j with
      | zero =>
        obtain rfl : x = k := by simpa using hj
        exact absurd (List.mem_of_getElem? (by simpa using hi)) hn.1
      | succ j => exact congrArg (· + 1) (nodup_idx hn.2 (i := i) (j := j) (k := k) (by simpa using hi) (by simpa using hj))
theorem pureL_getD : ∀ (l : List AV) (i : Nat), pureL l = true → (l.getD i .any).pure = true
  | [], _, _ => rfl
  | a :: r, 0, h => by simp only [pureL, Bool.and_eq_true] at h; simpa using h.1
  | a :: r, i + 1, h => by simp only [pureL, Bool.and_eq_true] at h; simpa using pureL_getD r i h.2
theorem extBlks_ok {hg : HF} {φ : Nat → Nat → Tgt} : ∀ {D : List Nat} {bs : List Blk}, extBlks hg φ D = some bs → bs.length = D.length ∧ ∀ (i k : Nat), D[i]? = some k → ∃ g b, hg k = some (g, b) ∧ bs[i]? = some (b.ren φ)
  | [], bs, h => by obtain rfl : [] = bs := by simpa [extBlks] using h
                    exact ⟨rfl, by simp⟩
  | k :: r, bs, h => by
    simp only [extBlks] at h
    split at h
    · rename_i g b bs' h1 h2
      obtain rfl := Option.some.inj h
      obtain ⟨q1, q2⟩ := extBlks_ok h2
      refine ⟨by simp [q1], fun i k' hi => ?_⟩
      cases i with
      | zero => obtain rfl : k = k' := by simpa using hi
                exact ⟨g, b, h1, rfl⟩
      | succ i => simpa using q2 i k' (by simpa using hi)
    · cases h
section
variable {P : Program} {C : Ctx} {U : Nat → Prop} {hp : HF} {w : World} {S : Nat → Prop} {β : Nat → Place} {used : Nat → Nat → Prop} {g : Nat} {N : Nums}
def calleeCtx (C : Ctx) (hp : HF) (w : World) (S : Nat → Prop) (β : Nat → Place) (D fz : List Nat) : Ctx where
  num := C.num
  tnum := C.tnum
  W0 := w
  X b := ∃ k ∈ D, (β k).isNil = false ∧ (β k).blk = b
  S0 b := S b ∧ ¬ ∃ k ∈ fz, ∃ x, hp k = some x ∧ (β k).isNil = false ∧ (β k).blk = b
  π i := β (D.getD i 0)
  n := 0
theorem glc_callee (h : HI C U hp w S β used) (hn : NumOk N C) (D fz : List Nat) (hD : ∀ k ∈ D, ∃ x, hp k = some x) : NumOk N (calleeCtx C hp w S β D fz) := by
  have nS0 : ∀ b, b < C.W0.heap.size → ¬ C.S0 b → ¬ S b := fun b q1 q3 hs => by
    rcases (h.s b hs).2 with z | z
    · omega
    · exact q3 z
  have nX : ∀ b, ¬ S b → ¬ (calleeCtx C hp w S β D fz).X b := by
    rintro b nS ⟨k, hk, hnn, rfl⟩
    obtain ⟨⟨g', b'⟩, hx⟩ := hD k hk
    exact nS ((h.at_ k g' b' hx).2.1 hnn).1
  refine ⟨hn.1, fun g cs h1 h2 => ?_, fun g o hg => ?_⟩
  rotate_left
  · obtain ⟨q1, q2, q3, q4⟩ := hn.2.2 g o hg
    have nS := nS0 g q1 q3
    exact ⟨Nat.lt_of_lt_of_le q1 h.kept.size, nX g nS, fun z => nS z.1, (h.kept.block g q1 q2).trans q4⟩
  refine V.pure_env (E := E0 C) (E' := E0 (calleeCtx C hp w S β D fz)) (fun b o u q => ?_) rfl rfl (hn.2.1 g cs h1 h2) (by simpa [AV.pure] using h2)
  obtain ⟨q1, q2, q3, q4, q5⟩ := q
  have nS : ¬ S b := fun hs => by
    rcases (h.s b hs).2 with z | z
    · omega
    · exact q3 z
  refine ⟨Nat.lt_of_lt_of_le q1 h.kept.size, ?_, fun z => nS z.1, ?_, q5⟩
  · rintro ⟨k, hk, hnn, rfl⟩
    obtain ⟨⟨g', b'⟩, hx⟩ := hD k hk
    exact nS ((h.at_ k g' b' hx).2.1 hnn).1
  · rw [show (calleeCtx C hp w S β D fz).W0 = w from rfl, World.cell?_of_block (h.kept.block b q1 q2)]; exact q4
theorem callIn_ok (h : HI C U hp w S β used) (hn : NumOk N C) (ht : C.tnum = N.tnum) {raw : Bool} {args : List AV} {vs : Array Value} (hsz : vs.size = args.length) (hv : ∀ i, i < args.length → V (mkEnv C S β used hp w) (vs.getD i undef) (args.getD i .any))
    {c : CIn} (hc : callIn hp raw args = some c) :
    Entry (calleeCtx C hp w S β c.D c.fz) N vs c.args c.bs ∧ c.D.Nodup ∧ (∀ k ∈ c.D, ∃ x, hp k = some x) ∧ (∀ k ∈ c.fz, k ∉ c.D) ∧ c.bs.length = c.D.length := by
  unfold callIn at hc
  split at hc
  · rename_i hk
    obtain rfl := Option.some.inj hc
    refine ⟨⟨glc_callee h hn [] [] (by simp), ht, ⟨.refl _ _, fun b hb => ⟨(h.s b hb.1).1, .inr hb⟩, fun b hb => (h.s b hb.1).1, fun b hb _ => hb, fun k g hu => hu.2, fun k g b q => by simp [hpB] at q, fun k k' x x' q => by simp [hpB] at q, fun k b q => by simp [hpB] at q⟩, hsz, fun i hi => ?_⟩, List.nodup_nil, by simp, by simp, rfl⟩
    have hpur := pureL_of_keys args hk
    have hpu : (args.getD i .any).pure = true := pureL_getD args i hpur
    exact V.pure_env (E := mkEnv C S β used hp w) (E' := mkEnv (calleeCtx C hp w S β [] []) (calleeCtx C hp w S β [] []).S0 (calleeCtx C hp w S β [] []).π (used0 0) (hpB []) w) (fun b o u q => ⟨fun q' => q.1 q'.1, q.2⟩) rfl rfl (hv i hi) hpu
  · rename_i K hK
    obtain ⟨bs, hb, rfl⟩ := map_some hc
    generalize hD : extKeys hp raw args = D at hb ⊢
    have hnd : D.Nodup := by
      rw [← hD]; unfold extKeys
      split
      · exact List.nodup_nil
      · exact dedup_nodup _
    generalize hfz : (keysL true args).filter (fun k => !D.contains k) = fz at hb ⊢
    have hfzD : ∀ k ∈ fz, k ∉ D := fun k hk => by rw [← hfz] at hk; simp at hk; exact hk.2
    obtain ⟨e1, e2⟩ := extBlks_ok hb
    have hlive : ∀ k ∈ D, ∃ x, hp k = some x := fun k hk => by
      obtain ⟨i, hi⟩ := idx_at hk
      obtain ⟨g, b, q, _⟩ := e2 i k (idx_some hi)
      exact ⟨_, q⟩
    have hπ : ∀ i k, D[i]? = some k → (calleeCtx C hp w S β D fz).π i = β k := fun i k hi => by
      show β (D.getD i 0) = _
      rw [List.getD_eq_getElem?_getD, hi]; rfl
    have hr : RenOk (mkEnv C S β used hp w) (mkEnv (calleeCtx C hp w S β D fz) (calleeCtx C hp w S β D fz).S0 (calleeCtx C hp w S β D fz).π (used0 bs.length) (hpB bs) w) (argφ hp D fz) := by
      refine ⟨fun b o u q => ⟨fun q' => q.1 q'.1, q.2⟩, rfl, rfl, fun k g hu => ?_⟩
      unfold argφ
      cases hk : hp k with
      | none => trivial
      | some x =>
        obtain ⟨g', b⟩ := x
        dsimp only
        by_cases eg : g' = g
        · subst eg
          rw [if_pos rfl]
          cases hi : idx k D with
          | some i =>
            have hDi := idx_some hi
            obtain ⟨g2, b2, q1, q2⟩ := e2 i k hDi
            have hlt : i < bs.length := by
              rcases Nat.lt_or_ge i bs.length with q | q
              · exact q
              · rw [List.getElem?_eq_none q] at q2; cases q2
            refine ⟨⟨hlt, rfl⟩, fun p hp' => ?_⟩
            obtain ⟨_, _, rfl⟩ := mkEnv_lv hp'
            rw [hπ i k hDi]
            exact mkEnv_lv_of hk
          | none =>
            dsimp only
            cases hq : (fz.contains k && b.pure) with
            | false => trivial
            | true =>
              simp only [Bool.and_eq_true] at hq
              refine ⟨β k, mkEnv_lv_of hk, ?_⟩
              refine BlkRo_of_pure (h.at_ k g' b hk).2.2 hq.2 (fun b o u q => ⟨fun q' => q.1 q'.1, q.2⟩) rfl rfl fun o u hc1 h1 hnn => ⟨fun q => q.2 ⟨k, by simpa using hq.1, _, hk, hnn, rfl⟩, hc1, h1⟩
        · rw [if_neg eg]; trivial
    refine ⟨⟨glc_callee h hn D fz hlive, ht, ⟨.refl _ _, fun b hb => ⟨(h.s b hb.1).1, .inr hb⟩, fun b hb => (h.s b hb.1).1, fun b hb _ => hb, fun k g hu => hu.2, fun i g b q => ?_, fun i i' x x' q q' n1 n2 hbk => ?_, fun k b q => rfl⟩, by rw [renL_length]; exact hsz, fun i hi => ?_⟩, hnd, hlive, hfzD, e1⟩
    · obtain ⟨b', q1, q2⟩ := map_some q
      have hlt : i < bs.length := by
        rcases Nat.lt_or_ge i bs.length with y | y
        · exact y
        · rw [List.getElem?_eq_none y] at q1; cases q1
      obtain ⟨rfl, rfl⟩ := Prod.mk.inj q2
      have hDi : D[i]? = some (D[i]'(by omega)) := by rw [List.getElem?_eq_getElem]
      obtain ⟨g2, b2, y1, y2⟩ := e2 i _ hDi
      rw [q1] at y2
      obtain rfl := Option.some.inj y2
      obtain ⟨z1, z2, z3⟩ := h.at_ _ g2 b2 y1
      rw [hπ i _ hDi]
      refine ⟨⟨hlt, rfl⟩, fun hnn => ⟨⟨(z2 hnn).1, ?_⟩, .inr ⟨_, List.getElem_mem _, hnn, rfl⟩⟩, z3.ren hr⟩
      rintro ⟨k', hk', x', hx', hn', hb'⟩
      have := h.inj k' _ _ _ hx' y1 hn' hnn hb'
      subst this
      exact hfzD _ hk' (List.getElem_mem _)
    · have at1 : ∀ i x, hpB bs i = some x → ∃ k, D[i]? = some k ∧ ∃ y, hp k = some y := fun i x q => by
        obtain ⟨b', q1, _⟩ := map_some q
        have hlt : i < bs.length := by
          rcases Nat.lt_or_ge i bs.length with y | y
          · exact y
          · rw [List.getElem?_eq_none y] at q1; cases q1
        have hDi : D[i]? = some (D[i]'(by omega)) := by rw [List.getElem?_eq_getElem]
        exact ⟨_, hDi, hlive _ (List.getElem_mem _)⟩
      obtain ⟨k, d1, y, l1⟩ := at1 i x q
      obtain ⟨k', d2, y', l2⟩ := at1 i' x' q'
      rw [hπ i k d1] at n1 hbk
      rw [hπ i' k' d2] at n2 hbk
      have := h.inj k k' _ _ l1 l2 n1 n2 hbk
      subst this
      exact nodup_idx hnd d1 d2
    · rw [renL_length] at hi
      rw [renL_getD]; exact (hv i hi).ren hr
end
end Go.AM
namespace Go.AM
open Go.RowKit
section
variable {P : Program} {C : Ctx} {U : Nat → Prop} {hp : HF} {w w' : World} {S : Nat → Prop} {β : Nat → Place} {used : Nat → Nat → Prop} {g : Nat} {N : Nums}
theorem retW_hov (φ : Nat → Nat → Tgt) (gi : Nat → Nat) (f : HF) : ∀ (K : List Nat) (bs : List (Bool × Blk)) (i0 : Nat), K.length = bs.length → K.Nodup →
    (∀ i k x, K[i]? = some k → bs[i]? = some x → hov (retW φ gi i0 K bs) f k = some (gi (i0 + i), x.2.ren φ)) ∧ ∀ k, k ∉ K → hov (retW φ gi i0 K bs) f k = f k
  | [], [], i0, _, _ => ⟨fun i k x h => by simp at h, fun k _ => rfl⟩
  | k0 :: K, (b0, x0) :: bs, i0, hl, hn => by
    rw [List.nodup_cons] at hn
    obtain ⟨h1, h2⟩ := retW_hov φ gi f K bs (i0 + 1) (by simpa using hl) hn.2
    refine ⟨fun i k x hk hx => ?_, fun k hk => ?_⟩
    · cases i with
      | zero =>
        obtain rfl : k0 = k := by simpa using hk
        obtain rfl : (b0, x0) = x := by simpa using hx
        simp [retW, hov, up]
      | succ i =>
        have hk' : K[i]? = some k := by simpa using hk
        have hne : k ≠ k0 := fun e => hn.1 (e ▸ List.mem_of_getElem? hk')
        simp only [retW, hov, up, if_neg hne]
        rw [h1 i k x hk' (by simpa using hx)]
        congr 2; congr 1; omega
    · simp only [List.mem_cons, not_or] at hk
      simp only [retW, hov, up, if_neg hk.1]
      exact h2 k hk.2
  | [], _ :: _, _, hl, _ => by simp at hl
  | _ :: _, [], _, hl, _ => by simp at hl
theorem hov_app (l l' : Heap) (f : HF) : hov (l ++ l') f = hov l (hov l' f) := by
  induction l with
  | nil => rfl
  | cons x r ih => obtain ⟨k, v⟩ := x; simp only [List.cons_append, hov, ih]
theorem callOut_ok (h : HI C U hp w S β used) (hg : ¬ U g) (hg0 : g ≠ 0) {c : CIn} (hnd : c.D.Nodup) (hlive : ∀ k ∈ c.D, ∃ x, hp k = some x) (hfz : ∀ k ∈ c.fz, k ∉ c.D) (hbl : c.bs.length = c.D.length)
    {v : Value} {t : Ret} {S1 : Nat → Prop} {β1 : Nat → Place} (hr : RetC (calleeCtx C hp w S β c.D c.fz) c.bs.length w' v t S1 β1) {dst : Nat} {e : Eff} (he : callOut hp c g dst t = some e) :
    ∃ S' β' used', HI C (Or1 U g) (hov e.wr hp) w' S' β' used' ∧ (mkEnv C S β used hp w).le (mkEnv C S' β' used' (hov e.wr hp) w') ∧ V (mkEnv C S' β' used' (hov e.wr hp) w') v e.res := by
  let FZ : Nat → Prop := fun b => ∃ k ∈ c.fz, ∃ x, hp k = some x ∧ (β k).isNil = false ∧ (β k).blk = b
  let X1 : Nat → Prop := fun b => ∃ k ∈ c.D, (β k).isNil = false ∧ (β k).blk = b
  have kept1 : Kept X1 w w' := hr.kept
  have blkS : ∀ k x, hp k = some x → (β k).isNil = false → S (β k).blk ∧ (C.W0.heap.size ≤ (β k).blk ∨ C.X (β k).blk) := fun k x hk hn => (h.at_ k x.1 x.2 hk).2.1 hn
  have X1S : ∀ b, X1 b → S b ∧ (C.W0.heap.size ≤ b ∨ C.X b) := fun b ⟨k, hk, hn, hb⟩ => by
    obtain ⟨x, hx⟩ := hlive k hk
    subst hb; exact blkS k x hx hn
  have FZS : ∀ b, FZ b → S b ∧ (C.W0.heap.size ≤ b ∨ C.X b) := fun b ⟨k, hk, x, hx, hn, hb⟩ => by subst hb; exact blkS k x hx hn
  have S1cases : ∀ b, S1 b → w.heap.size ≤ b ∨ (S b ∧ ¬ FZ b) := fun b hb => (hr.s b hb).2
  have keptC : Kept C.X C.W0 w' := h.kept.trans kept1 fun b hb hx => ((X1S b hx).2).resolve_left (by omega)
  have cellKeep : ∀ b o u, ¬ X1 b → w.cell? ⟨b, o, none⟩ = some u → w'.cell? ⟨b, o, none⟩ = some u := fun b o u hx hc => by
    rw [(SameB.of_block (kept1.block b (cell_lt hc) hx) o).1]; exact hc
  have fresh_out : ∀ b, C.S0 b → ¬ C.X b → S b ∧ ¬ FZ b := fun b hb hx => ⟨h.keep b hb hx, fun hf => by
    rcases (FZS b hf).2 with q | q
    · have := h.s0 b hb; omega
    · exact hx q⟩
  have keep1 : ∀ b, C.S0 b → ¬ C.X b → S1 b := fun b hb hx => hr.keep b (fresh_out b hb hx) fun hx1 => by
    rcases (X1S b hx1).2 with q | q
    · have := h.s0 b hb; omega
    · exact hx q
  have s1lt : ∀ b, S1 b → b < w'.heap.size ∧ (C.W0.heap.size ≤ b ∨ C.S0 b) := fun b hb => ⟨(hr.s b hb).1, by
    rcases S1cases b hb with q | q
    · exact .inl (Nat.le_trans h.kept.size q)
    · exact (h.s b q.1).2⟩
  -- a key that the callee did not get keeps its object
  have other : ∀ k x, hp k = some x → k ∉ c.D → k ∉ c.fz → (β k).isNil = false → S1 (β k).blk ∧ SameB w w' (β k).blk := fun k x hk hD hf hn => by
    obtain ⟨q1, q2⟩ := blkS k x hk hn
    have nX : ¬ X1 (β k).blk := fun ⟨k', hk', hn', hb⟩ => by
      obtain ⟨x', hx'⟩ := hlive k' hk'
      exact hD (h.inj k' k _ _ hx' hk hn' hn hb ▸ hk')
    have nF : ¬ FZ (β k).blk := fun ⟨k', hk', x', hx', hn', hb⟩ => hf (h.inj k' k _ _ hx' hk hn' hn hb ▸ hk')
    exact ⟨hr.keep _ ⟨q1, nF⟩ nX, .of_block (kept1.block _ (h.s _ q1).1 nX)⟩
  unfold callOut at he
  cases hdry : (t.bs.isEmpty && t.r.dry) with
  | true =>
    rw [hdry] at he
    obtain rfl := Option.some.inj he
    simp only [Bool.and_eq_true] at hdry
    have hbs : t.bs = [] := List.isEmpty_iff.1 hdry.1
    have hD : c.D = [] := by
      have := hr.len
      rw [hbs, hbl] at this
      exact List.eq_nil_of_length_eq_zero (by simpa using this)
    have nX : ∀ b, ¬ X1 b := fun b ⟨k, hk, _⟩ => by rw [hD] at hk; cases hk
    refine ⟨fun b => S1 b ∨ FZ b, β, used, ?_⟩
    have hch := h.change (U' := Or1 U g) (hp' := hp) (w' := w') (S' := fun b => S1 b ∨ FZ b) (β' := β) (used' := used) keptC (fun b o u hs hc => ⟨?_, cellKeep b o u (nX b) hc⟩) (fun _ _ => id) (fun k g b hk _ => ⟨⟨b, hk⟩, rfl⟩) ?_ (fun b hb hx => .inl (keep1 b hb hx)) (fun k g hu => .inl (h.us k g hu)) ?_ h.inj h.pl
    · exact ⟨hch.1, hch.2, V.dry_env (E := mkEnv (calleeCtx C hp w S β c.D c.fz) S1 β1 (used0 t.bs.length) (hpR t.bs) w') (E' := mkEnv C (fun b => S1 b ∨ FZ b) β used hp w') rfl rfl hr.val hdry.2⟩
    · rintro (q | q)
      · rcases S1cases b q with y | y
        · have := cell_lt hc; omega
        · exact hs y.1
      · exact hs (FZS b q).1
    · rintro b (q | q)
      · exact s1lt b q
      · have := h.s b (FZS b q).1
        exact ⟨Nat.lt_of_lt_of_le this.1 kept1.size, this.2⟩
    · intro k g b hk
      refine .inl ⟨hk, rfl, fun hn => ?_⟩
      have hsame : SameB w w' (β k).blk := .of_block (kept1.block _ (h.s _ (blkS k _ hk hn).1).1 (nX _))
      by_cases hf : k ∈ c.fz
      · exact ⟨.inr ⟨k, hf, _, hk, hn, rfl⟩, hsame⟩
      · exact ⟨.inl (other k _ hk (by rw [hD]; simp) hf hn).1, hsame⟩
  | false =>
    rw [hdry] at he
    dsimp only [cond] at he
    generalize hKd : tgtKeys c.D dst t.bs.length = K at he
    cases hb : (nodupB K && decide (K.length = t.bs.length)) with
    | false => rw [hb] at he; cases he
    | true =>
      rw [hb] at he
      obtain rfl := Option.some.inj he
      simp only [Bool.and_eq_true, decide_eq_true_eq] at hb
      obtain ⟨hKn, hKl⟩ := hb
      have hKn := nodupB_spec hKn
      have hKD : ∀ i k, c.D[i]? = some k → K[i]? = some k := fun i k hk => by
        rw [← hKd]; unfold tgtKeys
        rw [List.getElem?_append_left]
        · exact hk
        · rcases Nat.lt_or_ge i c.D.length with q | q
          · exact q
          · rw [List.getElem?_eq_none q] at hk; cases hk
      have hDK : ∀ k ∈ c.D, k ∈ K := fun k hk => by rw [← hKd]; exact List.mem_append_left _ hk
      let gi := tgtGen hp K c.D.length g t.bs
      let φ := retφ hp K c.D.length g t.bs
      let hp1 := hov (dropW c.fz) hp
      have hp1eq : hp1 = hdrop hp c.fz := hov_dropW c.fz hp
      obtain ⟨k1, k2⟩ := retW_hov φ gi hp1 K t.bs 0 hKl hKn
      let hp' := hov (retW φ gi 0 K t.bs) hp1
      have hwr : hov (retW φ gi 0 K t.bs ++ dropW c.fz) hp = hp' := hov_app _ _ _
      rw [hwr]
      have kAt : ∀ k, k ∈ K → ∃ i, idx k K = some i := fun k hk => idx_at hk
      let β' : Nat → Place := fun k => match idx k K with | some i => β1 i | none => β k
      let used' : Nat → Nat → Prop := fun k g' => used k g' ∨ ∃ i, K[i]? = some k ∧ i < t.bs.length ∧ g' = gi i
      have β'K : ∀ i k, K[i]? = some k → β' k = β1 i := fun i k hk => by
        obtain ⟨j, hj⟩ := idx_at (List.mem_of_getElem? hk)
        have : j = i := nodup_idx hKn (idx_some hj) hk
        subst this
        show (match idx k K with | some i => β1 i | none => β k) = _
        rw [hj]
      have β'o : ∀ k, k ∉ K → β' k = β k := fun k hk => by
        show (match idx k K with | some i => β1 i | none => β k) = _
        cases hi : idx k K with
        | none => rfl
        | some i => exact absurd (List.mem_of_getElem? (idx_some hi)) hk
      have bsAt : ∀ i k, K[i]? = some k → ∃ x, t.bs[i]? = some x ∧ i < t.bs.length := fun i k hk => by
        have : i < K.length := by
          rcases Nat.lt_or_ge i K.length with q | q
          · exact q
          · rw [List.getElem?_eq_none q] at hk; cases hk
        exact ⟨t.bs[i]'(by omega), by rw [List.getElem?_eq_getElem], by omega⟩
      -- the two kinds of keys
      have hpK : ∀ k x, hp' k = some x → (∃ i y, K[i]? = some k ∧ t.bs[i]? = some y ∧ i < t.bs.length ∧ x = (gi i, y.2.ren φ)) ∨ (k ∉ K ∧ k ∉ c.fz ∧ hp k = some x) := fun k x hk => by
        by_cases hm : k ∈ K
        · left
          obtain ⟨i, hi⟩ := kAt k hm
          obtain ⟨y, hy, hlt⟩ := bsAt i k (idx_some hi)
          have := k1 i k y (idx_some hi) hy
          rw [Nat.zero_add] at this
          refine ⟨i, y, idx_some hi, hy, hlt, ?_⟩
          exact Option.some.inj (hk.symm.trans this)
        · right
          have := k2 k hm
          have hk1 : hp1 k = some x := this.symm.trans hk
          rw [hp1eq] at hk1
          unfold hdrop at hk1
          split at hk1
          · cases hk1
          · rename_i q; exact ⟨hm, by simpa using q, hk1⟩
      -- an old stamp under a target key
      have giOld : ∀ i k, K[i]? = some k → i < t.bs.length → (gi i = g) ∨ (∃ b, c.D[i]? = some k ∧ hp k = some (gi i, b) ∧ β1 i = β k) := fun i k hk hlt => by
        show (tgtGen hp K c.D.length g t.bs i = g) ∨ (∃ b, c.D[i]? = some k ∧ hp k = some (tgtGen hp K c.D.length g t.bs i, b) ∧ β1 i = β k)
        unfold tgtGen
        cases hq : (decide (i < c.D.length) && (t.bs.getD i default).1) with
        | false => exact .inl rfl
        | true =>
          right
          simp only [Bool.and_eq_true, decide_eq_true_eq] at hq
          have hDi : c.D[i]? = some (c.D[i]'hq.1) := List.getElem?_eq_getElem hq.1
          have := hKD i _ hDi
          rw [hk] at this
          obtain rfl := Option.some.inj this
          obtain ⟨⟨g0, b0⟩, hx⟩ := hlive _ (List.getElem_mem hq.1)
          have hKg : K.getD i 0 = c.D[i]'hq.1 := by rw [List.getD_eq_getElem?_getD, hk]; rfl
          refine ⟨b0, hDi, by simp only [cond_true, hKg, genAt, hx], ?_⟩
          have hbi : t.bs[i]? = some (t.bs[i]'hlt) := List.getElem?_eq_getElem hlt
          have hflag : (t.bs[i]'hlt).1 = true := by have := hq.2; rwa [List.getD_eq_getElem?_getD, hbi] at this
          have := hr.pl i _ (by omega) hbi hflag
          rw [this]
          show β (c.D.getD i 0) = _
          rw [List.getD_eq_getElem?_getD, hDi]; rfl
      have hro : ∀ b o u, ¬ S b → w.cell? ⟨b, o, none⟩ = some u → ¬ S1 b ∧ w'.cell? ⟨b, o, none⟩ = some u := fun b o u hs hc =>
        ⟨fun q => (S1cases b q).elim (fun y => by have := cell_lt hc; omega) fun y => hs y.1, cellKeep b o u (fun q => hs (X1S b q).1) hc⟩
      have hlv : ∀ k g' b, hp' k = some (g', b) → used k g' → (∃ b', hp k = some (g', b')) ∧ β' k = β k := fun k g' b hk hu => by
        rcases hpK k _ hk with ⟨i, y, q1, q2, q3, q4⟩ | ⟨q1, q2, q3⟩
        · obtain ⟨rfl, _⟩ := Prod.mk.inj q4
          rcases giOld i k q1 q3 with z | ⟨b0, _, z2, z3⟩
          · rw [z] at hu; exact absurd (h.us _ _ hu) hg
          · exact ⟨⟨b0, z2⟩, (β'K i k q1).trans z3⟩
        · exact ⟨⟨b, q3⟩, β'o k q1⟩
      have l : (mkEnv C S β used hp w).le (mkEnv C S1 β' used' hp' w') := mkEnv_le hro (fun _ _ => .inl) hlv
      have hren : RenOk (mkEnv (calleeCtx C hp w S β c.D c.fz) S1 β1 (used0 t.bs.length) (hpR t.bs) w') (mkEnv C S1 β' used' hp' w') φ := by
        refine ⟨fun b o u q => q, rfl, rfl, fun i g' hu => ?_⟩
        obtain ⟨hlt, rfl⟩ := hu
        have hKi : K[i]? = some (K[i]'(by omega)) := List.getElem?_eq_getElem (by omega)
        show (match φ i 0 with | .to k' g' => _ | .frz b => _ | .dead => _)
        have hφ : φ i 0 = .to (K[i]'(by omega)) (gi i) := by show retφ hp K c.D.length g t.bs i 0 = _; unfold retφ; rw [hKi]
        rw [hφ]
        refine ⟨.inr ⟨i, hKi, hlt, rfl⟩, fun p hp2 => ?_⟩
        obtain ⟨b, _, rfl⟩ := mkEnv_lv hp2
        rw [β'K i _ hKi]
        have : hpR t.bs i = some (0, (t.bs[i]'hlt).2) := by simp [hpR, hlt]
        exact mkEnv_lv_of this
      have hch := h.change (U' := Or1 U g) (hp' := hp') (w' := w') (S' := S1) (β' := β') (used' := used') keptC hro (fun _ _ => .inl) hlv s1lt keep1 ?_ ?_ ?_ ?_
      · exact ⟨S1, β', used', hch.1, l, hr.val.ren hren⟩
      · rintro k g' (hu | ⟨i, hi, hlt, rfl⟩)
        · exact .inl (h.us _ _ hu)
        · rcases giOld i k hi hlt with z | ⟨b0, _, z2, _⟩
          · exact .inr z
          · exact .inl (h.us _ _ (h.at_ k _ _ z2).1)
      · intro k g' b hk
        rcases hpK k _ hk with ⟨i, y, q1, q2, q3, q4⟩ | ⟨q1, q2, q3⟩
        · right
          obtain ⟨rfl, rfl⟩ := Prod.mk.inj q4
          rw [β'K i k q1]
          obtain ⟨z1, z2⟩ := hr.at_ i y q2
          refine ⟨.inr ⟨i, q1, q3, rfl⟩, fun hn => ⟨(z1 hn).1, ?_⟩, z2.ren hren⟩
          rcases (z1 hn).2 with y | y
          · exact .inl (Nat.le_trans h.kept.size y)
          · exact (X1S _ y).2
        · left
          refine ⟨q3, β'o k q1, fun hn => other k _ q3 (fun q => q1 (hDK k q)) q2 hn⟩
      · have inD : ∀ i k, K[i]? = some k → i < t.bs.length → (β1 i).isNil = false → ∀ k2 x2, hp k2 = some x2 → k2 ∉ K → (β k2).isNil = false → (β1 i).blk ≠ (β k2).blk := fun i k hi hlt hn k2 x2 h2 hk2 hn2 hbk => by
          obtain ⟨y, hy, _⟩ := bsAt i k hi
          rcases ((hr.at_ i y hy).1 hn).2 with q | ⟨k3, hk3, hn3, hb3⟩
          · have := (h.s _ (blkS k2 x2 h2 hn2).1).1
            have q' : w.heap.size ≤ (β1 i).blk := q
            rw [hbk] at q'; omega
          · obtain ⟨x3, hx3⟩ := hlive k3 hk3
            have := h.inj k3 k2 _ _ hx3 h2 hn3 hn2 (hb3.trans hbk)
            exact hk2 (this ▸ hDK k3 hk3)
        intro k k' x x' h1 h2 n1 n2 hbk
        rcases hpK k _ h1 with ⟨i, y, q1, q2, q3, _⟩ | ⟨q1, q2, q3⟩ <;> rcases hpK k' _ h2 with ⟨i', y', p1, p2, p3, _⟩ | ⟨p1, p2, p3⟩
        · rw [β'K i k q1] at n1 hbk
          rw [β'K i' k' p1] at n2 hbk
          have := hr.inj i i' q3 p3 n1 n2 hbk
          subst this
          exact Option.some.inj (q1.symm.trans p1)
        · rw [β'K i k q1] at n1 hbk
          rw [β'o k' p1] at n2 hbk
          exact absurd hbk (inD i k q1 q3 n1 k' _ p3 p1 n2)
        · rw [β'o k q1] at n1 hbk
          rw [β'K i' k' p1] at n2 hbk
          exact absurd hbk.symm (inD i' k' p1 p3 n2 k _ q3 q1 n1)
        · rw [β'o k q1] at n1 hbk
          rw [β'o k' p1] at n2 hbk
          exact h.inj k k' _ _ q3 p3 n1 n2 hbk
      · intro k b hk
        rcases hpK k _ hk with ⟨i, y, q1, q2, q3, q4⟩ | ⟨q1, q2, q3⟩
        · obtain ⟨e0, _⟩ := Prod.mk.inj q4
          rcases giOld i k q1 q3 with z | ⟨b0, _, z2, z3⟩
          · exact absurd (e0.trans z).symm hg0
          · rw [β'K i k q1, z3]
            rw [← e0] at z2
            exact h.pl k b0 z2
        · rw [β'o k q1]; exact h.pl k b q3
end
end Go.AM
namespace Go.AM
open Go.RowKit
theorem contKeys_congr {hg hg' : HF} : ∀ {D : List Nat}, (∀ k ∈ D, hg k = hg' k) → contKeys hg D = contKeys hg' D
  | [], _ => rfl
  | k :: r, h => by simp only [contKeys]; rw [h k (by simp), contKeys_congr fun k' hk => h k' (by simp [hk])]
theorem mem_dedup {k : Nat} : ∀ {l : List Nat}, k ∈ dedup l ↔ k ∈ l
  | [] => by simp [dedup]
  | x :: r => by
    simp only [dedup]
    cases h : (dedup r).contains x with
    | true =>
      have hx : x ∈ r := mem_dedup.1 (by simpa using h)
      simp only [cond_true, List.mem_cons]
      rw [mem_dedup]
      exact ⟨.inr, fun q => q.elim (fun e => e ▸ hx) id⟩
    | false => simp only [cond_false, List.mem_cons, mem_dedup]
theorem extKeys_congr {hg hg' : HF} {raw : Bool} {args : List AV} (h : ∀ k ∈ extKeys hg raw args, hg k = hg' k) : extKeys hg' raw args = extKeys hg raw args := by
  unfold extKeys at h ⊢
  generalize keysL raw args = D at h ⊢
  cases D with
  | nil => rfl
  | cons d r =>
    dsimp only at h ⊢
    rw [contKeys_congr (hg := hg') (hg' := hg) (D := d :: r) fun k hk => (h k (mem_dedup.2 (List.mem_append_left _ (List.mem_append_left _ hk)))).symm,
      contKeys_congr (hg := hg') (hg' := hg) (D := (d :: r) ++ contKeys hg (d :: r)) fun k hk => (h k (mem_dedup.2 (List.mem_append_left _ hk))).symm]
theorem extBlks_congr {hg hg' : HF} {φ φ' : Nat → Nat → Tgt} (hφ : φ = φ') : ∀ {D : List Nat}, (∀ k ∈ D, hg k = hg' k) → extBlks hg φ D = extBlks hg' φ' D
  | [], _ => rfl
  | k :: r, h => by simp only [extBlks]; rw [h k (by simp), extBlks_congr hφ fun k' hk => h k' (by simp [hk]), hφ]
theorem idx_none_of {k : Nat} {D : List Nat} (h : k ∉ D) : idx k D = none := by
  cases hq : idx k D with
  | none => rfl
  | some i => exact absurd (List.mem_of_getElem? (idx_some hq)) h
theorem argφ_congr {hg hg' : HF} {D fz : List Nat} (h : ∀ k ∈ fz ++ D, hg k = hg' k) : argφ hg D fz = argφ hg' D fz := by
  funext k g
  by_cases hk : k ∈ fz ++ D
  · unfold argφ; rw [h k hk]
  · simp only [List.mem_append, not_or] at hk
    have dead : ∀ f : HF, argφ f D fz k g = .dead := fun f => by
      unfold argφ
      have hc : fz.contains k = false := by simpa using hk.1
      cases f k with
      | none => rfl
      | some x =>
        obtain ⟨g', b⟩ := x
        simp only [idx_none_of hk.2, hc, Bool.false_and, cond_false, ite_self]
    rw [dead, dead]
theorem callIn_congr {hg hg' : HF} {raw : Bool} {args : List AV} {c : CIn} (hc : callIn hg raw args = some c) (h : ∀ k ∈ c.fz ++ c.D, hg k = hg' k) : callIn hg' raw args = some c := by
  unfold callIn at hc ⊢
  split
  · rename_i hk; rw [hk] at hc; exact hc
  · rename_i K hK
    split at hc
    · rename_i hk; exact absurd hk hK
    · obtain ⟨bs, hb, rfl⟩ := map_some hc
      dsimp only at h ⊢
      rw [extKeys_congr (hg := hg) (hg' := hg') fun k hk => h k (List.mem_append_right _ hk)]
      rw [← argφ_congr h, ← extBlks_congr (hg := hg) rfl fun k hk => h k (List.mem_append_right _ hk), hb]
      rfl
theorem callOut_congr {hg hg' : HF} {c : CIn} {g dst : Nat} {t : Ret} {e : Eff} (he : callOut hg c g dst t = some e) (h : ∀ k ∈ c.fz ++ c.D, hg k = hg' k) : callOut hg' c g dst t = some e := by
  have hg1 : ∀ i, tgtGen hg (tgtKeys c.D dst t.bs.length) c.D.length g t.bs i = tgtGen hg' (tgtKeys c.D dst t.bs.length) c.D.length g t.bs i := fun i => by
    unfold tgtGen
    cases hq : (decide (i < c.D.length) && (t.bs.getD i default).1) with
    | false => rfl
    | true =>
      simp only [Bool.and_eq_true, decide_eq_true_eq] at hq
      simp only [cond_true]
      have : (tgtKeys c.D dst t.bs.length).getD i 0 = c.D[i]'hq.1 := by
        unfold tgtKeys
        rw [List.getD_eq_getElem?_getD, List.getElem?_append_left hq.1, List.getElem?_eq_getElem hq.1]; rfl
      rw [this]
      unfold genAt
      rw [h _ (List.mem_append_right _ (List.getElem_mem _))]
  have hg2 : tgtGen hg (tgtKeys c.D dst t.bs.length) c.D.length g t.bs = tgtGen hg' (tgtKeys c.D dst t.bs.length) c.D.length g t.bs := funext hg1
  have hg3 : retφ hg (tgtKeys c.D dst t.bs.length) c.D.length g t.bs = retφ hg' (tgtKeys c.D dst t.bs.length) c.D.length g t.bs := by
    funext i x; unfold retφ; rw [hg1]
  unfold callOut at he ⊢
  dsimp only at he ⊢
  rw [← hg2, ← hg3]; exact he
theorem callOut_rd {hg : HF} {c : CIn} {g dst : Nat} {t : Ret} {e : Eff} (he : callOut hg c g dst t = some e) : e.rd = c.fz ++ c.D := by
  unfold callOut at he
  cases h1 : (t.bs.isEmpty && t.r.dry) with
  | true => rw [h1] at he; obtain rfl := Option.some.inj he; rfl
  | false =>
    rw [h1] at he
    dsimp only [cond] at he
    split at he
    · obtain rfl := Option.some.inj he; rfl
    · cases he
def dstOk (n : Nat) : Option Nat → Bool
  | none => true
  | some d => decide (d < n)
def compGuard (ops : Array Oper) : Option (Nat × Bool) → Option (Option (Nat × Bool))
  | none => some none
  | some (j, w) => match (ops[j]?).bind (·.dst) with
    | some t => some (some (t, w))
    | none => none
def afterOf (o : Oper) : List Nat := (o.after.toList.filter fun e => Region.binds .any e).map (·.on)
def compOper (P : Program) (N : Nums) (n : Nat) (ops : Array Oper) (i : Nat) (o : Oper) : Option AOper :=
  match compOp P N o, compGuard ops o.guard with
  | some op, some gd => if dstOk n o.dst = true ∧ (afterOf o).all (fun j => decide (j < i)) = true then some { dst := o.dst, op := op, guard := gd, after := afterOf o } else none
  | _, _ => none
def compOpers (P : Program) (N : Nums) (n : Nat) (ops : Array Oper) : Nat → List Oper → Option (List AOper)
  | _, [] => some []
  | i, o :: r => match compOper P N n ops i o, compOpers P N n ops (i + 1) r with
    | some a, some l => some (a :: l)
    | _, _ => none
def apartB (x y : AOper) : Bool :=
  (match x.dst with | some t => !(looks y).contains t && y.dst != some t | none => true) && (match y.dst with | some t => !(looks x).contains t | none => true)
def regOk : Nat → List AOper → Bool
  | _, [] => true
  | k, o :: r => r.all (fun o' => o'.after.contains k || apartB o o') && regOk (k + 1) r
def closeL (acc : List (List Nat)) : List AOper → List AOper
  | [] => []
  | o :: r => { o with after := dedup (o.after ++ o.after.flatMap fun k => acc.getD k []) } :: closeL (acc ++ [dedup (o.after ++ o.after.flatMap fun k => acc.getD k [])]) r
def memOp : AOp → Bool
  | .mv _ | .pick .. | .build .. | .fadr .. | .fval .. | .bin .. | .eqb .. | .eqn .. | .eqs .. | .un .. | .conv .. | .ext .. | .lenc .. | .minmax .. | .istr .. | .slstr .. | .mkfn .. | .s2s _ | .nilck _ | .iarr .. | .ival .. => false
  | _ => true
def memAt (l : List AOper) (j : Nat) : Bool := match l[j]? with
  | some o => memOp o.op
  | none => true
def thin (draw : Bool) (l : List AOper) : List AOper := bif draw then l.map (fun o => { o with after := bif memOp o.op then o.after.filter (fun j => memAt l j) else [] }) else l.map fun o => { o with after := [] }
def compCode (P : Program) (N : Nums) (n : Nat) : Code → Option ACode
  | .skip => some .skip
  | .region _ ops draw => match compOpers P N n ops 0 ops.toList with
    | some l => if draw = true → regOk 0 (closeL [] l) = true then some (.region (thin draw (closeL [] l)) draw) else none
    | none => none
  | .seq a b => match compCode P N n a, compCode P N n b with
    | some a, some b => some (.seq a b)
    | _, _ => none
  | .cond c a b => match compOpd N c, compCode P N n a, compCode P N n b with
    | some c, some a, some b => some (.cond c a b)
    | _, _, _ => none
  | .block id b => (compCode P N n b).map (.block id)
  | .loop b => (compCode P N n b).map .loop
  | .scope b => (compCode P N n b).map .scope
  | .exit id => some (.exit id)
  | .ret => some .ret
  | .label _ => some .skip
  | _ => none
def compRes (P : Program) : ResultVar → Option RVar
  | .tmp t => some (.t t)
  | .cell a t => match tAgg P t with
    | some sz => if sz ≠ some 0 then some (.cell a sz) else none
    | none => none
def compFun (P : Program) (N : Nums) (raw : Bool) (fn : Func) : Option AFunc :=
  match fn.body with
  | some c => match compCode P N fn.ntmps c, mapO (compRes P) fn.results.toList with
    | some b, some rs => if fn.params.size + fn.nfree ≤ fn.ntmps ∧ fn.name ≠ "runtime.NumGoroutine" then some { n := fn.ntmps, np := fn.params.size + fn.nfree, raw := raw, results := rs, body := b } else none
    | _, _ => none
  | none => none
section
variable {P : Program} {C : Ctx} {N : Nums}
theorem evF_congr {F F' : FSt} {ao : AOper} (h : ∀ t ∈ looks ao, F'.tm t = F.tm t) : ao.op.opds.map (evF F') = ao.op.opds.map (evF F) := by
  apply List.map_congr_left
  intro x hx
  cases x with
  | c v => rfl
  | t n => exact h n (List.mem_append_left _ (List.mem_filterMap.2 ⟨.t n, hx, rfl⟩))
theorem at_opd {U : Nat → Prop} {F : FSt} {a : Act} {w : World} {S : Nat → Prop} {β : Nat → Place} {used : Nat → Nat → Prop} (h : RelC C U F a w S β used) (hn : NumOk N C) (x : Operand) (y : Opd) (hx : compOpd N x = some y) : V (mkEnv C S β used F.hp w) (a.eval x) (evF F y) := by
  cases x with
  | tmp t => obtain rfl : Opd.t t = y := by simpa [compOpd] using hx
             exact h.tm t
  | const v =>
    simp only [compOpd] at hx
    obtain ⟨av, h1, rfl⟩ := map_some hx
    exact V_ofV h1
  | func f =>
    simp only [compOpd] at hx
    split at hx
    · rename_i hf
      obtain rfl := Option.some.inj hx
      have := V.fn (E := mkEnv C S β used F.hp w) (N.fid f) #[] [] rfl (fun i hi => by simp at hi)
      have e : (mkEnv C S β used F.hp w).num (N.fid f) = f := by show C.num _ = f; rw [hn.1]; exact hf
      rw [e] at this; exact this
    · cases hx
  | global g =>
    simp only [compOpd] at hx
    split at hx
    · rename_i cs hg
      split at hx
      · rename_i hp
        obtain rfl := Option.some.inj hx
        exact hn.2.1.at_hi h.hi hg hp
      · cases hx
    · cases hx
theorem does_op {ops : Array Oper} {i g : Nat} {o : Oper} {ao : AOper} (hr : OpRel P N C.n ops i o ao) (hn : NumOk N C) (ht : C.tnum = N.tnum) (hcall : ∀ f args, ao.op ≠ .call f args) (hg0 : g ≠ 0) {key : Nat} {e : Eff} {F : FSt}
    (he : aopV ao.op g key (ao.op.opds.map (evF F)) F.hp = some e) : Does P C o g ao.dst e F := by
  intro U a w K Q hg hR hK
  obtain ⟨S, β, used, hRC⟩ := hR
  have hs : Sit P C U F.hp w S β used g N a.eval (evF F) := ⟨hRC.hi, hn.1, ht, fun x y hx => at_opd hRC hn x y hx, hg, hg0⟩
  obtain ⟨v, w', hrun, S', β', used', q1, q2, q3⟩ := op_ok hs hr.op hcall he
  have hstep := hRC.step q1 q2 ao.dst (fun d hd => hr.bd d (by rw [← hr.dst]; exact hd)) q3
  have hk := hK _ w' ⟨S', β', used', hstep⟩
  unfold Oper.wp
  rw [hr.dst] at hk
  rcases hrun with h | ⟨h, rfl⟩ <;> rw [h]
  · exact hk
  · exact hk
theorem compOp_call {o : Oper} {fo : Opd} {args : List Opd} (h : compOp P N o = some (.call fo args)) :
    ∃ cf cargs tys, o.op = .call { callee := .value cf, args := cargs, argTypes := tys } ∧ compOpd N cf = some fo ∧ mapO (compOpd N) cargs.toList = some args := by
  cases ho : o.op with
  | call c =>
    obtain ⟨callee, cargs, tys⟩ := c
    cases callee with
    | value f =>
      simp only [compOp, ho] at h
      split at h
      · rename_i f' xs h1 h2
        obtain ⟨rfl, rfl⟩ : f' = fo ∧ xs = args := by have := Option.some.inj h; cases this; exact ⟨rfl, rfl⟩
        exact ⟨f, cargs, tys, rfl, h1, h2⟩
      · cases h
    | invoke r m => simp [compOp, ho] at h
    | builtin b =>
      exfalso
      simp only [compOp, ho] at h
      (repeat' split at h) <;> first | (cases h; done) | (obtain ⟨_, _, q⟩ := map_some h; cases q; done) | (have q := Option.some.inj h; cases q; done)
  | binOp op t x y t' =>
    exfalso
    simp only [compOp, ho] at h
    split at h
    · cases op <;> dsimp only at h
      case eql | neq =>
        unfold compEq at h
        (repeat' split at h) <;> first | (cases h; done) | (obtain ⟨_, _, q⟩ := map_some h; cases q; done) | (have q := Option.some.inj h; cases q; done)
      all_goals (have q := Option.some.inj h; cases q)
    · cases h
  | makeFunc fn first cap =>
    exfalso
    cases fn <;> simp only [compOp, ho] at h <;> first | (cases h; done) | skip
    split at h
    · obtain ⟨_, _, q⟩ := map_some h; cases q
    · cases h
  | _ =>
    exfalso
    simp only [compOp, ho] at h
    first
    | (cases h; done)
    | (obtain ⟨_, _, q⟩ := map_some h; cases q; done)
    | ((repeat' split at h) <;> first | (cases h; done) | (obtain ⟨_, _, q⟩ := map_some h; cases q; done) | (have q := Option.some.inj h; cases q; done) | (simp at h; done))
theorem does_call {ops : Array Oper} {i g : Nat} {o : Oper} {ao : AOper} {fo : Opd} {args : List Opd} (hr : OpRel P N C.n ops i o ao) (hn : NumOk N C) (ht : C.tnum = N.tnum) (hop : ao.op = .call fo args) (hg0 : g ≠ 0) {F : FSt} {f : Nat} {cap : List AV} (hf : evF F fo = .fn f cap)
    {raw : Bool} {c : CIn} (hc : callIn F.hp raw (args.map (evF F) ++ cap) = some c) {t : Ret} (hsem : FSem P N f c.args c.bs t) {fn : Func} (hfn : P.funcs[N.num f]? = some fn) (hb : fn.body.isSome = true) (hname : fn.name ≠ "runtime.NumGoroutine")
    {dst : Nat} {e : Eff} (he : callOut F.hp c g dst t = some e) : Does P C o g ao.dst e F := by
  intro U a w K Q hg hR hK
  obtain ⟨S, β, used, hRC⟩ := hR
  have hcomp := hr.op
  rw [hop] at hcomp
  -- the machine's operation
  obtain ⟨cf, cargs, tys, hoc, h1, h2⟩ : ∃ cf cargs tys, o.op = .call { callee := .value cf, args := cargs, argTypes := tys } ∧ compOpd N cf = some fo ∧ mapO (compOpd N) cargs.toList = some args := compOp_call hcomp
  have hs : Sit P C U F.hp w S β used g N a.eval (evF F) := ⟨hRC.hi, hn.1, ht, fun x y hx => at_opd hRC hn x y hx, hg, hg0⟩
  have vf := hs.at_ cf fo h1
  rw [hf] at vf
  obtain ⟨cs, e1, e2, e3⟩ := vf.fn_inv
  obtain ⟨l1, l2⟩ := hs.list _ _ h2
  have hnum : (mkEnv C S β used F.hp w).num f = N.num f := by show C.num f = _; rw [hn.1]
  rw [hnum] at e1
  have hbn : fn.body.isNone = false := by
    cases hq : fn.body with
    | none => rw [hq] at hb; cases hb
    | some _ => rfl
  have hrun : (execOp a.eval o).run P w = .ok (.enter (N.num f) (cargs.map a.eval ++ cs)) w := by
    have hnone : fn.body ≠ none := by rintro q; rw [q] at hb; cases hb
    simp [execOp, hoc, resolve, e1, Deferred.ofValue, invoke, callFunc, hfn, hname, hnone]
  have hargsz : (cargs.map a.eval ++ cs).size = (args.map (evF F) ++ cap).length := by simp [e2]; simpa using l1
  have hv : ∀ i, i < (args.map (evF F) ++ cap).length → V (mkEnv C S β used F.hp w) ((cargs.map a.eval ++ cs).getD i undef) ((args.map (evF F) ++ cap).getD i .any) := fun i hi => by
    have hl : cargs.size = args.length := by simpa using l1
    by_cases q : i < args.length
    · have := l2 i q
      have a1 : (cargs.map a.eval ++ cs).getD i undef = (cargs.toList.map a.eval).getD i undef := by
        simp only [Array.getD_eq_getD_getElem?, List.getD_eq_getElem?_getD, Array.getElem?_append, Array.size_map, hl, if_pos q]; simp
      have a2 : (args.map (evF F) ++ cap).getD i .any = (args.map (evF F)).getD i .any := by
        simp only [List.getD_eq_getElem?_getD]; rw [List.getElem?_append_left (by simpa using q)]
      rw [a1, a2]; exact this
    · have hi' : i - args.length < cap.length := by simp at hi; omega
      have := e3 (i - args.length) hi'
      have a1 : (cargs.map a.eval ++ cs).getD i undef = cs.getD (i - args.length) undef := by
        simp only [Array.getD_eq_getD_getElem?, Array.getElem?_append, Array.size_map, hl, if_neg q]
      have a2 : (args.map (evF F) ++ cap).getD i .any = cap.getD (i - args.length) .any := by
        simp only [List.getD_eq_getElem?_getD]; rw [List.getElem?_append_right (by simpa using q)]; simp
      rw [a1, a2]; exact this
  obtain ⟨hent, d1, d2, d3, d4⟩ := callIn_ok hRC.hi hn ht hargsz hv hc
  have hcalls := hsem _ _ hent
  unfold Oper.wp
  rw [hrun]
  show Calls P (N.num f) (cargs.map a.eval ++ cs) w _
  refine hcalls.mono ?_
  rintro e' w' ⟨v, rfl, S1, β1, hret⟩
  obtain ⟨S', β', used', q1, q2, q3⟩ := callOut_ok hRC.hi hg hg0 d1 d2 d3 d4 hret he
  have hstep := hRC.step q1 q2 ao.dst (fun d hd => hr.bd d (by rw [← hr.dst]; exact hd)) q3
  have hk := hK _ w' ⟨S', β', used', hstep⟩
  rw [hr.dst] at hk
  exact hk
end
end Go.AM
namespace Go.AM
open Go.RowKit
def OkS (after : List Nat) (e : Eff) : List DnE → Prop
  | [] => True
  | (j, rd, wk, sf) :: r => (after.contains j = true ∨ (meet wk e.rd = false ∧ meet wk (wks e.wr) = false ∧ ∀ k ∈ wks e.wr, k ∈ rd → ∀ f, Sft sf k (hov e.wr f k))) ∧ OkS after e r
theorem OkS.of {after : List Nat} {e : Eff} : ∀ {dn : List DnE}, okWith after e dn = true → OkS after e dn
  | [], _ => trivial
  | (j, rd, wk, sf) :: r, h => by
    simp only [okWith, Bool.and_eq_true, Bool.or_eq_true, Bool.not_eq_true'] at h
    refine ⟨?_, OkS.of h.2⟩
    rcases h.1 with q | ⟨⟨q1, q2⟩, q3⟩
    · exact .inl q
    · refine .inr ⟨q1, q2, fun k hk hr => ?_⟩
      exfalso
      have : meet (wks e.wr) rd = true := by unfold meet; rw [List.any_eq_true]; exact ⟨k, hk, by simpa using hr⟩
      rw [this] at q3; cases q3
def RegOut (G : Nat → Fun) (Q : (Cfg → Option Ret) → Prop) (draw : Bool) : List AOper → Nat → List DnE → AS → List (Option Eff) → AS → Prop
  | [], _, _, A, [], A' => A' = A
  | o :: r, i, dn, A, none :: es, A' => wantedA A.tm o.guard = some false ∧ RegOut G Q draw r (i + 1) dn (A.put o.dst skipV) es A'
  | o :: r, i, dn, A, some e :: es, A' => wantedA A.tm o.guard = some true ∧ (∃ ih, Q ih ∧ effOf G ih o (A.ctr + i) A = some e) ∧ (draw = true → OkS o.after e dn) ∧ RegOut G Q draw r (i + 1) (dnPut i e dn) (A.app o.dst e) es A'
  | _, _, _, _, _, _ => False
def Wk0 (A A' : AS) : Prop := A'.ctr = A.ctr ∧ ∀ C U a w, Rel C U A.fs a w → Rel C U A'.fs a w
theorem Wk0.refl (A : AS) : Wk0 A A := ⟨rfl, fun _ _ _ _ h => h⟩
theorem Wk0.trans {A B D : AS} (h : Wk0 A B) (k : Wk0 B D) : Wk0 A D := ⟨k.1.trans h.1, fun C U a w r => k.2 C U a w (h.2 C U a w r)⟩
def RegSeq (G : Nat → Fun) (Q : (Cfg → Option Ret) → Prop) : List AOper → Nat → AS → AS → Prop
  | [], _, A, A' => Wk0 A A'
  | o :: r, i, A, A' => ∃ A1, Wk0 A A1 ∧ ((wantedA A1.tm o.guard = some false ∧ RegSeq G Q r (i + 1) (A1.put o.dst skipV) A') ∨
      ∃ A2 e, Wk0 A1 A2 ∧ wantedA A1.tm o.guard = some true ∧ (∃ ih, Q ih ∧ effOf G ih o (A.ctr + i) A2 = some e) ∧ RegSeq G Q r (i + 1) (A2.app o.dst e) A')
theorem RegSeq.pre {G : Nat → Fun} {Q : (Cfg → Option Ret) → Prop} {l : List AOper} {i : Nat} {A B A' : AS} (h : Wk0 A B) (k : RegSeq G Q l i B A') : RegSeq G Q l i A A' := by
  cases l with
  | nil => exact h.trans k
  | cons o r =>
    obtain ⟨A1, h1, h2⟩ := k
    rw [h.1] at h2
    exact ⟨A1, h.trans h1, h2⟩
theorem AS.put_ctr (A : AS) (d : Option Nat) (v : AV) : (A.put d v).ctr = A.ctr := by cases d <;> rfl
theorem AS.app_ctr (A : AS) (d : Option Nat) (e : Eff) : (A.app d e).ctr = A.ctr := by cases d <;> rfl
def notReg : List AItem → Bool
  | .inReg _ _ _ _ :: _ => false
  | _ => true
def Wk (A A' : AS) : Prop := ∀ C a w, 0 < A.ctr → Rel C (fun g => g < A.ctr) A.fs a w → Rel C (fun g => g < A'.ctr) A'.fs a w
inductive Ev (G : Nat → Fun) : Cfg → Ret → Prop
  | step {c : Cfg} {t : Ret} (ih : Cfg → Option Ret) (hih : ∀ c t, ih c = some t → Ev G c t) (h : stepR G ih c = some t) : Ev G c t
  | weakR {rest : List AOper} {i : Nat} {dn : List DnE} {k : List AItem} {A A' : AS} {rs : List RVar} {m : Nat} {t : Ret} (hw : Wk0 A A') (h : Ev G ⟨.inReg rest i dn false :: k, A', rs, m⟩ t) : Ev G ⟨.inReg rest i dn false :: k, A, rs, m⟩ t
  | opS {o : AOper} {rest : List AOper} {i : Nat} {dn : List DnE} {k : List AItem} {A : AS} {rs : List RVar} {m : Nat} {t : Ret} {e : Eff} (ih : Cfg → Option Ret) (hih : ∀ c t, ih c = some t → Ev G c t) (hw : wantedA A.tm o.guard = some true) (he : effOf G ih o (A.ctr + i) A = some e)
      (h : Ev G ⟨.inReg rest (i + 1) dn false :: k, A.app o.dst e, rs, m⟩ t) : Ev G ⟨.inReg (o :: rest) i dn false :: k, A, rs, m⟩ t
  | opD {o : AOper} {rest : List AOper} {i : Nat} {dn : List DnE} {k : List AItem} {A : AS} {rs : List RVar} {m : Nat} {t : Ret} {e : Eff} (ih : Cfg → Option Ret) (hih : ∀ c t, ih c = some t → Ev G c t) (hw : wantedA A.tm o.guard = some true) (he : effOf G ih o (A.ctr + i) A = some e) (hok : OkS o.after e dn)
      (h : Ev G ⟨.inReg rest (i + 1) (dnPut i e dn) true :: k, A.app o.dst e, rs, m⟩ t) : Ev G ⟨.inReg (o :: rest) i dn true :: k, A, rs, m⟩ t
  | weak {todo : List AItem} {A A' : AS} {rs : List RVar} {m : Nat} {t : Ret} (hr : notReg todo = true) (hc : A.ctr ≤ A'.ctr) (hw : Wk A A') (h : Ev G ⟨todo, A', rs, m⟩ t) : Ev G ⟨todo, A, rs, m⟩ t
def Gives (G : Nat → Fun) (f : Nat) (args : List AV) (bs : List Blk) (t : Ret) : Prop :=
  match G f with
  | .code F => args.length = F.np ∧ Ev G (F.start args bs) t
  | .prim _ p => p args bs = some t
  | .none => False
theorem ev_run {G : Nat → Fun} : ∀ (n : Nat) {c : Cfg} {t : Ret}, run G n c = some t → Ev G c t
  | 0, _, _, h => by cases h
  | n + 1, c, t, h => by
    rw [run_succ] at h
    exact .step (run G n) (fun _ _ k => ev_run n k) h
def effsOf (r : List AOper) (es : List (Option Eff)) : Effs := (r.map (·.dst)).zip es
structure OneA (G : Nat → Fun) (Q : (Cfg → Option Ret) → Prop) (c0 i : Nat) (o : AOper) (e : Option Eff) (F : FSt) : Prop where
  none_ : e = none → wantedF F o.guard = some false
  some_ : ∀ x, e = some x → wantedF F o.guard = some true ∧ ∃ ih A, Q ih ∧ A.fs = F ∧ effOf G ih o (c0 + i) A = some x
theorem FL_off : ∀ (es : Effs) (L : Nat → Bool) (k : Nat) (F : FSt), (∀ j, k ≤ j → L j = false) → FL es L k F = F
  | [], _, _, _, _ => rfl
  | (d, e) :: r, L, k, F, h => by simp only [FL]; rw [h k (Nat.le_refl k)]; exact FL_off r L (k + 1) F fun j hj => h j (by omega)
theorem regOut_one {G : Nat → Fun} {Q : (Cfg → Option Ret) → Prop} {draw : Bool} {c0 : Nat} : ∀ (r : List AOper) (i : Nat) (dn : List DnE) (A : AS) (es : List (Option Eff)) (A' : AS), RegOut G Q draw r i dn A es A' → A.ctr = c0 →
    es.length = r.length ∧ (∀ (j : Nat) (o : AOper) (e : Option Eff), r[j]? = some o → es[j]? = some e → OneA G Q c0 (i + j) o e (FL (effsOf r es) (fun x => decide (x < i + j)) i A.fs)) ∧ FL (effsOf r es) (fun _ => true) i A.fs = A'.fs
  | [], i, dn, A, [], A', h, _ => ⟨rfl, fun j o e h => by simp at h, by rw [show A' = A from h]; rfl⟩
  | o :: r, i, dn, A, none :: es, A', h, hc => by
    obtain ⟨h1, h2⟩ := h
    obtain ⟨q1, q2, q3⟩ := regOut_one (c0 := c0) r (i + 1) dn _ es A' h2 (by rw [AS.put_ctr]; exact hc)
    have hz : effsOf (o :: r) (none :: es) = (o.dst, none) :: effsOf r es := rfl
    rw [hz]
    refine ⟨by simp [q1], fun j o' e' ho he => ?_, ?_⟩
    · cases j with
      | zero =>
        obtain rfl : o = o' := by simpa using ho
        obtain rfl : none = e' := by simpa using he
        rw [FL_off _ _ _ _ (fun j hj => by first | (simp; done) | (simp; omega))]
        exact ⟨fun _ => by rw [wantedF_fs]; exact h1, fun x hx => by cases hx⟩
      | succ j =>
        have := q2 j o' e' (by simpa using ho) (by simpa using he)
        simp only [FL]
        rw [show decide (i < i + (j + 1)) = true from by simp, cond_true]
        rw [AS.fs_put] at this
        rw [show i + (j + 1) = i + 1 + j from by omega]
        exact this
    · simp only [FL, cond_true]
      rw [← q3, AS.fs_put]; rfl
  | o :: r, i, dn, A, some e :: es, A', h, hc => by
    obtain ⟨h1, ⟨m, hm, he1⟩, _, h2⟩ := h
    obtain ⟨q1, q2, q3⟩ := regOut_one (c0 := c0) r (i + 1) _ _ es A' h2 (by rw [AS.app_ctr]; exact hc)
    have hz : effsOf (o :: r) (some e :: es) = (o.dst, some e) :: effsOf r es := rfl
    rw [hz]
    refine ⟨by simp [q1], fun j o' e' ho he => ?_, ?_⟩
    · cases j with
      | zero =>
        obtain rfl : o = o' := by simpa using ho
        obtain rfl : some e = e' := by simpa using he
        rw [FL_off _ _ _ _ (fun j hj => by first | (simp; done) | (simp; omega))]
        refine ⟨fun q => (by cases q), fun x hx => ⟨by rw [wantedF_fs]; exact h1, m, A, hm, rfl, ?_⟩⟩
        obtain rfl := Option.some.inj hx
        rw [← hc]; exact he1
      | succ j =>
        have := q2 j o' e' (by simpa using ho) (by simpa using he)
        simp only [FL]
        rw [show decide (i < i + (j + 1)) = true from by simp, cond_true]
        rw [AS.fs_app] at this
        rw [show i + (j + 1) = i + 1 + j from by omega]
        exact this
    · simp only [FL, cond_true]
      rw [← q3, AS.fs_app]; rfl
  | [], _, _, _, _ :: _, _, h, _ => h.elim
  | _ :: _, _, _, _, [], _, h, _ => h.elim
theorem meet_spec {a b : List Nat} (h : meet a b = false) : ∀ k ∈ a, k ∉ b := fun k ha hb => by
  have : meet a b = true := by unfold meet; rw [List.any_eq_true]; exact ⟨k, ha, by simpa using hb⟩
  rw [this] at h; cases h
theorem okS_spec {after : List Nat} {e : Eff} : ∀ {dn : List DnE}, OkS after e dn → ∀ (j : Nat) (rd wk : List Nat) (sf : List (Nat × Nat × Nat × List AV)), (j, rd, wk, sf) ∈ dn → j ∈ after ∨ ((∀ k ∈ wk, k ∉ e.rd ∧ k ∉ wks e.wr) ∧ ∀ k ∈ wks e.wr, k ∉ rd ∨ ∀ f, Sft sf k (hov e.wr f k))
  | [], _, _, _, _, _, h => by cases h
  | (j0, rd0, wk0, sf0) :: r, h, j, rd, wk, sf, hm => by
    rcases List.mem_cons.1 hm with q | q
    · obtain ⟨rfl, rfl, rfl, rfl⟩ : j = j0 ∧ rd = rd0 ∧ wk = wk0 ∧ sf = sf0 := by simpa using q
      rcases h.1 with q | ⟨q1, q2, q3⟩
      · exact .inl (by simpa using q)
      · refine .inr ⟨fun k hk => ⟨meet_spec q1 k hk, meet_spec q2 k hk⟩, fun k hk => ?_⟩
        by_cases hr : k ∈ rd
        · exact .inr (q3 k hk hr)
        · exact .inl hr
    · exact okS_spec h.2 j rd wk sf q
theorem dnPut_mem {i : Nat} {e : Eff} {dn : List DnE} : (∀ x ∈ dn, x ∈ dnPut i e dn) ∧ ((i, e.rd, wks e.wr, e.sf) ∈ dnPut i e dn ∨ (e.rd = [] ∧ wks e.wr = [])) := by
  unfold dnPut
  split
  · rename_i h1 h2; exact ⟨fun x hx => hx, .inr ⟨h1, h2⟩⟩
  · exact ⟨fun x hx => List.mem_cons_of_mem _ hx, .inl (List.mem_cons_self ..)⟩
theorem regOut_pair {G : Nat → Fun} {Q : (Cfg → Option Ret) → Prop} : ∀ (r : List AOper) (i : Nat) (dn : List DnE) (A : AS) (es : List (Option Eff)) (A' : AS), RegOut G Q true r i dn A es A' →
    (∀ (p : Nat) (rd wk : List Nat) (sf : List (Nat × Nat × Nat × List AV)), (p, rd, wk, sf) ∈ dn → ∀ (j : Nat) (o : AOper) (e : Eff), r[j]? = some o → es[j]? = some (some e) → p ∈ o.after ∨ ((∀ k ∈ wk, k ∉ e.rd ∧ k ∉ wks e.wr) ∧ ∀ k ∈ wks e.wr, k ∉ rd ∨ ∀ f, Sft sf k (hov e.wr f k))) ∧
    ∀ (j1 j2 : Nat) (o2 : AOper) (e1 e2 : Option Eff), j1 < j2 → r[j2]? = some o2 → es[j1]? = some e1 → es[j2]? = some e2 → i + j1 ∈ o2.after ∨ hdisj e1 e2
  | [], i, dn, A, [], A', _ => ⟨fun p rd wk sf _ j o e h => by simp at h, fun j1 j2 o2 e1 e2 _ h => by simp at h⟩
  | o :: r, i, dn, A, none :: es, A', h => by
    obtain ⟨_, h2⟩ := h
    obtain ⟨q1, q2⟩ := regOut_pair r (i + 1) dn _ es A' h2
    refine ⟨fun p rd wk sf hp j o' e' ho he => ?_, fun j1 j2 o2 e1 e2 hj ho h1 h3 => ?_⟩
    · cases j with
      | zero => simp at he
      | succ j => exact q1 p rd wk sf hp j o' e' (by simpa using ho) (by simpa using he)
    · cases j2 with
      | zero => omega
      | succ j2 =>
        cases j1 with
        | zero =>
          obtain rfl : none = e1 := by simpa using h1
          exact .inr fun k => ⟨fun q => by simp [wksO] at q, fun _ => .inl (by simp [rdO])⟩
        | succ j1 =>
          have := q2 j1 j2 o2 e1 e2 (by omega) (by simpa using ho) (by simpa using h1) (by simpa using h3)
          rwa [show i + (j1 + 1) = i + 1 + j1 from by omega]
  | o :: r, i, dn, A, some e :: es, A', h => by
    obtain ⟨_, _, hok, h2⟩ := h
    have hok := okS_spec (hok rfl)
    obtain ⟨m1, m2⟩ := dnPut_mem (i := i) (e := e) (dn := dn)
    obtain ⟨q1, q2⟩ := regOut_pair r (i + 1) _ _ es A' h2
    refine ⟨fun p rd wk sf hp j o' e' ho he => ?_, fun j1 j2 o2 e1 e2 hj ho h1 h3 => ?_⟩
    · cases j with
      | zero =>
        obtain rfl : o = o' := by simpa using ho
        obtain rfl : e = e' := by simpa using he
        exact hok p rd wk sf hp
      | succ j => exact q1 p rd wk sf (m1 _ hp) j o' e' (by simpa using ho) (by simpa using he)
    · cases j2 with
      | zero => omega
      | succ j2 =>
        cases j1 with
        | zero =>
          obtain rfl : some e = e1 := by simpa using h1
          cases e2 with
          | none => exact .inr fun k => ⟨fun _ => ⟨by simp [rdO], by simp [wksO]⟩, fun q => by simp [wksO] at q⟩
          | some e2 =>
            rcases m2 with m2 | ⟨m2, m3⟩
            · rcases q1 i e.rd (wks e.wr) e.sf m2 j2 o2 e2 (by simpa using ho) (by simpa using h3) with q | ⟨p1, p2⟩
              · exact .inl (by simpa using q)
              · exact .inr fun k => ⟨fun q => p1 k q, fun q => p2 k q⟩
            · exact .inr fun k => ⟨fun q => by simp [wksO, m3] at q, fun _ => .inl (by simp [rdO, m2])⟩
        | succ j1 =>
          have := q2 j1 j2 o2 e1 e2 (by omega) (by simpa using ho) (by simpa using h1) (by simpa using h3)
          rwa [show i + (j1 + 1) = i + 1 + j1 from by omega]
  | [], _, _, _, _ :: _, _, h => h.elim
  | _ :: _, _, _, _, [], _, h => h.elim
section
variable {P : Program} {C : Ctx} {U : Nat → Prop} {w : World} {S : Nat → Prop} {β : Nat → Place} {used : Nat → Nat → Prop} {N : Nums}
def resSem (tmps : Array Value) : ResultVar → Sem Value
  | .tmp t => pure (tmps.getD t undef)
  | .cell a t => do loadVar t (← asAddr (tmps.getD a undef))
theorem results_eq (fn : Func) (tmps : Array Value) : results fn tmps = (do
    let vs ← fn.results.mapM (resSem tmps)
    pure (if h : vs.size = 1 then vs[0] else .tuple vs)) := by
  unfold results
  congr 1
theorem resL_ok {A : AS} {a : Act} (h : RelC C U A.fs a w S β used) : ∀ (rv : List ResultVar) (rs : List RVar) (l : List AV), mapO (compRes P) rv = some rs → resL A rs = some l →
    ∃ vs : List Value, (rv.mapM (resSem a.tmps)).run P w = .ok vs w ∧ vs.length = l.length ∧ ∀ i, i < l.length → V (mkEnv C S β used (hget A.hp) w) (vs.getD i undef) (l.getD i .any)
  | [], rs, l, h1, h2 => by
    obtain rfl : [] = rs := by simpa [mapO] using h1
    obtain rfl : [] = l := by simpa [resL] using h2
    exact ⟨[], rfl, rfl, fun i hi => by simp at hi⟩
  | v :: rv, rs, l, h1, h2 => by
    obtain ⟨r, rs', q1, q2, rfl⟩ := mapO_cons h1
    simp only [resL] at h2
    cases hr : resOf A r with
    | none => rw [hr] at h2; cases h2
    | some av =>
      cases hl : resL A rs' with
      | none => rw [hr, hl] at h2; cases h2
      | some l' =>
        rw [hr, hl] at h2
        obtain rfl := Option.some.inj h2
        obtain ⟨vs, k1, k2, k3⟩ := resL_ok h rv rs' l' q2 hl
        have one : ∃ x, (resSem a.tmps v).run P w = .ok x w ∧ V (mkEnv C S β used (hget A.hp) w) x av := by
          cases v with
          | tmp t =>
            obtain rfl : RVar.t t = r := by simpa [compRes] using q1
            obtain rfl : tget A.tm t = av := by simpa [resOf] using hr
            exact ⟨_, rfl, h.tm t⟩
          | cell ad t =>
            simp only [compRes] at q1
            split at q1
            · rename_i sz hsz
              split at q1
              · rename_i h0
                obtain rfl := Option.some.inj q1
                simp only [resOf] at hr
                split at hr
                · rename_i cs rr hcs
                  have hne : cs ≠ [] := by
                    rintro rfl
                    cases sz with
                    | none => cases hr
                    | some n =>
                      simp only [pickSz, List.length_nil] at hr
                      split at hr
                      · rename_i q; exact h0 (by rw [Nat.le_zero.1 q])
                      · cases hr
                  have hat := cellsAt_ok h.hi (h.tm ad) hcs hne
                  obtain ⟨u, y1, y2⟩ := pickSz_ok hsz hat hr
                  obtain ⟨b, o, e1, _⟩ := hat.ex
                  refine ⟨u, ?_, y2⟩
                  have y1' : (loadVar t ⟨b, o, none⟩).run P w = .ok u w := by simpa [Instr.loadAt, Instr.sureAddr, e1] using y1
                  simp [resSem, e1, asAddr, y1']
                · cases hr
              · cases q1
            · cases q1
        obtain ⟨x, o1, o2⟩ := one
        refine ⟨x :: vs, ?_, by simp [k2], fun i hi => ?_⟩
        · rw [List.mapM_cons]
          simp only [Sem.run_bind, o1, k1, Result.andThen_ok, Sem.run_pure]
        · cases i with
          | zero => simpa using o2
          | succ i => simpa using k3 i (by simpa using hi)
theorem results_ok {A : AS} {a : Act} (h : RelC C U A.fs a w S β used) {fn : Func} {rs : List RVar} (hrs : mapO (compRes P) fn.results.toList = some rs) {av : AV} (hr : resAV A rs = some av) :
    ∃ v, (results fn a.tmps).run P w = .ok v w ∧ V (mkEnv C S β used (hget A.hp) w) v av := by
  unfold resAV at hr
  cases hl : resL A rs with
  | none => rw [hl] at hr; cases hr
  | some l =>
    obtain ⟨vs, k1, k2, k3⟩ := resL_ok (P := P) h _ rs l hrs hl
    have hrun : (results fn a.tmps).run P w = .ok (if h : vs.toArray.size = 1 then vs.toArray[0] else .tuple vs.toArray) w := by
      rw [results_eq, Array.mapM_eq_mapM_toList]
      simp only [Sem.run_bind, Sem.run_map, k1, Result.andThen_ok, Sem.run_pure]
    rw [hl] at hr
    split at hr
    · rename_i a0 e
      obtain rfl := Option.some.inj e
      obtain rfl := Option.some.inj hr
      match vs, k2 with
      | [x], _ => exact ⟨x, by rw [hrun]; rfl, by simpa using k3 0 (by simp)⟩
    · rename_i l' hne e
      obtain rfl := Option.some.inj e
      obtain rfl := Option.some.inj hr
      have hlen : vs.toArray.size ≠ 1 := by
        intro q
        have : l.length = 1 := by simpa [k2] using q
        obtain ⟨x, hx⟩ := List.length_eq_one_iff.1 this
        exact hne x hx
      refine ⟨.tuple vs.toArray, by rw [hrun, dif_neg hlen], .tup _ _ (by simpa using k2) fun i hi => ?_⟩
      have := k3 i hi
      simpa [Array.getD_eq_getD_getElem?, List.getD_eq_getElem?_getD] using this
    · cases hr
end
end Go.AM
namespace Go.AM
open Go.RowKit
section
variable {P : Program} {C : Ctx} {U : Nat → Prop} {w : World} {S : Nat → Prop} {β : Nat → Place} {used : Nat → Nat → Prop} {N : Nums}
theorem outBlks_ok {hp : Heap} {φ : Nat → Nat → Tgt} {m : Nat} : ∀ {K : List Nat} {bs : List (Bool × Blk)}, outBlks hp φ m K = some bs → bs.length = K.length ∧ ∀ (i k : Nat), K[i]? = some k → ∃ g b, hget hp k = some (g, b) ∧ bs[i]? = some (decide (k < m ∧ g = 0), b.ren φ)
  | [], bs, h => by obtain rfl : [] = bs := by simpa [outBlks] using h
                    exact ⟨rfl, by simp⟩
  | k :: r, bs, h => by
    simp only [outBlks] at h
    split at h
    · rename_i g b bs' h1 h2
      obtain rfl := Option.some.inj h
      obtain ⟨q1, q2⟩ := outBlks_ok h2
      refine ⟨by simp [q1], fun i k' hi => ?_⟩
      cases i with
      | zero => obtain rfl : k = k' := by simpa using hi
                exact ⟨g, b, h1, rfl⟩
      | succ i => simpa using q2 i k' (by simpa using hi)
    · cases h
theorem range_append_at {m : Nat} {N : List Nat} {i : Nat} : (List.range m ++ N)[i]? = if i < m then some i else N[i - m]? := by
  by_cases h : i < m
  · rw [List.getElem?_append_left (by simpa using h), if_pos h]; simp [h]
  · rw [List.getElem?_append_right (by simpa using h), if_neg h]; simp
theorem newKeys_spec {hp : Heap} {m : Nat} {r : AV} : (newKeys hp m r).Nodup ∧ ∀ k ∈ newKeys hp m r, m ≤ k := by
  unfold newKeys
  refine ⟨dedup_nodup _, fun k hk => ?_⟩
  have := mem_dedup.1 hk
  rw [List.mem_filter] at this
  simpa using this.2
theorem retOut_ok {A : AS} (h : HI C U (hget A.hp) w S β used) {v : Value} {rs : List RVar} {m : Nat} {t : Ret} {av : AV} (hav : resAV A rs = some av) (hv : V (mkEnv C S β used (hget A.hp) w) v av) (ht : retOut A rs m = some t) : ∃ S1 β1, RetC C m w v t S1 β1 := by
  unfold retOut at ht
  rw [hav] at ht
  dsimp only at ht
  cases hq : (m == 0 && av.pure) with
  | true =>
    rw [hq] at ht
    obtain rfl := Option.some.inj ht
    simp only [Bool.and_eq_true, beq_iff_eq] at hq
    exact ⟨S, β, h.kept, h.s, h.keep, V.pure_env (E := mkEnv C S β used (hget A.hp) w) (E' := mkEnv C S β (used0 0) (hpR []) w) (fun _ _ _ q => q) rfl rfl hv hq.2, fun k x hk => by simp at hk, fun k k' hk => by simp at hk, fun k x hk hx => by simp at hx, by rw [hq.1]; exact Nat.zero_le _⟩
  | false =>
    rw [hq] at ht
    dsimp only [cond] at ht
    obtain ⟨bs, hb, rfl⟩ := map_some ht
    obtain ⟨n1, n2⟩ := newKeys_spec (hp := A.hp) (m := m) (r := av)
    generalize newKeys A.hp m av = K at hb n1 n2 ⊢
    obtain ⟨b1, b2⟩ := outBlks_ok hb
    have hlen : bs.length = m + K.length := by rw [b1]; simp
    let key : Nat → Nat := fun i => if i < m then i else K.getD (i - m) 0
    have hkey : ∀ i, i < bs.length → (List.range m ++ K)[i]? = some (key i) := fun i hi => by
      rw [range_append_at]
      show _ = some (if i < m then i else K.getD (i - m) 0)
      split
      · rfl
      · rw [List.getD_eq_getElem?_getD, List.getElem?_eq_getElem (by omega)]; rfl
    have hk0 : ∀ i, i < m → key i = i := fun i hi => by show (if i < m then i else _) = _; rw [if_pos hi]
    have hk1 : ∀ i, ¬ i < m → i < bs.length → K[i - m]? = some (key i) := fun i hi hl => by
      have := hkey i hl
      rw [range_append_at, if_neg hi] at this; exact this
    have hinjk : ∀ i j, i < bs.length → j < bs.length → key i = key j → i = j := fun i j hi hj e => by
      by_cases q1 : i < m <;> by_cases q2 : j < m
      · rw [hk0 i q1, hk0 j q2] at e; exact e
      · have := n2 _ (List.mem_of_getElem? (hk1 j q2 hj)); rw [← e, hk0 i q1] at this; omega
      · have := n2 _ (List.mem_of_getElem? (hk1 i q1 hi)); rw [e, hk0 j q2] at this; omega
      · have a := hk1 i q1 hi; have b := hk1 j q2 hj
        rw [e] at a
        have := nodup_idx n1 a b; omega
    have hφ : RenOk (mkEnv C S β used (hget A.hp) w) (mkEnv C S (fun i => β (key i)) (used0 bs.length) (hpR bs) w) (outφ A.hp m K) := by
      refine ⟨fun _ _ _ q => q, rfl, rfl, fun k g hu => ?_⟩
      unfold outφ
      cases hk : hget A.hp k with
      | none => trivial
      | some x =>
        obtain ⟨g', b⟩ := x
        dsimp only
        by_cases eg : g' = g
        · subst eg
          rw [if_pos rfl]
          have fin : ∀ i, i < bs.length → key i = k → ((mkEnv C S (fun i => β (key i)) (used0 bs.length) (hpR bs) w).used i 0 ∧ ∀ p, (mkEnv C S (fun i => β (key i)) (used0 bs.length) (hpR bs) w).lv i 0 = some p → (mkEnv C S β used (hget A.hp) w).lv k g' = some p) := fun i hi e => by
            refine ⟨⟨hi, rfl⟩, fun p hp => ?_⟩
            obtain ⟨_, _, rfl⟩ := mkEnv_lv hp
            rw [e]; exact mkEnv_lv_of hk
          by_cases hm : k < m
          · rw [if_pos hm]
            exact fin k (by omega) (hk0 k hm)
          · rw [if_neg hm]
            cases hi : idx k K with
            | none => trivial
            | some i =>
              have hKi := idx_some hi
              have hil : i < K.length := by
                rcases Nat.lt_or_ge i K.length with q | q
                · exact q
                · rw [List.getElem?_eq_none q] at hKi; cases hKi
              refine fin (m + i) (by omega) ?_
              have := hk1 (m + i) (by omega) (by omega)
              rw [show m + i - m = i from by omega, hKi] at this
              exact (Option.some.inj this).symm
        · rw [if_neg eg]; trivial
    have atk : ∀ i x, bs[i]? = some x → ∃ g b, hget A.hp (key i) = some (g, b) ∧ x = (decide (key i < m ∧ g = 0), b.ren (outφ A.hp m K)) ∧ i < bs.length := fun i x hx => by
      have hi : i < bs.length := by
        rcases Nat.lt_or_ge i bs.length with q | q
        · exact q
        · rw [List.getElem?_eq_none q] at hx; cases hx
      obtain ⟨g, b, q1, q2⟩ := b2 i _ (hkey i hi)
      exact ⟨g, b, q1, by rw [hx] at q2; exact Option.some.inj q2, hi⟩
    refine ⟨S, fun i => β (key i), h.kept, h.s, h.keep, hv.ren hφ, fun i x hx => ?_, fun i j hi hj n1' n2' hbk => ?_, fun i x hi hx hf => ?_, by dsimp only; omega⟩
    · obtain ⟨g, b, q1, q2, _⟩ := atk i x hx
      obtain ⟨z1, z2, z3⟩ := h.at_ _ g b q1
      rw [q2]
      exact ⟨z2, z3.ren hφ⟩
    · dsimp only at hi hj
      obtain ⟨g, b, q1, _⟩ := b2 i _ (hkey i hi)
      obtain ⟨g', b', q2, _⟩ := b2 j _ (hkey j hj)
      exact hinjk i j hi hj (h.inj _ _ _ _ q1 q2 n1' n2' hbk)
    · obtain ⟨g, b, q1, q2, _⟩ := atk i x hx
      rw [q2] at hf
      have : key i < m ∧ g = 0 := by simpa using hf
      obtain ⟨_, rfl⟩ := this
      have := h.pl _ _ q1
      rw [hk0 i hi] at this ⊢
      exact this
end
def ItemR (P : Program) (N : Nums) (n : Nat) : Item → AItem → Prop
  | .code c, .code a => compCode P N n c = some a
  | .code c, .inLoop a => ∃ c', c = .loop c' ∧ compCode P N n c' = some a
  | .inLoop c, .inLoop a => compCode P N n c = some a
  | .inBlock i, .inBlock j => i = j
  | .inScope _, .inScope => True
  | _, _ => False
def ItemsR (P : Program) (N : Nums) (n : Nat) : List Item → List AItem → Prop
  | [], [] => True
  | i :: r, a :: s => ItemR P N n i a ∧ ItemsR P N n r s
  | _, _ => False
theorem exit_ok {P : Program} {N : Nums} {n id : Nat} : ∀ {k : List Item} {ak ak' : List AItem}, ItemsR P N n k ak → aexit id ak = some ak' → ∃ k', exitTo id k = some k' ∧ ItemsR P N n k' ak'
  | [], [], _, _, h => by cases h
  | i :: r, a :: s, ak', ⟨h1, h2⟩, h => by
    cases a with
    | inBlock j =>
      cases i <;> simp only [ItemR] at h1
      subst h1
      simp only [aexit] at h
      split at h
      · rename_i e; subst e
        obtain rfl := Option.some.inj h
        exact ⟨r, by simp [exitTo], h2⟩
      · rename_i e
        obtain ⟨k', q1, q2⟩ := exit_ok h2 h
        exact ⟨k', by rw [exitTo]; simp [e, q1], q2⟩
    | code | inLoop | inScope =>
      obtain ⟨k', q1, q2⟩ := exit_ok (id := id) h2 (by simpa [aexit] using h)
      refine ⟨k', ?_, q2⟩
      cases i <;> simp only [ItemR] at h1 <;> simpa [exitTo] using q1
    | inReg => cases i <;> simp [ItemR] at h1
  | [], _ :: _, _, h, _ => h.elim
  | _ :: _, [], _, h, _ => h.elim
theorem step_scope' {P : Program} {b : Frame} {a : Act} {k : List Item} {cs : List Frame} {w : World} {c : Code} : step P (lone (b.at a (.code (.scope c) :: k)) cs w) = .next (lone (b.at a (.code c :: .inScope c :: k)) cs w) :=
  step_lone_go (by simp [stepG, stepG.exec, Frame.at])
theorem step_inScope' {P : Program} {b : Frame} {a : Act} {k : List Item} {cs : List Frame} {w : World} {c : Code} : step P (lone (b.at a (.inScope c :: k)) cs w) = .next (lone (b.at a k) cs w) :=
  step_lone_go (by simp [stepG, stepG.exec, Frame.at])
theorem nub_get : ∀ (seen : List Nat) (l : List (Nat × AV)) (t : Nat), t ∉ seen → tget (nub seen l) t = tget l t
  | _, [], _, _ => rfl
  | seen, (u, v) :: r, t, h => by
    simp only [nub]
    cases hs : seen.contains u with
    | true =>
      have hne : u ≠ t := fun e => h (e ▸ by simpa using hs)
      simp only [cond_true, tget, if_neg hne]
      exact nub_get seen r t h
    | false =>
      simp only [cond_false, tget]
      by_cases e : u = t
      · rw [if_pos e, if_pos e]
      · rw [if_neg e, if_neg e]
        exact nub_get (u :: seen) r t (by simp [h]; exact fun q => e q.symm)
theorem nubH_get : ∀ (seen : List Nat) (l : Heap) (t : Nat), t ∉ seen → hget (nubH seen l) t = hget l t
  | _, [], _, _ => rfl
  | seen, (u, v) :: r, t, h => by
    simp only [nubH]
    cases hs : seen.contains u with
    | true =>
      have hne : u ≠ t := fun e => h (e ▸ by simpa using hs)
      simp only [cond_true, hget, if_neg hne]
      exact nubH_get seen r t h
    | false =>
      simp only [cond_false, hget]
      by_cases e : u = t
      · rw [if_pos e, if_pos e]
      · rw [if_neg e, if_neg e]
        exact nubH_get (u :: seen) r t (by simp [h]; exact fun q => e q.symm)
theorem AS.nub_fs (A : AS) : A.nub.fs = A.fs := FSt.ext' (fun t => nub_get [] A.tm t (by simp)) fun k => nubH_get [] A.hp k (by simp)
theorem tms_get : ∀ (l : List AV) (i t : Nat), tget (tms i l) t = if i ≤ t then l.getD (t - i) .any else .any
  | [], i, t => by simp [tms, tget]
  | a :: r, i, t => by
    simp only [tms, tget]
    by_cases e : i = t
    · subst e; simp
    · rw [if_neg e, tms_get r (i + 1) t]
      by_cases q : i ≤ t
      · rw [if_pos q, if_pos (by omega), show t - i = (t - (i + 1)) + 1 from by omega, List.getD_cons_succ]
      · rw [if_neg q, if_neg (by omega)]
theorem exts_get : ∀ (l : List Blk) (i t : Nat), hget (exts i l) t = if i ≤ t then (l[t - i]?).map (fun b => (0, b)) else none
  | [], i, t => by simp [exts, hget]
  | a :: r, i, t => by
    simp only [exts, hget]
    by_cases e : i = t
    · subst e; simp
    · rw [if_neg e, exts_get r (i + 1) t]
      by_cases q : i ≤ t
      · rw [if_pos q, if_pos (by omega), show t - i = (t - (i + 1)) + 1 from by omega, List.getElem?_cons_succ]
      · rw [if_neg q, if_neg (by omega)]
end Go.AM
namespace Go.AM
open Go.RowKit
def GOk (P : Program) (N : Nums) (G : Nat → Fun) : Prop := ∀ f, match G f with
  | .code F => ∃ fn, P.funcs[N.num f]? = some fn ∧ compFun P N F.raw fn = some F
  | .prim _ p => (∃ fn, P.funcs[N.num f]? = some fn ∧ fn.body.isSome = true ∧ fn.name ≠ "runtime.NumGoroutine") ∧ ∀ args bs t, p args bs = some t → FSem P N f args bs t
  | .none => True
def SemC (P : Program) (N : Nums) (cfg : Cfg) (t : Ret) : Prop :=
  ∀ (C : Ctx) (todo : List Item) (a : Act) (w : World) (b : Frame) (cs : List Frame) (fn : Func),
    ItemsR P N C.n todo cfg.todo → NumOk N C → C.tnum = N.tnum → 0 < cfg.A.ctr → Rel C (fun g => g < cfg.A.ctr) cfg.A.fs a w →
    P.funcs[b.fn]? = some fn → mapO (compRes P) fn.results.toList = some cfg.rs → b.kind = .normal →
    ∃ v w' fr S1 β1, RetC C cfg.m w' v t S1 β1 ∧ Steps P (lone (b.at a todo) cs w) (lone fr cs w') ∧ fr.fn = b.fn ∧ fr.leaving P w' (.returned v)
def GoodI (P : Program) (N : Nums) (ih : Cfg → Option Ret) : Prop := ∀ c t, ih c = some t → notReg c.todo = true → SemC P N c t
section
variable {P : Program} {N : Nums} {G : Nat → Fun}
theorem compFun_ok {raw : Bool} {fn : Func} {F : AFunc} (h : compFun P N raw fn = some F) :
    ∃ c, fn.body = some c ∧ compCode P N fn.ntmps c = some F.body ∧ mapO (compRes P) fn.results.toList = some F.results ∧ fn.params.size + fn.nfree ≤ fn.ntmps ∧ F.np = fn.params.size + fn.nfree ∧ fn.name ≠ "runtime.NumGoroutine" := by
  unfold compFun at h
  cases hb : fn.body with
  | none => rw [hb] at h; cases h
  | some c =>
    rw [hb] at h
    dsimp only at h
    split at h
    · rename_i bd rs h1 h2
      split at h
      · rename_i hq
        obtain rfl := Option.some.inj h
        exact ⟨c, rfl, h1, h2, hq.1, rfl, hq.2⟩
      · cases h
    · cases h
theorem fsem_of (hG : GOk P N G) {f : Nat} {F : AFunc} (hf : G f = .code F) {args : List AV} {bs : List Blk} {t : Ret} (hl : args.length = F.np) (hs : SemC P N (F.start args bs) t) : FSem P N f args bs t := by
  intro C vs hent cs
  have hg := hG f
  rw [hf] at hg
  obtain ⟨fn, hfn, hcf⟩ := hg
  obtain ⟨c, h1, h2, h3, h4, h5, h6⟩ := compFun_ok hcf
  let C' : Ctx := { C with n := fn.ntmps }
  let b : Frame := { (default : Frame) with fn := N.num f, kind := .normal }
  let a : Act := { tmps := vs ++ Array.replicate (fn.ntmps - vs.size) undef, defers := [] }
  have henter : Frame.enter P (N.num f) vs .normal = b.at a [.code c] := by
    simp [Frame.enter, Frame.at, hfn, h1, b, a]
  have hi := hent.hi
  have hhp : hget (exts 0 bs) = hpB bs := by
    funext k
    rw [exts_get, if_pos (Nat.zero_le k), Nat.sub_zero]; rfl
  have hrel : Rel C' (fun g => g < 1) (F.start args bs).A.fs a C.W0 := by
    refine ⟨C.S0, C.π, used0 bs.length, ?_, ?_, rfl, fun t => ?_⟩
    · show HI C' _ (hget (exts 0 bs)) C.W0 C.S0 C.π (used0 bs.length)
      rw [hhp]
      exact ⟨hi.kept, hi.s, hi.s0, hi.keep, fun k g u => by rw [hi.us k g u]; omega, hi.at_, hi.inj, hi.pl⟩
    · show (vs ++ Array.replicate (fn.ntmps - vs.size) undef).size = fn.ntmps
      have := hent.size
      simp; omega
    · show V (mkEnv C' C.S0 C.π (used0 bs.length) (hget (exts 0 bs)) C.W0) ((vs ++ Array.replicate (fn.ntmps - vs.size) undef).getD t undef) (tget (tms 0 args) t)
      rw [hhp, tms_get, if_pos (Nat.zero_le t), Nat.sub_zero]
      by_cases ht : t < args.length
      · have hv := hent.at_ t ht
        have hsz := hent.size
        have : (vs ++ Array.replicate (fn.ntmps - vs.size) undef).getD t undef = vs.getD t undef := by
          simp only [Array.getD_eq_getD_getElem?]; rw [Array.getElem?_append_left (by omega)]
        rw [this]; exact hv
      · have : args.getD t .any = .any := by rw [List.getD_eq_getElem?_getD, List.getElem?_eq_none (by omega)]; rfl
        rw [this]; exact .any _
  obtain ⟨v, w', fr, S1, β1, hret, hst, hfr, hlv⟩ := hs C' [.code c] a C.W0 b cs fn ⟨h2, trivial⟩ hent.num hent.tnum (Nat.zero_lt_one) hrel hfn h3 rfl
  refine ⟨.returned v, w', fr, ⟨v, rfl, S1, β1, ⟨hret.kept, hret.s, hret.keep, hret.val, hret.at_, hret.inj, hret.pl, hret.len⟩⟩, ?_, hfr, hlv⟩
  show Steps P _ _
  rw [henter]; exact hst
theorem callOut_sf {hg : Nat → Option (Nat × Blk)} {c : CIn} {g dst : Nat} {t : Ret} {e : Eff} (h : callOut hg c g dst t = some e) : e.sf = [] := by
  unfold callOut at h
  simp only [Bool.cond_eq_ite] at h
  (repeat' split at h) <;> first | (cases h; done) | (obtain rfl := Option.some.inj h; rfl)
theorem eff_does (hG : GOk P N G) {C : Ctx} {ops : Array Oper} {i g : Nat} {o : Oper} {ao ao' : AOper} (hr : OpRel P N C.n ops i o ao) (hop : ao'.op = ao.op) (hdst : ao'.dst = ao.dst) (hn : NumOk N C) (ht : C.tnum = N.tnum) (hg0 : g ≠ 0)
    {ih : Cfg → Option Ret} (hih : GoodI P N ih) {A : AS} {e : Eff} (he : effOf G ih ao' g A = some e) :
    ∀ F', (∀ t ∈ looks ao, F'.tm t = A.fs.tm t) → (∀ k ∈ e.rd, F'.hp k = A.fs.hp k ∨ Sft e.sf k (F'.hp k)) → Does P C o g ao.dst e F' := by
  intro F' hF1 hF2
  have hvals := evF_congr hF1
  rw [evF_fs] at hvals
  unfold effOf at he
  rw [hop] at he
  split at he
  · rename_i f args hao
    rw [hao] at hvals
    simp only [AOp.opds, List.map_cons, List.cons.injEq] at hvals
    obtain ⟨hv1, hv2⟩ := hvals
    simp only [List.map_cons] at he
    unfold callEff at he
    split at he
    · rename_i fi cap args' heq
      obtain ⟨hq1, hq2⟩ := List.cons.inj heq
      cases hci : callIn (hget A.hp) (G fi).raw (args' ++ cap) with
      | none => rw [hci] at he; cases he
      | some c =>
        rw [hci] at he
        dsimp only at he
        have hfo : evF F' f = .fn fi cap := by rw [hv1]; exact hq1
        have hargs : args.map (evF F') = args' := by rw [hv2]; exact hq2
        have fin : ∀ t, FSem P N fi c.args c.bs t → (∃ fn, P.funcs[N.num fi]? = some fn ∧ fn.body.isSome = true ∧ fn.name ≠ "runtime.NumGoroutine") → callOut (hget A.hp) c g (ao'.dst.getD 0) t = some e → Does P C o g ao.dst e F' := by
          rintro t hsem ⟨fn, hfn, hb, hname⟩ hco
          have hrd := callOut_rd hco
          have hag : ∀ k ∈ c.fz ++ c.D, hget A.hp k = F'.hp k := fun k hk => ((hF2 k (by rw [hrd]; exact hk)).resolve_right fun q => by rw [callOut_sf hco] at q; exact q.nil).symm
          have hci' := callIn_congr hci hag
          rw [← hargs] at hci'
          exact does_call hr hn ht hao hg0 hfo hci' hsem hfn hb hname (callOut_congr hco hag)
        cases hGf : G fi with
        | none => rw [hGf] at he; cases he
        | code F =>
          rw [hGf] at he
          dsimp only at he
          split at he
          · rename_i hl
            cases hrn : ih (F.start c.args c.bs) with
            | none => rw [hrn] at he; cases he
            | some t =>
              rw [hrn] at he
              have hg := hG fi
              rw [hGf] at hg
              obtain ⟨fn, hfn, hcf⟩ := hg
              obtain ⟨cc, k1, _, _, _, _, k6⟩ := compFun_ok hcf
              exact fin t (fsem_of hG hGf hl (hih _ _ hrn rfl)) ⟨fn, hfn, by rw [k1]; rfl, k6⟩ he
          · cases he
        | prim raw p =>
          rw [hGf] at he
          dsimp only at he
          cases hp : p c.args c.bs with
          | none => rw [hp] at he; cases he
          | some t =>
            rw [hp] at he
            have hg := hG fi
            rw [hGf] at hg
            exact fin t (hg.2 _ _ _ hp) hg.1 he
    · cases he
  · rename_i hnc
    have he' := aopV_soft (hg' := F'.hp) he hF2
    rw [← hvals] at he'
    exact does_op hr hn ht hnc hg0 he'
theorem compOpers_ok {n : Nat} {ops : Array Oper} : ∀ {os : List Oper} {i : Nat} {l : List AOper}, compOpers P N n ops i os = some l → l.length = os.length ∧ ∀ (j : Nat) (o : Oper) (ao : AOper), os[j]? = some o → l[j]? = some ao → OpRel P N n ops (i + j) o ao
  | [], i, l, h => by obtain rfl : [] = l := by simpa [compOpers] using h
                      exact ⟨rfl, fun j o ao h => by simp at h⟩
  | o :: os, i, l, h => by
    simp only [compOpers] at h
    split at h
    · rename_i a l' h1 h2
      obtain rfl := Option.some.inj h
      obtain ⟨q1, q2⟩ := compOpers_ok h2
      refine ⟨by simp [q1], fun j o' ao ho ha => ?_⟩
      cases j with
      | succ j =>
        have := q2 j o' ao (by simpa using ho) (by simpa using ha)
        rwa [show i + (j + 1) = i + 1 + j from by omega]
      | zero =>
        obtain rfl : o = o' := by simpa using ho
        obtain rfl : a = ao := by simpa using ha
        unfold compOper at h1
        split at h1
        · rename_i op gd g1 g2
          split at h1
          · rename_i hq
            obtain rfl := Option.some.inj h1
            refine ⟨g1, rfl, fun d hd => ?_, ?_, fun e he hb => ?_, fun j hj => ?_⟩
            · have := hq.1; rw [hd] at this; simpa [dstOk] using this
            · dsimp only
              cases hg : o.guard with
              | none => rw [hg] at g2; obtain rfl := Option.some.inj g2; trivial
              | some x =>
                obtain ⟨jj, ww⟩ := x
                rw [hg] at g2
                simp only [compGuard] at g2
                split at g2
                · rename_i t ht
                  obtain rfl := Option.some.inj g2
                  exact ⟨rfl, ht⟩
                · cases g2
            · exact List.mem_map.2 ⟨e, List.mem_filter.2 ⟨by simpa using he, hb⟩, rfl⟩
            · obtain ⟨e, he, rfl⟩ := List.mem_map.1 hj
              obtain ⟨he1, he2⟩ := List.mem_filter.1 he
              refine ⟨?_, e, by simpa using he1, he2, rfl⟩
              have := List.all_eq_true.1 hq.2 e.on hj
              simpa using this
          · cases h1
        · cases h1
    · cases h
theorem apartB_spec {x y : AOper} (h : apartB x y = true) : apartT x y := by
  unfold apartB at h
  simp only [Bool.and_eq_true] at h
  refine ⟨fun t ht => ?_, fun t ht => ?_⟩
  · have := h.1; rw [ht] at this; simpa using this
  · have := h.2; rw [ht] at this; simpa using this
theorem regOk_spec : ∀ {l : List AOper} {k : Nat}, regOk k l = true → ∀ (i j : Nat) (ai aj : AOper), i < j → l[i]? = some ai → l[j]? = some aj → k + i ∈ aj.after ∨ apartT ai aj
  | [], _, _, i, _, _, _, _, h, _ => by simp at h
  | o :: r, k, h, i, j, ai, aj, hij, hi, hj => by
    simp only [regOk, Bool.and_eq_true] at h
    cases j with
    | zero => omega
    | succ j =>
      cases i with
      | zero =>
        obtain rfl : o = ai := by simpa using hi
        have := List.all_eq_true.1 h.1 aj (List.mem_of_getElem? (by simpa using hj))
        simp only [Bool.or_eq_true] at this
        rcases this with q | q
        · exact .inl (by simpa using q)
        · exact .inr (apartB_spec q)
      | succ i =>
        have := regOk_spec h.2 i j ai aj (by omega) (by simpa using hi) (by simpa using hj)
        rwa [show k + (i + 1) = k + 1 + i from by omega]
theorem tget_renT (φ : Nat → Nat → Tgt) : ∀ (l : List (Nat × AV)) (t : Nat), tget (renT φ l) t = (tget l t).ren φ
  | [], t => by simp [renT, tget, AV.ren]
  | (u, v) :: r, t => by
    simp only [renT, tget]
    split
    · rfl
    · exact tget_renT φ r t
theorem hget_renH (φ : Nat → Nat → Tgt) : ∀ (l : Heap) (k : Nat), hget (renH φ l) k = (hget l k).map fun x => (x.1, x.2.ren φ)
  | [], k => rfl
  | (u, some (g, b)) :: r, k => by
    simp only [renH, hget]
    split
    · rfl
    · exact hget_renH φ r k
  | (u, none) :: r, k => by
    simp only [renH, hget]
    split
    · rfl
    · exact hget_renH φ r k
theorem HI.renH {C : Ctx} {U : Nat → Prop} {hp hp' : HF} {w : World} {S S' : Nat → Prop} {β : Nat → Place} {used : Nat → Nat → Prop} {φ : Nat → Nat → Tgt}
    (h' : HI C U hp' w S' β used) (h : HI C U hp w S β used) (r : RenOk (mkEnv C S β used hp w) (mkEnv C S' β used hp' w) φ)
    (hsub : ∀ k x, hp' k = some x → hp k = some x) :
    mkEnv C S' β used (fun k => (hp' k).map fun x => (x.1, x.2.ren φ)) w = mkEnv C S' β used hp' w ∧
    HI C U (fun k => (hp' k).map fun x => (x.1, x.2.ren φ)) w S' β used := by
  have he : mkEnv C S' β used (fun k => (hp' k).map fun x => (x.1, x.2.ren φ)) w = mkEnv C S' β used hp' w := by
    unfold mkEnv
    congr 1
    funext k g
    dsimp only
    cases hp' k with
    | none => rfl
    | some x => rfl
  refine ⟨he, h'.kept, h'.s, h'.s0, h'.keep, h'.us, fun k g b hk => ?_, fun k k' x x' hk hk' => ?_, fun k b hk => ?_⟩
  · obtain ⟨x, hx, e⟩ := map_some hk
    obtain ⟨g', b'⟩ := x
    obtain ⟨rfl, rfl⟩ : g' = g ∧ b'.ren φ = b := by simpa using e
    obtain ⟨q1, q2, q3⟩ := h'.at_ k g' b' hx
    refine ⟨q1, q2, ?_⟩
    rw [he]
    exact BlkOk.ren r (h.at_ k g' b' (hsub _ _ hx)).2.2
  · obtain ⟨y, hy, _⟩ := map_some hk
    obtain ⟨y', hy', _⟩ := map_some hk'
    exact h'.inj k k' y y' hy hy'
  · obtain ⟨x, hx, e⟩ := map_some hk
    obtain ⟨g', b'⟩ := x
    obtain ⟨rfl, rfl⟩ : g' = 0 ∧ b'.ren φ = b := by simpa using e
    exact h'.pl k b' hx
theorem Rel.frz {C : Ctx} {U : Nat → Prop} {A : AS} {a : Act} {w : World} (h : Rel C U A.fs a w) (D : List Nat) : Rel C U (A.frz D).fs a w := by
  obtain ⟨S, β, used, hR⟩ := h
  have hd := hR.hi.drop D
  have hf := hR.hi.frz D
  dsimp only at hd hf
  have hren : RenOk (mkEnv C S β used A.fs.hp w) _ (keepφ (hget A.hp) D) := ⟨hf.ro, hf.num, hf.tnum, fun k g u => by
    unfold keepφ
    cases hc : D.contains k with
    | true => exact hf.at_ k g u
    | false => exact ⟨u, fun p hp => hd.2.lv k g p u hp⟩⟩
  have hsub : ∀ k x, hdrop A.fs.hp D k = some x → A.fs.hp k = some x := fun k x hx => by
    unfold hdrop at hx
    split at hx
    · cases hx
    · exact hx
  obtain ⟨e1, e2⟩ := HI.renH hd.1 hR.hi hren hsub
  have hhp : (A.frz D).fs.hp = fun k => (hdrop A.fs.hp D k).map fun x => (x.1, x.2.ren (keepφ (hget A.hp) D)) := by
    show hget (dropW D ++ _) = _
    rw [hget_append, hov_dropW]
    funext k
    unfold hdrop
    split
    · rfl
    · exact hget_renH _ _ _
  refine ⟨_, β, used, by rw [hhp]; exact e2, hR.size, hR.defers, fun t => ?_⟩
  rw [hhp, e1]
  show V _ _ (tget (renT _ _) t)
  rw [tget_renT]
  exact (hR.tm t).ren hren
theorem seq_ok (hG : GOk P N G) {C : Ctx} {ops : Array Oper} {aops : List AOper} {c0 : Nat} (hc0 : 0 < c0) (hn : NumOk N C) (ht : C.tnum = N.tnum)
    (hl : aops.length = ops.size)
    (hrel : ∀ i o ao, ops[i]? = some o → aops[i]? = some ao → ∃ al, OpRel P N C.n ops i o al ∧ ao.op = al.op ∧ ao.dst = al.dst ∧ ao.guard = al.guard) {A' : AS} {Q : Exit → Act → World → Prop}
    (hQ : ∀ a w, Rel C (Upto c0 fun j => decide (j < ops.size)) A'.fs a w → Q .normal a w) :
    ∀ (r : List AOper) (i : Nat) (A : AS) (a : Act) (w : World), aops.drop i = r → A.ctr = c0 → i + r.length = ops.size → RegSeq G (GoodI P N) r i A A' → Rel C (Upto c0 fun j => decide (j < i)) A.fs a w → wpOps P ops Q (List.range' i r.length) a w
  | [], i, A, a, w, _, _, hi, hs, hR => by
    obtain rfl : i = ops.size := by simpa using hi
    exact hQ a w (hs.2 _ _ _ _ hR)
  | ao :: r, i, A, a, w, hd, hc, hi, hs, hR => by
    have hlt : i < ops.size := by simp at hi; omega
    have ho : ops[i]? = some ops[i] := by simp [hlt]
    generalize ops[i] = o at ho
    have ha : aops[i]? = some ao := by
      have : (aops.drop i)[0]? = some ao := by rw [hd]; rfl
      simpa using this
    obtain ⟨al, hrl, x1, x2, x3⟩ := hrel i o ao ho ha
    have hd' : aops.drop (i + 1) = r := by rw [← List.drop_drop, hd]; rfl
    have hU : ∀ g, Or1 (Upto c0 fun j => decide (j < i)) (c0 + i) g → Upto c0 (fun j => decide (j < i + 1)) g := by
      rintro g ((hg | ⟨j, hj, rfl⟩) | rfl)
      · exact .inl hg
      · exact .inr ⟨j, by simp at hj ⊢; omega, rfl⟩
      · exact .inr ⟨i, by simp, rfl⟩
    rw [List.length_cons, List.range'_succ, wpOps_cons]
    unfold wpOp
    simp only [ho]
    obtain ⟨A0, hA0, hs⟩ := hs
    have hR := hA0.2 _ _ _ _ hR
    have hc0' : A0.ctr = c0 := hA0.1.trans hc
    rcases hs with ⟨h1, h2⟩ | ⟨A1, e, hA1, hw, ⟨ih, hih, he⟩, h2⟩
    · rw [wanted_real hR hrl (by rw [← x3, wantedF_fs]; exact h1)]
      simp only [Bool.false_eq_true, if_false]
      refine seq_ok hG hc0 hn ht hl hrel hQ r (i + 1) (A0.put ao.dst skipV) _ _ hd' (by rw [AS.put_ctr]; exact hc0') (by simp at hi; omega) h2 ?_
      rw [AS.fs_put, ← hrl.dst, ← x2]
      exact (hR.put ao.dst (fun d hd => hrl.bd d (by rw [← hrl.dst, ← x2]; exact hd))).wide fun y hy => hU y (.inl hy)
    · rw [wanted_real hR hrl (by rw [← x3, wantedF_fs]; exact hw)]
      simp only [if_true]
      have hR1 : Rel C (Upto c0 fun j => decide (j < i)) A1.fs a w := by
        exact hA1.2 _ _ _ _ hR
      have hc1 : A1.ctr = c0 := hA1.1.trans hc0'
      rw [hc] at he
      have hdo := eff_does hG hrl x1 x2 hn ht (by omega) hih he A1.fs (fun _ _ => rfl) (fun _ _ => .inl rfl)
      refine .inl (hdo _ a w _ Q ?_ hR1 fun a' w' hR' => ?_)
      · rintro (hg | ⟨j, hj, hg⟩)
        · omega
        · have : j < i := by simpa using hj
          omega
      · refine seq_ok hG hc0 hn ht hl hrel hQ r (i + 1) (A1.app ao.dst e) _ _ hd' (by rw [AS.app_ctr]; exact hc1) (by simp at hi; omega) h2 ?_
        rw [AS.fs_app, x2]
        exact hR'.wide hU
end
end Go.AM
namespace Go.AM
open Go.RowKit
section
variable {P : Program} {N : Nums} {G : Nat → Fun}
theorem Rel.drew {C : Ctx} {U : Nat → Prop} {F : FSt} {a : Act} {w : World} (h : Rel C U F a w) : Rel C U F a { w with drawn := w.drawn + 1 } :=
  let ⟨S, β, used, hi, b, c, d⟩ := h
  ⟨S, β, used, hi.drew, b, c, d⟩
theorem close_at : ∀ (r : List AOper) (acc : List (List Nat)) (i : Nat) (x : AOper), (closeL acc r)[i]? = some x → ∃ y, r[i]? = some y ∧ x.op = y.op ∧ x.dst = y.dst ∧ x.guard = y.guard ∧ (∀ j ∈ y.after, j ∈ x.after) ∧
    ∀ j ∈ x.after, j ∈ y.after ∨ ∃ k ∈ y.after, j ∈ (acc ++ (closeL acc r).map (·.after)).getD k []
  | [], _, _, _, h => by simp [closeL] at h
  | o :: r, acc, 0, x, h => by
    simp only [closeL, List.getElem?_cons_zero, Option.some.injEq] at h
    subst h
    refine ⟨o, rfl, rfl, rfl, rfl, fun j hj => mem_dedup.2 (List.mem_append_left _ hj), fun j hj => ?_⟩
    rcases List.mem_append.1 (mem_dedup.1 hj) with q | q
    · exact .inl q
    · right
      obtain ⟨k, hk, hj'⟩ := List.mem_flatMap.1 q
      refine ⟨k, hk, ?_⟩
      rw [List.getD_eq_getElem?_getD] at hj' ⊢
      rcases Nat.lt_or_ge k acc.length with z | z
      · rw [List.getElem?_append_left z]; exact hj'
      · rw [List.getElem?_eq_none z] at hj'; simp at hj'
  | o :: r, acc, i + 1, x, h => by
    simp only [closeL, List.getElem?_cons_succ] at h
    obtain ⟨y, h1, h2, h3, h4, h5, h6⟩ := close_at r _ i x h
    refine ⟨y, by simpa using h1, h2, h3, h4, h5, fun j hj => ?_⟩
    rcases h6 j hj with q | ⟨k, hk, hj'⟩
    · exact .inl q
    · exact .inr ⟨k, hk, by simpa [closeL] using hj'⟩
theorem close_length : ∀ (r : List AOper) (acc : List (List Nat)), (closeL acc r).length = r.length
  | [], _ => rfl
  | o :: r, acc => by simp only [closeL, List.length_cons, close_length r]
theorem thin_at0 {draw : Bool} {l : List AOper} {i : Nat} {x : AOper} (h : (thin draw l)[i]? = some x) : ∃ y, l[i]? = some y ∧ x.op = y.op ∧ x.dst = y.dst ∧ x.guard = y.guard ∧ ∀ j ∈ x.after, j ∈ y.after := by
  cases draw with
  | true =>
    simp only [thin, cond_true, List.getElem?_map] at h
    obtain ⟨y, h1, rfl⟩ := map_some h
    refine ⟨y, h1, rfl, rfl, rfl, fun j hj => ?_⟩
    dsimp only at hj
    cases hm : memOp y.op with
    | true => rw [hm] at hj; exact (List.mem_filter.1 hj).1
    | false => rw [hm] at hj; cases hj
  | false =>
    simp only [thin, cond_false, List.getElem?_map] at h
    obtain ⟨y, h1, rfl⟩ := map_some h
    exact ⟨y, h1, rfl, rfl, rfl, fun j hj => by cases hj⟩
theorem thin_at {draw : Bool} {l : List AOper} {i : Nat} {x : AOper} (h : (thin draw (closeL [] l))[i]? = some x) : ∃ y, l[i]? = some y ∧ x.op = y.op ∧ x.dst = y.dst ∧ x.guard = y.guard ∧ True := by
  obtain ⟨z, z1, z2, z3, z4, _⟩ := thin_at0 h
  obtain ⟨y, y1, y2, y3, y4, _⟩ := close_at l [] i z z1
  exact ⟨y, y1, z2.trans y2, z3.trans y3, z4.trans y4, trivial⟩
theorem thin_length0 {draw : Bool} {l : List AOper} : (thin draw l).length = l.length := by cases draw <;> simp [thin]
theorem thin_length {draw : Bool} {l : List AOper} : (thin draw (closeL [] l)).length = l.length := by rw [thin_length0, close_length]
theorem zip_at {r : List AOper} {es : List (Option Eff)} {i : Nat} {x : Option Nat × Option Eff} (h : (effsOf r es)[i]? = some x) : ∃ o e, r[i]? = some o ∧ es[i]? = some e ∧ x = (o.dst, e) := by
  unfold effsOf at h
  rw [List.getElem?_zip_eq_some] at h
  obtain ⟨h1, h2⟩ := h
  rw [List.getElem?_map] at h1
  obtain ⟨o, q1, q2⟩ := map_some h1
  exact ⟨o, x.2, q1, h2, by rw [q2]⟩
theorem region_ok_any (hG : GOk P N G) (hm : P.follows .mixedOrders = true) {C : Ctx} (hn : NumOk N C) (ht : C.tnum = N.tnum) {id : Nat} {rops : Array Oper} {aops : List AOper}
    {l : List AOper} (hl : compOpers P N C.n rops 0 rops.toList = some l) (hreg : regOk 0 (closeL [] l) = true) (haops : aops = thin true (closeL [] l)) {A A' : AS} {es : List (Option Eff)} (hout : RegOut G (GoodI P N) true aops 0 [] A es A') (hctr : 0 < A.ctr)
    {a : Act} {w : World} (hR : Rel C (fun g => g < A.ctr) A.fs a w) :
    (Code.region id rops true).wp P (fun e a' w' => e = .normal ∧ Rel C (Upto A.ctr fun j => decide (j < rops.size)) A'.fs a' w') a w := by
  obtain ⟨l1, l2⟩ := compOpers_ok hl
  have hll : l.length = rops.size := by rw [l1]; simp
  obtain ⟨q1, q2, q3⟩ := regOut_one aops 0 [] A es A' hout rfl
  have hal : aops.length = rops.size := by rw [haops, thin_length]; exact hll
  have hesl : (effsOf aops es).length = rops.size := by simp [effsOf, q1, hal]
  have hone : ∀ i o ao x, rops[i]? = some o → l[i]? = some ao → (effsOf aops es)[i]? = some x → x.1 = ao.dst ∧ OneOk P C N rops A.ctr i o ao x.2 (FL (effsOf aops es) (fun j => decide (j < i)) 0 A.fs) := by
    intro i o ao x ho ha hx
    obtain ⟨o', e, h1, h2, rfl⟩ := zip_at hx
    rw [haops] at h1
    obtain ⟨y, y1, y2, y3, y4, _⟩ := thin_at h1
    obtain rfl : y = ao := by rw [ha] at y1; exact (Option.some.inj y1).symm
    have hrel := l2 i o y (by simpa using ho) ha
    rw [Nat.zero_add] at hrel
    have h1' : aops[i]? = some o' := by rw [haops]; exact h1
    have h := q2 i o' e h1' h2
    simp only [Nat.zero_add] at h
    refine ⟨y3, hrel, fun he => ?_, fun x hx2 => ?_⟩
    · rw [← y4]; exact h.none_ he
    · obtain ⟨z1, ih, A2, z2, z3, z4⟩ := h.some_ x hx2
      refine ⟨by rw [← y4]; exact z1, ?_⟩
      rw [← z3]
      exact eff_does hG hrel y2 y3 hn ht (by omega) z2 z4
  have hclo : ∀ i ao, l[i]? = some ao → ∀ j ∈ ((closeL [] l).map (·.after)).getD i [], j ∈ ao.after ∨ ∃ k ∈ ao.after, j ∈ ((closeL [] l).map (·.after)).getD k [] := by
    intro i ao hi j hj
    rw [List.getD_eq_getElem?_getD, List.getElem?_map] at hj
    cases hx : (closeL [] l)[i]? with
    | none => rw [hx] at hj; simp at hj
    | some x =>
      rw [hx] at hj
      obtain ⟨y, y1, _, _, _, _, y2⟩ := close_at l [] i x hx
      obtain rfl : y = ao := by rw [hi] at y1; exact (Option.some.inj y1).symm
      have := y2 j hj
      simpa using this
  refine wp_region_any hm (any_ok (c0 := A.ctr) (F0 := A.fs) (fun i => ((closeL [] l).map (·.after)).getD i []) hclo hll hesl hone ?_ (fun a' w' hR' => ⟨rfl, by rw [← q3]; exact hR'⟩) rops.size (Array.replicate rops.size false) a _ (by simp) ?_ ?_ ?_)
  · intro i j ai aj xi xj hij hi hj hxi hxj
    obtain ⟨oi, ei, y1, y2, rfl⟩ := zip_at hxi
    obtain ⟨oj, ej, y3, y4, rfl⟩ := zip_at hxj
    rw [haops] at y1 y3
    obtain ⟨zi, zi1, zi2, zi3, zi4, _⟩ := thin_at0 y1
    obtain ⟨zj, zj1, zj2, zj3, zj4, zj5⟩ := thin_at0 y3
    obtain ⟨wi, wi1, wi2, wi3, wi4, wi5, _⟩ := close_at l [] i zi zi1
    obtain ⟨wj, wj1, wj2, wj3, wj4, wj5, _⟩ := close_at l [] j zj zj1
    obtain rfl : wi = ai := by rw [hi] at wi1; exact (Option.some.inj wi1).symm
    obtain rfl : wj = aj := by rw [hj] at wj1; exact (Option.some.inj wj1).symm
    have hcl : ∀ k ∈ zj.after, k ∈ ((closeL [] l).map (·.after)).getD j [] := fun k hk => by
      rw [List.getD_eq_getElem?_getD, List.getElem?_map, zj1]; exact hk
    rcases regOk_spec (hreg) i j zi zj hij zi1 zj1 with z | z
    · rw [Nat.zero_add] at z; exact .inl (hcl _ z)
    · rw [← haops] at y1 y3
      rcases (regOut_pair aops 0 [] A es A' hout).2 i j oj ei ej hij y3 y2 y4 with z2 | z2
      · rw [Nat.zero_add] at z2; exact .inl (hcl _ (zj5 _ z2))
      · refine .inr ⟨?_, z2⟩
        have l1 : looks zi = looks wi := by unfold looks; rw [wi2, wi4]
        have l2 : looks zj = looks wj := by unfold looks; rw [wj2, wj4]
        unfold apartT at z ⊢
        rw [l1, l2, wi3, wj3] at z
        exact z
  · exact Nat.le_trans List.countP_le_length (by simp)
  · intro i h
    simp only [Array.getD_eq_getD_getElem?] at h
    rw [Array.getElem?_replicate] at h
    split at h <;> simp at h
  · have hf : ∀ i, (Array.replicate rops.size false).getD i false = false := fun i => by
      simp only [Array.getD_eq_getD_getElem?]
      rw [Array.getElem?_replicate]
      split <;> rfl
    rw [FL_off _ _ _ _ (fun j _ => hf j)]
    exact hR.drew.wide fun x hx => .inl hx
theorem region_ok_seq (hG : GOk P N G) {C : Ctx} (hn : NumOk N C) (ht : C.tnum = N.tnum) {id : Nat} {rops : Array Oper} {aops : List AOper}
    {l : List AOper} (hl : compOpers P N C.n rops 0 rops.toList = some l) (haops : aops = thin false (closeL [] l)) {A A' : AS} (hout : RegSeq G (GoodI P N) aops 0 A A') (hctr : 0 < A.ctr)
    {a : Act} {w : World} (hR : Rel C (fun g => g < A.ctr) A.fs a w) :
    (Code.region id rops false).wp P (fun e a' w' => e = .normal ∧ Rel C (Upto A.ctr fun j => decide (j < rops.size)) A'.fs a' w') a w := by
  obtain ⟨l1, l2⟩ := compOpers_ok hl
  have hll : l.length = rops.size := by rw [l1]; simp
  have hal : aops.length = rops.size := by rw [haops, thin_length]; exact hll
  refine wp_region ?_
  rw [List.range_eq_range', show List.range' 0 rops.size = List.range' 0 aops.length from by rw [hal]]
  refine seq_ok hG hctr hn ht hal (fun i o ao ho ha => ?_) (fun a' w' hR' => ⟨rfl, hR'⟩) aops 0 A a w rfl rfl (by omega) hout (hR.wide fun x hx => .inl hx)
  rw [haops] at ha
  obtain ⟨y, y1, y2, y3, y4, _⟩ := thin_at ha
  have hrel := l2 i o y (by simpa using ho) y1
  rw [Nat.zero_add] at hrel
  exact ⟨y, hrel, y2, y3, y4⟩
def Ext (P : Program) (N : Nums) (G : Nat → Fun) (c : Cfg) (t : Ret) : Prop :=
  match c.todo with
  | .inReg rest i dn true :: k => ∃ es A', RegOut G (GoodI P N) true rest i dn c.A es A' ∧ A'.ctr = c.A.ctr ∧ SemC P N ⟨k, { A' with ctr := c.A.ctr + (i + rest.length) }, c.rs, c.m⟩ t
  | .inReg rest i _ false :: k => ∃ A', RegSeq G (GoodI P N) rest i c.A A' ∧ A'.ctr = c.A.ctr ∧ SemC P N ⟨k, { A' with ctr := c.A.ctr + (i + rest.length) }, c.rs, c.m⟩ t
  | _ => SemC P N c t
theorem ext_sem {c : Cfg} {t : Ret} (h : Ext P N G c t) : SemC P N c t := by
  obtain ⟨todo, A, rs, m⟩ := c
  cases todo with
  | nil => exact h
  | cons it k =>
    cases it with
    | inReg rest i dn draw =>
      intro C todo' a w b cs fn hit
      cases todo' with
      | nil => exact hit.elim
      | cons x r =>
        obtain ⟨hi, _⟩ := hit
        cases x <;> simp [ItemR] at hi
    | _ => exact h
theorem sem_ext {c : Cfg} {t : Ret} (hr : notReg c.todo = true) (h : SemC P N c t) : Ext P N G c t := by
  obtain ⟨todo, A, rs, m⟩ := c
  cases todo with
  | nil => exact h
  | cons it k =>
    cases it with
    | inReg rest i dn draw => cases hr
    | _ => exact h
theorem ev_ext (hG : GOk P N G) (hm : P.follows .mixedOrders = true) {cfg : Cfg} {t : Ret} (hev : Ev G cfg t) : Ext P N G cfg t := by
  induction hev with
  | weakR hw _ IH =>
    obtain ⟨A', h2, h3, h4⟩ := IH
    dsimp only at h2 h3 h4
    rw [hw.1] at h3 h4
    exact ⟨A', h2.pre hw, h3, h4⟩
  | @opS o rest i dn k A rs m t e ih hih hw he _ IHc IH =>
    obtain ⟨A', h2, h3, h4⟩ := IH
    dsimp only at h2 h3 h4
    rw [AS.app_ctr] at h3 h4
    exact ⟨A', ⟨A, Wk0.refl A, .inr ⟨A, e, Wk0.refl A, hw, ⟨ih, fun c t h hr => ext_sem (IHc c t h), he⟩, h2⟩⟩, h3, by rw [show i + (o :: rest).length = i + 1 + rest.length from by simp; omega]; exact h4⟩
  | @opD o rest i dn k A rs m t e ih hih hw he hok _ IHc IH =>
    obtain ⟨es, A', h2, h3, h4⟩ := IH
    dsimp only at h2 h3 h4
    rw [AS.app_ctr] at h3 h4
    exact ⟨some e :: es, A', ⟨hw, ⟨ih, fun c t h hr => ext_sem (IHc c t h), he⟩, fun _ => hok, h2⟩, h3, by rw [show i + (o :: rest).length = i + 1 + rest.length from by simp; omega]; exact h4⟩
  | weak hr hc hw _ IH =>
    refine sem_ext hr fun C todo a w b cs fn hit hn ht hctr hR hfn hrs hkind => ?_
    exact ext_sem IH C todo a w b cs fn hit hn ht (Nat.lt_of_lt_of_le hctr hc) (hw C a w hctr hR) hfn hrs hkind
  | @step cfg t ih hih hrun IH =>
    have good : GoodI P N ih := fun c t h hr => ext_sem (IH c t h)
    obtain ⟨ctodo, A, rs, mm⟩ := cfg
    cases hrg : notReg ctodo with
    | false =>
      cases ctodo with
      | nil => cases hrg
      | cons it k =>
        cases it with
        | inReg rest i dn draw =>
          cases rest with
          | nil =>
            have h1 := ext_sem (IH _ _ hrun)
            cases draw with
            | true => exact ⟨[], A, rfl, rfl, h1⟩
            | false => exact ⟨A, Wk0.refl A, rfl, h1⟩
          | cons o rest =>
            simp only [stepR] at hrun
            have hlen : i + (o :: rest).length = i + 1 + rest.length := by simp; omega
            cases hw : wantedA A.tm o.guard with
            | none => rw [hw] at hrun; cases hrun
            | some b =>
              rw [hw] at hrun
              cases b with
              | false =>
                dsimp only at hrun
                cases draw with
                | true =>
                  obtain ⟨es, A', h2, h3, h4⟩ := IH _ _ hrun
                  dsimp only at h2 h3 h4
                  rw [AS.put_ctr] at h3 h4
                  exact ⟨none :: es, A', ⟨hw, h2⟩, h3, by rw [hlen]; exact h4⟩
                | false =>
                  obtain ⟨A', h2, h3, h4⟩ := IH _ _ hrun
                  dsimp only at h2 h3 h4
                  rw [AS.put_ctr] at h3 h4
                  exact ⟨A', ⟨A, Wk0.refl A, .inl ⟨hw, h2⟩⟩, h3, by rw [hlen]; exact h4⟩
              | true =>
                dsimp only at hrun
                cases he : effOf G ih o (A.ctr + i) A with
                | none => rw [he] at hrun; cases hrun
                | some e =>
                  rw [he] at hrun
                  dsimp only at hrun
                  cases draw with
                  | true =>
                    dsimp only [cond] at hrun
                    cases hok : okWith o.after e dn with
                    | false => rw [hok] at hrun; cases hrun
                    | true =>
                      rw [hok] at hrun
                      dsimp only at hrun
                      obtain ⟨es, A', h2, h3, h4⟩ := IH _ _ hrun
                      dsimp only at h2 h3 h4
                      rw [AS.app_ctr] at h3 h4
                      exact ⟨some e :: es, A', ⟨hw, ⟨ih, good, he⟩, fun _ => OkS.of hok, h2⟩, h3, by rw [hlen]; exact h4⟩
                  | false =>
                    dsimp only [cond] at hrun
                    split at hrun
                    · obtain ⟨A', h2, h3, h4⟩ := IH _ _ hrun
                      dsimp only at h2 h3 h4
                      rw [AS.app_ctr] at h3 h4
                      exact ⟨A', ⟨A, Wk0.refl A, .inr ⟨A, e, Wk0.refl A, hw, ⟨ih, good, he⟩, h2⟩⟩, h3, by rw [hlen]; exact h4⟩
                    · split at hrun
                      · cases hrun
                      · rename_i e1 he1
                        obtain ⟨A', h2, h3, h4⟩ := IH _ _ hrun
                        dsimp only at h2 h3 h4
                        rw [AS.app_ctr] at h3 h4
                        exact ⟨A', ⟨A, Wk0.refl A, .inr ⟨A.frz (gone (hget A.hp) e.wr), e1, ⟨rfl, fun C U a w r => r.frz _⟩, hw, ⟨ih, good, he1⟩, h2⟩⟩, h3, by rw [hlen]; exact h4⟩
        | _ => cases hrg
    | true =>
      refine sem_ext hrg ?_
      intro C todo a w b cs fn hit hn ht hctr hR hfn hrs hkind
      have next : ∀ (todo' : List Item) (ctodo' : List AItem) (A' : AS) (a' : Act) (w' : World), SemC P N { todo := ctodo', A := A', rs := rs, m := mm } t → ItemsR P N C.n todo' ctodo' → 0 < A'.ctr → Rel C (fun g => g < A'.ctr) A'.fs a' w' →
          Steps P (lone (b.at a todo) cs w) (lone (b.at a' todo') cs w') →
          ∃ v w' fr S1 β1, RetC C mm w' v t S1 β1 ∧ Steps P (lone (b.at a todo) cs w) (lone fr cs w') ∧ fr.fn = b.fn ∧ fr.leaving P w' (.returned v) := by
        intro todo' ctodo' A' a' w' hr hit' hctr' hR' hst
        obtain ⟨v, w2, fr, S1, β1, k1, k2, k3, k4⟩ := hr C todo' a' w' b cs fn hit' hn ht hctr' hR' hfn hrs hkind
        exact ⟨v, w2, fr, S1, β1, k1, hst.trans k2, k3, k4⟩
      have ending : ∀ (fr : Frame), fr.mode = .returning → fr.defers = a.defers → fr.tmps = a.tmps → fr.kind = b.kind → fr.fn = b.fn → step P (lone (b.at a todo) cs w) = .next (lone fr cs w) → retOut A rs mm = some t →
          ∃ v w' fr S1 β1, RetC C mm w' v t S1 β1 ∧ Steps P (lone (b.at a todo) cs w) (lone fr cs w') ∧ fr.fn = b.fn ∧ fr.leaving P w' (.returned v) := by
        intro fr h1 h2 h3 h4 h5 h6 hro
        obtain ⟨S, β, used, hRC⟩ := hR
        cases hav : resAV A rs with
        | none => unfold retOut at hro; rw [hav] at hro; cases hro
        | some av =>
          obtain ⟨v, r1, r2⟩ := results_ok (P := P) hRC hrs hav
          obtain ⟨S1, β1, hret⟩ := retOut_ok hRC.hi hav r2 hro
          exact ⟨v, w, fr, S1, β1, hret, .one h6, h5, h1, by rw [h2]; exact hRC.defers, by rw [h4]; exact hkind, fn, by rw [h5]; exact hfn, by rw [h3]; exact r1⟩
      cases ctodo with
      | nil =>
        cases todo with
        | cons => exact hit.elim
        | nil => exact ending { b.at a [] with mode := .returning } rfl rfl rfl rfl rfl step_end hrun
      | cons it ak =>
        cases todo with
        | nil => exact hit.elim
        | cons i k =>
          obtain ⟨hi, hk⟩ := hit
          cases it with
          | inReg => cases i <;> simp [ItemR] at hi
          | inScope =>
            cases i <;> simp only [ItemR] at hi
            exact next k ak A a w (ext_sem (IH _ _ hrun)) hk hctr hR (.one step_inScope')
          | inBlock id =>
            cases i <;> simp only [ItemR] at hi
            exact next k ak A a w (ext_sem (IH _ _ hrun)) hk hctr hR (.one step_inBlock)
          | inLoop c =>
            simp only [stepR] at hrun
            cases i <;> simp only [ItemR] at hi
            · obtain ⟨c', rfl, hc⟩ := hi
              refine next (.code c' :: .inLoop c' :: k) (.code c :: .inLoop c :: ak) A.nub a w (ext_sem (IH _ _ hrun)) ⟨hc, hc, hk⟩ hctr ?_ (.one step_loop)
              rw [AS.nub_fs]; exact hR
            · rename_i c'
              refine next (.code c' :: .inLoop c' :: k) (.code c :: .inLoop c :: ak) A.nub a w (ext_sem (IH _ _ hrun)) ⟨hi, hi, hk⟩ hctr ?_ (.one step_inLoop)
              rw [AS.nub_fs]; exact hR
          | code ac =>
            cases i <;> simp only [ItemR] at hi
            rename_i c
            cases c with
            | skip =>
              obtain rfl : ACode.skip = ac := by simpa [compCode] using hi
              exact next k ak A a w (ext_sem (IH _ _ hrun)) hk hctr hR (.one step_skip)
            | label lb =>
              obtain rfl : ACode.skip = ac := by simpa [compCode] using hi
              exact next k ak A a w (ext_sem (IH _ _ hrun)) hk hctr hR (.one step_label)
            | ret =>
              obtain rfl : ACode.ret = ac := by simpa [compCode] using hi
              exact ending { b.at a (.code .ret :: k) with mode := .returning } rfl rfl rfl rfl rfl step_ret hrun
            | seq x y =>
              simp only [compCode] at hi
              split at hi
              · rename_i x' y' h1 h2
                obtain rfl := Option.some.inj hi
                exact next (.code x :: .code y :: k) (.code x' :: .code y' :: ak) A a w (ext_sem (IH _ _ hrun)) ⟨h1, h2, hk⟩ hctr hR (.one step_seq)
              · cases hi
            | cond x y z =>
              simp only [compCode] at hi
              split at hi
              · rename_i x' y' z' h0 h1 h2
                obtain rfl := Option.some.inj hi
                simp only [stepR] at hrun
                split at hrun
                · rename_i tt hev
                  obtain ⟨S, β, used, hRC⟩ := hR
                  have hv := at_opd hRC hn x x' h0
                  rw [evF_fs, hev] at hv
                  have hstep := step_cond (P := P) (b := b) (a := a) (k := k) (cs := cs) (w := w) (c := x) (x := y) (y := z) hv.bool_inv
                  refine next (.code (if tt = true then y else z) :: k) (.code (bif tt then y' else z') :: ak) A a w (ext_sem (IH _ _ hrun)) ⟨?_, hk⟩ hctr ⟨S, β, used, hRC⟩ (.one hstep)
                  cases tt
                  · exact h2
                  · exact h1
                · cases hrun
              · cases hi
            | block id x =>
              simp only [compCode] at hi
              obtain ⟨x', h1, rfl⟩ := map_some hi
              exact next (.code x :: .inBlock id :: k) (.code x' :: .inBlock id :: ak) A a w (ext_sem (IH _ _ hrun)) ⟨h1, rfl, hk⟩ hctr hR (.one step_block)
            | loop x =>
              simp only [compCode] at hi
              obtain ⟨x', h1, rfl⟩ := map_some hi
              exact next (.code (.loop x) :: k) (.inLoop x' :: ak) A a w (ext_sem (IH _ _ hrun)) ⟨⟨x, rfl, h1⟩, hk⟩ hctr hR (.refl _ _)
            | scope x =>
              simp only [compCode] at hi
              obtain ⟨x', h1, rfl⟩ := map_some hi
              exact next (.code x :: .inScope x :: k) (.code x' :: .inScope :: ak) A a w (ext_sem (IH _ _ hrun)) ⟨h1, trivial, hk⟩ hctr hR (.one step_scope')
            | exit id =>
              obtain rfl : ACode.exit id = ac := by simpa [compCode] using hi
              simp only [stepR] at hrun
              split at hrun
              · rename_i k' hex
                obtain ⟨k2, e1, e2⟩ := exit_ok hk hex
                exact next k2 k' A a w (ext_sem (IH _ _ hrun)) e2 hctr hR (.one (step_exit e1))
              · cases hrun
            | region id rops draw =>
              simp only [compCode] at hi
              cases hl : compOpers P N C.n rops 0 rops.toList with
              | none => rw [hl] at hi; cases hi
              | some l =>
                rw [hl] at hi
                dsimp only at hi
                split at hi
                · rename_i hreg
                  obtain rfl := Option.some.inj hi
                  simp only [stepR] at hrun
                  have hc0 : 0 < A.ctr := hctr
                  have hsz : (thin draw (closeL [] l)).length = rops.size := by rw [thin_length, (compOpers_ok hl).1]; simp
                  have key : ∃ (A' : AS), SemC P N { todo := ak, A := ({ tm := A'.tm, hp := A'.hp, ctr := A.ctr + (0 + (thin draw (closeL [] l)).length) } : AS), rs := rs, m := mm } t ∧
                      (Code.region id rops draw).wp P (fun e a' w' => e = .normal ∧ Rel C (Upto A.ctr fun j => decide (j < rops.size)) A'.fs a' w') a w := by
                    cases draw with
                    | true =>
                      obtain ⟨es, A', x2, x3, x4⟩ := IH _ _ hrun
                      exact ⟨A', x4, region_ok_any hG hm hn ht (id := id) hl (hreg rfl) rfl x2 hctr hR⟩
                    | false =>
                      obtain ⟨A', x2, x3, x4⟩ := IH _ _ hrun
                      exact ⟨A', x4, region_ok_seq hG hn ht (id := id) hl rfl x2 hctr hR⟩
                  obtain ⟨A', x4, hwp⟩ := key
                  obtain ⟨e, a', w', ⟨rfl, hR'⟩, harr⟩ := hwp b k cs
                  refine next k ak _ a' w' x4 hk (Nat.lt_of_lt_of_le hc0 (Nat.le_add_right _ _)) ?_ harr
                  refine hR'.wide fun g hg => ?_
                  dsimp only
                  rcases hg with hg | ⟨j, hj, rfl⟩
                  · omega
                  · have : j < rops.size := by simpa using hj
                    omega
                · cases hi
            | _ => simp [compCode] at hi
theorem gives_fsem (hG : GOk P N G) (hm : P.follows .mixedOrders = true) {f : Nat} {args : List AV} {bs : List Blk} {t : Ret} (h : Gives G f args bs t) : FSem P N f args bs t := by
  unfold Gives at h
  cases hf : G f with
  | none => rw [hf] at h; exact h.elim
  | code F =>
    rw [hf] at h
    obtain ⟨h1, h2⟩ := h
    exact fsem_of hG hf h1 (ext_sem (ev_ext hG hm h2))
  | prim raw p =>
    rw [hf] at h
    have := hG f
    rw [hf] at this
    exact this.2 _ _ _ h
end
end Go.AM
namespace Go.AM
section
variable {G : Nat → Fun}
open Classical in
end
end Go.AM
namespace Go.AM
section
variable {G : Nat → Fun}
theorem ev_step1 {c c' : Cfg} {t : Ret} (hs : ∀ ih : Cfg → Option Ret, stepR G ih c = ih c') (h : Ev G c' t) : Ev G c t := by
  classical
  refine .step (fun x => if x = c' then some t else none) (fun x t' hx => ?_) ((hs _).trans (if_pos rfl))
  split at hx
  · rename_i e; subst e; obtain rfl := Option.some.inj hx; exact h
  · cases hx
theorem ev_ret {k : List AItem} {A : AS} {rs : List RVar} {m : Nat} {t : Ret} (h : retOut A rs m = some t) : Ev G ⟨.code .ret :: k, A, rs, m⟩ t := .step (fun _ => none) (fun _ _ h => by cases h) h
theorem ev_end {A : AS} {rs : List RVar} {m : Nat} {t : Ret} (h : retOut A rs m = some t) : Ev G ⟨[], A, rs, m⟩ t := .step (fun _ => none) (fun _ _ h => by cases h) h
theorem ev_cond {x : Opd} {a b : ACode} {k : List AItem} {A : AS} {rs : List RVar} {m : Nat} {t : Ret} (c : Bool) (hx : evo A.tm x = .bool c)
    (h1 : c = true → Ev G ⟨.code a :: k, A, rs, m⟩ t) (h2 : c = false → Ev G ⟨.code b :: k, A, rs, m⟩ t) : Ev G ⟨.code (.cond x a b) :: k, A, rs, m⟩ t := by
  refine ev_step1 (c' := ⟨.code (bif c then a else b) :: k, A, rs, m⟩) (fun ih => by simp only [stepR, hx]) ?_
  cases c with
  | true => exact h1 rfl
  | false => exact h2 rfl
theorem ev_loop {b : ACode} {k : List AItem} {A : AS} {rs : List RVar} {m : Nat} {t : Ret} (h : Ev G ⟨.code b :: .inLoop b :: k, A.nub, rs, m⟩ t) : Ev G ⟨.inLoop b :: k, A, rs, m⟩ t := ev_step1 (fun _ => rfl) h
theorem ev_regEnd {i : Nat} {dn : List DnE} {draw : Bool} {k : List AItem} {tm : List (Nat × AV)} {hp : Heap} {ctr : Nat} {rs : List RVar} {m : Nat} {t : Ret} (h : Ev G ⟨k, ⟨tm, hp, ctr + i⟩, rs, m⟩ t) :
    Ev G ⟨.inReg [] i dn draw :: k, ⟨tm, hp, ctr⟩, rs, m⟩ t := ev_step1 (fun _ => rfl) h
def OpE (G : Nat → Fun) (o : AOper) (g : Nat) (A : AS) (e : Eff) : Prop := ∃ ih : Cfg → Option Ret, (∀ c t, ih c = some t → Ev G c t) ∧ effOf G ih o g A = some e
theorem OpE.op {d : Option Nat} {op : AOp} {gd : Option (Nat × Bool)} {af : List Nat} {g : Nat} {A : AS} {e : Eff} (hop : ∀ f args, op ≠ .call f args) (h : aopV op g (kloc (d.getD 0) 0) (op.opds.map (evo A.tm)) (hget A.hp) = some e) : OpE G ⟨d, op, gd, af⟩ g A e := by
  refine ⟨fun _ => none, fun _ _ h => (by cases h), ?_⟩
  unfold effOf
  cases op with
  | call f args => exact absurd rfl (hop f args)
  | _ => exact h
theorem OpE.call {d : Option Nat} {fo : Opd} {args : List Opd} {gd : Option (Nat × Bool)} {af : List Nat} {g : Nat} {A : AS} {e : Eff} {f : Nat} {cap vals : List AV} {c : CIn} {t : Ret}
    (hv : (fo :: args).map (evo A.tm) = .fn f cap :: vals) (hc : callIn (hget A.hp) (G f).raw (vals ++ cap) = some c) (hG : Gives G f c.args c.bs t) (ho : callOut (hget A.hp) c g (d.getD 0) t = some e) :
    OpE G ⟨d, .call fo args, gd, af⟩ g A e := by
  unfold Gives at hG
  cases hf : G f with
  | none => rw [hf] at hG; exact hG.elim
  | prim r p =>
    rw [hf] at hG
    refine ⟨fun _ => none, fun _ _ h => (by cases h), ?_⟩
    show callEff G (fun _ => none) _ _ _ _ = _
    unfold callEff
    rw [hv]
    dsimp only
    rw [hc]
    simp only [hf, hG, ho]
  | code F =>
    rw [hf] at hG
    obtain ⟨h1, h2⟩ := hG
    classical
    refine ⟨fun x => if x = F.start c.args c.bs then some t else none, fun x t' hx => ?_, ?_⟩
    · dsimp only at hx
      split at hx
      · rename_i e; subst e; obtain rfl := Option.some.inj hx; exact h2
      · cases hx
    show callEff G (fun x => if x = F.start c.args c.bs then some t else none) _ _ _ _ = _
    unfold callEff
    rw [hv]
    dsimp only
    rw [hc]
    simp only [hf, h1, ho, if_true]
theorem callIn_pure {hg : Nat → Option (Nat × Blk)} {raw : Bool} {args : List AV} (h : pureL args = true) : callIn hg raw args = some { args := args, bs := [], D := [], fz := [] } := by
  unfold callIn
  rw [keysL_pure _ _ h]
theorem callOut_dry {hg : Nat → Option (Nat × Blk)} {args : List AV} {g dst : Nat} {r : AV} (h : r.dry = true) : callOut hg { args := args, bs := [], D := [], fz := [] } g dst { r := r, bs := [] } = some { res := r } := by
  unfold callOut
  simp [h]
theorem OpE.callV {d : Option Nat} {fo : Opd} {args : List Opd} {gd : Option (Nat × Bool)} {af : List Nat} {g : Nat} {A : AS} {f : Nat} {cap vals : List AV} {r : AV}
    (hv : (fo :: args).map (evo A.tm) = .fn f cap :: vals) (hp : pureL (vals ++ cap) = true) (hG : Gives G f (vals ++ cap) [] ⟨r, []⟩) (hr : r.dry = true) :
    OpE G ⟨d, .call fo args, gd, af⟩ g A { res := r } := .call hv (callIn_pure hp) hG (callOut_dry hr)
theorem ev_opS {o : AOper} {rest : List AOper} {i : Nat} {dn : List DnE} {k : List AItem} {A : AS} {rs : List RVar} {m : Nat} {t : Ret} {e : Eff}
    (hw : wantedA A.tm o.guard = some true) (he : OpE G o (A.ctr + i) A e)
    (h : Ev G ⟨.inReg rest (i + 1) dn false :: k, A.app o.dst e, rs, m⟩ t) : Ev G ⟨.inReg (o :: rest) i dn false :: k, A, rs, m⟩ t := by
  obtain ⟨ih, hih, hn⟩ := he
  exact .opS ih hih hw hn h
theorem ev_opD {o : AOper} {rest : List AOper} {i : Nat} {dn : List DnE} {k : List AItem} {A : AS} {rs : List RVar} {m : Nat} {t : Ret} {e : Eff}
    (hw : wantedA A.tm o.guard = some true) (he : OpE G o (A.ctr + i) A e) (hg : OkS o.after e dn)
    (h : Ev G ⟨.inReg rest (i + 1) (dnPut i e dn) true :: k, A.app o.dst e, rs, m⟩ t) : Ev G ⟨.inReg (o :: rest) i dn true :: k, A, rs, m⟩ t := by
  obtain ⟨ih, hih, hn⟩ := he
  exact .opD ih hih hw hn hg h
theorem ev_opN {o : AOper} {rest : List AOper} {i : Nat} {dn : List DnE} {draw : Bool} {k : List AItem} {A : AS} {rs : List RVar} {m : Nat} {t : Ret}
    (hw : wantedA A.tm o.guard = some false)
    (h : Ev G ⟨.inReg rest (i + 1) dn draw :: k, A.put o.dst skipV, rs, m⟩ t) : Ev G ⟨.inReg (o :: rest) i dn draw :: k, A, rs, m⟩ t := by
  refine ev_step1 (c' := ⟨.inReg rest (i + 1) dn draw :: k, A.put o.dst skipV, rs, m⟩) (fun ih => by simp only [stepR, hw]) h
theorem gives_code {f : Nat} {F : AFunc} {args : List AV} {bs : List Blk} {t : Ret} (hf : G f = .code F) (hl : args.length = F.np) (h : Ev G ⟨[.code F.body], ⟨tms 0 args, exts 0 bs, 1⟩, F.results, bs.length⟩ t) : Gives G f args bs t := by
  unfold Gives
  rw [hf]
  exact ⟨hl, h⟩
end
end Go.AM
namespace Go.AM
structure AS.Same (A B : AS) : Prop where
  tm : tget A.tm = tget B.tm
  hp : hget A.hp = hget B.hp
  ctr : A.ctr = B.ctr
theorem AS.Same.refl (A : AS) : A.Same A := ⟨rfl, rfl, rfl⟩
theorem AS.Same.put {A B : AS} (h : A.Same B) (d : Option Nat) (v : AV) : (A.put d v).Same (B.put d v) := by
  cases d with
  | none => exact h
  | some d => exact ⟨by funext t; simp only [AS.put, tget]; rw [h.tm], h.hp, h.ctr⟩
theorem hget_app_congr {a b : Heap} (h : hget a = hget b) (l : Heap) : hget (l ++ a) = hget (l ++ b) := by
  rw [hget_append, hget_append, h]
theorem AS.Same.app {A B : AS} (h : A.Same B) (d : Option Nat) (e : Eff) : (A.app d e).Same (B.app d e) := by
  have h1 := h.put d e.res
  refine ⟨h1.tm, ?_, h1.ctr⟩
  show hget (e.wr ++ A.hp) = hget (e.wr ++ B.hp)
  exact hget_app_congr h.hp _
theorem AS.Same.frz {A B : AS} (h : A.Same B) (D : List Nat) : (A.frz D).Same (B.frz D) := by
  refine ⟨?_, ?_, h.ctr⟩
  · funext t
    show tget (renT _ A.tm) t = tget (renT _ B.tm) t
    rw [tget_renT, tget_renT, h.tm, h.hp]
  · show hget (dropW D ++ renH _ A.hp) = hget (dropW D ++ renH _ B.hp)
    refine hget_app_congr ?_ _
    funext k
    rw [hget_renH, hget_renH, h.hp]
theorem Wk0.of_same {A B : AS} (h : A.Same B) : Wk0 A B := ⟨h.ctr.symm, fun C U a w r => by
  have : A.fs = B.fs := by unfold AS.fs; rw [h.tm, h.hp]
  rw [← this]; exact r⟩
theorem Wk.of0 {A B : AS} (h : Wk0 A B) : Wk A B := fun C a w _ r => by
  have := h.2 C _ a w r
  rw [h.1]; exact this
def notDraw : List AItem → Bool
  | .inReg _ _ _ d :: _ => !d
  | _ => true
theorem ev_wk0 {G : Nat → Fun} {todo : List AItem} {A B : AS} {rs : List RVar} {m : Nat} {t : Ret} (hd : notDraw todo = true) (h : Wk0 A B) (k : Ev G ⟨todo, B, rs, m⟩ t) : Ev G ⟨todo, A, rs, m⟩ t := by
  cases todo with
  | nil => exact .weak rfl (Nat.le_of_eq h.1.symm) (.of0 h) k
  | cons it r =>
    cases it with
    | inReg rest i dn d =>
      cases d with
      | true => cases hd
      | false => exact .weakR h k
    | _ => exact .weak rfl (Nat.le_of_eq h.1.symm) (.of0 h) k
def keepT : List Nat → List (Nat × AV) → List (Nat × AV)
  | [], _ => []
  | t :: L, tm => (t, tget tm t) :: keepT L tm
def keepH : List Nat → Heap → Heap
  | [], _ => []
  | k :: L, hp => (k, hget hp k) :: keepH L hp
theorem tget_keepT (tm : List (Nat × AV)) : ∀ L, tget (keepT L tm ++ tm) = tget tm
  | [] => rfl
  | t :: L => by
    funext u
    simp only [keepT, List.cons_append, tget, tget_keepT tm L]
    split
    · rename_i e; rw [e]
    · rfl
theorem hget_keepH (hp : Heap) : ∀ L, hget (keepH L hp ++ hp) = hget hp
  | [] => rfl
  | t :: L => by
    funext u
    simp only [keepH, List.cons_append, hget, hget_keepH hp L]
    split
    · rename_i e; rw [e]
    · rfl
theorem ev_keep {G : Nat → Fun} {todo : List AItem} {tm : List (Nat × AV)} {hp : Heap} {ctr : Nat} {rs : List RVar} {m : Nat} {t : Ret} (L K : List Nat)
    (h : Ev G ⟨todo, ⟨keepT L tm ++ tm, keepH K hp ++ hp, ctr⟩, rs, m⟩ t) (hd : notDraw todo = true := by rfl) : Ev G ⟨todo, ⟨tm, hp, ctr⟩, rs, m⟩ t :=
  ev_wk0 (B := ⟨keepT L tm ++ tm, keepH K hp ++ hp, ctr⟩) hd (.of_same ⟨(tget_keepT tm L).symm, (hget_keepH hp K).symm, rfl⟩) h
theorem ev_loop' {G : Nat → Fun} {b : ACode} {k : List AItem} {A : AS} {rs : List RVar} {m : Nat} {t : Ret} (h : Ev G ⟨.code b :: .inLoop b :: k, A, rs, m⟩ t) : Ev G ⟨.inLoop b :: k, A, rs, m⟩ t := by
  refine ev_loop ?_
  have hs : A.nub.Same A := ⟨congrArg FSt.tm (AS.nub_fs A), congrArg FSt.hp (AS.nub_fs A), rfl⟩
  exact ev_wk0 (B := A) rfl (.of_same hs) h
end Go.AM
namespace Go.AM
def look : List (Nat × AV) → Nat → (AV → Prop) → Prop
  | [], _, k => k .any
  | (t, v) :: r, u, k => bif Nat.beq t u then k v else look r u k
theorem look_iff {k : AV → Prop} {u : Nat} : ∀ {l : List (Nat × AV)}, look l u k ↔ k (tget l u)
  | [] => Iff.rfl
  | (t, v) :: r => by
    simp only [look, tget]
    by_cases h : t = u
    · subst h; simp
    · have : Nat.beq t u = false := by
        cases hb : Nat.beq t u with
        | false => rfl
        | true => exact absurd (Nat.eq_of_beq_eq_true hb) h
      rw [this, if_neg h]; exact look_iff
def hlook : Heap → Nat → (Option (Nat × Blk) → Prop) → Prop
  | [], _, k => k none
  | (t, v) :: r, u, k => bif Nat.beq t u then k v else hlook r u k
theorem hlook_iff {k : Option (Nat × Blk) → Prop} {u : Nat} : ∀ {l : Heap}, hlook l u k ↔ k (hget l u)
  | [] => Iff.rfl
  | (t, v) :: r => by
    simp only [hlook, hget]
    by_cases h : t = u
    · subst h; simp
    · have : Nat.beq t u = false := by
        cases hb : Nat.beq t u with
        | false => rfl
        | true => exact absurd (Nat.eq_of_beq_eq_true hb) h
      rw [this, if_neg h]; exact hlook_iff
def opdC (tm : List (Nat × AV)) : Opd → (AV → Prop) → Prop
  | .t n, k => look tm n k
  | .c v, k => k v
theorem opdC_iff {tm : List (Nat × AV)} {k : AV → Prop} {x : Opd} : opdC tm x k ↔ k (evo tm x) := by
  cases x with
  | t n => exact look_iff
  | c v => exact Iff.rfl
def opdsC (tm : List (Nat × AV)) : List Opd → (List AV → Prop) → Prop
  | [], k => k []
  | x :: r, k => opdC tm x fun v => opdsC tm r fun vs => k (v :: vs)
theorem opdsC_iff {tm : List (Nat × AV)} : ∀ {l : List Opd} {k : List AV → Prop}, opdsC tm l k ↔ k (l.map (evo tm))
  | [], k => Iff.rfl
  | x :: r, k => by simp only [opdsC, opdC_iff, List.map_cons, opdsC_iff]
def dropN : Nat → List AV → (List AV → Prop) → Prop
  | 0, l, k => k l
  | _ + 1, [], k => k []
  | n + 1, _ :: r, k => dropN n r k
theorem dropN_iff : ∀ {n : Nat} {l : List AV} {k : List AV → Prop}, dropN n l k ↔ k (l.drop n)
  | 0, l, k => Iff.rfl
  | n + 1, [], k => Iff.rfl
  | n + 1, _ :: r, k => by simp only [dropN, List.drop_succ_cons]; exact dropN_iff
def takeN : Nat → List AV → (List AV → Prop) → Prop
  | 0, _, k => k []
  | _ + 1, [], _ => False
  | n + 1, a :: r, k => takeN n r fun l => k (a :: l)
theorem takeN_ok : ∀ {n : Nat} {l : List AV} {k : List AV → Prop}, takeN n l k → n ≤ l.length ∧ k (l.take n)
  | 0, l, k, h => ⟨Nat.zero_le _, by simpa [takeN] using h⟩
  | n + 1, [], k, h => h.elim
  | n + 1, a :: r, k, h => by
    obtain ⟨h1, h2⟩ := takeN_ok (n := n) (l := r) h
    exact ⟨by simp; omega, by simpa using h2⟩
def pickN (sz : Option Nat) (cs : List AV) (k : AV → Prop) : Prop :=
  match sz with
  | none => match cs with
    | c :: _ => k c
    | [] => False
  | some n => takeN n cs fun l => k (.agg l)
theorem pickN_ok {sz : Option Nat} {cs : List AV} {k : AV → Prop} (h : pickN sz cs k) : ∃ v, pickSz sz cs = some v ∧ k v := by
  unfold pickN at h
  unfold pickSz
  cases sz with
  | none =>
    cases cs with
    | nil => exact h.elim
    | cons c r => exact ⟨c, rfl, h⟩
  | some n =>
    obtain ⟨h1, h2⟩ := takeN_ok h
    exact ⟨_, by dsimp only; rw [if_pos h1], h2⟩
def putN : Nat → List AV → List AV → (List AV → Prop) → Prop
  | 0, [], l, k => k l
  | 0, c :: cs, _ :: l, k => putN 0 cs l fun r => k (c :: r)
  | n + 1, cs, a :: l, k => putN n cs l fun r => k (a :: r)
  | _, _, _, _ => False
theorem putN_ok : ∀ {n : Nat} {cs l : List AV} {k : List AV → Prop}, putN n cs l k → n + cs.length ≤ l.length ∧ k (splice l n cs)
  | 0, [], l, k, h => ⟨by simp, by simpa [putN, splice] using h⟩
  | 0, c :: cs, [], k, h => by simp [putN] at h
  | 0, c :: cs, a :: l, k, h => by
    obtain ⟨h1, h2⟩ := putN_ok (n := 0) (cs := cs) (l := l) (k := fun r => k (c :: r)) h
    refine ⟨by simp at h1 ⊢; omega, ?_⟩
    simpa [splice] using h2
  | n + 1, cs, [], k, h => by cases cs <;> simp [putN] at h
  | n + 1, cs, a :: l, k, h => by
    have h' : putN n cs l fun r => k (a :: r) := by cases cs <;> exact h
    obtain ⟨h1, h2⟩ := putN_ok h'
    refine ⟨by simp; omega, ?_⟩
    have : splice (a :: l) (n + 1) cs = a :: splice l n cs := by
      simp [splice, show n + 1 + cs.length = n + cs.length + 1 from by omega]
    rw [this]; exact h2
def getN : Nat → List AV → (AV → Prop) → Prop
  | 0, [], _ => False
  | _ + 1, [], _ => False
  | 0, a :: _, k => k a
  | n + 1, _ :: r, k => getN n r k
theorem getN_ok : ∀ {n : Nat} {l : List AV} {k : AV → Prop}, getN n l k → n < l.length ∧ k (l.getD n .any)
  | 0, [], _, h => h.elim
  | n + 1, [], _, h => h.elim
  | 0, a :: r, k, h => ⟨by simp, by simpa [getN] using h⟩
  | n + 1, a :: r, k, h => by
    obtain ⟨h1, h2⟩ := getN_ok (n := n) (l := r) h
    exact ⟨by simp; omega, by simpa using h2⟩
def forceN : List AV → (List AV → Prop) → Prop
  | [], k => k []
  | a :: r, k => forceN r fun l => k (a :: l)
theorem forceN_iff : ∀ {l : List AV} {k : List AV → Prop}, forceN l k ↔ k l
  | [], k => Iff.rfl
  | a :: r, k => by simp only [forceN]; exact forceN_iff
def cellsC (v : AV) (k : List AV → Prop) : Prop :=
  match v with
  | .agg cs => k cs
  | a => bif a.flat then k [a] else False
theorem cellsC_ok {v : AV} {k : List AV → Prop} (h : cellsC v k) : ∃ cs, cellsA v = some cs ∧ k cs := by
  unfold cellsC at h
  unfold cellsA
  split at h
  · exact ⟨_, rfl, h⟩
  · rename_i hne
    split
    · rename_i cs; exact absurd rfl (hne cs)
    · cases hf : v.flat with
      | true => rw [hf] at h; exact ⟨_, rfl, h⟩
      | false => rw [hf] at h; exact h.elim
structure condC (c : Bool) (p q : Prop) : Prop where
  yes : c = true → p
  no : c = false → q
theorem condT {p q : Prop} (h : p) : condC true p q := ⟨fun _ => h, fun h => (by cases h)⟩
theorem condF {p q : Prop} (h : q) : condC false p q := ⟨fun h => (by cases h), fun _ => h⟩
def atC (hp : Heap) (a : AV) (k : List AV → List Nat → Prop) : Prop :=
  match a with
  | .rp cs => k cs []
  | .ref key g o => hlook hp key fun x => match x with
    | some (g', .cells cs) => g' = g ∧ dropN o cs fun l => k l [key]
    | _ => False
  | .er key g i o => hlook hp key fun x => match x with
    | some (g', .vec _ es) => g' = g ∧ ∃ cs, es[i]? = some cs ∧ dropN o cs fun l => k l [key]
    | _ => False
  | _ => False
theorem atC_ok {hp : Heap} {a : AV} {k : List AV → List Nat → Prop} (h : atC hp a k) : ∃ cs rd, cellsAt (hget hp) a = some (cs, rd) ∧ k cs rd := by
  unfold atC at h
  split at h
  · exact ⟨_, _, rfl, h⟩
  · rw [hlook_iff] at h
    split at h
    · rename_i g' cs hx
      obtain ⟨rfl, h⟩ := h
      rw [dropN_iff] at h
      exact ⟨_, _, by simp only [cellsAt, hx, if_true], h⟩
    · exact h.elim
  · rw [hlook_iff] at h
    split at h
    · rename_i g' s es hx
      obtain ⟨rfl, cs, hc, h⟩ := h
      rw [dropN_iff] at h
      obtain ⟨hi, rfl⟩ := List.getElem?_eq_some_iff.1 hc
      refine ⟨_, _, by simp only [cellsAt, hx, if_true]; rw [if_pos hi], ?_⟩
      rw [List.getD_eq_getElem?_getD, hc]; exact h
    · exact h.elim
  · exact h.elim
inductive TakeC (n : Nat) (es : List (List AV)) (k : List (List AV) → Prop) : Prop
  | full (h : n = es.length) (hk : k es) : TakeC n es k
  | part (h : n ≤ es.length) (hk : k (es.take n)) : TakeC n es k
theorem TakeC.ok {n : Nat} {es : List (List AV)} {k : List (List AV) → Prop} (h : TakeC n es k) : n ≤ es.length ∧ k (es.take n) := by
  cases h with
  | full h hk => subst h; rw [List.take_length]; exact ⟨Nat.le_refl _, hk⟩
  | part h hk => exact ⟨h, hk⟩
def srcC (hp : Heap) (s : Nat) (y : AV) (k : List (List AV) → List Nat → Prop) : Prop :=
  match y with
  | .str l => s = 1 ∧ k (byteCells l) []
  | .sl s' es => s' = s ∧ k es []
  | .con (.slice none 0 0) => k [] []
  | .vs key g n => hlook hp key fun z => match z with
    | some (g', .vec s' es) => g' = g ∧ s' = s ∧ TakeC n es fun l => k l [key]
    | _ => False
  | .vw key g o n => hlook hp key fun z => match z with
    | some (g', .vec s' es) => g' = g ∧ s' = s ∧ Nat.ble (o + n) es.length = true ∧ k ((es.drop o).take n) [key]
    | _ => False
  | _ => False
theorem srcC_ok {hp : Heap} {s : Nat} {y : AV} {k : List (List AV) → List Nat → Prop} (h : srcC hp s y k) : ∃ ys r, aopV.appSrc (hget hp) s y = some (ys, r) ∧ k ys r := by
  unfold srcC at h
  unfold aopV.appSrc
  split at h
  · obtain ⟨rfl, h⟩ := h; exact ⟨_, _, rfl, h⟩
  · obtain ⟨rfl, h⟩ := h; exact ⟨_, _, by simp, h⟩
  · exact ⟨_, _, rfl, h⟩
  · rw [hlook_iff] at h
    split at h
    · rename_i hx
      obtain ⟨rfl, rfl, h⟩ := h
      obtain ⟨h1, h⟩ := h.ok
      exact ⟨_, _, by simp only [hx]; rw [if_pos (by simp), if_pos h1], h⟩
    · exact h.elim
  · rw [hlook_iff] at h
    split at h
    · rename_i hx
      obtain ⟨rfl, rfl, h1, h⟩ := h
      exact ⟨_, _, by simp only [hx]; rw [if_pos (by simp), if_pos (Nat.le_of_ble_eq_true h1)], h⟩
    · exact h.elim
  · exact h.elim
def bndC (v : AV) (y : Nat) (k : Nat → Prop) : Prop :=
  match v with
  | .int _ i => 0 ≤ i ∧ i ≤ y ∧ k i.toNat
  | _ => False
theorem bndC_ok {v : AV} {y : Nat} {k : Nat → Prop} (h : bndC v y k) : ∃ i, bnd v y = some i ∧ k i := by
  unfold bndC at h
  unfold bnd
  split at h
  · exact ⟨_, if_pos ⟨h.1, h.2.1⟩, h.2.2⟩
  · exact h.elim
def slbC (lo hi mx : Bool) (n : Nat) (bs : List AV) (k : Nat → Nat → Prop) : Prop :=
  match lo, hi, mx, bs with
  | false, false, false, [] => k 0 n
  | true, false, false, [a] => bndC a n fun l => k l n
  | false, true, false, [b] => bndC b n fun h => k 0 h
  | true, true, false, [a, b] => bndC b n fun h => bndC a h fun l => k l h
  | false, true, true, [b, c] => bndC c n fun m => bndC b m fun h => k 0 h
  | true, true, true, [a, b, c] => bndC c n fun m => bndC b m fun h => bndC a h fun l => k l h
  | _, _, _, _ => False
theorem slbC_ok {lo hi mx : Bool} {n : Nat} {bs : List AV} {k : Nat → Nat → Prop} (h : slbC lo hi mx n bs k) : ∃ a b, aopV.slBounds lo hi mx n bs = some (a, b) ∧ k a b := by
  unfold slbC at h
  unfold aopV.slBounds
  split at h
  · exact ⟨_, _, rfl, h⟩
  · obtain ⟨i, h1, h2⟩ := bndC_ok h; exact ⟨_, _, by simp only [h1, Option.map_some], h2⟩
  · obtain ⟨i, h1, h2⟩ := bndC_ok h; exact ⟨_, _, by simp only [h1, Option.map_some], h2⟩
  · obtain ⟨i, h1, h2⟩ := bndC_ok h
    obtain ⟨j, h3, h4⟩ := bndC_ok h2
    exact ⟨_, _, by simp only [h1, h3, Option.map_some, Option.bind_some], h4⟩
  · obtain ⟨i, h1, h2⟩ := bndC_ok h
    obtain ⟨j, h3, h4⟩ := bndC_ok h2
    exact ⟨_, _, by simp only [h1, h3, Option.map_some, Option.bind_some], h4⟩
  · obtain ⟨i, h1, h2⟩ := bndC_ok h
    obtain ⟨j, h3, h4⟩ := bndC_ok h2
    obtain ⟨l, h5, h6⟩ := bndC_ok h4
    exact ⟨_, _, by simp only [h1, h3, h5, Option.map_some, Option.bind_some], h6⟩
  · exact h.elim
def lenC (x : AV) (k : Nat → Prop) : Prop :=
  match x with
  | .sl _ es => k es.length
  | .con (.slice none 0 0) => k 0
  | .vs _ _ n => k n
  | .vw _ _ _ n => k n
  | _ => False
theorem lenC_ok {x : AV} {k : Nat → Prop} (h : lenC x k) : ∃ n, lenA x = some n ∧ k n := by
  unfold lenC at h
  split at h
  · exact ⟨_, rfl, h⟩
  · exact ⟨_, rfl, h⟩
  · exact ⟨_, rfl, h⟩
  · exact ⟨_, rfl, h⟩
  · exact h.elim
inductive B2s (hp : Heap) (x : AV) (k : List UInt8 → List Nat → Prop) : Prop
  | mk (es : List (List AV)) (r : List Nat) (l : List UInt8) (h1 : elemsAt (hget hp) x = some (es, r)) (h2 : aopV.bytesOf es = some l) (h3 : k l r) : B2s hp x k
inductive BslC (hp : Heap) (s : Nat) (z : List AV) (n : Nat) (ps : List Nat) (vs : List AV) (k : List (List AV) → List Nat → Prop) : Prop
  | pure (h1 : pureL vs = true) (es : List (List AV)) (h2 : fillE s (repl n z) ps vs = some es) (hk : k es []) : BslC hp s z n ps vs k
  | frz (D : List Nat) (hD : keysL true vs = D) (hne : D ≠ []) (es : List (List AV)) (h2 : fillE s (repl n z) ps (renL (frzφ (hget hp) D) vs) = some es) (hk : k es D) : BslC hp s z n ps vs k
def opD (op : AOp) (g key : Nat) (vals : List AV) (hp : Heap) (k : Eff → Prop) : Prop := ∃ e, aopV op g key vals (hget hp) = some e ∧ k e
def opC (op : AOp) (g key : Nat) (vals : List AV) (hp : Heap) (k : Eff → Prop) : Prop :=
  match op, vals with
  | .mv _, [x] => k { res := x }
  | .pick .., [c, a, b] => match c with
    | .bool t => condC t (k { res := a }) (k { res := b })
    | _ => False
  | .box _, [x] => cellsC x fun cs => k { res := .ref key g 0, wr := [(key, some (g, .cells cs))] }
  | .alloc z, [] => cellsC z fun cs => k { res := .ref key g 0, wr := [(key, some (g, .cells cs))] }
  | .build z ps _, vs => ∃ cs, fillA z ps vs = some cs ∧ forceN cs fun l => k { res := .agg l }
  | .load sz _, [a] => atC hp a fun cs rd => pickN sz cs fun v => k { res := v, rd := rd, sf := softOf a cs sz }
  | .store sz o1 o2, [a, x] => match a with
    | .ref key' g' o => cellsC x fun cs => bif Nat.beq cs.length sz then (hlook hp key' fun y => match y with
      | some (g'', .cells old) => g'' = g' ∧ putN o cs old fun new => k { res := .any, wr := [(key', some (g'', .cells new))], rd := [key'] }
      | _ => False) else False
    | .er key' g' i o => cellsC x fun cs => bif Nat.beq cs.length sz then (pureL cs = true ∧ hlook hp key' fun y => match y with
      | some (g'', .vec s es) => g'' = g' ∧ ∃ old, es[i]? = some old ∧ Nat.ble (o + sz) s = true ∧ k { res := .any, wr := [(key', some (g'', .vec s (es.set i (splice old o cs))))], rd := [key'] }
      | _ => False) else False
    | _ => opD (.store sz o1 o2) g key [a, x] hp k
  | .fadr off _, [a] => match a with
    | .ref key' g' o => k { res := .ref key' g' (o + off) }
    | .er key' g' i o => k { res := .er key' g' i (o + off) }
    | .rp cs => dropN off cs fun l => k { res := .rp l }
    | _ => False
  | .fval off sz _, [x] => match x with
    | .agg cs => dropN off cs fun l => pickN sz l fun v => k { res := v }
    | _ => False
  | .iadr s o1 o2, [x, i] => match x with
    | .sl s' es => match i with
      | .int _ j => s' = s ∧ 0 ≤ j ∧ ∃ cs, es[j.toNat]? = some cs ∧ k { res := .rp cs }
      | _ => False
    | .vs key' g' n => match i with
      | .int _ j => hlook hp key' fun y => match y with
        | some (g'', .vec s' _) => g'' = g' ∧ s' = s ∧ 0 ≤ j ∧ j.toNat < n ∧ k { res := .er key' g' j.toNat 0, rd := [key'] }
        | _ => False
      | _ => False
    | .vw key' g' o n => match i with
      | .int _ j => hlook hp key' fun y => match y with
        | some (g'', .vec s' _) => g'' = g' ∧ s' = s ∧ 0 ≤ j ∧ j.toNat < n ∧ k { res := .er key' g' (o + j.toNat) 0, rd := [key'] }
        | _ => False
      | _ => False
    | _ => opD (.iadr s o1 o2) g key [x, i] hp k
  | .bin op _ _, [x, y] => ∃ v, binA op x y = some v ∧ k { res := v }
  | .ext _ i, [x] => match x with
    | .tup vs => getN i vs fun v => k { res := v }
    | _ => False
  | .len str o, [x] => match x with
    | .sl _ es => bif str then False else k { res := .int .i64 es.length }
    | .vs _ _ n => bif str then False else k { res := .int .i64 n }
    | .vw _ _ _ n => bif str then False else k { res := .int .i64 n }
    | .str s => bif str then k { res := .int .i64 s.length } else False
    | _ => opD (.len str o) g key [x] hp k
  | .istr _ _, [x, i] => match i, x with
    | .int _ j, .str l => 0 ≤ j ∧ ∃ b, l[j.toNat]? = some b ∧ k { res := .int .u8 (b : UInt8).toNat }
    | _, _ => False
  | .slstr _ lo hi, x :: bs => match x with
    | .str l => slbC lo.isSome hi.isSome false l.length bs fun a b => k { res := .str ((l.drop a).take (b - a)) }
    | _ => False
  | .app s bytes _ _, [x, y] => srcC hp s y fun ys r => match x with
    | .con (.slice none 0 0) => room ys.length bytes = true ∧ k { res := .vs key g ys.length, wr := [(key, some (g, .vec s ys))], rd := r }
    | .vs key' g' n => hlook hp key' fun z => match z with
      | some (g'', .vec s' es) => g'' = g' ∧ s' = s ∧ TakeC n es fun l => room (n + ys.length) bytes = true ∧ k { res := .vs key' g (n + ys.length), wr := [(key', some (g, .vec s (l ++ ys)))], rd := key' :: r }
      | _ => False
    | _ => False
  | .mksl s bytes z _ _, [n, c] => match n, c with
    | .int .i64 n, .int .i64 c => 0 ≤ n ∧ n ≤ c ∧ z.length = s ∧ room c.toNat bytes = true ∧ k { res := .vs key g n.toNat, wr := [(key, some (g, .vec s (repl n.toNat z)))] }
    | _, _ => False
  | .bsl s z n ps _, vs => Nat.ble (n * s) 16777216 = true ∧ z.length = s ∧ BslC hp s z n ps vs fun es D => k { res := .vs key g n, wr := (key, some (g, .vec s es)) :: dropW D, rd := D }
  | .b2s _, [x] => B2s hp x fun l r => k { res := .str l, rd := r }
  | .slc s _ lo hi mx, x :: bs => lenC x fun n => slbC lo.isSome hi.isSome mx.isSome n bs fun l h => match x with
    | .sl s' es => s' = s ∧ k { res := .sl s ((es.drop l).take (h - l)) }
    | .con (.slice none 0 0) => k { res := .sl s [] }
    | .vs key' g' _ => hlook hp key' fun y => match y with
      | some (g'', .vec s' _) => g'' = g' ∧ s' = s ∧ ((l = 0 ∧ mx.isSome = false ∧ k { res := .vs key' g' h, rd := [key'] }) ∨ (¬ (l = 0 ∧ mx.isSome = false) ∧ k { res := .vw key' g' l (h - l), rd := [key'] }))
      | _ => False
    | .vw key' g' o _ => hlook hp key' fun y => match y with
      | some (g'', .vec s' _) => g'' = g' ∧ s' = s ∧ k { res := .vw key' g' (o + l) (h - l), rd := [key'] }
      | _ => False
    | _ => False
  | op, vs => opD op g key vs hp k
theorem opC_ok {op : AOp} {g key : Nat} {vals : List AV} {hp : Heap} {k : Eff → Prop} (h : opC op g key vals hp k) : ∃ e, aopV op g key vals (hget hp) = some e ∧ k e := by
  unfold opC at h
  split at h
  · exact ⟨_, rfl, h⟩
  · split at h
    · rename_i t
      cases t with
      | true => exact ⟨_, rfl, h.1 rfl⟩
      | false => exact ⟨_, rfl, h.2 rfl⟩
    · exact h.elim
  · obtain ⟨cs, h1, h2⟩ := cellsC_ok h
    exact ⟨_, by simp only [aopV, h1, Option.map_some], h2⟩
  · obtain ⟨cs, h1, h2⟩ := cellsC_ok h
    exact ⟨_, by simp only [aopV, h1, Option.map_some], h2⟩
  · obtain ⟨cs, h1, h2⟩ := h
    rw [forceN_iff] at h2
    exact ⟨_, by simp only [aopV, h1, Option.map_some], h2⟩
  · obtain ⟨cs, rd, h1, h2⟩ := atC_ok h
    obtain ⟨v, h3, h4⟩ := pickN_ok h2
    exact ⟨_, by simp only [aopV, h1, h3, Option.map_some], h4⟩
  · rename_i sz o1 o2 a x
    split at h
    · obtain ⟨cs, h1, h2⟩ := cellsC_ok h
      cases hb : Nat.beq cs.length sz with
      | false => rw [hb] at h2; exact h2.elim
      | true =>
        have hl : cs.length = sz := Nat.eq_of_beq_eq_true hb
        rw [hb] at h2
        dsimp only [cond] at h2
        rw [hlook_iff] at h2
        split at h2
        · rename_i g'' old hx
          obtain ⟨rfl, h3⟩ := h2
          obtain ⟨h4, h5⟩ := putN_ok h3
          rw [hl] at h4
          exact ⟨_, by simp only [aopV, h1, hx, if_true, hl, if_pos h4], h5⟩
        · exact h2.elim
    · obtain ⟨cs, h1, h2⟩ := cellsC_ok h
      cases hb : Nat.beq cs.length sz with
      | false => rw [hb] at h2; exact h2.elim
      | true =>
        have hl : cs.length = sz := Nat.eq_of_beq_eq_true hb
        rw [hb] at h2
        dsimp only [cond] at h2
        obtain ⟨hpu, h2⟩ := h2
        rw [hlook_iff] at h2
        split at h2
        · rename_i g'' s es hx
          obtain ⟨rfl, old, h3, h4, h5⟩ := h2
          obtain ⟨hi, rfl⟩ := List.getElem?_eq_some_iff.1 h3
          have h4 := Nat.le_of_ble_eq_true h4
          have hk := keysL_pure true cs hpu
          refine ⟨_, ?_, h5⟩
          simp only [aopV, h1, hx, if_true, hl]
          rw [if_pos ⟨hi, h4⟩, hk]
          simp only [List.getD_eq_getElem?_getD, h3, Option.getD_some]
        · exact h2.elim
    · exact h
  · split at h
    · exact ⟨_, rfl, h⟩
    · exact ⟨_, rfl, h⟩
    · rw [dropN_iff] at h; exact ⟨_, rfl, h⟩
    · exact h.elim
  · split at h
    · rw [dropN_iff] at h
      obtain ⟨v, h3, h4⟩ := pickN_ok h
      exact ⟨_, by simp only [aopV, h3, Option.map_some], h4⟩
    · exact h.elim
  · split at h
    · split at h
      · obtain ⟨rfl, h1, cs, h2, h3⟩ := h
        obtain ⟨hi, rfl⟩ := List.getElem?_eq_some_iff.1 h2
        refine ⟨_, by unfold aopV; dsimp only; rw [if_pos (by exact ⟨rfl, h1, hi⟩)], ?_⟩
        rw [List.getD_eq_getElem?_getD, h2]; exact h3
      · exact h.elim
    · split at h
      · rw [hlook_iff] at h
        split at h
        · rename_i hx
          obtain ⟨rfl, rfl, h1, h2, h3⟩ := h
          exact ⟨_, by unfold aopV; dsimp only; rw [hx]; dsimp only; rw [if_pos (by exact ⟨rfl, rfl⟩), if_pos (by exact ⟨h1, h2⟩)], h3⟩
        · exact h.elim
      · exact h.elim
    · split at h
      · rw [hlook_iff] at h
        split at h
        · rename_i hx
          obtain ⟨rfl, rfl, h1, h2, h3⟩ := h
          exact ⟨_, by unfold aopV; dsimp only; rw [hx]; dsimp only; rw [if_pos (by exact ⟨rfl, rfl⟩), if_pos (by exact ⟨h1, h2⟩)], h3⟩
        · exact h.elim
      · exact h.elim
    · exact h
  · obtain ⟨v, h1, h2⟩ := h
    exact ⟨_, by simp only [aopV, h1, Option.map_some], h2⟩
  · split at h
    · obtain ⟨h1, h2⟩ := getN_ok h
      exact ⟨_, by simp only [aopV, if_pos h1], h2⟩
    · exact h.elim
  · rename_i str o x
    split at h
    · cases str with
      | true => exact h.elim
      | false => exact ⟨_, rfl, h⟩
    · cases str with
      | true => exact h.elim
      | false => exact ⟨_, rfl, h⟩
    · cases str with
      | true => exact h.elim
      | false => exact ⟨_, rfl, h⟩
    · cases str with
      | false => exact h.elim
      | true => exact ⟨_, rfl, h⟩
    · exact h
  · split at h
    · obtain ⟨h1, b, h2, h3⟩ := h
      obtain ⟨hi, rfl⟩ := List.getElem?_eq_some_iff.1 h2
      refine ⟨_, by unfold aopV; dsimp only; rw [if_pos (by exact ⟨h1, hi⟩)], ?_⟩
      rw [List.getD_eq_getElem?_getD, h2]; exact h3
    · exact h.elim
  · split at h
    · obtain ⟨a, b, h1, h2⟩ := slbC_ok h
      exact ⟨_, by simp only [aopV, h1], h2⟩
    · exact h.elim
  · obtain ⟨ys, r, h1, h2⟩ := srcC_ok h
    split at h2
    · exact ⟨_, by simp only [aopV, h1]; rw [if_pos h2.1], h2.2⟩
    · rw [hlook_iff] at h2
      split at h2
      · rename_i hx
        obtain ⟨rfl, rfl, h2⟩ := h2
        obtain ⟨h3, h4, h5⟩ := h2.ok
        exact ⟨_, by simp only [aopV, h1, hx]; rw [if_pos (by exact ⟨by simp, by simp, h3, h4⟩)], h5⟩
      · exact h2.elim
    · exact h2.elim
  · split at h
    · obtain ⟨h1, h2, h3, h4, h5⟩ := h
      exact ⟨_, by unfold aopV; dsimp only; rw [if_pos (by exact ⟨h1, h2, h3, h4⟩)], h5⟩
    · exact h.elim
  · obtain ⟨h2, h3, h⟩ := h
    have h2' := Nat.le_of_ble_eq_true h2
    cases h with
    | pure h1 es h4 h5 =>
      refine ⟨_, ?_, h5⟩
      unfold aopV
      dsimp only
      rw [if_pos (by exact ⟨h2', h3⟩), keysL_pure true _ h1]
      dsimp only
      rw [h4]; rfl
    | frz D hD hne es h4 h5 =>
      refine ⟨_, ?_, h5⟩
      unfold aopV
      dsimp only
      rw [if_pos (by exact ⟨h2', h3⟩), hD]
      cases D with
      | nil => exact absurd rfl hne
      | cons d r => dsimp only; rw [h4]; rfl
  · obtain ⟨es, r, l, h1, h2, h3⟩ := h
    exact ⟨_, by simp only [aopV, h1, h2, Option.map_some], h3⟩
  · obtain ⟨n, h1, h2⟩ := lenC_ok h
    obtain ⟨l, hh, h3, h4⟩ := slbC_ok h2
    split at h4
    · obtain ⟨rfl, h5⟩ := h4
      exact ⟨_, by simp only [aopV, h1, h3, if_true], h5⟩
    · exact ⟨_, by simp only [aopV, h1, h3], h4⟩
    · rw [hlook_iff] at h4
      split at h4
      · rename_i hx
        obtain ⟨rfl, rfl, h5⟩ := h4
        rcases h5 with ⟨q1, q2, h5⟩ | ⟨q, h5⟩
        · exact ⟨_, by simp only [aopV, h1, h3, hx]; rw [if_pos (by simp), if_pos (by exact ⟨q1, q2⟩)], h5⟩
        · exact ⟨_, by simp only [aopV, h1, h3, hx]; rw [if_pos (by simp), if_neg q], h5⟩
      · exact h4.elim
    · rw [hlook_iff] at h4
      split at h4
      · rename_i hx
        obtain ⟨rfl, rfl, h5⟩ := h4
        exact ⟨_, by simp only [aopV, h1, h3, hx]; rw [if_pos (by simp)], h5⟩
      · exact h4.elim
    · exact h4.elim
  · exact h
end Go.AM
namespace Go.AM
def wantC (tm : List (Nat × AV)) (gd : Option (Nat × Bool)) (p q : Prop) : Prop :=
  match gd with
  | none => p
  | some (t, w) => look tm t fun v => match v with
    | .bool b => condC (b == w) p q
    | .con (.tuple _) => q
    | _ => False
theorem wantC_ok {tm : List (Nat × AV)} {gd : Option (Nat × Bool)} {p q : Prop} (h : wantC tm gd p q) : (wantedA tm gd = some true ∧ p) ∨ (wantedA tm gd = some false ∧ q) := by
  unfold wantC at h
  split at h
  · exact .inl ⟨rfl, h⟩
  · rename_i t w
    rw [look_iff] at h
    unfold wantedA
    dsimp only
    split at h
    · rename_i b hb
      rw [hb]
      dsimp only
      cases hc : b == w with
      | true => rw [hc] at h; exact .inl ⟨rfl, h.1 rfl⟩
      | false => rw [hc] at h; exact .inr ⟨rfl, h.2 rfl⟩
    · rename_i hb
      rw [hb]
      exact .inr ⟨rfl, h⟩
    · exact h.elim
def appC : Heap → Heap → (Heap → Prop) → Prop
  | [], h, k => k h
  | x :: r, h, k => appC r h fun l => k (x :: l)
theorem appC_iff : ∀ {a h : Heap} {k : Heap → Prop}, appC a h k ↔ k (a ++ h)
  | [], h, k => Iff.rfl
  | x :: r, h, k => by simp only [appC, List.cons_append]; exact appC_iff
def putC (d : Option Nat) (v : AV) (tm : List (Nat × AV)) (k : List (Nat × AV) → Prop) : Prop :=
  match d with
  | some d => k ((d, v) :: tm)
  | none => k tm
inductive CallG (G : Nat → Fun) (hp : Heap) (f : Nat) (args : List AV) (g dst : Nat) (E : Prop) (k : Eff → Prop) : Prop
  | mk (c : CIn) (r : Ret) (e : Eff) (h1 : callIn (hget hp) (G f).raw args = some c) (h2 : Gives G f c.args c.bs r) (h3 : callOut (hget hp) c g dst r = some e) (h4 : k e) : CallG G hp f args g dst E k
  | stop (h : E) : CallG G hp f args g dst E k
theorem callV {G : Nat → Fun} {hp : Heap} {f : Nat} {args : List AV} {g dst : Nat} {E : Prop} {k : Eff → Prop} {r : AV} (hG : Gives G f args [] ⟨r, []⟩) (hp' : pureL args = true) (hr : r.dry = true) (h : k { res := r }) : CallG G hp f args g dst E k :=
  .mk _ _ _ (callIn_pure hp') hG (callOut_dry hr) h
def drawC (b : Bool) (q p : Prop) : Prop := bif b then p else q ∧ p
theorem drawC_ok {o : List Nat} {e : Eff} {dn : List DnE} {p : Prop} (h : drawC (okWith o e dn) (OkS o e dn) p) : OkS o e dn ∧ p := by
  unfold drawC at h
  cases hb : okWith o e dn with
  | true => rw [hb] at h; exact ⟨OkS.of hb, h⟩
  | false => rw [hb] at h; exact h
def W (G : Nat → Fun) (rs : List RVar) (m : Nat) (t : Ret) (d : Nat) : Nat → List AItem → List (Nat × AV) → Heap → Nat → Prop
  | 0, todo, tm, hp, ctr => Ev G ⟨todo, ⟨tm, hp, ctr⟩, rs, m⟩ t
  | n + 1, todo, tm, hp, ctr => bif Nat.ble todo.length d then Ev G ⟨todo, ⟨tm, hp, ctr⟩, rs, m⟩ t else match todo with
    | [] => Ev G ⟨[], ⟨tm, hp, ctr⟩, rs, m⟩ t
    | .code c :: k => match c with
      | .ret => Ev G ⟨.code .ret :: k, ⟨tm, hp, ctr⟩, rs, m⟩ t
      | .skip => W G rs m t d n k tm hp ctr
      | .seq a b => W G rs m t d n (.code a :: .code b :: k) tm hp ctr
      | .cond x a b => opdC tm x fun v => match v with
        | .bool c => condC c (W G rs m t d n (.code a :: k) tm hp ctr) (W G rs m t d n (.code b :: k) tm hp ctr)
        | _ => False
      | .block id b => W G rs m t d n (.code b :: .inBlock id :: k) tm hp ctr
      | .scope b => W G rs m t d n (.code b :: .inScope :: k) tm hp ctr
      | .loop b => Ev G ⟨.inLoop b :: k, ⟨tm, hp, ctr⟩, rs, m⟩ t
      | .exit id => match aexit id k with
        | some k' => W G rs m t d n k' tm hp ctr
        | none => False
      | .region ops draw => W G rs m t d n (.inReg ops 0 [] draw :: k) tm hp ctr
    | .inLoop b :: k => Ev G ⟨.inLoop b :: k, ⟨tm, hp, ctr⟩, rs, m⟩ t
    | .inBlock _ :: k => W G rs m t d n k tm hp ctr
    | .inScope :: k => W G rs m t d n k tm hp ctr
    | .inReg [] i _ _ :: k => W G rs m t d n k tm hp (ctr + i)
    | .inReg (o :: rest) i dn draw :: k =>
      let ke : Eff → Prop := fun e =>
        bif draw then drawC (okWith o.after e dn) (OkS o.after e dn) (putC o.dst e.res tm fun tm' => appC e.wr hp fun hp' => W G rs m t d n (.inReg rest (i + 1) (dnPut i e dn) draw :: k) tm' hp' ctr)
        else putC o.dst e.res tm fun tm' => appC e.wr hp fun hp' => W G rs m t d n (.inReg rest (i + 1) dn draw :: k) tm' hp' ctr
      wantC tm o.guard
        (match o.op with
        | .call f args => opdsC tm (f :: args) fun vals => match vals with
          | .fn f' cap :: vs => CallG G hp f' (vs ++ cap) (ctr + i) (o.dst.getD 0) (Ev G ⟨.inReg (o :: rest) i dn draw :: k, ⟨tm, hp, ctr⟩, rs, m⟩ t) ke
          | _ => False
        | op => opdsC tm op.opds fun vals => opC op (ctr + i) (kloc (o.dst.getD 0) 0) vals hp ke)
        (putC o.dst skipV tm fun tm' => W G rs m t d n (.inReg rest (i + 1) dn draw :: k) tm' hp ctr)
theorem W_okd {G : Nat → Fun} {rs : List RVar} {m : Nat} {t : Ret} (d : Nat) : ∀ (n : Nat) (todo : List AItem) (tm : List (Nat × AV)) (hp : Heap) (ctr : Nat), W G rs m t d n todo tm hp ctr → Ev G ⟨todo, ⟨tm, hp, ctr⟩, rs, m⟩ t
  | 0, todo, tm, hp, ctr, h => h
  | n + 1, todo, tm, hp, ctr, h => by
    unfold W at h
    cases hle : Nat.ble todo.length d with
    | true => rw [hle] at h; exact h
    | false =>
    rw [hle] at h
    dsimp only [cond] at h
    cases todo with
    | nil => exact h
    | cons it k =>
      cases it with
      | code c =>
        cases c with
        | ret => exact h
        | cond x a b =>
          have h' := opdC_iff.1 (show opdC tm x _ from h)
          split at h'
          · rename_i c hx
            exact ev_cond c hx (fun e => W_okd d n _ _ _ _ (h'.1 e)) (fun e => W_okd d n _ _ _ _ (h'.2 e))
          · exact h'.elim
        | exit id =>
          have h' : (match aexit id k with | some k' => W G rs m t d n k' tm hp ctr | none => False) := h
          split at h'
          · rename_i k' hx
            exact ev_step1 (fun ih => by simp only [stepR, hx]) (W_okd d n _ _ _ _ h')
          · exact h'.elim
        | loop b => exact ev_step1 (fun _ => rfl) (show Ev G _ t from h)
        | skip => exact ev_step1 (fun _ => rfl) (W_okd d n _ _ _ _ h)
        | seq a b => exact ev_step1 (fun _ => rfl) (W_okd d n _ _ _ _ h)
        | block id b => exact ev_step1 (fun _ => rfl) (W_okd d n _ _ _ _ h)
        | scope b => exact ev_step1 (fun _ => rfl) (W_okd d n _ _ _ _ h)
        | region ops draw => exact ev_step1 (fun _ => rfl) (W_okd d n _ _ _ _ h)
      | inLoop b => exact h
      | inBlock id => exact ev_step1 (fun _ => rfl) (W_okd d n _ _ _ _ h)
      | inScope => exact ev_step1 (fun _ => rfl) (W_okd d n _ _ _ _ h)
      | inReg rest i dn draw =>
        cases rest with
        | nil => exact ev_regEnd (W_okd d n _ _ _ _ h)
        | cons o rest =>
          have fin : ∀ e : Eff, wantedA tm o.guard = some true → OpE G o (ctr + i) ⟨tm, hp, ctr⟩ e →
              (bif draw then drawC (okWith o.after e dn) (OkS o.after e dn) (putC o.dst e.res tm fun tm' => appC e.wr hp fun hp' => W G rs m t d n (.inReg rest (i + 1) (dnPut i e dn) draw :: k) tm' hp' ctr)
                else putC o.dst e.res tm fun tm' => appC e.wr hp fun hp' => W G rs m t d n (.inReg rest (i + 1) dn draw :: k) tm' hp' ctr) →
              Ev G ⟨.inReg (o :: rest) i dn draw :: k, ⟨tm, hp, ctr⟩, rs, m⟩ t := by
            intro e hw he hk
            have put : ∀ (k2 : List (Nat × AV) → Heap → Prop), (putC o.dst e.res tm fun tm' => appC e.wr hp fun hp' => k2 tm' hp') → k2 ((AS.mk tm hp ctr).app o.dst e).tm ((AS.mk tm hp ctr).app o.dst e).hp := by
              intro k2 h2
              unfold putC at h2
              cases hd : o.dst with
              | none => rw [hd] at h2; exact appC_iff.1 h2
              | some d => rw [hd] at h2; exact appC_iff.1 h2
            have hctr : ((AS.mk tm hp ctr).app o.dst e).ctr = ctr := AS.app_ctr _ _ _
            have eta : ∀ (A : AS), A.ctr = ctr → (⟨A.tm, A.hp, ctr⟩ : AS) = A := fun A hA => by subst hA; rfl
            cases draw with
            | true =>
              dsimp only [cond] at hk
              replace hk := drawC_ok hk
              refine ev_opD hw he hk.1 ?_
              rw [← eta _ hctr]
              exact W_okd d n _ _ _ _ (put (fun tm' hp' => W G rs m t d n (.inReg rest (i + 1) (dnPut i e dn) true :: k) tm' hp' ctr) hk.2)
            | false =>
              dsimp only [cond] at hk
              · refine ev_opS hw he ?_
                rw [← eta _ hctr]
                exact W_okd d n _ _ _ _ (put (fun tm' hp' => W G rs m t d n (.inReg rest (i + 1) dn false :: k) tm' hp' ctr) hk)
          rcases wantC_ok (show wantC tm o.guard _ _ from h) with ⟨hw, h'⟩ | ⟨hw, h'⟩
          · obtain ⟨d, op, gd, af⟩ := o
            cases op with
            | call f args =>
              have h2 := opdsC_iff.1 (show opdsC tm (f :: args) _ from h')
              dsimp only at h2
              split at h2
              · rename_i f' cap vs hv
                cases h2 with
                | mk c r e q1 q2 q3 q4 => exact fin e hw (.call hv q1 q2 q3) q4
                | stop h => exact h
              · exact h2.elim
            | _ =>
              have h2 := opdsC_iff.1 h'
              dsimp only at h2
              · obtain ⟨e, q1, q2⟩ := opC_ok h2
                exact fin e hw (.op (by intro f args hh; cases hh) q1) q2
          · refine ev_opN hw ?_
            have : (AS.mk tm hp ctr).put o.dst skipV = ⟨((AS.mk tm hp ctr).put o.dst skipV).tm, hp, ctr⟩ := by cases o.dst <;> rfl
            rw [this]
            refine W_okd d n _ _ _ _ ?_
            unfold putC at h'
            cases hd : o.dst with
            | none => rw [hd] at h'; exact h'
            | some d => rw [hd] at h'; exact h'
theorem W_ok {G : Nat → Fun} {rs : List RVar} {m : Nat} {t : Ret} (n : Nat) (todo : List AItem) (tm : List (Nat × AV)) (hp : Heap) (ctr : Nat) (h : W G rs m t 0 n todo tm hp ctr) : Ev G ⟨todo, ⟨tm, hp, ctr⟩, rs, m⟩ t := W_okd 0 n todo tm hp ctr h
theorem ev_seq {G : Nat → Fun} {a b : ACode} {k : List AItem} {A : AS} {rs : List RVar} {m : Nat} {t : Ret} (h : Ev G ⟨.code a :: .code b :: k, A, rs, m⟩ t) : Ev G ⟨.code (.seq a b) :: k, A, rs, m⟩ t := ev_step1 (fun _ => rfl) h
end Go.AM
namespace Go.AM
section
variable {p q : Prop}
theorem condD {c : Prop} [Decidable c] (h1 : c → p) (h2 : ¬ c → q) : condC (decide c) p q := ⟨fun h => h1 (of_decide_eq_true h), fun h => h2 (of_decide_eq_false h)⟩
theorem condDT {c : Prop} [Decidable c] (h : c) (h1 : p) : condC (decide c) p q := condD (fun _ => h1) fun h2 => absurd h h2
theorem condDF {c : Prop} [Decidable c] (h : ¬ c) (h1 : q) : condC (decide c) p q := condD (fun h2 => absurd h2 h) fun _ => h1
theorem condB {a b : Int} (h1 : a = b → p) (h2 : ¬ a = b → q) : condC (a == b) p q := ⟨fun h => h1 (by simpa using h), fun h => h2 (by simpa using h)⟩
theorem condBT {a b : Int} (h : a = b) (h1 : p) : condC (a == b) p q := condB (fun _ => h1) fun h2 => absurd h h2
theorem condBF {a b : Int} (h : ¬ a = b) (h1 : q) : condC (a == b) p q := condB (fun h2 => absurd h2 h) fun _ => h1
theorem condN {a b : Int} (h1 : ¬ a = b → p) (h2 : a = b → q) : condC (a != b) p q := ⟨fun h => h1 (by simpa using h), fun h => h2 (by simpa using h)⟩
theorem condNT {a b : Int} (h : ¬ a = b) (h1 : p) : condC (a != b) p q := condN (fun _ => h1) fun h2 => absurd h2 h
theorem condNF {a b : Int} (h : a = b) (h1 : q) : condC (a != b) p q := condN (fun h2 => absurd h h2) fun _ => h1
theorem condG1 {b : Bool} (h : condC b p q) : condC (b == true) p q := by cases b <;> exact h
theorem condG0 {b : Bool} (h : condC b q p) : condC (b == false) p q := by
  cases b with
  | true => exact ⟨fun e => (by cases e), fun _ => h.1 rfl⟩
  | false => exact ⟨fun _ => h.2 rfl, fun e => (by cases e)⟩
theorem condV {b : Bool} (h1 : b = true → p) (h2 : b = false → q) : condC b p q := ⟨h1, h2⟩
end
theorem ble_of {a b : Nat} (h : a ≤ b) : Nat.ble a b = true := Nat.ble_eq_true_of_le h
theorem wrap_i64 {a : Int} (h1 : -9223372036854775808 ≤ a) (h2 : a ≤ 9223372036854775807) : IntKind.wrap .i64 a = a := by
  have h : IntKind.wrap .i64 a = if a % 18446744073709551616 ≥ 9223372036854775808 then a % 18446744073709551616 - 18446744073709551616 else a % 18446744073709551616 := by
    first | rfl | simp [IntKind.wrap, IntKind.bits, IntKind.signed]
  rw [h]
  split <;> omega
theorem binA_add_i64 {a b : Int} (h1 : -9223372036854775808 ≤ a + b) (h2 : a + b ≤ 9223372036854775807) : binA .add (.int .i64 a) (.int .i64 b) = some (.int .i64 (a + b)) := by
  show some (AV.int .i64 (IntKind.wrap .i64 (a + b))) = _
  rw [wrap_i64 h1 h2]
theorem binA_sub_i64 {a b : Int} (h1 : -9223372036854775808 ≤ a - b) (h2 : a - b ≤ 9223372036854775807) : binA .sub (.int .i64 a) (.int .i64 b) = some (.int .i64 (a - b)) := by
  show some (AV.int .i64 (IntKind.wrap .i64 (a - b))) = _
  rw [wrap_i64 h1 h2]
theorem binA_mul_i64 {a b : Int} (h1 : -9223372036854775808 ≤ a * b) (h2 : a * b ≤ 9223372036854775807) : binA .mul (.int .i64 a) (.int .i64 b) = some (.int .i64 (a * b)) := by
  show some (AV.int .i64 (IntKind.wrap .i64 (a * b))) = _
  rw [wrap_i64 h1 h2]
theorem conv_i64 {x : Opd} {g key : Nat} {k : IntKind} {n : Int} {hg : Nat → Option (Nat × Blk)} (h1 : -9223372036854775808 ≤ n) (h2 : n ≤ 9223372036854775807) : aopV (.conv .i64 x) g key [.int k n] hg = some { res := .int .i64 n } := by
  show some (Eff.mk (AV.int .i64 (IntKind.wrap .i64 n)) [] [] []) = _
  rw [wrap_i64 h1 h2]
end Go.AM
namespace Go.AM
mutual
theorem AV.ren_congr {φ ψ : Nat → Nat → Tgt} : ∀ a : AV, (∀ k ∈ a.keys true, ∀ g, φ k g = ψ k g) → a.ren φ = a.ren ψ
  | .any, _ | .int _ _, _ | .bool _, _ | .str _, _ | .con _, _ => by simp [AV.ren]
  | .agg cs, h => by simp only [AV.ren]; rw [renL_congr cs (by simpa [AV.keys] using h)]
  | .rp cs, h => by simp only [AV.ren]; rw [renL_congr cs (by simpa [AV.keys] using h)]
  | .fn f cs, h => by simp only [AV.ren]; rw [renL_congr cs (by simpa [AV.keys] using h)]
  | .tup cs, h => by simp only [AV.ren]; rw [renL_congr cs (by simpa [AV.keys] using h)]
  | .sl s es, h => by simp only [AV.ren]; rw [renLL_congr es (by simpa [AV.keys] using h)]
  | .ref k g o, h => by simp only [AV.ren]; rw [h k (by simp [AV.keys])]
  | .er k g i o, h => by simp only [AV.ren]; rw [h k (by simp [AV.keys])]
  | .vs k g n, h => by simp only [AV.ren]; rw [h k (by simp [AV.keys])]
  | .vw k g o n, h => by simp only [AV.ren]; rw [h k (by simp [AV.keys])]
  | .ifc t v, h => by simp only [AV.ren]; rw [AV.ren_congr v (by simpa [AV.keys] using h)]
theorem renL_congr {φ ψ : Nat → Nat → Tgt} : ∀ l : List AV, (∀ k ∈ keysL true l, ∀ g, φ k g = ψ k g) → renL φ l = renL ψ l
  | [], _ => rfl
  | a :: r, h => by
    simp only [keysL, List.mem_append] at h
    simp only [renL]; rw [AV.ren_congr a fun k hk => h k (.inl hk), renL_congr r fun k hk => h k (.inr hk)]
theorem renLL_congr {φ ψ : Nat → Nat → Tgt} : ∀ l : List (List AV), (∀ k ∈ keysLL true l, ∀ g, φ k g = ψ k g) → renLL φ l = renLL ψ l
  | [], _ => rfl
  | a :: r, h => by
    simp only [keysLL, List.mem_append] at h
    simp only [renLL]; rw [renL_congr a fun k hk => h k (.inl hk), renLL_congr r fun k hk => h k (.inr hk)]
end
abbrev Fzs := List (Nat × Nat × Blk)
def FzOk (hp : Heap) : Fzs → Prop
  | [] => True
  | (k, g, b) :: r => (hlook hp k fun z => z = some (g, b)) ∧ b.pure = true ∧ FzOk hp r
def φF : Fzs → Nat → Nat → Tgt
  | [], k, g => .to k g
  | (k', g', b) :: r, k, g => bif Nat.beq k' k then (bif Nat.beq g' g then .frz b else .dead) else φF r k g
theorem FzOk.at {hp : Heap} : ∀ {Fz : Fzs}, FzOk hp Fz → ∀ x ∈ Fz, hget hp x.1 = some (x.2.1, x.2.2) ∧ x.2.2.pure = true
  | (k, g, b) :: r, ⟨h1, h2, h3⟩, x, hx => by
    rcases List.mem_cons.1 hx with rfl | hx
    · exact ⟨hlook_iff.1 h1, h2⟩
    · exact FzOk.at h3 x hx
theorem beq_false' {a b : Nat} (h : a ≠ b) : Nat.beq a b = false := by
  cases hb : Nat.beq a b with
  | false => rfl
  | true => exact absurd (Nat.eq_of_beq_eq_true hb) h
theorem φF_mem {hp : Heap} : ∀ {Fz : Fzs}, FzOk hp Fz → ∀ k g, k ∈ Fz.map (·.1) → φF Fz k g = match hget hp k with
    | some (g', b) => if g' = g then (bif b.pure then .frz b else .dead) else .dead
    | none => .dead
  | (k', g', b) :: r, h, k, g, hk => by
    by_cases e : k' = k
    · subst e
      obtain ⟨h1, h2⟩ := h.at (k', g', b) (by simp)
      simp only at h1 h2
      rw [h1]
      simp only [φF, Nat.beq_refl, cond_true, h2]
      by_cases e2 : g' = g
      · subst e2; simp
      · rw [beq_false' e2, if_neg e2]; rfl
    · simp only [φF, beq_false' e, cond_false]
      exact φF_mem h.2.2 k g (by simpa [Ne.symm e] using hk)
theorem φF_not : ∀ {Fz : Fzs} {k : Nat}, k ∉ Fz.map (·.1) → ∀ g, φF Fz k g = .to k g
  | [], _, _, _ => rfl
  | (k', g', b) :: r, k, hk, g => by
    simp only [List.map_cons, List.mem_cons, not_or] at hk
    simp only [φF, beq_false' (Ne.symm hk.1), cond_false]
    exact φF_not hk.2 g
theorem keepφ_F {hp : Heap} {Fz : Fzs} (h : FzOk hp Fz) : keepφ (hget hp) (Fz.map (·.1)) = φF Fz := by
  funext k g
  unfold keepφ frzφ
  by_cases hk : k ∈ Fz.map (·.1)
  · have hc : (Fz.map (·.1)).contains k = true := by simpa using hk
    rw [hc, cond_true, cond_true, φF_mem h k g hk]
    cases hget hp k <;> rfl
  · have hc : (Fz.map (·.1)).contains k = false := by
      cases hq : (Fz.map (·.1)).contains k with
      | false => rfl
      | true => exact absurd (by simpa using hq) hk
    rw [hc, cond_false, φF_not hk]
def LOk (tm : List (Nat × AV)) (φ : Nat → Nat → Tgt) : List (Nat × AV) → Prop
  | [] => True
  | (t, v) :: r => (look tm t fun u => u.ren φ = v) ∧ LOk tm φ r
def KOk (hp : Heap) (D : List Nat) (φ : Nat → Nat → Tgt) : Heap → Prop
  | [] => True
  | (k, z) :: r => (bif D.contains k then z = none else hlook hp k fun y => match y with
    | none => z = none
    | some (g, b) => z = some (g, b.ren φ)) ∧ KOk hp D φ r
theorem LOk.get {tm : List (Nat × AV)} {φ : Nat → Nat → Tgt} : ∀ {L : List (Nat × AV)}, LOk tm φ L → tget (L ++ renT φ tm) = tget (renT φ tm)
  | [], _ => rfl
  | (t, v) :: r, ⟨h1, h2⟩ => by
    funext u
    simp only [List.cons_append, tget, h2.get]
    split
    · rename_i e; subst e
      rw [look_iff] at h1
      rw [tget_renT, h1]
    · rfl
theorem dropW_get : ∀ {D : List Nat} {h : Heap} {k : Nat}, hget (dropW D ++ h) k = if D.contains k then none else hget h k
  | [], h, k => by simp [dropW]
  | d :: D, h, k => by
    simp only [dropW, List.cons_append, hget, dropW_get (D := D)]
    by_cases e : d = k
    · subst e; simp
    · simp [e, Ne.symm e]
theorem KOk.get {hp : Heap} {D : List Nat} {φ : Nat → Nat → Tgt} : ∀ {K : Heap}, KOk hp D φ K → hget (K ++ (dropW D ++ renH φ hp)) = hget (dropW D ++ renH φ hp)
  | [], _ => rfl
  | (k, z) :: r, ⟨h1, h2⟩ => by
    funext u
    simp only [List.cons_append, hget, h2.get]
    split
    · rename_i e; subst e
      rw [dropW_get]
      cases hc : D.contains k with
      | true => rw [hc] at h1; rw [if_pos rfl]; exact h1
      | false =>
        rw [hc, cond_false, hlook_iff] at h1
        rw [if_neg (by simp)]
        rw [hget_renH]
        cases hk : hget hp k with
        | none => rw [hk] at h1; rw [h1]; rfl
        | some y => obtain ⟨g, b⟩ := y; rw [hk] at h1; rw [h1]; rfl
    · rfl
section
variable {G : Nat → Fun} {rs : List RVar} {m : Nat} {t : Ret}
theorem ev_frz {todo : List AItem} {tm : List (Nat × AV)} {hp : Heap} {ctr : Nat} (Fz : Fzs) (L : List (Nat × AV)) (K : Heap)
    (hF : FzOk hp Fz) (hL : LOk tm (φF Fz) L) (hK : KOk hp (Fz.map (·.1)) (φF Fz) K)
    (h : ∀ T H, Ev G ⟨todo, ⟨L ++ T, K ++ H, ctr⟩, rs, m⟩ t) (hd : notDraw todo = true := by rfl) : Ev G ⟨todo, ⟨tm, hp, ctr⟩, rs, m⟩ t := by
  have q := h (renT (φF Fz) tm) (dropW (Fz.map (·.1)) ++ renH (φF Fz) hp)
  have hs : AS.Same ((AS.mk tm hp ctr).frz (Fz.map (·.1))) ⟨L ++ renT (φF Fz) tm, K ++ (dropW (Fz.map (·.1)) ++ renH (φF Fz) hp), ctr⟩ := by
    refine ⟨?_, ?_, rfl⟩
    · show tget (renT (keepφ (hget hp) _) tm) = _
      rw [keepφ_F hF]; exact hL.get.symm
    · show hget (dropW _ ++ renH (keepφ (hget hp) _) hp) = _
      rw [keepφ_F hF]; exact hK.get.symm
  exact ev_wk0 hd (Wk0.trans (B := (AS.mk tm hp ctr).frz (Fz.map (·.1))) ⟨rfl, fun C U a w r => r.frz _⟩ (.of_same hs)) q
end
theorem callIn_fz {hp : Heap} {raw : Bool} {args args' : List AV} {Fz : Fzs} (hF : FzOk hp Fz) (hk : keysL true args = Fz.map (·.1)) (hne : Fz.map (·.1) ≠ []) (hx : keysL raw args = []) (ha : renL (φF Fz) args = args') :
    callIn (hget hp) raw args = some ⟨args', [], [], Fz.map (·.1)⟩ := by
  unfold callIn
  rw [hk]
  split
  · rename_i h; exact absurd h hne
  · have hD : extKeys (hget hp) raw args = [] := by unfold extKeys; rw [hx]
    simp only [hD, extBlks, Option.map_some]
    have hfil : (Fz.map (·.1)).filter (fun k => !([] : List Nat).contains k) = Fz.map (·.1) := by
      apply List.filter_eq_self.2; intro a _; rfl
    rw [hfil, ← ha]
    congr 2
    refine renL_congr args fun k hk' g => ?_
    rw [hk] at hk'
    rw [φF_mem hF k g hk']
    unfold argφ
    have hc : (Fz.map (·.1)).contains k = true := by simpa using hk'
    cases hget hp k with
    | none => rfl
    | some x => obtain ⟨g', b⟩ := x; simp only [idx, hc, Bool.true_and]
def φN (dst g n : Nat) : Nat → Nat → Tgt := fun i _ => bif Nat.blt i n then .to (kloc dst i) g else .dead
def newW (dst g : Nat) : Nat → List (Bool × Blk) → Heap
  | _, [] => []
  | i, (_, b) :: r => (kloc dst i, some (g, b)) :: newW dst g (i + 1) r
def pureBs : List (Bool × Blk) → Bool
  | [] => true
  | (_, b) :: r => b.pure && pureBs r
theorem kloc_inj {dst i j : Nat} (h : kloc dst i = kloc dst j) : i = j := by unfold kloc at h; omega
theorem Blk.ren_pure {φ : Nat → Nat → Tgt} {b : Blk} (h : b.pure = true) : b.ren φ = b := by
  cases b with
  | cells cs => simp only [Blk.ren]; rw [renL_pure φ cs h]
  | vec s es => simp only [Blk.ren]; rw [renLL_pure φ es h]
theorem nodupB_of : ∀ {l : List Nat}, l.Nodup → nodupB l = true
  | [], _ => rfl
  | k :: r, h => by
    rw [List.nodup_cons] at h
    simp only [nodupB, nodupB_of h.2, Bool.and_true]
    cases hc : r.contains k with
    | false => rfl
    | true => exact absurd (by simpa using hc) h.1
theorem callOut_new {hg : Nat → Option (Nat × Blk)} {args : List AV} {cb : List Blk} {F : List Nat} {g dst : Nat} {t : Ret} (hd : (t.bs.isEmpty && t.r.dry) = false) (hp : pureBs t.bs = true) :
    callOut hg ⟨args, cb, [], F⟩ g dst t = some { res := t.r.ren (φN dst g t.bs.length), wr := newW dst g 0 t.bs ++ dropW F, rd := F ++ [] } := by
  unfold callOut
  simp only [hd, cond_false]
  have hK : tgtKeys [] dst t.bs.length = (List.range t.bs.length).map (kloc dst) := rfl
  have hat : ∀ i, ((List.range t.bs.length).map (kloc dst))[i]? = if i < t.bs.length then some (kloc dst i) else none := fun i => by
    rw [List.getElem?_map]
    by_cases h : i < t.bs.length
    · rw [if_pos h, List.getElem?_range h]; rfl
    · rw [if_neg h, List.getElem?_eq_none (by simpa using h)]; rfl
  have hnd : nodupB (tgtKeys [] dst t.bs.length) = true := by
    rw [hK]
    refine nodupB_of ?_
    unfold List.Nodup
    rw [List.pairwise_map]
    exact List.Pairwise.imp (fun h e => h (kloc_inj e)) List.nodup_range
  have hgen : ∀ K i, tgtGen hg K 0 g t.bs i = g := fun K i => by simp [tgtGen]
  have hφ : retφ hg (tgtKeys [] dst t.bs.length) 0 g t.bs = φN dst g t.bs.length := by
    funext i g'
    unfold retφ φN
    rw [hK, hat i]
    by_cases h : i < t.bs.length
    · rw [if_pos h]
      have : Nat.blt i t.bs.length = true := by simpa [Nat.blt_eq] using h
      rw [this, cond_true]
      dsimp only
      rw [hgen]
    · rw [if_neg h]
      have : Nat.blt i t.bs.length = false := by
        cases hb : Nat.blt i t.bs.length with
        | false => rfl
        | true => exact absurd (by simpa [Nat.blt_eq] using hb) h
      rw [this]; rfl
  have hw : ∀ (l : List (Bool × Blk)) (i : Nat), pureBs l = true → retW (φN dst g t.bs.length) (tgtGen hg (tgtKeys [] dst t.bs.length) 0 g t.bs) i ((List.range' i l.length).map (kloc dst)) l = newW dst g i l := by
    intro l
    induction l with
    | nil => intro i _; rfl
    | cons x r ih =>
      intro i hp
      obtain ⟨f, b⟩ := x
      simp only [pureBs, Bool.and_eq_true] at hp
      simp only [List.length_cons, List.range'_succ, List.map_cons, retW, newW, hgen]
      rw [Blk.ren_pure hp.1, ih (i + 1) hp.2]
  have hlen : decide ((tgtKeys [] dst t.bs.length).length = t.bs.length) = true := by rw [hK]; simp
  simp only [List.length_nil, hnd, hlen, Bool.and_self, cond_true, hφ]
  rw [hK, List.range_eq_range'] at hw ⊢
  rw [hw _ 0 hp]
section
variable {G : Nat → Fun} {hp : Heap} {f : Nat} {args args' : List AV} {g dst : Nat} {E : Prop} {k : Eff → Prop} {r r' : AV} {bs : List (Bool × Blk)}
theorem callN (hG : Gives G f args [] ⟨r, bs⟩) (hp' : pureL args = true) (hd : (bs.isEmpty && r.dry) = false) (hb : pureBs bs = true) (hr : r.ren (φN dst g bs.length) = r') (h : k { res := r', wr := newW dst g 0 bs }) : CallG G hp f args g dst E k := by
  refine .mk _ _ _ (callIn_pure hp') hG (callOut_new hd hb) ?_
  dsimp only
  rw [hr]
  simpa [dropW] using h
theorem callF (Fz : Fzs) (hF : FzOk hp Fz) (hk : keysL true args = Fz.map (·.1)) (hne : Fz.map (·.1) ≠ []) (hx : keysL (G f).raw args = []) (ha : renL (φF Fz) args = args') (hG : Gives G f args' [] ⟨r, []⟩) (hr : r.dry = true)
    (h : k { res := r, wr := [], rd := Fz.map (·.1) ++ [] }) : CallG G hp f args g dst E k := by
  refine .mk _ _ _ (callIn_fz hF hk hne hx ha) hG ?_ h
  unfold callOut
  simp [hr]
end
theorem retOut_pure {tm : List (Nat × AV)} {hp : Heap} {ctr : Nat} {rs : List RVar} {a : AV} (ha : resAV ⟨tm, hp, ctr⟩ rs = some a) (h : a.pure = true) : retOut ⟨tm, hp, ctr⟩ rs 0 = some ⟨a, []⟩ := by
  unfold retOut
  rw [ha]
  simp [h]
def φR : Fzs → Nat → Nat → Nat → Tgt
  | [], _, _, _ => .dead
  | (k', g', _) :: r, i, k, g => bif Nat.beq k' k then (bif Nat.beq g' g then .to i 0 else .dead) else φR r (i + 1) k g
theorem contKeys_pure {hp : Heap} : ∀ {Rz : Fzs}, FzOk hp Rz → contKeys (hget hp) (Rz.map (·.1)) = []
  | [], _ => rfl
  | (k, g, b) :: r, h => by
    obtain ⟨h1, h2⟩ := h.at (k, g, b) (by simp)
    simp only at h1 h2
    have hb : b.keys = [] := by
      cases b with
      | cells cs => exact keysL_pure true cs h2
      | vec s es => exact keysLL_pure true es h2
    simp only [List.map_cons, contKeys, h1, hb, contKeys_pure h.2.2, List.append_nil]
theorem dedup_of : ∀ {l : List Nat}, nodupB l = true → dedup l = l
  | [], _ => rfl
  | k :: r, h => by
    simp only [nodupB, Bool.and_eq_true, Bool.not_eq_true'] at h
    simp only [dedup, dedup_of h.2, h.1, cond_false]
theorem outφ_R {hp : Heap} : ∀ {Rz : Fzs} (i : Nat), FzOk hp Rz → ∀ k g, k ∈ Rz.map (·.1) → φR Rz i k g = match hget hp k with
    | some (g', _) => if g' = g then (match idx k (Rz.map (·.1)) with | some j => .to (i + j) 0 | none => .dead) else .dead
    | none => .dead
  | (k', g', b) :: r, i, h, k, g, hk => by
    by_cases e : k' = k
    · subst e
      obtain ⟨h1, _⟩ := h.at (k', g', b) (by simp)
      simp only at h1
      rw [h1]
      simp only [φR, Nat.beq_refl, cond_true, List.map_cons, idx, if_true, Nat.add_zero]
      by_cases e2 : g' = g
      · subst e2; simp
      · rw [beq_false' e2, if_neg e2]; rfl
    · simp only [φR, beq_false' e, cond_false, List.map_cons, idx, if_neg e]
      rw [outφ_R (i + 1) h.2.2 k g (by simpa [Ne.symm e] using hk)]
      cases hget hp k with
      | none => rfl
      | some x =>
        dsimp only
        split
        · cases idx k (r.map (·.1)) with
          | none => rfl
          | some j => simp only [Option.map_some]; rw [show i + 1 + j = i + (j + 1) from by omega]
        · rfl
theorem outBlks_R {hp : Heap} {φ : Nat → Nat → Tgt} : ∀ {Rz : Fzs}, FzOk hp Rz → outBlks hp φ 0 (Rz.map (·.1)) = some (Rz.map fun x => (false, x.2.2))
  | [], _ => rfl
  | (k, g, b) :: r, h => by
    obtain ⟨h1, h2⟩ := h.at (k, g, b) (by simp)
    simp only at h1 h2
    simp only [List.map_cons, outBlks, h1, outBlks_R h.2.2, Blk.ren_pure h2]
    simp
theorem retOut_new {tm : List (Nat × AV)} {hp : Heap} {ctr : Nat} {rs : List RVar} {a r' : AV} {bs : List (Bool × Blk)} (Rz : Fzs) (ha : resAV ⟨tm, hp, ctr⟩ rs = some a) (hF : FzOk hp Rz) (hk : a.keys true = Rz.map (·.1)) (hn : nodupB (Rz.map (·.1)) = true) (hne : Rz.map (·.1) ≠ [])
    (hr : a.ren (φR Rz 0) = r') (hb : (Rz.map fun x => (false, x.2.2)) = bs) : retOut ⟨tm, hp, ctr⟩ rs 0 = some ⟨r', bs⟩ := by
  unfold retOut
  rw [ha]
  dsimp only
  have hp0 : a.pure = false := by
    cases h : a.pure with
    | false => rfl
    | true => exact absurd (by rw [← hk]; exact AV.keys_pure true a h) hne
  rw [hp0]
  simp only [Bool.and_false, cond_false, List.range_zero, List.nil_append]
  have hall : ∀ l : List Nat, l.filter (fun k => decide (0 ≤ k)) = l := fun l => List.filter_eq_self.2 (by simp)
  have hN : newKeys hp 0 a = Rz.map (·.1) := by
    unfold newKeys
    simp only [List.range_zero, contKeys, List.append_nil, hk, hall, contKeys_pure hF]
    exact dedup_of hn
  have hφ : a.ren (outφ hp 0 (Rz.map (·.1))) = r' := by
    rw [← hr]
    refine AV.ren_congr a fun k hk' g => ?_
    rw [hk] at hk'
    rw [outφ_R 0 hF k g hk']
    unfold outφ
    cases hget hp k with
    | none => rfl
    | some x =>
      obtain ⟨g', b⟩ := x
      simp only [Nat.zero_add, Nat.not_lt_zero, if_false]
      split
      · cases idx k (Rz.map (·.1)) <;> rfl
      · rfl
  rw [hN, outBlks_R hF]
  simp only [Option.map_some, hφ, hb]
theorem retOut_vs {tm : List (Nat × AV)} {hp : Heap} {ctr : Nat} {rs : List RVar} {k g n : Nat} {b : Blk} (ha : resAV ⟨tm, hp, ctr⟩ rs = some (.vs k g n)) (hF : hlook hp k fun z => z = some (g, b)) (hb : b.pure = true) {n' : Nat} {b' : Blk} (hn : n = n') (hb' : b = b') :
    retOut ⟨tm, hp, ctr⟩ rs 0 = some ⟨.vs 0 0 n', [(false, b')]⟩ := by
  subst hn; subst hb'
  exact retOut_new [(k, g, b)] ha ⟨hF, hb, trivial⟩ rfl rfl (by simp) (by simp [AV.ren, φR]) rfl
theorem wrap_u32 {a : Int} (h1 : 0 ≤ a) (h2 : a ≤ 4294967295) : IntKind.wrap .u32 a = a := by
  have h : IntKind.wrap .u32 a = a % 4294967296 := by first | rfl | simp [IntKind.wrap, IntKind.bits, IntKind.signed]
  rw [h]; omega
theorem wrap_u8 {a : Int} (h1 : 0 ≤ a) (h2 : a ≤ 255) : IntKind.wrap .u8 a = a := by
  have h : IntKind.wrap .u8 a = a % 256 := by first | rfl | simp [IntKind.wrap, IntKind.bits, IntKind.signed]
  rw [h]; omega
theorem wrap_u64 {a : Int} (h1 : 0 ≤ a) (h2 : a ≤ 18446744073709551615) : IntKind.wrap .u64 a = a := by
  have h : IntKind.wrap .u64 a = a % 18446744073709551616 := by first | rfl | simp [IntKind.wrap, IntKind.bits, IntKind.signed]
  rw [h]; omega
theorem conv_u32 {x : Opd} {g key : Nat} {k : IntKind} {n : Int} {hg : Nat → Option (Nat × Blk)} (h1 : 0 ≤ n) (h2 : n ≤ 4294967295) : aopV (.conv .u32 x) g key [.int k n] hg = some { res := .int .u32 n } := by
  show some (Eff.mk (AV.int .u32 (IntKind.wrap .u32 n)) [] [] []) = _
  rw [wrap_u32 h1 h2]
theorem conv_u8 {x : Opd} {g key : Nat} {k : IntKind} {n : Int} {hg : Nat → Option (Nat × Blk)} (h1 : 0 ≤ n) (h2 : n ≤ 255) : aopV (.conv .u8 x) g key [.int k n] hg = some { res := .int .u8 n } := by
  show some (Eff.mk (AV.int .u8 (IntKind.wrap .u8 n)) [] [] []) = _
  rw [wrap_u8 h1 h2]
theorem conv_u64 {x : Opd} {g key : Nat} {k : IntKind} {n : Int} {hg : Nat → Option (Nat × Blk)} (h1 : 0 ≤ n) (h2 : n ≤ 18446744073709551615) : aopV (.conv .u64 x) g key [.int k n] hg = some { res := .int .u64 n } := by
  show some (Eff.mk (AV.int .u64 (IntKind.wrap .u64 n)) [] [] []) = _
  rw [wrap_u64 h1 h2]
theorem binA_quo_i64 {a b : Int} (h0 : 0 ≤ a) (hb : 0 < b) (h2 : a ≤ 9223372036854775807) : binA .quo (.int .i64 a) (.int .i64 b) = some (.int .i64 (a / b)) := by
  show (if b = 0 then none else some (AV.int .i64 (IntKind.wrap .i64 (a.tdiv b)))) = _
  rw [if_neg (by omega), Int.tdiv_eq_ediv_of_nonneg h0]
  have h3 := Int.ediv_nonneg h0 (Int.le_of_lt hb)
  have h4 := Int.ediv_le_self b h0
  rw [wrap_i64 (by omega) (by omega)]
theorem binA_rem_i64 {a b : Int} (h0 : 0 ≤ a) (hb : 0 < b) : binA .rem (.int .i64 a) (.int .i64 b) = some (.int .i64 (a % b)) := by
  show (if b = 0 then none else some (AV.int .i64 (a.tmod b))) = _
  rw [if_neg (by omega), Int.tmod_eq_emod_of_nonneg h0]
theorem unA_neg_i64 {x : Opd} {g key : Nat} {a : Int} {hg : Nat → Option (Nat × Blk)} (h1 : -9223372036854775807 ≤ a) (h2 : a ≤ 9223372036854775807) : aopV (.un .neg x) g key [.int .i64 a] hg = some { res := .int .i64 (-a) } := by
  show some (Eff.mk (AV.int .i64 (IntKind.wrap .i64 (0 - a))) [] [] []) = _
  rw [wrap_i64 (by omega) (by omega)]
  rw [show 0 - a = -a from by omega]
theorem room_le {n bytes : Nat} (h : n * (bytes + 1) ≤ 140737488355328) : room n bytes = true := by simpa [room] using h
end Go.AM
namespace Go.AM
end Go.AM
namespace Go.AM
theorem xr {α : Sort _} {p q : α → Prop} {a : α} (h : p a) (k : q a) : ∃ a, p a ∧ q a := ⟨a, h, k⟩
theorem ai {a b : Prop} (h : a) (k : b) : a ∧ b := ⟨h, k⟩
theorem aO {a b : Prop} (k : b) (h : a := by omega) : a ∧ b := ⟨h, k⟩
theorem aB {m n : Nat} {b : Prop} (k : b) (h : m ≤ n := by omega) : Nat.ble m n = true ∧ b := ⟨ble_of h, k⟩
theorem aR {n m : Nat} {b : Prop} (k : b) (h : n * (m + 1) ≤ 140737488355328 := by omega) : room n m = true ∧ b := ⟨room_le h, k⟩
section
variable {p q : Prop}
theorem cD {c : Prop} [Decidable c] (h1 : p) (h : c := by omega) : condC (decide c) p q := condDT h h1
theorem dD {c : Prop} [Decidable c] (h1 : q) (h : ¬ c := by omega) : condC (decide c) p q := condDF h h1
theorem cB {a b : Int} (h1 : p) (h : a = b := by omega) : condC (a == b) p q := condBT h h1
theorem dB {a b : Int} (h1 : q) (h : ¬ a = b := by omega) : condC (a == b) p q := condBF h h1
theorem cN {a b : Int} (h1 : p) (h : ¬ a = b := by omega) : condC (a != b) p q := condNT h h1
theorem dN {a b : Int} (h1 : q) (h : a = b := by omega) : condC (a != b) p q := condNF h h1
end
section
variable {k : AV → Prop} {a b : Int}
theorem zQ (h : k (.int .i64 (a / b))) (h0 : 0 ≤ a := by omega) (hb : 0 < b := by omega) (h2 : a ≤ 9223372036854775807 := by omega) : ∃ v, binA .quo (.int .i64 a) (.int .i64 b) = some v ∧ k v := ⟨_, binA_quo_i64 h0 hb h2, h⟩
theorem zR (h : k (.int .i64 (a % b))) (h0 : 0 ≤ a := by omega) (hb : 0 < b := by omega) : ∃ v, binA .rem (.int .i64 a) (.int .i64 b) = some v ∧ k v := ⟨_, binA_rem_i64 h0 hb, h⟩
theorem zS (h : k (.int .i64 (a - b))) (h1 : -9223372036854775808 ≤ a - b := by omega) (h2 : a - b ≤ 9223372036854775807 := by omega) : ∃ v, binA .sub (.int .i64 a) (.int .i64 b) = some v ∧ k v := ⟨_, binA_sub_i64 h1 h2, h⟩
theorem zA (h : k (.int .i64 (a + b))) (h1 : -9223372036854775808 ≤ a + b := by omega) (h2 : a + b ≤ 9223372036854775807 := by omega) : ∃ v, binA .add (.int .i64 a) (.int .i64 b) = some v ∧ k v := ⟨_, binA_add_i64 h1 h2, h⟩
theorem zM (h : k (.int .i64 (a * b))) (h1 : -9223372036854775808 ≤ a * b := by omega) (h2 : a * b ≤ 9223372036854775807 := by omega) : ∃ v, binA .mul (.int .i64 a) (.int .i64 b) = some v ∧ k v := ⟨_, binA_mul_i64 h1 h2, h⟩
end
section
variable {k : Eff → Prop} {a : Int} {x : Opd} {g key : Nat} {hg : Nat → Option (Nat × Blk)} {q : IntKind}
theorem zN (h : k { res := .int .i64 (-a) }) (h1 : -9223372036854775807 ≤ a := by omega) (h2 : a ≤ 9223372036854775807 := by omega) : ∃ e, aopV (.un .neg x) g key [.int .i64 a] hg = some e ∧ k e := ⟨_, unA_neg_i64 h1 h2, h⟩
theorem zC (h : k { res := .int .i64 a }) (h1 : -9223372036854775808 ≤ a := by omega) (h2 : a ≤ 9223372036854775807 := by omega) : ∃ e, aopV (.conv .i64 x) g key [.int q a] hg = some e ∧ k e := ⟨_, conv_i64 h1 h2, h⟩
theorem zC4 (h : k { res := .int .u32 a }) (h1 : 0 ≤ a := by omega) (h2 : a ≤ 4294967295 := by omega) : ∃ e, aopV (.conv .u32 x) g key [.int q a] hg = some e ∧ k e := ⟨_, conv_u32 h1 h2, h⟩
theorem zC1 (h : k { res := .int .u8 a }) (h1 : 0 ≤ a := by omega) (h2 : a ≤ 255 := by omega) : ∃ e, aopV (.conv .u8 x) g key [.int q a] hg = some e ∧ k e := ⟨_, conv_u8 h1 h2, h⟩
theorem zC8 (h : k { res := .int .u64 a }) (h1 : 0 ≤ a := by omega) (h2 : a ≤ 18446744073709551615 := by omega) : ∃ e, aopV (.conv .u64 x) g key [.int q a] hg = some e ∧ k e := ⟨_, conv_u64 h1 h2, h⟩
end
end Go.AM
namespace Go.AM
def LeP (P : Env → Prop) (a b : AV) : Prop := ∀ E x, P E → V E x a → V E x b
def LLe (P : Env → Prop) : List AV → List AV → Prop
  | [], [] => True
  | a :: r, b :: s => LeP P a b ∧ LLe P r s
  | _, _ => False
def LLLe (P : Env → Prop) : List (List AV) → List (List AV) → Prop
  | [], [] => True
  | a :: r, b :: s => LLe P a b ∧ LLLe P r s
  | _, _ => False
def BLe (P : Env → Prop) : Blk → Blk → Prop
  | .cells cs, .cells cs' => LLe P cs cs'
  | .vec s es, .vec s' es' => s = s' ∧ LLLe P es es'
  | _, _ => False
def Any : Env → Prop := fun _ => True
def NilAt (key g s : Nat) (E : Env) : Prop := E.used key g ∧ ∀ p, E.lv key g = some p → p = ⟨0, 0, 0, s, true⟩
section
variable {P : Env → Prop}
theorem LeP.refl (a : AV) : LeP P a a := fun _ _ _ h => h
theorem LLe.refl : ∀ l : List AV, LLe P l l
  | [] => trivial
  | a :: r => ⟨.refl a, LLe.refl r⟩
theorem LLLe.refl : ∀ l : List (List AV), LLLe P l l
  | [] => trivial
  | a :: r => ⟨.refl a, LLLe.refl r⟩
theorem BLe.refl : ∀ b : Blk, BLe P b b
  | .cells cs => LLe.refl cs
  | .vec _ es => ⟨rfl, LLLe.refl es⟩
theorem LLe.length : ∀ {l m : List AV}, LLe P l m → m.length = l.length
  | [], [], _ => rfl
  | _ :: _, _ :: _, h => by simp [LLe.length h.2]
  | [], _ :: _, h => h.elim
  | _ :: _, [], h => h.elim
theorem LLe.at : ∀ {l m : List AV} (i : Nat), LLe P l m → LeP P (l.getD i .any) (m.getD i .any)
  | [], [], _, _ => .refl _
  | _ :: _, _ :: _, 0, h => h.1
  | _ :: _, _ :: _, i + 1, h => by simpa using LLe.at i h.2
  | [], _ :: _, _, h => h.elim
  | _ :: _, [], _, h => h.elim
theorem LLLe.length : ∀ {l m : List (List AV)}, LLLe P l m → m.length = l.length
  | [], [], _ => rfl
  | _ :: _, _ :: _, h => by simp [LLLe.length h.2]
  | [], _ :: _, h => h.elim
  | _ :: _, [], h => h.elim
theorem LLLe.at : ∀ {l m : List (List AV)} (i : Nat), LLLe P l m → LLe P (l.getD i []) (m.getD i [])
  | [], [], _, _ => LLe.refl _
  | _ :: _, _ :: _, 0, h => h.1
  | _ :: _, _ :: _, i + 1, h => by simpa using LLLe.at i h.2
  | [], _ :: _, _, h => h.elim
  | _ :: _, [], _, h => h.elim
theorem LLLe.map {α : Type} {f g : α → List AV} (h : ∀ x, LLe P (f x) (g x)) : ∀ l : List α, LLLe P (l.map f) (l.map g)
  | [] => trivial
  | x :: r => ⟨h x, LLLe.map h r⟩
theorem LeP.agg {a b : List AV} (h : LLe P a b) : LeP P (.agg a) (.agg b) := fun E x hp v => by
  cases v with
  | agg cs _ hl hf hv => exact .agg cs b (by rw [h.length]; exact hl) (fun i hi => hf i (by rwa [h.length] at hi)) fun i hi => h.at i E _ hp (hv i (by rwa [h.length] at hi))
theorem LeP.tup {a b : List AV} (h : LLe P a b) : LeP P (.tup a) (.tup b) := fun E x hp v => by
  cases v with
  | tup cs _ hl hv => exact .tup cs b (by rw [h.length]; exact hl) fun i hi => h.at i E _ hp (hv i (by rwa [h.length] at hi))
theorem LeP.rp {a b : List AV} (h : LLe P a b) : LeP P (.rp a) (.rp b) := fun E x hp v => by
  cases v with
  | rp bk off _ u hb hv => exact .rp bk off b u (fun j hj => hb j (by rwa [h.length] at hj)) fun i hi => h.at i E _ hp (hv i (by rwa [h.length] at hi))
theorem LeP.fn {f : Nat} {a b : List AV} (h : LLe P a b) : LeP P (.fn f a) (.fn f b) := fun E x hp v => by
  cases v with
  | fn _ cs _ hl hv => exact .fn f cs b (by rw [h.length]; exact hl) fun i hi => h.at i E _ hp (hv i (by rwa [h.length] at hi))
theorem LeP.sl {s : Nat} {a b : List (List AV)} (h : LLLe P a b) : LeP P (.sl s a) (.sl s b) := fun E x hp v => by
  cases v with
  | sl _ _ ad n c hn hs hc u hb hv =>
    have hl := h.length
    refine .sl s b ad n c (by rw [hl]; exact hn) (fun i hi => ?_) hc u (fun he => ?_) fun i hi j hj => (h.at i).at j E _ hp (hv i (by rwa [hl] at hi) j hj)
    · rw [(h.at i).length]; exact hs i (by rwa [hl] at hi)
    · have : a ≠ [] := fun e => he (by subst e; exact List.eq_nil_of_length_eq_zero hl)
      obtain ⟨bk, off, e, q⟩ := hb this
      exact ⟨bk, off, e, fun i hi j hj => q i (by rwa [hl] at hi) j hj⟩
theorem LeP.nil (s : Nat) : LeP P (.con (.slice none 0 0)) (.sl s []) := fun E x _ v => by
  cases v with
  | con => exact .sl s [] none 0 0 rfl (by simp) (Nat.le_refl 0) (fun _ _ => undef) (fun h => absurd rfl h) (by simp)
theorem LeP.nilV (key g s : Nat) : LeP (NilAt key g s) (.con (.slice none 0 0)) (.vs key g 0) := fun E x hp v => by
  cases v with
  | con => exact .vs _ key g 0 ⟨none, 0, rfl⟩ hp.1 fun p h => by rw [hp.2 p h]; exact ⟨rfl, Nat.le_refl 0⟩
theorem LeP.any (a : AV) : LeP P a .any := fun _ x _ _ => .any x
end
section
variable {C : Ctx} {U : Nat → Prop} {hp hp' : HF} {w : World} {S : Nat → Prop} {β : Nat → Place} {used : Nat → Nat → Prop} {P : Env → Prop}
def HLe (P : Env → Prop) (x y : Option (Nat × Blk)) : Prop :=
  match x, y with
  | none, none => True
  | some (g, b), some (g', b') => g' = g ∧ BLe P b b'
  | some _, none => True
  | none, some _ => False
theorem HLe.refl (x : Option (Nat × Blk)) : HLe P x x := by
  cases x with
  | none => trivial
  | some x => exact ⟨rfl, BLe.refl _⟩
theorem CellsOk.le {E : Env} (hP : P E) {b o : Nat} {cs cs' : List AV} (h : CellsOk E w b o cs) (l : LLe P cs cs') : CellsOk E w b o cs' := fun j hj => by
  obtain ⟨u, h1, h2, h3, h4⟩ := h j (by rwa [l.length] at hj)
  exact ⟨u, h1, h2, h3, l.at j E _ hP h4⟩
theorem BlkOk.le {E : Env} (hP : P E) {p : Place} {b b' : Blk} (h : BlkOk E w p b) (l : BLe P b b') : BlkOk E w p b' := by
  cases b with
  | cells cs =>
    cases b' with
    | vec => exact l.elim
    | cells cs' => exact ⟨h.1, h.2.le hP l⟩
  | vec s es =>
    cases b' with
    | cells => exact l.elim
    | vec s' es' =>
      obtain ⟨rfl, l⟩ := l
      obtain ⟨h1, h2, h3, h4, h5, h6⟩ := h
      have hl := l.length
      refine ⟨h1, fun i hi => by rw [(l.at i).length]; exact h2 i (by rwa [hl] at hi), by rw [hl]; exact h3, fun hn => ?_, h5, fun i hi => (h6 i (by rwa [hl] at hi)).le hP (l.at i)⟩
      obtain ⟨rfl, k⟩ := h4 hn
      exact ⟨List.eq_nil_of_length_eq_zero hl, k⟩
theorem HI.le (h : HI C U hp w S β used) (hP : P (mkEnv C S β used hp w)) (l : ∀ k, HLe P (hp k) (hp' k)) : HI C U hp' w S β used ∧ (mkEnv C S β used hp w).le (mkEnv C S β used hp' w) := by
  have hlv : ∀ k g b, hp' k = some (g, b) → ∃ b', hp k = some (g, b') ∧ BLe P b' b := fun k g b hk => by
    have := l k
    rw [hk] at this
    cases hq : hp k with
    | none => rw [hq] at this; exact this.elim
    | some x => obtain ⟨g', b'⟩ := x; rw [hq] at this; obtain ⟨rfl, h2⟩ := this; exact ⟨b', rfl, h2⟩
  have le : (mkEnv C S β used hp w).le (mkEnv C S β used hp' w) := mkEnv_le (fun _ _ _ a b => ⟨a, b⟩) (fun _ _ u => u) fun k g b hk _ => by
    obtain ⟨b', h1, _⟩ := hlv k g b hk
    exact ⟨⟨b', h1⟩, rfl⟩
  refine ⟨⟨h.kept, h.s, h.s0, h.keep, h.us, fun k g b hk => ?_, fun k k' x x' h1 h2 => ?_, fun k b hk => ?_⟩, le⟩
  · obtain ⟨b', h1, h2⟩ := hlv k g b hk
    obtain ⟨q1, q2, q3⟩ := h.at_ k g b' h1
    exact ⟨q1, q2, (q3.le hP h2).mono le fun _ => .refl _ _⟩
  · obtain ⟨g1, b1⟩ := x
    obtain ⟨g2, b2⟩ := x'
    obtain ⟨c1, r1, _⟩ := hlv k g1 b1 h1
    obtain ⟨c2, r2, _⟩ := hlv k' g2 b2 h2
    exact h.inj k k' _ _ r1 r2
  · obtain ⟨b', h1, h2⟩ := hlv k 0 b hk
    exact h.pl k b' h1
theorem RelC.le {F F' : FSt} {a : Act} (h : RelC C U F a w S β used) (hP : P (mkEnv C S β used F.hp w)) (lt : ∀ t, LeP P (F.tm t) (F'.tm t)) (lh : ∀ k, HLe P (F.hp k) (F'.hp k)) : RelC C U F' a w S β used := by
  obtain ⟨h1, h2⟩ := h.hi.le hP lh
  exact ⟨h1, h.size, h.defers, fun t => (lt t _ _ hP (h.tm t)).mono h2⟩
end
theorem Wk0.of_le {A B : AS} (hc : B.ctr = A.ctr) (lt : ∀ t, LeP Any (tget A.tm t) (tget B.tm t)) (lh : ∀ k, HLe Any (hget A.hp k) (hget B.hp k)) : Wk0 A B :=
  ⟨hc, fun C U a w ⟨S, β, used, h⟩ => ⟨S, β, used, h.le (P := Any) trivial lt lh⟩⟩
theorem Wk.of_nil {A B : AS} (key s : Nat) (hc : B.ctr = A.ctr + 1) (lt : ∀ t, LeP (NilAt key A.ctr s) (tget A.tm t) (tget B.tm t)) (lh : ∀ k, HLe (NilAt key A.ctr s) (up (hget A.hp) key (some (A.ctr, .vec s [])) k) (hget B.hp k)) : Wk A B := by
  rintro C a w hpos ⟨S, β, used, h⟩
  obtain ⟨S', β', used', h1, h2, h3, h4⟩ := h.hi.newNil (g := A.ctr) (fun hlt => Nat.lt_irrefl _ hlt) (by omega) key s
  have h5 : RelC C (fun x => x < A.ctr ∨ x = A.ctr) ⟨tget A.tm, up (hget A.hp) key (some (A.ctr, .vec s []))⟩ a w S' β' used' := ⟨h1, h.size, h.defers, fun t => (h.tm t).mono h2⟩
  have h6 := h5.le (F' := B.fs) (P := NilAt key A.ctr s) ⟨h4, fun p hp => by
    obtain ⟨b, e1, e2⟩ := mkEnv_lv hp
    rw [e2, h3]⟩ lt lh
  exact ⟨S', β', used', h6.hi.wide (fun x hx => by rw [hc]; rcases hx with hx | hx <;> omega), h6.size, h6.defers, h6.tm⟩
def TOk (P : Env → Prop) (tm : List (Nat × AV)) : List (Nat × AV) → Prop
  | [] => True
  | (t, v) :: r => (look tm t fun u => LeP P u v) ∧ TOk P tm r
def HOk (P : Env → Prop) (hp : Heap) : Heap → Prop
  | [] => True
  | (k, z) :: r => (hlook hp k fun y => HLe P y z) ∧ HOk P hp r
theorem TOk.get {P : Env → Prop} {tm : List (Nat × AV)} : ∀ {L : List (Nat × AV)}, TOk P tm L → ∀ t, LeP P (tget tm t) (tget (L ++ tm) t)
  | [], _, t => .refl _
  | (u, v) :: r, ⟨h1, h2⟩, t => by
    simp only [List.cons_append, tget]
    split
    · rename_i e; subst e; exact look_iff.1 h1
    · exact h2.get t
theorem HOk.get {P : Env → Prop} {hp : Heap} : ∀ {K : Heap}, HOk P hp K → ∀ k, HLe P (hget hp k) (hget (K ++ hp) k)
  | [], _, k => .refl _
  | (u, v) :: r, ⟨h1, h2⟩, k => by
    simp only [List.cons_append, hget]
    split
    · rename_i e; subst e; exact hlook_iff.1 h1
    · exact h2.get k
theorem hget_up (hp : Heap) (key : Nat) (z : Option (Nat × Blk)) : hget ((key, z) :: hp) = up (hget hp) key z := by
  funext k
  simp only [hget, up]
  by_cases h : key = k
  · subst h; simp
  · rw [if_neg h, if_neg (Ne.symm h)]
section
variable {G : Nat → Fun} {todo : List AItem} {tm : List (Nat × AV)} {hp : Heap} {ctr : Nat} {rs : List RVar} {m : Nat} {t : Ret}
theorem ev_le (L : List (Nat × AV)) (K : Heap) (hL : TOk Any tm L) (hK : HOk Any hp K) (h : Ev G ⟨todo, ⟨L ++ tm, K ++ hp, ctr⟩, rs, m⟩ t) (hd : notDraw todo = true := by rfl) : Ev G ⟨todo, ⟨tm, hp, ctr⟩, rs, m⟩ t :=
  ev_wk0 (B := ⟨L ++ tm, K ++ hp, ctr⟩) hd (.of_le rfl hL.get hK.get) h
theorem ev_nil (key s : Nat) (L : List (Nat × AV)) (K : Heap) (hL : TOk (NilAt key ctr s) tm L) (hK : HOk (NilAt key ctr s) ((key, some (ctr, .vec s [])) :: hp) K) (h : Ev G ⟨todo, ⟨L ++ tm, K ++ (key, some (ctr, .vec s [])) :: hp, ctr + 1⟩, rs, m⟩ t) (hd : notReg todo = true := by rfl) : Ev G ⟨todo, ⟨tm, hp, ctr⟩, rs, m⟩ t :=
  .weak (A' := ⟨L ++ tm, K ++ (key, some (ctr, .vec s [])) :: hp, ctr + 1⟩) hd (Nat.le_succ _) (.of_nil key s rfl hL.get fun k => by rw [← hget_up]; exact hK.get k) h
end
theorem tms_get0 (l : List AV) (t : Nat) : tget (tms 0 l) t = l.getD t .any := by rw [tms_get, if_pos (Nat.zero_le t), Nat.sub_zero]
theorem gives_le {G : Nat → Fun} {f : Nat} {F : AFunc} (hf : G f = .code F) {args args' : List AV} {bs : List Blk} {t : Ret} (h : Gives G f args' bs t) (hl : LLe Any args args') : Gives G f args bs t := by
  unfold Gives at h ⊢
  rw [hf] at h ⊢
  refine ⟨by rw [← hl.length]; exact h.1, ?_⟩
  refine ev_wk0 (B := (F.start args' bs).A) rfl (.of_le rfl (fun u => ?_) fun k => HLe.refl _) h.2
  show LeP Any (tget (tms 0 args) u) (tget (tms 0 args') u)
  rw [tms_get0, tms_get0]
  exact hl.at u
theorem gives_run {G : Nat → Fun} {f : Nat} {F : AFunc} {args : List AV} {bs : List Blk} {t : Ret} (n : Nat) (hf : G f = .code F) (hl : args.length = F.np) (h : run G n (F.start args bs) = some t) : Gives G f args bs t := by
  unfold Gives
  rw [hf]
  exact ⟨hl, ev_run n h⟩
end Go.AM
namespace Go.AM
section
variable {G : Nat → Fun} {k : List AItem} {tm : List (Nat × AV)} {hp : Heap} {ctr : Nat} {rs : List RVar} {m : Nat} {t : Ret}
theorem ev_retE {a : AV} (ha : resAV ⟨tm, hp, ctr⟩ rs = some a) (h : a.pure = true) (he : Ret.mk a [] = t) : Ev G ⟨.code .ret :: k, ⟨tm, hp, ctr⟩, rs, 0⟩ t := by
  subst he; exact ev_ret (retOut_pure ha h)
theorem ev_endE {a : AV} (ha : resAV ⟨tm, hp, ctr⟩ rs = some a) (h : a.pure = true) (he : Ret.mk a [] = t) : Ev G ⟨[], ⟨tm, hp, ctr⟩, rs, 0⟩ t := by
  subst he; exact ev_end (retOut_pure ha h)
theorem ev_retN {a : AV} (Rz : Fzs) (ha : resAV ⟨tm, hp, ctr⟩ rs = some a) (hF : FzOk hp Rz) (hk : a.keys true = Rz.map (·.1)) (hn : nodupB (Rz.map (·.1)) = true) (hne : Rz.map (·.1) ≠ []) (he : Ret.mk (a.ren (φR Rz 0)) (Rz.map fun x => (false, x.2.2)) = t) :
    Ev G ⟨.code .ret :: k, ⟨tm, hp, ctr⟩, rs, 0⟩ t := by
  subst he; exact ev_ret (retOut_new Rz ha hF hk hn hne rfl rfl)
theorem ev_retV (key g n : Nat) (b : Blk) (ha : resAV ⟨tm, hp, ctr⟩ rs = some (.vs key g n)) (hF : hlook hp key fun z => z = some (g, b)) (hb : b.pure = true) (he : Ret.mk (.vs 0 0 n) [(false, b)] = t) : Ev G ⟨.code .ret :: k, ⟨tm, hp, ctr⟩, rs, 0⟩ t := by
  subst he; exact ev_ret (retOut_vs ha hF hb rfl rfl)
end
section
variable {p q : Prop}
theorem cV {b : Bool} (h1 : p) (h : b = true := by assumption) : condC b p q := ⟨fun _ => h1, fun e => (by rw [h] at e; cases e)⟩
theorem dV {b : Bool} (h1 : q) (h : b = false := by assumption) : condC b p q := ⟨fun e => (by rw [h] at e; cases e), fun _ => h1⟩
theorem condNot {b : Bool} (h : condC b q p) : condC (!b) p q := by
  cases b with
  | true => exact condF (h.1 rfl)
  | false => exact condT (h.2 rfl)
theorem condX0 {b : Bool} (h : condC b p q) : condC (xor false b) p q := by cases b <;> exact h
theorem condX1 {b : Bool} (h : condC b q p) : condC (xor true b) p q := by cases b <;> exact condNot (b := _) h
theorem condAnd {a b : Bool} (h : condC a (condC b p q) q) : condC (a && b) p q := by
  cases a with
  | true => exact h.1 rfl
  | false => exact ⟨fun e => (by cases e), fun _ => h.2 rfl⟩
theorem condOr {a b : Bool} (h : condC a p (condC b p q)) : condC (a || b) p q := by
  cases a with
  | true => exact ⟨fun _ => h.1 rfl, fun e => (by cases e)⟩
  | false => exact h.2 rfl
theorem condE {α : Type} [BEq α] [LawfulBEq α] {a b : α} (h1 : a = b → p) (h2 : ¬ a = b → q) : condC (a == b) p q := ⟨fun h => h1 (by simpa using h), fun h => h2 (by simpa using h)⟩
theorem cE {α : Type} [BEq α] [LawfulBEq α] {a b : α} (h1 : p) (h : a = b := by first | rfl | assumption) : condC (a == b) p q := condE (fun _ => h1) fun h2 => absurd h h2
theorem dE {α : Type} [BEq α] [LawfulBEq α] {a b : α} (h1 : q) (h : ¬ a = b := by assumption) : condC (a == b) p q := condE (fun h2 => absurd h2 h) fun _ => h1
end
end Go.AM
namespace Go.AM
def resC (tm : List (Nat × AV)) (hp : Heap) : List RVar → (List AV → Prop) → Prop
  | [], k => k []
  | .t n :: r, k => look tm n fun v => resC tm hp r fun l => k (v :: l)
  | .cell a sz :: r, k => look tm a fun p => atC hp p fun cs _ => pickN sz cs fun v => resC tm hp r fun l => k (v :: l)
theorem resC_ok {tm : List (Nat × AV)} {hp : Heap} {ctr : Nat} : ∀ {rs : List RVar} {k : List AV → Prop}, resC tm hp rs k → ∃ l, resL ⟨tm, hp, ctr⟩ rs = some l ∧ k l
  | [], k, h => ⟨[], rfl, h⟩
  | .t n :: r, k, h => by
    obtain ⟨l, h1, h2⟩ := resC_ok (ctr := ctr) (rs := r) (look_iff.1 (show look tm n _ from h))
    exact ⟨_, by simp only [resL, resOf, h1], h2⟩
  | .cell a sz :: r, k, h => by
    obtain ⟨cs, rd, h1, h2⟩ := atC_ok (look_iff.1 (show look tm a _ from h))
    obtain ⟨v, h3, h4⟩ := pickN_ok h2
    obtain ⟨l, h5, h6⟩ := resC_ok (ctr := ctr) (rs := r) h4
    exact ⟨_, by simp only [resL, resOf, h1, h3, h5], h6⟩
def oneOf (k : AV → Prop) (l : List AV) : Prop :=
  match l with
  | [a] => k a
  | l => k (.tup l)
theorem oneOf_ok {tm : List (Nat × AV)} {hp : Heap} {ctr : Nat} {rs : List RVar} {k : AV → Prop} (h : resC tm hp rs (oneOf k)) : ∃ a, resAV ⟨tm, hp, ctr⟩ rs = some a ∧ k a := by
  obtain ⟨l, h1, h2⟩ := resC_ok (ctr := ctr) h
  unfold oneOf at h2
  unfold resAV
  rw [h1]
  split at h2
  · exact ⟨_, rfl, h2⟩
  · rename_i hne
    refine ⟨_, ?_, h2⟩
    split
    · rename_i a heq; exact absurd (Option.some.inj heq) (hne a)
    · rename_i heq; rw [Option.some.inj heq]
    · rename_i heq; cases heq
section
variable {G : Nat → Fun} {k : List AItem} {tm : List (Nat × AV)} {hp : Heap} {ctr : Nat} {rs : List RVar} {m : Nat} {t : Ret}
theorem ev_fin (h : resC tm hp rs (oneOf fun a => a.pure = true ∧ Ret.mk a [] = t)) : Ev G ⟨.code .ret :: k, ⟨tm, hp, ctr⟩, rs, 0⟩ t := by
  obtain ⟨a, h1, h2, h3⟩ := oneOf_ok (ctr := ctr) h
  exact ev_retE h1 h2 h3
theorem ev_fin0 (h : resC tm hp rs (oneOf fun a => a.pure = true ∧ Ret.mk a [] = t)) : Ev G ⟨[], ⟨tm, hp, ctr⟩, rs, 0⟩ t := by
  obtain ⟨a, h1, h2, h3⟩ := oneOf_ok (ctr := ctr) h
  exact ev_endE h1 h2 h3
theorem ev_finN (Rz : Fzs) (h : resC tm hp rs (oneOf fun a => FzOk hp Rz ∧ a.keys true = Rz.map (·.1) ∧ nodupB (Rz.map (·.1)) = true ∧ Rz.map (·.1) ≠ [] ∧ Ret.mk (a.ren (φR Rz 0)) (Rz.map fun x => (false, x.2.2)) = t)) : Ev G ⟨.code .ret :: k, ⟨tm, hp, ctr⟩, rs, 0⟩ t := by
  obtain ⟨a, h1, h2, h3, h4, h5, h6⟩ := oneOf_ok (ctr := ctr) h
  exact ev_retN Rz h1 h2 h3 h4 h5 h6
end
end Go.AM
namespace Go.AM
theorem bytesOf_cells : ∀ l : List UInt8, aopV.bytesOf (byteCells l) = some l
  | [] => rfl
  | b :: r => by
    have h := bytesOf_cells r
    simp only [byteCells, List.map_cons] at h ⊢
    simp [aopV.bytesOf, h]
theorem zBs {k : List UInt8 → List Nat → Prop} {hp : Heap} {l : List UInt8} (h : k l []) : B2s hp (.sl 1 (byteCells l)) k := ⟨_, _, l, rfl, bytesOf_cells l, h⟩
theorem zBn {k : List UInt8 → List Nat → Prop} {hp : Heap} (h : k [] []) : B2s hp (.con (.slice none 0 0)) k := ⟨_, _, [], rfl, rfl, h⟩
theorem zBv {k : List UInt8 → List Nat → Prop} {hp : Heap} {l : List UInt8} {key g n : Nat} (hF : hlook hp key fun z => z = some (g, .vec 1 (byteCells l))) (hn : n = l.length) (h : k l [key]) : B2s hp (.vs key g n) k := by
  subst hn
  refine ⟨byteCells l, [key], l, ?_, bytesOf_cells l, h⟩
  have hl : (byteCells l).length = l.length := by simp [byteCells]
  simp only [elemsAt, hlook_iff.1 hF, hl, if_true, Nat.le_refl]
  rw [← hl, List.take_length]
end Go.AM
namespace Go.AM
def AtOk (hp : Heap) : Fzs → Prop
  | [] => True
  | (k, g, b) :: r => (hlook hp k fun z => z = some (g, b)) ∧ AtOk hp r
theorem AtOk.at {hp : Heap} : ∀ {Dz : Fzs}, AtOk hp Dz → ∀ x ∈ Dz, hget hp x.1 = some (x.2.1, x.2.2)
  | (k, g, b) :: r, ⟨h1, h3⟩, x, hx => by
    rcases List.mem_cons.1 hx with rfl | hx
    · exact hlook_iff.1 h1
    · exact AtOk.at h3 x hx
def φD : Fzs → Nat → (Nat → Nat → Tgt) → Nat → Nat → Tgt
  | [], _, φ, k, g => φ k g
  | (k', g', _) :: r, i, φ, k, g => bif Nat.beq k' k then (bif Nat.beq g' g then .to i 0 else .dead) else φD r (i + 1) φ k g
def φZ : Fzs → Nat → Nat → Tgt
  | [], _, _ => .dead
  | (k', g', b) :: r, k, g => bif Nat.beq k' k then (bif Nat.beq g' g then .frz b else .dead) else φZ r k g
def φX (Dz Fz : Fzs) : Nat → Nat → Tgt := φD Dz 0 (φZ Fz)
theorem φZ_mem {hp : Heap} : ∀ {Fz : Fzs}, FzOk hp Fz → ∀ k g, k ∈ Fz.map (·.1) → φZ Fz k g = match hget hp k with
    | some (g', b) => if g' = g then (bif b.pure then .frz b else .dead) else .dead
    | none => .dead
  | (k', g', b) :: r, h, k, g, hk => by
    by_cases e : k' = k
    · subst e
      obtain ⟨h1, h2⟩ := h.at (k', g', b) (by simp)
      simp only at h1 h2
      rw [h1]
      simp only [φZ, Nat.beq_refl, cond_true, h2]
      by_cases e2 : g' = g
      · subst e2; simp
      · rw [beq_false' e2, if_neg e2]; rfl
    · simp only [φZ, beq_false' e, cond_false]
      exact φZ_mem h.2.2 k g (by simpa [Ne.symm e] using hk)
theorem φZ_not : ∀ {Fz : Fzs} {k : Nat}, k ∉ Fz.map (·.1) → ∀ g, φZ Fz k g = .dead
  | [], _, _, _ => rfl
  | (k', g', b) :: r, k, hk, g => by
    simp only [List.map_cons, List.mem_cons, not_or] at hk
    simp only [φZ, beq_false' (Ne.symm hk.1), cond_false]
    exact φZ_not hk.2 g
theorem φD_mem {hp : Heap} {φ : Nat → Nat → Tgt} : ∀ {Dz : Fzs} (i : Nat), AtOk hp Dz → ∀ k g, k ∈ Dz.map (·.1) → φD Dz i φ k g = match hget hp k with
    | some (g', _) => if g' = g then (match idx k (Dz.map (·.1)) with | some j => .to (i + j) 0 | none => .dead) else .dead
    | none => .dead
  | (k', g', b) :: r, i, h, k, g, hk => by
    by_cases e : k' = k
    · subst e
      have h1 := h.at (k', g', b) (by simp)
      simp only at h1
      rw [h1]
      simp only [φD, Nat.beq_refl, cond_true, List.map_cons, idx, if_true, Nat.add_zero]
      by_cases e2 : g' = g
      · subst e2; simp
      · rw [beq_false' e2, if_neg e2]; rfl
    · simp only [φD, beq_false' e, cond_false, List.map_cons, idx, if_neg e]
      rw [φD_mem (i + 1) h.2 k g (by simpa [Ne.symm e] using hk)]
      cases hget hp k with
      | none => rfl
      | some x =>
        dsimp only
        split
        · cases idx k (r.map (·.1)) with
          | none => rfl
          | some j => simp only [Option.map_some]; rw [show i + 1 + j = i + (j + 1) from by omega]
        · rfl
theorem φD_not {φ : Nat → Nat → Tgt} : ∀ {Dz : Fzs} {i k : Nat}, k ∉ Dz.map (·.1) → ∀ g, φD Dz i φ k g = φ k g
  | [], _, _, _, _ => rfl
  | (k', g', b) :: r, i, k, hk, g => by
    simp only [List.map_cons, List.mem_cons, not_or] at hk
    simp only [φD, beq_false' (Ne.symm hk.1), cond_false]
    exact φD_not hk.2 g
theorem argφ_X {hp : Heap} {Dz Fz : Fzs} (hD : AtOk hp Dz) (hF : FzOk hp Fz) (hdis : ∀ k ∈ Fz.map (·.1), k ∉ Dz.map (·.1)) : argφ (hget hp) (Dz.map (·.1)) (Fz.map (·.1)) = φX Dz Fz := by
  funext k g
  unfold argφ φX
  by_cases h1 : k ∈ Dz.map (·.1)
  · rw [φD_mem 0 hD k g h1]
    obtain ⟨i, hi⟩ := idx_at h1
    cases hget hp k with
    | none => rfl
    | some x => obtain ⟨g', b⟩ := x; simp only [hi, Nat.zero_add]
  · rw [φD_not h1]
    have hi : idx k (Dz.map (·.1)) = none := idx_none_of h1
    by_cases h2 : k ∈ Fz.map (·.1)
    · rw [φZ_mem hF k g h2]
      have hc : (Fz.map (·.1)).contains k = true := by simpa using h2
      cases hget hp k with
      | none => rfl
      | some x => obtain ⟨g', b⟩ := x; simp only [hi, hc, Bool.true_and]
    · rw [φZ_not h2]
      have hc : (Fz.map (·.1)).contains k = false := by
        cases hq : (Fz.map (·.1)).contains k with
        | false => rfl
        | true => exact absurd (by simpa using hq) h2
      cases hget hp k with
      | none => rfl
      | some x => obtain ⟨g', b⟩ := x; simp only [hi, hc, Bool.false_and, cond_false, ite_self]
theorem extBlks_X {hp : Heap} {φ : Nat → Nat → Tgt} : ∀ {Dz : Fzs}, AtOk hp Dz → extBlks (hget hp) φ (Dz.map (·.1)) = some (Dz.map fun x => x.2.2.ren φ)
  | [], _ => rfl
  | (k, g, b) :: r, h => by
    have h1 := h.at (k, g, b) (by simp)
    simp only at h1
    simp only [List.map_cons, extBlks, h1, extBlks_X h.2]
theorem callIn_X {hp : Heap} {raw : Bool} {args : List AV} {Dz Fz : Fzs} (hD : AtOk hp Dz) (hF : FzOk hp Fz) (hE : extKeys (hget hp) raw args = Dz.map (·.1)) (hK : (keysL true args).filter (fun k => !(Dz.map (·.1)).contains k) = Fz.map (·.1)) (hne : keysL true args ≠ []) :
    callIn (hget hp) raw args = some ⟨renL (φX Dz Fz) args, Dz.map fun x => x.2.2.ren (φX Dz Fz), Dz.map (·.1), Fz.map (·.1)⟩ := by
  unfold callIn
  split
  · rename_i h; exact absurd h hne
  · dsimp only
    rw [hE, hK, argφ_X hD hF (fun k hk => by
      rw [← hK] at hk
      have := (List.mem_filter.1 hk).2
      intro h2
      have hc : (Dz.map (·.1)).contains k = true := by simpa using h2
      rw [hc] at this; cases this), extBlks_X hD]
    rfl
def gensX : Fzs → List (Bool × Blk) → Nat → List Nat
  | (_, g0, _) :: D, (fl, _) :: R, g => (bif fl then g0 else g) :: gensX D R g
  | [], _ :: R, g => g :: gensX [] R g
  | _, [], _ => []
def keysX : Fzs → Nat → Nat → List (Bool × Blk) → List Nat
  | (k, _, _) :: D, dst, j, _ :: R => k :: keysX D dst j R
  | [], dst, j, _ :: R => kloc dst j :: keysX [] dst (j + 1) R
  | _, _, _, [] => []
def ψX : List Nat → List Nat → Nat → Nat → Tgt
  | k :: _, g :: _, 0, _ => .to k g
  | _ :: K, _ :: Q, i + 1, x => ψX K Q i x
  | _, _, _, _ => .dead
def wX (ψ : Nat → Nat → Tgt) : List Nat → List Nat → List (Bool × Blk) → Heap
  | k :: K, g :: Q, (_, b) :: R => (k, some (g, b.ren ψ)) :: wX ψ K Q R
  | _, _, _ => []
theorem keysX_nil (dst : Nat) : ∀ (R : List (Bool × Blk)) (j : Nat), keysX [] dst j R = (List.range' j R.length).map (kloc dst)
  | [], _ => rfl
  | x :: R, j => by simp only [keysX, keysX_nil dst R (j + 1), List.length_cons, List.range'_succ, List.map_cons]
theorem keysX_eq (dst : Nat) : ∀ (Dz : Fzs) (R : List (Bool × Blk)), Dz.length ≤ R.length → keysX Dz dst 0 R = Dz.map (·.1) ++ (List.range (R.length - Dz.length)).map (kloc dst)
  | [], R, _ => by rw [keysX_nil, List.range_eq_range']; rfl
  | (k, g, b) :: D, [], h => by simp at h
  | (k, g, b) :: D, x :: R, h => by
    simp only [List.length_cons, Nat.add_le_add_iff_right] at h
    simp only [keysX, keysX_eq dst D R h, List.map_cons, List.length_cons, Nat.add_sub_add_right, List.cons_append]
theorem gensX_length : ∀ (Dz : Fzs) (R : List (Bool × Blk)) (g : Nat), (gensX Dz R g).length = R.length
  | [], [], _ => rfl
  | [], _ :: R, g => by simp [gensX, gensX_length [] R g]
  | _ :: _, [], _ => rfl
  | (k, g0, b) :: D, (fl, x) :: R, g => by simp [gensX, gensX_length D R g]
theorem keysX_length (dst : Nat) : ∀ (Dz : Fzs) (j : Nat) (R : List (Bool × Blk)), (keysX Dz dst j R).length = R.length
  | [], j, R => by rw [keysX_nil]; simp
  | _ :: _, _, [] => rfl
  | (k, g0, b) :: D, j, x :: R => by simp [keysX, keysX_length dst D j R]
theorem gensX_at {hp : Heap} {g : Nat} : ∀ (Dz : Fzs) (R : List (Bool × Blk)) (i : Nat), AtOk hp Dz → i < R.length →
    (gensX Dz R g)[i]? = some (bif decide (i < Dz.length) && (R.getD i default).1 then genAt (hget hp) ((Dz.map (·.1)).getD i 0) else g)
  | [], [], i, _, h => by simp at h
  | [], (fl, b) :: R, 0, _, _ => by simp [gensX]
  | [], (fl, b) :: R, i + 1, hd, h => by
    have := gensX_at (g := g) [] R i hd (by simpa using h)
    simpa [gensX] using this
  | _ :: _, [], i, _, h => by simp at h
  | (k, g0, b) :: D, (fl, x) :: R, 0, hd, _ => by
    have h1 := hd.at (k, g0, b) (by simp)
    simp only at h1
    simp [gensX, genAt, h1]
  | (k, g0, b) :: D, (fl, x) :: R, i + 1, hd, h => by
    have := gensX_at (g := g) D R i hd.2 (by simpa using h)
    simpa [gensX] using this
theorem ψX_at : ∀ (K Q : List Nat) (i x : Nat), K.length = Q.length → ψX K Q i x = match K[i]?, Q[i]? with
    | some k, some g => .to k g
    | _, _ => .dead
  | [], [], i, x, _ => by simp [ψX]
  | k :: K, g :: Q, 0, x, _ => by simp [ψX]
  | k :: K, g :: Q, i + 1, x, h => by simpa [ψX] using ψX_at K Q i x (by simpa using h)
  | [], _ :: _, _, _, h => by simp at h
  | _ :: _, [], _, _, h => by simp at h
theorem retW_X {ψ : Nat → Nat → Tgt} {gi : Nat → Nat} : ∀ (K Q : List Nat) (R : List (Bool × Blk)) (i : Nat), K.length = R.length → Q.length = R.length → (∀ j, j < R.length → Q[j]? = some (gi (i + j))) → retW ψ gi i K R = wX ψ K Q R
  | [], [], [], _, _, _, _ => rfl
  | k :: K, g :: Q, (fl, b) :: R, i, h1, h2, h3 => by
    have h0 := h3 0 (by simp)
    simp only [List.getElem?_cons_zero, Option.some.injEq, Nat.add_zero] at h0
    simp only [retW, wX, h0]
    rw [retW_X K Q R (i + 1) (by simpa using h1) (by simpa using h2) fun j hj => by
      have := h3 (j + 1) (by simpa using hj)
      simpa [Nat.add_assoc, Nat.add_comm 1] using this]
  | [], _ :: _, [], _, _, h, _ => by simp at h
  | _ :: _, _, [], _, h, _, _ => by simp at h
  | [], _, _ :: _, _, h, _, _ => by simp at h
  | _ :: _, [], _ :: _, _, _, h, _ => by simp at h
theorem callOut_X {hp : Heap} {args : List AV} {cb : List Blk} {F : List Nat} {g dst : Nat} {r : AV} {R : List (Bool × Blk)} {Dz : Fzs} (hD : AtOk hp Dz) (hd : (R.isEmpty && r.dry) = false) (hl : Dz.length ≤ R.length) (hn : nodupB (keysX Dz dst 0 R) = true) :
    callOut (hget hp) ⟨args, cb, Dz.map (·.1), F⟩ g dst ⟨r, R⟩ = some { res := r.ren (ψX (keysX Dz dst 0 R) (gensX Dz R g)), wr := wX (ψX (keysX Dz dst 0 R) (gensX Dz R g)) (keysX Dz dst 0 R) (gensX Dz R g) R ++ dropW F, rd := F ++ Dz.map (·.1) } := by
  unfold callOut
  simp only [hd, cond_false]
  have hK : tgtKeys (Dz.map (·.1)) dst R.length = keysX Dz dst 0 R := by rw [keysX_eq dst Dz R hl]; unfold tgtKeys; simp
  have hkl : (keysX Dz dst 0 R).length = R.length := keysX_length dst Dz 0 R
  have hgen : ∀ i, i < R.length → (gensX Dz R g)[i]? = some (tgtGen (hget hp) (keysX Dz dst 0 R) Dz.length g R i) := fun i hi => by
    rw [gensX_at (hp := hp) Dz R i hD hi]
    unfold tgtGen
    by_cases h : i < Dz.length
    · have e : (keysX Dz dst 0 R).getD i 0 = (Dz.map (·.1)).getD i 0 := by
        rw [keysX_eq dst Dz R hl]
        simp only [List.getD_eq_getElem?_getD]
        rw [List.getElem?_append_left (by simpa using h)]
      rw [e]
    · simp [h]
  have hφ : retφ (hget hp) (keysX Dz dst 0 R) Dz.length g R = ψX (keysX Dz dst 0 R) (gensX Dz R g) := by
    funext i x
    rw [ψX_at _ _ _ _ (by rw [hkl, gensX_length])]
    unfold retφ
    by_cases h : i < R.length
    · rw [hgen i h]
      cases hq : (keysX Dz dst 0 R)[i]? with
      | none => rfl
      | some k => rfl
    · rw [List.getElem?_eq_none (by rw [hkl]; omega)]
  simp only [List.length_map, hK, hn, hkl, decide_true, Bool.and_self, cond_true, hφ]
  rw [retW_X (keysX Dz dst 0 R) (gensX Dz R g) R 0 hkl (gensX_length Dz R g) fun j hj => by rw [Nat.zero_add]; exact hgen j hj]
def zlook {α : Type} : Fzs → Nat → (Nat → Blk → α) → α → α
  | [], _, _, d => d
  | (k', g, b) :: r, k, f, d => bif Nat.beq k' k then f g b else zlook r k f d
def zidx {α : Type} : Fzs → Nat → Nat → (Nat → Nat → α) → α → α
  | [], _, _, _, d => d
  | (k', g, _) :: r, i, k, f, d => bif Nat.beq k' k then f i g else zidx r (i + 1) k f d
def zref (k : Nat) (o : Nat) (Fz : Fzs) : AV := zlook Fz k (fun _ b => match b with | .cells cs => .rp (cs.drop o) | _ => .any) .any
def zer (k i o : Nat) (Fz : Fzs) : AV := zlook Fz k (fun _ b => match b with | .vec _ es => .rp ((es.getD i []).drop o) | _ => .any) .any
def zvs (k : Nat) (Fz : Fzs) : AV := zlook Fz k (fun _ b => match b with | .vec s es => .sl s es | _ => .any) .any
def zvw (k o n : Nat) (Fz : Fzs) : AV := zlook Fz k (fun _ b => match b with | .vec s es => .sl s ((es.drop o).take n) | _ => .any) .any
mutual
def AV.renX (Dz Fz : Fzs) : AV → AV
  | .ref k _ o => zidx Dz 0 k (fun i _ => .ref i 0 o) (zref k o Fz)
  | .er k _ i o => zidx Dz 0 k (fun j _ => .er j 0 i o) (zer k i o Fz)
  | .vs k _ n => zidx Dz 0 k (fun j _ => .vs j 0 n) (zvs k Fz)
  | .vw k _ o n => zidx Dz 0 k (fun j _ => .vw j 0 o n) (zvw k o n Fz)
  | .agg cs => .agg (renXL Dz Fz cs)
  | .tup cs => .tup (renXL Dz Fz cs)
  | .fn f cs => .fn f (renXL Dz Fz cs)
  | a => a
def renXL (Dz Fz : Fzs) : List AV → List AV
  | [] => []
  | a :: r => AV.renX Dz Fz a :: renXL Dz Fz r
end
mutual
def AV.okX (Dz Fz : Fzs) : AV → Prop
  | .ref k g _ => zidx Dz 0 k (fun _ g' => g' = g) (zlook Fz k (fun g' _ => g' = g) True)
  | .er k g _ _ => zidx Dz 0 k (fun _ g' => g' = g) (zlook Fz k (fun g' _ => g' = g) True)
  | .vs k g n => zidx Dz 0 k (fun _ g' => g' = g) (zlook Fz k (fun g' b => g' = g ∧ match b with | .vec _ es => n = es.length | _ => True) True)
  | .vw k g o n => zidx Dz 0 k (fun _ g' => g' = g) (zlook Fz k (fun g' b => g' = g ∧ match b with | .vec _ es => o + n ≤ es.length | _ => True) True)
  | .agg cs => okXL Dz Fz cs
  | .tup cs => okXL Dz Fz cs
  | .fn _ cs => okXL Dz Fz cs
  | .sl _ es => pureLL es = true
  | .rp cs => pureL cs = true
  | .ifc _ v => v.pure = true
  | _ => True
def okXL (Dz Fz : Fzs) : List AV → Prop
  | [] => True
  | a :: r => AV.okX Dz Fz a ∧ okXL Dz Fz r
end
theorem zidx_φ {k g : Nat} {φ : Nat → Nat → Tgt} {d : Prop} : ∀ {Dz : Fzs} {i : Nat}, zidx Dz i k (fun _ g' => g' = g) d → (∃ j, φD Dz i φ k g = .to j 0 ∧ ∀ (α : Type) (f : Nat → Nat → α) (x : α), zidx Dz i k f x = f j g) ∨ (d ∧ φD Dz i φ k g = φ k g ∧ ∀ (α : Type) (f : Nat → Nat → α) (x : α), zidx Dz i k f x = x)
  | [], i, h => .inr ⟨h, rfl, fun _ _ _ => rfl⟩
  | (k', g', b) :: r, i, h => by
    simp only [zidx, φD] at h ⊢
    cases hb : Nat.beq k' k with
    | true =>
      rw [hb] at h
      simp only [cond_true] at h ⊢
      subst h
      exact .inl ⟨i, by simp, fun _ _ _ => rfl⟩
    | false =>
      rw [hb] at h
      simp only [cond_false] at h ⊢
      exact zidx_φ h
theorem zlook_φ {k g : Nat} {c : Blk → Prop} : ∀ {Fz : Fzs}, zlook Fz k (fun g' b => g' = g ∧ c b) True → (∃ b, φZ Fz k g = .frz b ∧ c b ∧ ∀ (α : Type) (f : Nat → Blk → α) (x : α), zlook Fz k f x = f g b) ∨ (φZ Fz k g = .dead ∧ ∀ (α : Type) (f : Nat → Blk → α) (x : α), zlook Fz k f x = x)
  | [], h => .inr ⟨rfl, fun _ _ _ => rfl⟩
  | (k', g', b) :: r, h => by
    simp only [zlook, φZ] at h ⊢
    cases hb : Nat.beq k' k with
    | true =>
      rw [hb] at h
      simp only [cond_true] at h ⊢
      obtain ⟨rfl, h⟩ := h
      exact .inl ⟨b, by simp, h, fun _ _ _ => rfl⟩
    | false =>
      rw [hb] at h
      simp only [cond_false] at h ⊢
      exact zlook_φ h
theorem zlook_and {k g : Nat} : ∀ {Fz : Fzs}, zlook Fz k (fun g' _ => g' = g) True → zlook Fz k (fun g' _ => g' = g ∧ True) True
  | [], _ => trivial
  | (k', g', b) :: r, h => by
    simp only [zlook] at h ⊢
    cases hb : Nat.beq k' k with
    | true => rw [hb] at h; exact ⟨h, trivial⟩
    | false => rw [hb] at h; exact zlook_and h
mutual
theorem AV.renX_eq {Dz Fz : Fzs} : ∀ a : AV, a.okX Dz Fz → a.ren (φX Dz Fz) = a.renX Dz Fz
  | .any, _ | .int _ _, _ | .bool _, _ | .str _, _ | .con _, _ => by simp [AV.ren, AV.renX]
  | .agg cs, h => by simp only [AV.ren, AV.renX]; rw [renXL_eq cs (by simpa [AV.okX] using h)]
  | .tup cs, h => by simp only [AV.ren, AV.renX]; rw [renXL_eq cs (by simpa [AV.okX] using h)]
  | .fn f cs, h => by simp only [AV.ren, AV.renX]; rw [renXL_eq cs (by simpa [AV.okX] using h)]
  | .sl s es, h => by simp only [AV.ren, AV.renX]; rw [renLL_pure _ es (by simpa [AV.okX] using h)]
  | .rp cs, h => by simp only [AV.ren, AV.renX]; rw [renL_pure _ cs (by simpa [AV.okX] using h)]
  | .ifc t v, h => by simp only [AV.ren, AV.renX]; rw [AV.ren_pure _ v (by simpa [AV.okX] using h)]
  | .ref k g o, h => by
    simp only [AV.okX] at h
    simp only [AV.ren, AV.renX, φX, zref]
    rcases zidx_φ (φ := φZ Fz) h with ⟨j, h1, h2⟩ | ⟨h0, h1, h2⟩
    · rw [h1, h2]
    · rw [h1, h2]
      rcases zlook_φ (c := fun _ => True) (zlook_and h0) with ⟨b, h3, h4, h5⟩ | ⟨h3, h5⟩
      · rw [h3, h5]; cases b <;> rfl
      · rw [h3, h5]
  | .er k g i o, h => by
    simp only [AV.okX] at h
    simp only [AV.ren, AV.renX, φX, zer]
    rcases zidx_φ (φ := φZ Fz) h with ⟨j, h1, h2⟩ | ⟨h0, h1, h2⟩
    · rw [h1, h2]
    · rw [h1, h2]
      rcases zlook_φ (c := fun _ => True) (zlook_and h0) with ⟨b, h3, h4, h5⟩ | ⟨h3, h5⟩
      · rw [h3, h5]; cases b <;> rfl
      · rw [h3, h5]
  | .vs k g n, h => by
    simp only [AV.okX] at h
    simp only [AV.ren, AV.renX, φX, zvs]
    rcases zidx_φ (φ := φZ Fz) h with ⟨j, h1, h2⟩ | ⟨h0, h1, h2⟩
    · rw [h1, h2]
    · rw [h1, h2]
      rcases zlook_φ (c := fun b => match b with | .vec _ es => n = es.length | _ => True) h0 with ⟨b, h3, h4, h5⟩ | ⟨h3, h5⟩
      · rw [h3, h5]
        cases b with
        | cells cs => rfl
        | vec s es => dsimp only at h4 ⊢; subst h4; rw [if_pos (Nat.le_refl _), List.take_length]
      · rw [h3, h5]
  | .vw k g o n, h => by
    simp only [AV.okX] at h
    simp only [AV.ren, AV.renX, φX, zvw]
    rcases zidx_φ (φ := φZ Fz) h with ⟨j, h1, h2⟩ | ⟨h0, h1, h2⟩
    · rw [h1, h2]
    · rw [h1, h2]
      rcases zlook_φ (c := fun b => match b with | .vec _ es => o + n ≤ es.length | _ => True) h0 with ⟨b, h3, h4, h5⟩ | ⟨h3, h5⟩
      · rw [h3, h5]
        cases b with
        | cells cs => rfl
        | vec s es => dsimp only at h4 ⊢; rw [if_pos h4]
      · rw [h3, h5]
theorem renXL_eq {Dz Fz : Fzs} : ∀ l : List AV, okXL Dz Fz l → renL (φX Dz Fz) l = renXL Dz Fz l
  | [], _ => rfl
  | a :: r, h => by
    simp only [okXL] at h
    simp only [renL, renXL]; rw [AV.renX_eq a h.1, renXL_eq r h.2]
end
def Blk.renX (Dz Fz : Fzs) : Blk → Blk
  | .cells cs => .cells (renXL Dz Fz cs)
  | .vec s es => .vec s es
def Blk.okX (Dz Fz : Fzs) : Blk → Prop
  | .cells cs => okXL Dz Fz cs
  | .vec _ es => pureLL es = true
theorem Blk.renX_eq {Dz Fz : Fzs} {b : Blk} (h : b.okX Dz Fz) : b.ren (φX Dz Fz) = b.renX Dz Fz := by
  cases b with
  | cells cs => simp only [Blk.ren, Blk.renX]; rw [renXL_eq cs h]
  | vec s es => simp only [Blk.ren, Blk.renX]; rw [renLL_pure _ es h]
def bX (Dz Fz : Fzs) : Fzs → List Blk
  | [] => []
  | (_, _, b) :: r => b.renX Dz Fz :: bX Dz Fz r
def bokX (Dz Fz : Fzs) : Fzs → Prop
  | [] => True
  | (_, _, b) :: r => b.okX Dz Fz ∧ bokX Dz Fz r
theorem bX_eq {Dz Fz : Fzs} : ∀ {Z : Fzs}, bokX Dz Fz Z → (Z.map fun x => x.2.2.ren (φX Dz Fz)) = bX Dz Fz Z
  | [], _ => rfl
  | (k, g, b) :: r, h => by simp only [List.map_cons, bX]; rw [Blk.renX_eq h.1, bX_eq h.2]
mutual
def AV.renS (φ : Nat → Nat → Tgt) : AV → AV
  | .ref k g o => match φ k g with
    | .to k' g' => .ref k' g' o
    | _ => .any
  | .er k g i o => match φ k g with
    | .to k' g' => .er k' g' i o
    | _ => .any
  | .vs k g n => match φ k g with
    | .to k' g' => .vs k' g' n
    | _ => .any
  | .vw k g o n => match φ k g with
    | .to k' g' => .vw k' g' o n
    | _ => .any
  | .agg cs => .agg (renSL φ cs)
  | .tup cs => .tup (renSL φ cs)
  | .fn f cs => .fn f (renSL φ cs)
  | a => a
def renSL (φ : Nat → Nat → Tgt) : List AV → List AV
  | [] => []
  | a :: r => AV.renS φ a :: renSL φ r
end
mutual
def AV.okS : AV → Prop
  | .agg cs => okSL cs
  | .tup cs => okSL cs
  | .fn _ cs => okSL cs
  | .sl _ es => pureLL es = true
  | .rp cs => pureL cs = true
  | .ifc _ v => v.pure = true
  | _ => True
def okSL : List AV → Prop
  | [] => True
  | a :: r => AV.okS a ∧ okSL r
end
def NoFrz (φ : Nat → Nat → Tgt) : Prop := ∀ k g b, φ k g ≠ .frz b
theorem NoFrz.ψ : ∀ (K Q : List Nat), NoFrz (ψX K Q)
  | [], _, _, _, _ => by simp [ψX]
  | _ :: _, [], _, _, _ => by simp [ψX]
  | k :: K, g :: Q, 0, _, _ => by simp [ψX]
  | k :: K, g :: Q, i + 1, x, b => by simpa [ψX] using NoFrz.ψ K Q i x b
mutual
theorem AV.renS_eq {φ : Nat → Nat → Tgt} (hφ : NoFrz φ) : ∀ a : AV, a.okS → a.ren φ = a.renS φ
  | .any, _ | .int _ _, _ | .bool _, _ | .str _, _ | .con _, _ => by simp [AV.ren, AV.renS]
  | .agg cs, h => by simp only [AV.ren, AV.renS]; rw [renSL_eq hφ cs (by simpa [AV.okS] using h)]
  | .tup cs, h => by simp only [AV.ren, AV.renS]; rw [renSL_eq hφ cs (by simpa [AV.okS] using h)]
  | .fn f cs, h => by simp only [AV.ren, AV.renS]; rw [renSL_eq hφ cs (by simpa [AV.okS] using h)]
  | .sl s es, h => by simp only [AV.ren, AV.renS]; rw [renLL_pure _ es (by simpa [AV.okS] using h)]
  | .rp cs, h => by simp only [AV.ren, AV.renS]; rw [renL_pure _ cs (by simpa [AV.okS] using h)]
  | .ifc t v, h => by simp only [AV.ren, AV.renS]; rw [AV.ren_pure _ v (by simpa [AV.okS] using h)]
  | .ref k g o, _ => by
    simp only [AV.ren, AV.renS]
    cases h : φ k g with
    | frz b => exact absurd h (hφ k g b)
    | _ => rfl
  | .er k g i o, _ => by
    simp only [AV.ren, AV.renS]
    cases h : φ k g with
    | frz b => exact absurd h (hφ k g b)
    | _ => rfl
  | .vs k g n, _ => by
    simp only [AV.ren, AV.renS]
    cases h : φ k g with
    | frz b => exact absurd h (hφ k g b)
    | _ => rfl
  | .vw k g o n, _ => by
    simp only [AV.ren, AV.renS]
    cases h : φ k g with
    | frz b => exact absurd h (hφ k g b)
    | _ => rfl
theorem renSL_eq {φ : Nat → Nat → Tgt} (hφ : NoFrz φ) : ∀ l : List AV, okSL l → renL φ l = renSL φ l
  | [], _ => rfl
  | a :: r, h => by
    simp only [okSL] at h
    simp only [renL, renSL]; rw [AV.renS_eq hφ a h.1, renSL_eq hφ r h.2]
end
def Blk.renS (φ : Nat → Nat → Tgt) : Blk → Blk
  | .cells cs => .cells (renSL φ cs)
  | .vec s es => .vec s es
def Blk.okS : Blk → Prop
  | .cells cs => okSL cs
  | .vec _ es => pureLL es = true
theorem Blk.renS_eq {φ : Nat → Nat → Tgt} (hφ : NoFrz φ) {b : Blk} (h : b.okS) : b.ren φ = b.renS φ := by
  cases b with
  | cells cs => simp only [Blk.ren, Blk.renS]; rw [renSL_eq hφ cs h]
  | vec s es => simp only [Blk.ren, Blk.renS]; rw [renLL_pure _ es h]
def bokS : List (Bool × Blk) → Prop
  | [] => True
  | (_, b) :: r => b.okS ∧ bokS r
def wS (ψ : Nat → Nat → Tgt) : List Nat → List Nat → List (Bool × Blk) → Heap
  | k :: K, g :: Q, (_, b) :: R => (k, some (g, b.renS ψ)) :: wS ψ K Q R
  | _, _, _ => []
theorem wS_eq {ψ : Nat → Nat → Tgt} (hψ : NoFrz ψ) : ∀ {R : List (Bool × Blk)} (K Q : List Nat), bokS R → wX ψ K Q R = wS ψ K Q R
  | [], K, Q, _ => by cases K <;> cases Q <;> rfl
  | (fl, b) :: R, [], _, _ => rfl
  | (fl, b) :: R, _ :: _, [], _ => rfl
  | (fl, b) :: R, k :: K, g :: Q, h => by simp only [wX, wS]; rw [Blk.renS_eq hψ h.1, wS_eq hψ K Q h.2]
mutual
def fA : AV → (AV → Prop) → Prop
  | .any, K => K .any
  | .int k n, K => K (.int k n)
  | .bool b, K => K (.bool b)
  | .str s, K => K (.str s)
  | .con v, K => K (.con v)
  | .agg cs, K => fL cs fun l => K (.agg l)
  | .sl s es, K => K (.sl s es)
  | .rp cs, K => K (.rp cs)
  | .ref k g o, K => K (.ref k g o)
  | .er k g i o, K => K (.er k g i o)
  | .vs k g n, K => K (.vs k g n)
  | .vw k g o n, K => K (.vw k g o n)
  | .fn f cs, K => fL cs fun l => K (.fn f l)
  | .tup cs, K => fL cs fun l => K (.tup l)
  | .ifc t v, K => K (.ifc t v)
def fL : List AV → (List AV → Prop) → Prop
  | [], K => K []
  | a :: r, K => fA a fun a => fL r fun l => K (a :: l)
end
mutual
theorem fA_iff : ∀ (a : AV) (K : AV → Prop), fA a K ↔ K a
  | .any, K | .int _ _, K | .bool _, K | .str _, K | .con _, K | .sl _ _, K | .rp _, K | .ref _ _ _, K | .er _ _ _ _, K | .vs _ _ _, K | .vw _ _ _ _, K | .ifc _ _, K => by simp [fA]
  | .agg cs, K => by simp only [fA]; exact fL_iff cs _
  | .fn f cs, K => by simp only [fA]; exact fL_iff cs _
  | .tup cs, K => by simp only [fA]; exact fL_iff cs _
theorem fL_iff : ∀ (l : List AV) (K : List AV → Prop), fL l K ↔ K l
  | [], K => by simp [fL]
  | a :: r, K => by simp only [fL]; rw [fA_iff a]; exact fL_iff r _
end
def fLL : List (List AV) → (List (List AV) → Prop) → Prop
  | [], K => K []
  | a :: r, K => fL a fun a => fLL r fun l => K (a :: l)
theorem fLL_iff : ∀ {l : List (List AV)} {K : List (List AV) → Prop}, fLL l K ↔ K l
  | [], K => Iff.rfl
  | a :: r, K => by simp only [fLL]; rw [fL_iff a]; exact fLL_iff
def fW : Heap → (Heap → Prop) → Prop
  | [], K => K []
  | (k, some (g, .cells cs)) :: r, K => fL cs fun cs => fW r fun l => K ((k, some (g, .cells cs)) :: l)
  | (k, some (g, .vec s es)) :: r, K => fW r fun l => K ((k, some (g, .vec s es)) :: l)
  | (k, none) :: r, K => fW r fun l => K ((k, none) :: l)
theorem fW_iff : ∀ {l : Heap} {K : Heap → Prop}, fW l K ↔ K l
  | [], K => Iff.rfl
  | (k, some (g, .cells cs)) :: r, K => by simp only [fW]; rw [fL_iff]; exact fW_iff
  | (k, some (g, .vec s es)) :: r, K => by simp only [fW]; exact fW_iff
  | (k, none) :: r, K => by simp only [fW]; exact fW_iff
mutual
def AV.kS (all : Bool) : AV → List Nat
  | .agg cs | .fn _ cs | .tup cs => kSL all cs
  | .ref k _ _ => [k]
  | .er k _ _ _ => [k]
  | .vs k _ _ => bif all then [k] else []
  | .vw k _ _ _ => bif all then [k] else []
  | _ => []
def kSL (all : Bool) : List AV → List Nat
  | [] => []
  | a :: r => AV.kS all a ++ kSL all r
end
mutual
theorem AV.kS_eq {Dz Fz : Fzs} {all : Bool} : ∀ a : AV, a.okX Dz Fz → a.keys all = a.kS all
  | .any, _ | .int _ _, _ | .bool _, _ | .str _, _ | .con _, _ => by simp [AV.keys, AV.kS]
  | .agg cs, h => by simp only [AV.keys, AV.kS]; exact kSL_eq cs (by simpa [AV.okX] using h)
  | .tup cs, h => by simp only [AV.keys, AV.kS]; exact kSL_eq cs (by simpa [AV.okX] using h)
  | .fn f cs, h => by simp only [AV.keys, AV.kS]; exact kSL_eq cs (by simpa [AV.okX] using h)
  | .sl s es, h => by simp only [AV.keys, AV.kS]; exact keysLL_pure all es (by simpa [AV.okX] using h)
  | .rp cs, h => by simp only [AV.keys, AV.kS]; exact keysL_pure all cs (by simpa [AV.okX] using h)
  | .ifc t v, h => by simp only [AV.keys, AV.kS]; exact AV.keys_pure all v (by simpa [AV.okX] using h)
  | .ref _ _ _, _ | .er _ _ _ _, _ | .vs _ _ _, _ | .vw _ _ _ _, _ => by simp [AV.keys, AV.kS]
theorem kSL_eq {Dz Fz : Fzs} {all : Bool} : ∀ l : List AV, okXL Dz Fz l → keysL all l = kSL all l
  | [], _ => rfl
  | a :: r, h => by
    simp only [okXL] at h
    simp only [keysL, kSL]; rw [AV.kS_eq a h.1, kSL_eq r h.2]
end
def Blk.kS : Blk → List Nat
  | .cells cs => kSL true cs
  | .vec _ _ => []
theorem Blk.kS_eq {Dz Fz : Fzs} {b : Blk} (h : b.okX Dz Fz) : b.keys = b.kS := by
  cases b with
  | cells cs => exact kSL_eq cs h
  | vec s es => exact keysLL_pure true es h
def contS (hp : Heap) : List Nat → List Nat
  | [] => []
  | k :: r => (match hget hp k with | some (_, b) => b.kS | none => []) ++ contS hp r
def extS (hp : Heap) (raw : Bool) (args : List AV) : List Nat :=
  match kSL raw args with
  | [] => []
  | D => dedup ((D ++ contS hp D) ++ contS hp (D ++ contS hp D))
theorem bokX_at {Dz Fz : Fzs} : ∀ {Z : Fzs}, bokX Dz Fz Z → ∀ x ∈ Z, x.2.2.okX Dz Fz
  | (k, g, b) :: r, h, x, hx => by
    rcases List.mem_cons.1 hx with rfl | hx
    · exact h.1
    · exact bokX_at h.2 x hx
theorem extS_eq {hp : Heap} {raw : Bool} {args : List AV} {Dz Fz : Fzs} (hD : AtOk hp Dz) (hok : okXL Dz Fz args) (hbok : bokX Dz Fz Dz) (hE : extS hp raw args = Dz.map (·.1)) : extKeys (hget hp) raw args = Dz.map (·.1) := by
  rw [← hE]
  unfold extKeys extS
  rw [kSL_eq args hok]
  have key : ∀ D : List Nat, (∀ k ∈ D, k ∈ Dz.map (·.1)) → contKeys (hget hp) D = contS hp D := by
    intro D
    induction D with
    | nil => intro _; rfl
    | cons k r ih =>
      intro h
      simp only [contKeys, contS]
      rw [ih fun x hx => h x (by simp [hx])]
      congr 1
      obtain ⟨x, hx, rfl⟩ := List.mem_map.1 (h k (by simp))
      rw [hD.at x hx]
      exact Blk.kS_eq (bokX_at hbok x hx)
  cases hk : kSL raw args with
  | nil => rfl
  | cons d r =>
    dsimp only
    have hmem : ∀ x, x ∈ (d :: r) ++ contS hp (d :: r) → x ∈ Dz.map (·.1) := fun x hx => by
      rw [← hE]
      unfold extS
      rw [hk]
      dsimp only
      rw [mem_dedup]
      exact List.mem_append_left _ hx
    rw [key (d :: r) fun x hx => hmem x (List.mem_append_left _ hx), key _ hmem]
theorem ne_of_kS {Dz Fz : Fzs} {args : List AV} (hok : okXL Dz Fz args) (h : kSL true args ≠ []) : keysL true args ≠ [] := by rw [kSL_eq args hok]; exact h
theorem callX {G : Nat → Fun} {hp : Heap} {f : Nat} {args : List AV} {g dst : Nat} {E : Prop} {k : Eff → Prop} {r : AV} {R : List (Bool × Blk)} (Dz Fz : Fzs) (hD : AtOk hp Dz) (hF : FzOk hp Fz)
    (hE : extS hp (G f).raw args = Dz.map (·.1)) (hK : (kSL true args).filter (fun k => !(Dz.map (·.1)).contains k) = Fz.map (·.1)) (hne : kSL true args ≠ [])
    (hok : okXL Dz Fz args) (hbok : bokX Dz Fz Dz) (hG : Gives G f (renXL Dz Fz args) (bX Dz Fz Dz) ⟨r, R⟩) (hd : (R.isEmpty && r.dry) = false) (hl : Nat.ble Dz.length R.length = true) (hn : nodupB (keysX Dz dst 0 R) = true)
    (hro : r.okS) (hRo : bokS R)
    (h : fA (r.renS (ψX (keysX Dz dst 0 R) (gensX Dz R g))) fun r' => fW (wS (ψX (keysX Dz dst 0 R) (gensX Dz R g)) (keysX Dz dst 0 R) (gensX Dz R g) R) fun w' => k { res := r', wr := w' ++ dropW (Fz.map (·.1)), rd := Fz.map (·.1) ++ Dz.map (·.1) }) : CallG G hp f args g dst E k := by
  rw [← renXL_eq args hok, ← bX_eq hbok] at hG
  refine .mk _ _ _ (callIn_X hD hF (extS_eq hD hok hbok hE) (by rw [kSL_eq args hok]; exact hK) (ne_of_kS hok hne)) hG (callOut_X hD hd (Nat.le_of_ble_eq_true hl) hn) ?_
  rw [AV.renS_eq (NoFrz.ψ _ _) r hro, wS_eq (NoFrz.ψ _ _) _ _ hRo]
  exact fW_iff.1 ((fA_iff _ _).1 h)
theorem callNS {G : Nat → Fun} {hp : Heap} {f : Nat} {args : List AV} {g dst : Nat} {E : Prop} {k : Eff → Prop} {r : AV} {R : List (Bool × Blk)} (hG : Gives G f args [] ⟨r, R⟩) (hp' : pureL args = true) (hd : (R.isEmpty && r.dry) = false) (hn : nodupB (keysX [] dst 0 R) = true) (hro : r.okS) (hRo : bokS R)
    (h : fA (r.renS (ψX (keysX [] dst 0 R) (gensX [] R g))) fun r' => fW (wS (ψX (keysX [] dst 0 R) (gensX [] R g)) (keysX [] dst 0 R) (gensX [] R g) R) fun w' => k { res := r', wr := w' ++ dropW [], rd := [] ++ [] }) : CallG G hp f args g dst E k := by
  refine .mk _ _ _ (callIn_pure hp') hG (callOut_X (Dz := []) (hp := hp) trivial hd (Nat.zero_le _) hn) ?_
  rw [AV.renS_eq (NoFrz.ψ _ _) r hro, wS_eq (NoFrz.ψ _ _) _ _ hRo]
  exact fW_iff.1 ((fA_iff _ _).1 h)
theorem callZ {G : Nat → Fun} {hp : Heap} {f : Nat} {args : List AV} {g dst : Nat} {E : Prop} {k : Eff → Prop} {r : AV} (Fz : Fzs) (hF : FzOk hp Fz)
    (hE : extS hp (G f).raw args = []) (hK : kSL true args = Fz.map (·.1)) (hne : kSL true args ≠ [])
    (hok : okXL [] Fz args) (hG : Gives G f (renXL [] Fz args) [] ⟨r, []⟩) (hr : r.dry = true) (h : k { res := r, wr := [], rd := Fz.map (·.1) ++ [] }) : CallG G hp f args g dst E k := by
  rw [← renXL_eq args hok] at hG
  refine .mk _ _ _ (callIn_X (Dz := []) trivial hF (extS_eq (Dz := []) (Fz := Fz) trivial hok trivial hE) ((List.filter_eq_self.2 fun _ _ => rfl).trans ((kSL_eq args hok).trans hK)) (ne_of_kS hok hne)) hG ?_ h
  unfold callOut
  simp [hr]
theorem bslZ {hp : Heap} {s : Nat} {z : List AV} {n : Nat} {ps : List Nat} {vs : List AV} {k : List (List AV) → List Nat → Prop} (Fz : Fzs) (hF : FzOk hp Fz) (hK : kSL true vs = Fz.map (·.1)) (hne : kSL true vs ≠ []) (hok : okXL [] Fz vs) (es : List (List AV)) (h2 : fillE s (repl n z) ps (renXL [] Fz vs) = some es)
    (hk : fLL es fun es => k es (Fz.map (·.1))) : BslC hp s z n ps vs k := by
  have hK := (kSL_eq vs hok).trans hK
  have hne := ne_of_kS hok hne
  refine .frz (Fz.map (·.1)) hK (by rw [← hK]; exact hne) es ?_ (fLL_iff.1 hk)
  rw [← h2, ← renXL_eq vs hok]
  congr 1
  refine renL_congr vs fun k hk' g => ?_
  rw [hK] at hk'
  show frzφ (hget hp) (Fz.map (·.1)) k g = φZ Fz k g
  rw [φZ_mem hF k g hk']
  unfold frzφ
  have hc : (Fz.map (·.1)).contains k = true := by simpa using hk'
  rw [hc, cond_true]
  cases hget hp k <;> rfl
theorem bslP {hp : Heap} {s : Nat} {z : List AV} {n : Nat} {ps : List Nat} {vs : List AV} {k : List (List AV) → List Nat → Prop} {es : List (List AV)} (h1 : pureL vs = true) (h2 : fillE s (repl n z) ps vs = some es) (hk : fLL es fun es => k es []) : BslC hp s z n ps vs k := .pure h1 es h2 (fLL_iff.1 hk)
end Go.AM
namespace Go.AM
section
variable {k : Eff → Prop} {a b : Int} {q : IntKind} {xs : List Opd} {g key : Nat} {hg : Nat → Option (Nat × Blk)}
theorem zMaxL (h : k { res := .int q a }) (h1 : b ≤ a := by omega) : ∃ e, aopV (.minmax true xs) g key [.int q a, .int q b] hg = some e ∧ k e := by
  refine ⟨_, ?_, h⟩
  simp [aopV, minL, if_neg (Int.not_lt.2 h1)]
theorem zMaxR (h : k { res := .int q b }) (h1 : a < b := by omega) : ∃ e, aopV (.minmax true xs) g key [.int q a, .int q b] hg = some e ∧ k e := by
  refine ⟨_, ?_, h⟩
  simp [aopV, minL, if_pos h1]
theorem zMinL (h : k { res := .int q a }) (h1 : a ≤ b := by omega) : ∃ e, aopV (.minmax false xs) g key [.int q a, .int q b] hg = some e ∧ k e := by
  refine ⟨_, ?_, h⟩
  simp [aopV, minL, if_neg (Int.not_lt.2 h1)]
theorem zMinR (h : k { res := .int q b }) (h1 : b < a := by omega) : ∃ e, aopV (.minmax false xs) g key [.int q a, .int q b] hg = some e ∧ k e := by
  refine ⟨_, ?_, h⟩
  simp [aopV, minL, if_pos h1]
theorem zByte {x : Opd} {n : Nat} (h : k { res := .int .u8 (UInt8.ofNat n).toNat }) : ∃ e, aopV (.conv .u8 x) g key [.int q (n : Int)] hg = some e ∧ k e := by
  refine ⟨_, ?_, h⟩
  have e : IntKind.wrap .u8 (n : Int) = ((UInt8.ofNat n).toNat : Int) := by
    have h : IntKind.wrap .u8 (n : Int) = (n : Int) % 256 := by first | rfl | simp [IntKind.wrap, IntKind.bits, IntKind.signed]
    rw [h]; simp
  show some (Eff.mk (AV.int .u8 (IntKind.wrap .u8 n)) [] [] []) = _
  rw [e]
theorem zShr {k : AV → Prop} {n : Nat} {b : Int} (h : k (.int .u64 ((n / 2 ^ b.toNat : Nat) : Int))) (h1 : 0 ≤ b := by omega) (h2 : b ≤ 64 := by omega) : ∃ v, binA .shr (.int .u64 (n : Int)) (.int .i64 b) = some v ∧ k v := by
  refine ⟨_, ?_, h⟩
  show (if b < 0 then none else some (AV.int .u64 ((n : Int).fdiv (2 ^ (min b.toNat 64))))) = _
  rw [if_neg (by omega), show min b.toNat 64 = b.toNat from by omega]
  congr 2
  rw [Int.fdiv_eq_ediv_of_nonneg _ (by exact_mod_cast Nat.zero_le _)]
  push_cast
  rfl
end
def be : Nat → Nat → List UInt8
  | 0, _ => []
  | n + 1, x => UInt8.ofNat (x / 256 ^ n) :: be n x
@[simp] theorem be_length : ∀ n x, (be n x).length = n
  | 0, _ => rfl
  | n + 1, x => by simp [be, be_length n x]
theorem pow_256 (n : Nat) : 2 ^ (8 * n) = 256 ^ n := by rw [Nat.pow_mul]
def rB (l : List UInt8) : Ret := ⟨.vs 0 0 l.length, [(false, .vec 1 (byteCells l))]⟩
@[simp] theorem byteCells_length (l : List UInt8) : (byteCells l).length = l.length := by simp [byteCells]
@[simp] theorem byteCells_append (a b : List UInt8) : byteCells (a ++ b) = byteCells a ++ byteCells b := by simp [byteCells]
theorem pureLL_mapB {α : Type} {f : α → List AV} (h : ∀ x, pureL (f x) = true) : ∀ l : List α, pureLL (l.map f) = true
  | [] => rfl
  | x :: r => by simp only [List.map_cons, pureLL, h x, pureLL_mapB h r, Bool.and_self]
@[simp] theorem pure_byteCells (l : List UInt8) : pureLL (byteCells l) = true := pureLL_mapB (f := fun b : UInt8 => [AV.int .u8 (b.toNat : Int)]) (fun _ => rfl) l
theorem pureLL_app : ∀ a b : List (List AV), pureLL (a ++ b) = (pureLL a && pureLL b)
  | [], b => by simp [pureLL]
  | x :: r, b => by simp [pureLL, pureLL_app r b, Bool.and_assoc]
attribute [simp] pureLL_app
theorem ev_retB {G : Nat → Fun} {k : List AItem} {tm : List (Nat × AV)} {hp : Heap} {ctr : Nat} {rs : List RVar} {l : List UInt8} (key : Nat) (h : resC tm hp rs (oneOf fun a => ∃ g n es, a = .vs key g n ∧ (hlook hp key fun z => z = some (g, .vec 1 es)) ∧ n = l.length ∧ es = byteCells l)) : Ev G ⟨.code .ret :: k, ⟨tm, hp, ctr⟩, rs, 0⟩ (rB l) := by
  obtain ⟨a, h1, g, n, es, rfl, h2, rfl, rfl⟩ := oneOf_ok (ctr := ctr) h
  exact ev_retV key g l.length _ h1 h2 (by simp [Blk.pure]) rfl
end Go.AM
namespace Go.AM
def FlOk : Fzs → List Bool → Prop
  | [], [] => True
  | (_, g, _) :: r, f :: fs => f = decide (g = 0) ∧ FlOk r fs
  | _, _ => False
def flB (Zs : Fzs) : Fzs → List Bool → List (Bool × Blk)
  | (_, _, b) :: r, f :: fs => (f, b.renX Zs []) :: flB Zs r fs
  | (_, _, b) :: r, [] => (false, b.renX Zs []) :: flB Zs r []
  | [], _ => []
def newS (hp : Heap) (m : Nat) (r : AV) : List Nat :=
  let D := (r.kS true ++ contS hp (List.range m)).filter (fun k => decide (m ≤ k))
  dedup ((D ++ contS hp D).filter (fun k => decide (m ≤ k)))
theorem contS_eq {hp : Heap} {Zs Fz : Fzs} (hA : AtOk hp Zs) (hb : bokX Zs Fz Zs) : ∀ (D : List Nat), (∀ k ∈ D, (∃ x, hget hp k = some x) → k ∈ Zs.map (·.1)) → contKeys (hget hp) D = contS hp D
  | [], _ => rfl
  | k :: r, h => by
    simp only [contKeys, contS]
    rw [contS_eq hA hb r fun x hx => h x (by simp [hx])]
    congr 1
    cases hk : hget hp k with
    | none => rfl
    | some x =>
      obtain ⟨y, hy, rfl⟩ := List.mem_map.1 (h k (by simp) ⟨x, hk⟩)
      rw [hA.at y hy] at hk
      obtain rfl := Option.some.inj hk
      exact Blk.kS_eq (bokX_at hb y hy)
theorem outφ_X {hp : Heap} {m : Nat} {Zs : Fzs} {N : List Nat} (hA : AtOk hp Zs) (hk : Zs.map (·.1) = List.range m ++ N) (hN : ∀ k ∈ N, m ≤ k) (hnd : N.Nodup) : outφ hp m N = φX Zs [] := by
  funext k g
  unfold outφ φX
  by_cases h1 : k ∈ Zs.map (·.1)
  · rw [φD_mem 0 hA k g h1, hk]
    cases hget hp k with
    | none => rfl
    | some x =>
      obtain ⟨g', b⟩ := x
      dsimp only
      split
      · by_cases hlt : k < m
        · rw [if_pos hlt]
          have : idx k (List.range m ++ N) = some k := by
            have hmem : k ∈ List.range m ++ N := by simp [hlt]
            obtain ⟨i, hi⟩ := idx_at hmem
            have hi2 := idx_some hi
            rw [range_append_at] at hi2
            split at hi2
            · obtain rfl := Option.some.inj hi2; exact hi
            · have := hN k (List.mem_of_getElem? hi2); omega
          rw [this]; simp
        · rw [if_neg hlt]
          have hkN : k ∈ N := by rw [hk] at h1; simpa [hlt] using h1
          obtain ⟨i, hi⟩ := idx_at hkN
          have : idx k (List.range m ++ N) = some (m + i) := by
            have hmem : k ∈ List.range m ++ N := by simp [hkN]
            obtain ⟨j, hj⟩ := idx_at hmem
            have hj2 := idx_some hj
            rw [range_append_at] at hj2
            split at hj2
            · obtain rfl := Option.some.inj hj2; rename_i hh; exact absurd hh hlt
            · rename_i hh
              have := nodup_idx hnd hj2 (idx_some hi)
              rw [hj]; congr 1; omega
          rw [hi, this]; simp
      · rfl
  · rw [φD_not h1]
    show _ = φZ [] k g
    cases hget hp k with
    | none => rfl
    | some x =>
      obtain ⟨g', b⟩ := x
      dsimp only
      split
      · have hlt : ¬ k < m := fun h => h1 (by rw [hk]; simp [h])
        rw [if_neg hlt]
        have : idx k N = none := idx_none_of fun h => h1 (by rw [hk]; simp [h])
        rw [this]; rfl
      · rfl
theorem outBlks_X {hp : Heap} {φ : Nat → Nat → Tgt} {m : Nat} : ∀ {Zs : Fzs}, AtOk hp Zs → outBlks hp φ m (Zs.map (·.1)) = some (Zs.map fun x => (decide (x.1 < m ∧ x.2.1 = 0), x.2.2.ren φ))
  | [], _ => rfl
  | (k, g, b) :: r, h => by
    have h1 := h.at (k, g, b) (by simp)
    simp only at h1
    simp only [List.map_cons, outBlks, h1, outBlks_X h.2]
theorem flB_eq {Zs : Fzs} {m : Nat} : ∀ (Ez Nz : Fzs) (fl : List Bool), FlOk Ez fl → (∀ x ∈ Ez, x.1 < m) → (∀ x ∈ Nz, m ≤ x.1) → bokX Zs [] (Ez ++ Nz) → (Ez ++ Nz).map (fun x => (decide (x.1 < m ∧ x.2.1 = 0), x.2.2.ren (φX Zs []))) = flB Zs (Ez ++ Nz) fl
  | [], [], [], _, _, _, _ => rfl
  | [], (k, g, b) :: Nz, [], h1, h2, h3, h4 => by
    have := flB_eq (Zs := Zs) [] Nz [] trivial (by simp) (fun x hx => h3 x (by simp [hx])) h4.2
    have hk : ¬ k < m := by have := h3 (k, g, b) (by simp); simp only at this; omega
    simp only [List.nil_append] at this
    simp only [List.nil_append, List.map_cons, flB, hk, false_and, decide_false, this]
    rw [Blk.renX_eq h4.1]
  | (k, g, b) :: Ez, Nz, f :: fl, h1, h2, h3, h4 => by
    have := flB_eq (Zs := Zs) Ez Nz fl h1.2 (fun x hx => h2 x (by simp [hx])) h3 h4.2
    have hk : k < m := h2 (k, g, b) (by simp)
    simp only [List.cons_append, List.map_cons, flB, hk, true_and, this, h1.1]
    rw [Blk.renX_eq h4.1]
  | [], _, _ :: _, h1, _, _, _ => h1.elim
  | _ :: _, _, [], h1, _, _, _ => h1.elim
theorem retOut_X {tm : List (Nat × AV)} {hp : Heap} {ctr : Nat} {rs : List RVar} {m : Nat} {a : AV} (Ez Nz : Fzs) (fl : List Bool) (ha : resAV ⟨tm, hp, ctr⟩ rs = some a) (hm : 0 < m) (hA : AtOk hp (Ez ++ Nz)) (hE : Ez.map (·.1) = List.range m) (hN : newS hp m a = Nz.map (·.1)) (hok : a.okX (Ez ++ Nz) []) (hbok : bokX (Ez ++ Nz) [] (Ez ++ Nz)) (hfl : FlOk Ez fl) :
    retOut ⟨tm, hp, ctr⟩ rs m = some ⟨a.renX (Ez ++ Nz) [], flB (Ez ++ Nz) (Ez ++ Nz) fl⟩ := by
  unfold retOut
  rw [ha]
  dsimp only
  have hm0 : (m == 0) = false := by simp; omega
  rw [hm0, Bool.false_and, cond_false]
  have hNk : newKeys hp m a = Nz.map (·.1) := by
    rw [← hN]
    unfold newKeys newS
    rw [AV.kS_eq a hok]
    have e1 : contKeys (hget hp) (List.range m) = contS hp (List.range m) := contS_eq hA hbok _ fun k hk _ => by
      rw [List.map_append, hE]; exact List.mem_append_left _ hk
    rw [e1]
    dsimp only
    congr 2
    rw [contS_eq hA hbok]
    intro k hk hx
    rw [List.map_append, ← hN]
    refine List.mem_append_right _ ?_
    unfold newS
    rw [mem_dedup]
    have hk2 := (List.mem_filter.1 hk).2
    exact List.mem_filter.2 ⟨List.mem_append_left _ hk, hk2⟩
  have hspec := newKeys_spec (hp := hp) (m := m) (r := a)
  rw [hNk] at hspec
  have hkk : (Ez ++ Nz).map (·.1) = List.range m ++ Nz.map (·.1) := by rw [List.map_append, hE]
  rw [hNk, outφ_X hA hkk hspec.2 hspec.1, ← hkk, outBlks_X hA]
  simp only [Option.map_some]
  rw [AV.renX_eq a hok, flB_eq Ez Nz fl hfl (fun x hx => by
    have : x.1 ∈ Ez.map (·.1) := List.mem_map.2 ⟨x, hx, rfl⟩
    rw [hE] at this; simpa using this) (fun x hx => hspec.2 _ (List.mem_map.2 ⟨x, hx, rfl⟩)) hbok]
theorem ev_finX {G : Nat → Fun} {k : List AItem} {tm : List (Nat × AV)} {hp : Heap} {ctr : Nat} {rs : List RVar} {m : Nat} {t : Ret} (Ez Nz : Fzs) (fl : List Bool) (hm : 0 < m) (hA : AtOk hp (Ez ++ Nz)) (hE : Ez.map (·.1) = List.range m) (hbok : bokX (Ez ++ Nz) [] (Ez ++ Nz)) (hfl : FlOk Ez fl)
    (h : resC tm hp rs (oneOf fun a => newS hp m a = Nz.map (·.1) ∧ a.okX (Ez ++ Nz) [] ∧ Ret.mk (a.renX (Ez ++ Nz) []) (flB (Ez ++ Nz) (Ez ++ Nz) fl) = t)) : Ev G ⟨.code .ret :: k, ⟨tm, hp, ctr⟩, rs, m⟩ t := by
  obtain ⟨a, h1, h2, h3, rfl⟩ := oneOf_ok (ctr := ctr) h
  exact ev_ret (retOut_X Ez Nz fl h1 hm hA hE h2 h3 hbok hfl)
theorem ev_finX0 {G : Nat → Fun} {tm : List (Nat × AV)} {hp : Heap} {ctr : Nat} {rs : List RVar} {m : Nat} {t : Ret} (Ez Nz : Fzs) (fl : List Bool) (hm : 0 < m) (hA : AtOk hp (Ez ++ Nz)) (hE : Ez.map (·.1) = List.range m) (hbok : bokX (Ez ++ Nz) [] (Ez ++ Nz)) (hfl : FlOk Ez fl)
    (h : resC tm hp rs (oneOf fun a => newS hp m a = Nz.map (·.1) ∧ a.okX (Ez ++ Nz) [] ∧ Ret.mk (a.renX (Ez ++ Nz) []) (flB (Ez ++ Nz) (Ez ++ Nz) fl) = t)) : Ev G ⟨[], ⟨tm, hp, ctr⟩, rs, m⟩ t := by
  obtain ⟨a, h1, h2, h3, rfl⟩ := oneOf_ok (ctr := ctr) h
  exact ev_end (retOut_X Ez Nz fl h1 hm hA hE h2 h3 hbok hfl)
end Go.AM
