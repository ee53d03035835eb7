/- An abstract machine for programs of this language: its functions give what the calls of the program give (theorem gives_fsem). -/
import Derived.Test.YtcieamgbfameoaaGreatDoorMachineB
import Derived.Carry
import Derived.JoinedCond
set_option linter.unusedVariables false
set_option linter.unusedSimpArgs false
namespace Go.AM
open Go.RowKit
section
variable {H : Type} {enc : TypeId × Value → H} {P : Program} {w : World} {base : Nat} {held : Bool} {E : Env} {B : Bulk}
theorem Cq (B : Bulk) (l k : List (DataW H)) : B.g (l ++ k) = B.g l + B.g k := by
 induction l with
 | nil => simp [B.none]
 | cons x r ih => simp only [List.cons_append, B.cons, ih]; omega
theorem wx {r : TypeId → List Value → Option (DataW H × List MemPlace)} {q : TypeId → Option Ty}
  (ih : ∀ t τ cs d ps, q t = some τ → r t cs = some (d, ps) → ∃ as, CellsV E B τ cs d as) (cs : List Value) :
  ∀ (fs : List Field) (off : Nat) (l : List Ty) (xs : List (DataW H × List MemPlace)), tyF P q off fs = some l →
   fs.mapM (fun f => r f.type ((cs.drop f.offset).take (P.cellsOf f.type))) = some xs → cs.length = off + mf l →
   ∃ as, TT l as ∧ as.length = mf l ∧ (∀ i, i < as.length → (cs.getD (off + i) undef).oneCell' = true) ∧ (∀ i, i < as.length → V E (cs.getD (off + i) undef) (as.getD i .any)) ∧ bkL as ≤ B.g (xs.map (·.1))
 | [], off, l, xs, h1, h2, h3 => by
  obtain rfl : [] = l := by simpa [tyF] using h1
  exact ⟨[], rfl, rfl, by simp, by simp, by simp [bkL]⟩
 | f :: fs, off, l, xs, h1, h2, h3 => by
  simp only [tyF] at h1
  split at h1
  ·rename_i τ hτ
   split at h1
   ·rename_i hc
    obtain ⟨rfl, hc2⟩ := hc
    obtain ⟨l', hl, rfl⟩ := map_some h1
    simp only [List.mapM_cons, Option.pure_def, Option.bind_eq_bind, Option.bind_eq_some_iff, Option.some.injEq] at h2
    obtain ⟨x, q1, ys, q2, rfl⟩ := h2
    obtain ⟨a, ha⟩ := ih f.type τ _ x.1 x.2 hτ q1
    simp only [mf] at h3
    obtain ⟨b, k1, k2, k3, k4, k5⟩ := wx ih cs fs (f.offset + τ.cells) l' ys hl q2 (by omega)
    have hal : a.length = τ.cells := by rw [ha.len, ha.cells]
    have hg : ∀ i, i < a.length → ((cs.drop f.offset).take (P.cellsOf f.type)).getD i undef = cs.getD (f.offset + i) undef := fun i hi => by
     rw [cu _ _ _ _ (by omega), cG]
    refine ⟨a ++ b, ⟨a, b, rfl, ha.t, k1⟩, by simp [mf, hal, k2], fun i hi => ?_, fun i hi => ?_, ?_⟩
    ·by_cases h : i < a.length
     ·have := ha.one i h; rwa [hg i h] at this
     ·have := k3 (i - a.length) (by simp at hi; omega)
      rwa [show f.offset + τ.cells + (i - a.length) = f.offset + i from by omega] at this
    ·by_cases h : i < a.length
     ·have := ha.v i h; rw [hg i h] at this
      rw [og _ _ _ h]; exact this
     ·have := k4 (i - a.length) (by simp at hi; omega)
      rw [show f.offset + τ.cells + (i - a.length) = f.offset + i from by omega] at this
      rw [od _ _ _ (by omega)]; exact this
    ·have := ha.bk
     simp only [List.map_cons, B.cons, lc]; omega
   ·cases h1
  ·cases h1
theorem IU {r : List Value → Option (DataW H × List MemPlace)} {τ : Ty} {e : TypeId} (hτ : τ.cells = P.cellsOf e)
  (ih : ∀ cs d ps, r cs = some (d, ps) → ∃ as, CellsV E B τ cs d as) (cs : List Value) :
  ∀ (n k : Nat) (xs : List (DataW H × List MemPlace)), (List.range' k n).mapM (fun i => r ((cs.drop (i * P.cellsOf e)).take (P.cellsOf e))) = some xs → cs.length = (k + n) * τ.cells →
   ∃ l : List (List AV), l.length = n ∧ (∀ x ∈ l, τ.T x) ∧ l.flatten.length = n * τ.cells ∧ (∀ i, i < l.flatten.length → (cs.getD (k * τ.cells + i) undef).oneCell' = true) ∧
    (∀ i, i < l.flatten.length → V E (cs.getD (k * τ.cells + i) undef) (l.flatten.getD i .any)) ∧ cy l ≤ B.g (xs.map (·.1))
 | 0, k, xs, h, _ => ⟨[], rfl, by simp, by simp, by simp, by simp, by simp [cy]⟩
 | n + 1, k, xs, h, hl => by
  rw [List.range'_succ] at h
  simp only [List.mapM_cons, Option.pure_def, Option.bind_eq_bind, Option.bind_eq_some_iff, Option.some.injEq] at h
  obtain ⟨x, q1, ys, q2, rfl⟩ := h
  obtain ⟨a, ha⟩ := ih _ x.1 x.2 q1
  obtain ⟨l, k1, k2, k3, k4, k5, k6⟩ := IU hτ ih cs n (k + 1) ys q2 (by rw [hl]; congr 1; omega)
  have hal : a.length = τ.cells := by rw [ha.len, ha.cells]
  have hm : (k + 1) * τ.cells = k * τ.cells + τ.cells := Nat.succ_mul _ _
  have hg : ∀ i, i < a.length → ((cs.drop (k * P.cellsOf e)).take (P.cellsOf e)).getD i undef = cs.getD (k * τ.cells + i) undef := fun i hi => by
   rw [cu _ _ _ _ (by omega), cG, hτ]
  refine ⟨a :: l, by simp [k1], ?_, by simp [hal, k3, Nat.succ_mul]; omega, fun i hi => ?_, fun i hi => ?_, ?_⟩
  ·intro y hy
   rcases List.mem_cons.1 hy with rfl | hy
   ·exact ha.t
   ·exact k2 y hy
  ·simp only [List.flatten_cons, List.length_append] at hi
   by_cases h : i < a.length
   ·have := ha.one i h; rwa [hg i h] at this
   ·have := k4 (i - a.length) (by omega)
    rwa [hm, show k * τ.cells + τ.cells + (i - a.length) = k * τ.cells + i from by omega] at this
  ·simp only [List.flatten_cons, List.length_append] at hi ⊢
   by_cases h : i < a.length
   ·have := ha.v i h; rw [hg i h] at this
    rw [og _ _ _ h]; exact this
   ·have := k5 (i - a.length) (by omega)
    rw [hm, show k * τ.cells + τ.cells + (i - a.length) = k * τ.cells + i from by omega] at this
    rw [od _ _ _ (by omega)]; exact this
  ·have := ha.bk
   simp only [List.map_cons, B.cons, cy]; omega
theorem TG (hro : ∀ b o u, w.cell? ⟨b, o, none⟩ = some u → u.oneCell' = true → E.ro b o u) : ∀ (m : Nat) (t : TypeId) (τ : Ty) (n : Nat) (cs : List Value) (d : DataW H) (ps : List MemPlace),
  ns P m t = some τ → DataW.trod enc P w base (fun _ => true) held n t cs = some (d, ps) → ∃ as, CellsV E B τ cs d as := by
 intro m
 induction m with
 | zero => intro t τ n cs d ps h; cases h
 | succ m ih =>
  intro t τ n cs d ps hty h
  cases n with
  | zero => cases h
  | succ n =>
   simp only [ns] at hty
   split at hty
   ·rename_i hu
    obtain rfl := Option.some.inj hty
    simp only [DataW.trod, hu] at h
    split at h <;> rename_i hy <;> try (injections; done)
    all_goals first
     | (obtain ⟨rfl, rfl⟩ := Prod.mk.inj (Option.some.inj h); exact ⟨_, jF ⟨_, rfl⟩ rfl rfl (.bool _) (B.lit _)⟩)
     | (cases h; done)
   ·rename_i k hu
    obtain rfl := Option.some.inj hty
    simp only [DataW.trod, hu] at h
    split at h <;> rename_i hy <;> (first | (injections; done) | (cases h; done) | cases hy)
    split at h
    ·rename_i hc
     obtain ⟨rfl, rfl⟩ := Prod.mk.inj (Option.some.inj h)
     obtain ⟨rfl, hw⟩ := hc
     simp only [Lit.wf, Bool.and_eq_true, decide_eq_true_eq] at hw
     exact ⟨_, jF ⟨_, rfl, hw.1, hw.2⟩ rfl rfl (.int _ _) (B.lit _)⟩
    ·cases h
   ·rename_i hu
    obtain rfl := Option.some.inj hty
    simp only [DataW.trod, hu] at h
    split at h <;> rename_i hy <;> (first | (injections; done) | (cases h; done) | cases hy)
    split at h
    ·rename_i s hc
     obtain ⟨rfl, rfl⟩ := Prod.mk.inj (Option.some.inj h)
     refine ⟨[.str s.data.toList], jF ⟨_, rfl, by simpa using hc⟩ rfl rfl ?_ (by rw [B.str]; simp [AV.bk])⟩
     have : V E (.string ⟨s.data.toList.toArray⟩) (.str s.data.toList) := .str _
     simpa using this
    ·cases h
   ·rename_i e hu
    split at hty
    ·rename_i τ' hτ'
     split at hty
     ·rename_i hc
      obtain rfl := Option.some.inj hty
      simp only [DataW.trod, hu] at h
      split at h <;> rename_i hy <;> (first | (injections; done) | (cases h; done) | cases hy)
      ·obtain ⟨rfl, rfl⟩ := Prod.mk.inj (Option.some.inj h)
       refine ⟨[.sl τ'.cells []], jF ⟨[], rfl, by simp, by simp⟩ rfl rfl ?_ (by rw [B.nil]; simp [AV.bk, cy])⟩
       exact .sl _ [] _ 0 0 rfl (by simp) (Nat.le_refl _) (fun _ _ => undef) (fun q => absurd rfl q) (by simp)
      ·rename_i a len cap
       split at h
       ·rename_i hb
        simp only [if_true, Option.bind_eq_some_iff] at h
        obtain ⟨elems, h1, h2⟩ := h
        obtain ⟨rest, h3, h4⟩ := map_some h2
        obtain ⟨rfl, rfl⟩ := Prod.mk.inj h4
        obtain ⟨ess, u, k1, k2, k3, k4, k5, k6, k7⟩ := TL (E := E) (B := B) (P := P) (w := w) (base := base) hro hc.2 hc.1 (fun cs d ps hr => ih e τ' n cs d ps hτ' hr) h1
        refine ⟨[.sl τ'.cells ess], jF ⟨ess, rfl, k2, by omega⟩ rfl rfl ?_ (by rw [B.slice]; simp only [AV.bk]; omega)⟩
        refine .sl _ ess _ len cap k1.symm k3 hb.2.1 u (fun hne => ⟨a.block, a.off, ?_, k5⟩) k6
        have := k4 hne
        obtain ⟨b, o, s⟩ := a
        obtain rfl : s = none := this
        rfl
       ·cases h
     ·cases hty
    ·cases hty
   ·rename_i fs hu
    split at hty
    ·rename_i l hl
     split at hty
     ·rename_i hc
      obtain rfl := Option.some.inj hty
      simp only [DataW.trod, hu] at h
      split at h
      ·rename_i hcl
       obtain ⟨xs, h1, h2⟩ := map_some h
       obtain ⟨rfl, rfl⟩ := Prod.mk.inj h2
       obtain ⟨as, k1, k2, k3, k4, k5⟩ := wx (P := P) (fun t τ cs d ps q r => ih t τ n cs d ps q r) cs fs.toList 0 l xs hl h1 (by rw [hcl, hc]; simp)
       refine ⟨as, ⟨k1, by rw [k2, hcl, hc], by rw [hcl, ← hc]; rfl, fun i hi => by simpa using k3 i hi, fun i hi => by simpa using k4 i hi, by rw [B.agg]; omega⟩⟩
      ·cases h
     ·cases hty
    ·cases hty
   ·rename_i k e hu
    split at hty
    ·rename_i τ' hτ'
     split at hty
     ·rename_i hc
      obtain rfl := Option.some.inj hty
      simp only [DataW.trod, hu] at h
      split at h
      ·rename_i hcl
       obtain ⟨xs, h1, h2⟩ := map_some h
       obtain ⟨rfl, rfl⟩ := Prod.mk.inj h2
       rw [List.range_eq_range'] at h1
       obtain ⟨l, k1, k2, k3, k4, k5, k6⟩ := IU hc.1 (fun cs d ps r => ih e τ' n cs d ps hτ' r) cs k 0 xs h1 (by rw [hcl, ← hc.2]; simp)
       refine ⟨l.flatten, ⟨⟨l, k1, rfl, k2⟩, by rw [k3, hcl, hc.2], by rw [hcl, ← hc.2]; rfl, fun i hi => by simpa using k4 i hi, fun i hi => by simpa using k5 i hi, by rw [B.agg, kh]; omega⟩⟩
      ·cases h
     ·cases hty
    ·cases hty
   ·cases hty
def Ka : Ty → List AV → AV
 | .st _, as => .agg as
 | .arr _ _, as => .agg as
 | _, [a] => a
 | _, _ => .any
def n7 : List Ty → List (List AV) → Prop
 | [], [] => True
 | τ :: r, a :: s => τ.T a ∧ n7 r s
 | _, _ => False
def ld : List Ty → List (List AV) → List AV
 | τ :: r, a :: s => Ka τ a :: ld r s
 | _, _ => []
def qz (P : Program) (m : Nat) : List TypeId → Option (List Ty)
 | [] => some []
 | t :: r => match ns P m t, qz P m r with
  | some τ, some l => some (τ :: l)
  | _, _ => none
end
end Go.AM
namespace Go.AM
open Go.RowKit
def Ty.isAgg : Ty → Bool
 | .st _ => true
 | .arr _ _ => true
 | _ => false
def Jn (P : Program) (t : TypeId) : Bool := P.readableRec t && decide (t < P.types.size)
section
variable {H : Type} {enc : TypeId × Value → H} {P : Program} {w : World} {E : Env} {B : Bulk} {N : Nums} {G : Nat → Fun}
theorem P9 {m : Nat} {t : TypeId} {τ : Ty} (h : ns P m t = some τ) : (τ.isAgg = true ∧ ((∃ fs, P.underlying t = some (.struct fs)) ∨ ∃ n e, P.underlying t = some (.array n e))) ∨
  (τ.isAgg = false ∧ (∀ a, Ka τ [a] = a) ∧ (P.underlying t = some .bool ∨ (∃ k, P.underlying t = some (.int k)) ∨ P.underlying t = some .string ∨ ∃ e, P.underlying t = some (.slice e))) := by
 cases m with
 | zero => cases h
 | succ m =>
  simp only [ns] at h
  split at h
  ·obtain rfl := Option.some.inj h
   rename_i hu; exact .inr ⟨rfl, fun a => rfl, .inl hu⟩
  ·obtain rfl := Option.some.inj h
   rename_i hu; exact .inr ⟨rfl, fun a => rfl, .inr (.inl ⟨_, hu⟩)⟩
  ·obtain rfl := Option.some.inj h
   rename_i hu; exact .inr ⟨rfl, fun a => rfl, .inr (.inr (.inl hu))⟩
  ·rename_i hu
   split at h
   ·split at h
    ·obtain rfl := Option.some.inj h
     exact .inr ⟨rfl, fun a => rfl, .inr (.inr (.inr ⟨_, hu⟩))⟩
    ·cases h
   ·cases h
  ·rename_i hu
   split at h
   ·split at h
    ·obtain rfl := Option.some.inj h
     exact .inl ⟨rfl, .inl ⟨_, hu⟩⟩
    ·cases h
   ·cases h
  ·rename_i hu
   split at h
   ·split at h
    ·obtain rfl := Option.some.inj h
     exact .inl ⟨rfl, .inr ⟨_, _, hu⟩⟩
    ·cases h
   ·cases h
  ·cases h
theorem alr (hro : ∀ b o u, w.cell? ⟨b, o, none⟩ = some u → u.oneCell' = true → E.ro b o u) {m : Nat} {t : TypeId} {τ : Ty} (hτ : ns P m t = some τ) {base : Nat} {v : Value} {d : DataW H} {ps : List MemPlace}
  (hok : Value.okWide P w .any base t v) (h : DataW.Trod enc P w 0 (fun _ => true) true t v d ps) : ∃ as, τ.T as ∧ V E v (Ka τ as) ∧ bkL as ≤ B.f d := by
 obtain ⟨n, hn⟩ := h
 obtain ⟨as, hA⟩ := TG (E := E) (B := B) hro m t τ n _ d ps hτ hn
 refine ⟨as, hA.t, ?_, hA.bk⟩
 rcases P9 hτ with ⟨h1, h2⟩ | ⟨h1, h2, h3⟩
 ·have hv : ∃ cs : Array Value, v = .agg cs := by
   rcases h2 with ⟨fs, hu⟩ | ⟨k, e, hu⟩
   ·simp only [Value.okWide, hu] at hok; obtain ⟨cs, rfl, _⟩ := hok; exact ⟨cs, rfl⟩
   ·simp only [Value.okWide, hu] at hok; obtain ⟨cs, rfl, _⟩ := hok; exact ⟨cs, rfl⟩
  obtain ⟨cs, rfl⟩ := hv
  have e : Ka τ as = .agg as := by cases τ <;> simp [Ty.isAgg] at h1 <;> rfl
  rw [e]
  have ecs : ∀ i, ((Value.agg cs).cells.toList).getD i undef = cs.getD i undef := fun i => by
   simp [Value.cells, List.getD_eq_getElem?_getD, Array.getD_eq_getD_getElem?]
  refine .agg cs as (by have := hA.len; simpa [Value.cells] using this.symm) (fun i hi => ?_) fun i hi => ?_
  ·rw [← ecs]; exact hA.one i hi
  ·rw [← ecs]; exact hA.v i hi
 ·have hv : v.cells.toList = [v] := by
   rcases h3 with hu | ⟨k, hu⟩ | hu | ⟨e, hu⟩ <;> simp only [Value.okWide, hu, Cell.okWide] at hok <;> cases v <;> simp_all [Cell.ok, Value.cells]
  have hl := hA.len
  rw [hv] at hl
  obtain ⟨a, rfl⟩ : ∃ a, as = [a] := List.length_eq_one_iff.1 (by simpa using hl)
  rw [h2]
  have := hA.v 0 (by simp)
  rw [hv] at this
  simpa using this
theorem IV (hro : ∀ b o u, w.cell? ⟨b, o, none⟩ = some u → u.oneCell' = true → E.ro b o u) {m : Nat} {base : Nat} : ∀ {ts : List TypeId} {τs : List Ty} {vs : List Value} {ds : List (DataW H)} {ps : List MemPlace}, qz P m ts = some τs →
  (∀ (j : Nat) t v, ts[j]? = some t → vs[j]? = some v → Value.okWide P w .any base t v) → DataW.TrodAll enc P w 0 (fun _ => true) true ts vs ds ps →
  ∃ ass, n7 τs ass ∧ (ld τs ass).length = vs.length ∧ (∀ i, i < vs.length → V E (vs.getD i undef) ((ld τs ass).getD i .any)) ∧ cy ass ≤ B.g ds
 | [], τs, [], [], ps, h1, h2, h3 => by
  obtain rfl : [] = τs := by simpa [qz] using h1
  exact ⟨[], trivial, rfl, by simp, by simp [cy]⟩
 | t :: ts, τs, v :: vs, d :: ds, ps, h1, h2, h3 => by
  simp only [qz] at h1
  split at h1
  ·rename_i τ l q1 q2
   obtain rfl := Option.some.inj h1
   obtain ⟨p, q, z1, z2, z3⟩ := h3
   obtain ⟨as, k1, k2, k3⟩ := alr (E := E) (B := B) hro q1 (h2 0 t v rfl rfl) z1
   obtain ⟨ass, y1, y2, y3, y4⟩ := IV hro q2 (fun j t v a b => h2 (j + 1) t v (by simpa using a) (by simpa using b)) z2
   refine ⟨as :: ass, ⟨k1, y1⟩, by simp [ld, y2], fun i hi => ?_, by simp only [cy, B.cons]; omega⟩
   cases i with
   | zero => simpa [ld] using k2
   | succ i => simpa [ld] using y3 i (by simpa using hi)
  ·cases h1
 | [], _, _ :: _, _, _, _, _, h3 => h3.elim
 | [], _, [], _ :: _, _, _, _, h3 => h3.elim
 | _ :: _, _, [], _, _, _, _, h3 => h3.elim
 | _ :: _, _, _ :: _, [], _, _, _, h3 => h3.elim
theorem qY {base : Nat} {spare : Nat → Bool} {held : Bool} : ∀ {ts : List TypeId} {vs : List Value} {ds : List (DataW H)} {ps : List MemPlace}, DataW.TrodAll enc P w base spare held ts vs ds ps → ds.length = ts.length
 | [], [], [], _, _ => rfl
 | _ :: _, _ :: _, _ :: _, _, h => by
  obtain ⟨p, q, h1, h2, h3⟩ := h
  simp [qY h2]
 | [], _ :: _, _, _, h => h.elim
 | [], [], _ :: _, _, h => h.elim
 | _ :: _, [], _, _, h => h.elim
 | _ :: _, _ :: _, [], _, h => h.elim
def GlW (N : Nums) (W : World) : Prop := ∀ g cs, N.gl g = some cs → ∃ u : Nat → Value, ∀ j, j < cs.length → W.cell? ⟨g, j, none⟩ = some (u j) ∧ (u j).oneCell' = true ∧ ∀ E, V E (u j) (cs.getD j .any)
def GoW (N : Nums) (W : World) : Prop := ∀ g o, N.go g = some o → W.heap[g]? = some o
theorem Qe {N : Nums} (h : N.go = fun _ => none) (W : World) : GoW N W := fun g o hg => by rw [h] at hg; cases hg
theorem aam {N : Nums} {C : Ctx} {W : World} (hgo : GoW N W) (hw : C.W0 = W) (hX : ∀ b, ¬ C.X b) (hS : ∀ b, ¬ C.S0 b) : GoC N C := fun g o hg => by
 have h1 := hgo g o hg
 rw [← hw] at h1
 refine ⟨?_, hX g, hS g, h1⟩
 rcases Nat.lt_or_ge g C.W0.heap.size with q | q
 ·exact q
 ·rw [Array.getElem?_eq_none q] at h1; cases h1
theorem SC {w : World} {a : Addr} {u : Value} (h : w.cell? a = some u) : a.block < w.heap.size := by
 unfold World.cell? at h
 split at h
 ·rename_i hb
  rcases Nat.lt_or_ge a.block w.heap.size with q | q
  ·exact q
  ·rw [Array.getElem?_eq_none q] at hb; cases hb
 ·cases h
theorem aan {N : Nums} {C : Ctx} {W : World} (hgl : GlW N W) (hw : C.W0 = W) (hX : ∀ b, ¬ C.X b) (hS : ∀ b, ¬ C.S0 b) : GlC N C := fun g cs hg _ => by
 obtain ⟨u, hu⟩ := hgl g cs hg
 refine .rp g 0 cs u (fun j hj => ?_) fun j hj => (hu j hj).2.2 _
 obtain ⟨h1, h2, _⟩ := hu j hj
 have := SC h1
 rw [← hw] at h1 this
 exact ⟨this, hX g, hS g, by rw [Nat.zero_add]; exact h1, h2⟩
theorem P6 {W : World} (hgl : GlW N W) (hgo : GoW N W) (hG : GOk P N G) (hm : P.follows .mixedOrders = true) (hl : laidOutB P = true) {f k : Nat} {fn : Func} (hf : N.num f = k) {tb : TypeId} (hb : P.underlying tb = some .bool) (hres : fn.resultTypes = #[tb])
  {m : Nat} {τs : List Ty} (hτ : qz P m fn.params.toList = some τs) (hpar : fn.params.toList.all (Jn P) = true) {s : ChangeSpec} (hvars : s.vars = [])
  (hspec : ∀ (ds : List (DataW H)), ds.length = fn.params.size → (s.fn H ds).results = [.lit (.bool true)] ∧ (s.fn H ds).args = ds ∧ (s.fn H ds).vars = [])
  {base : Nat} {args : Array Value} {ds gs : List (DataW H)} {before : List MemPlace}
  (hval : ∀ (j : Nat) t v, fn.params[j]? = some t → args[j]? = some v → Value.okWide P W .any base t v)
  (hW : DataW.Whole enc P fn.params.toList s.vars false W args.toList ds gs before)
  (hgive : ∀ ass, n7 τs ass → cy ass ≤ B.g (ds ++ gs) → ah G f (ld τs ass) [] ⟨.bool true, []⟩) :
  Calls P k args W fun e W' => ∃ v, e = .returned v ∧ s.post enc P fn false true false false W args v W' := by
 have hW' := hW
 obtain ⟨p, q, hA, hV, rfl, hfz, hnd⟩ := hW
 rw [hvars] at hV
 have hgs : gs = [] ∧ q = [] := by cases gs with
  | nil => exact ⟨rfl, hV⟩
  | cons => exact hV.elim
 obtain ⟨rfl, rfl⟩ := hgs
 subst hf
 let C : Ctx := { num := N.num, tnum := N.tnum, W0 := W, X := fun _ => False, S0 := fun _ => False, π := fun _ => ⟨0, 0, 0, 0, true⟩, n := 0 }
 have hro : ∀ b o u, W.cell? ⟨b, o, none⟩ = some u → u.oneCell' = true → (aU C C.S0 C.π (ga 0) (hpB []) W).ro b o u := fun b o u h1 h2 => ⟨id, h1, h2⟩
 obtain ⟨ass, k1, k2, k3, k4⟩ := IV (E := aU C C.S0 C.π (ga 0) (hpB []) W) (B := B) hro hτ (fun j t v a b => hval j t v (by simpa using a) (by simpa using b)) hA
 have hent : Entry C N args (ld τs ass) [] := by
  refine ⟨⟨rfl, aan hgl rfl (fun _ h => h) (fun _ h => h), aam hgo rfl (fun _ h => h) (fun _ h => h)⟩, rfl, ⟨.refl _ _, fun b h => h.elim, fun b h => h.elim, fun b h => h.elim, fun k g hu => hu.2, fun k g b q => by simp [hpB] at q, fun k k' x x' q => by simp [hpB] at q, fun k b q => by simp [hpB] at q⟩, by rw [k2]; simp, fun i hi => ?_⟩
  have := k3 i (by rw [← k2]; exact hi)
  have e : args.toList.getD i undef = args.getD i undef := by simp [List.getD_eq_getElem?_getD, Array.getD_eq_getD_getElem?]
  rwa [e] at this
 refine (t8 hG hm (hgive ass k1 (by rw [Cq, B.none]; exact k4)) C args hent).mono fun e W' he => ?_
 obtain ⟨v, rfl, S1, β1, hr⟩ := he
 have hv : v = .bool true := by have := hr.val; generalize aU C S1 β1 _ _ W' = E' at this; cases this; rfl
 subst hv
 have hbelow : Below W.heap.size W W' := Kept.below hr.kept
 have hlen := qY hA
 obtain ⟨s1, s2, s3⟩ := hspec ds (by rw [hlen]; simp)
 have hlt := hA.lt
 refine ⟨_, rfl, ds, [], p ++ [], [], p, [], hW', ?_, ?_, ?_, hbelow.frame _, fun h => by cases h⟩
 ·rw [List.append_nil, s1, hres]
  exact ChangeShapes.trodAll_mk1 (shut_bool hb true)
 ·rw [List.append_nil, s2]
  clear hW' hτ hval hent k1 k2 k3 k4 hgive hspec hfz hnd
  generalize fn.params.toList = ts at hA hpar
  generalize args.toList = vs at hA
  have go : ∀ (ts : List TypeId) (vs : List Value) (ds : List (DataW H)) (p : List MemPlace), (∀ t ∈ ts, Jn P t = true) → (∀ x ∈ p, x.block < W.heap.size) → DataW.TrodAll enc P W 0 (fun _ => true) true ts vs ds p →
    DataW.TrodAll enc P W' 0 (fun b => decide (b < W.heap.size)) true ts vs ds p := by
   intro ts
   induction ts with
   | nil => intro vs ds p _ _ h
            match vs, ds, h with
            | [], [], h => exact h
   | cons t ts ih => intro vs ds p ht hp h
                     match vs, ds, h with
                     | v :: vs, d :: ds, h =>
                      obtain ⟨p1, p2, h1, h2, rfl⟩ := h
                      have := ht t (by simp)
                      simp only [Jn, Bool.and_eq_true, decide_eq_true_eq] at this
                      exact ⟨p1, p2, Below.trod hl this.1 this.2 h1 hbelow (fun x hx => hp x (by simp [hx])), ih vs ds p2 (fun t ht' => ht t (by simp [ht'])) (fun x hx => hp x (by simp [hx])) h2, rfl⟩
  exact go ts vs ds p (fun t ht => List.all_eq_true.1 hpar t ht) hlt hA
 ·rw [List.append_nil, s3, hvars]; rfl
end
end Go.AM
namespace Go.AM
def OkF (P : Program) (N : Nums) (f : Nat) : Fun → Prop
 | .code F => ∃ fn, P.funcs[N.num f]? = some fn ∧ aE P N F.raw fn = some F
 | .prim _ p => (∃ fn, P.funcs[N.num f]? = some fn ∧ fn.body.isSome = true ∧ fn.name ≠ "runtime.NumGoroutine") ∧ ∀ args bs t, p args bs = some t → vZ P N f args bs t
 | .none => True
theorem aal {P : Program} {N : Nums} {G : Nat → Fun} (h : ∀ f, OkF P N f (G f)) : GOk P N G := h
theorem aH {P : Program} {N : Nums} {f : Nat} {b : Bool} {x y : Fun} (h1 : b = true → OkF P N f x) (h2 : b = false → OkF P N f y) : OkF P N f (bif b then x else y) := by
 cases b with
 | true => exact h1 rfl
 | false => exact h2 rfl
theorem aA {P : Program} {N : Nums} {f k i : Nat} {F : AFunc} (hi : N.num k = i) (h : (P.funcs[i]?).bind (aE P N F.raw) = some F) : OkF P N f (bif Nat.beq f k then .code F else .none) := by
 subst hi
 refine aH (fun e => ?_) fun _ => trivial
 obtain rfl := Nat.eq_of_beq_eq_true e
 obtain ⟨fn, h1, h2⟩ := Option.bind_eq_some_iff.1 h
 exact ⟨fn, h1, h2⟩
end Go.AM
namespace Go.AM
theorem uC {τ : Ty} {r : List Ty} {ass : List (List AV)} (h : n7 (τ :: r) ass) : ∃ a s, ass = a :: s ∧ τ.T a ∧ n7 r s := by
 cases ass with
 | nil => exact h.elim
 | cons a s => exact ⟨a, s, rfl, h.1, h.2⟩
theorem OH {ass : List (List AV)} (h : n7 [] ass) : ass = [] := by
 cases ass with
 | nil => rfl
 | cons a s => exact h.elim
end Go.AM
namespace Go.AM
end Go.AM
