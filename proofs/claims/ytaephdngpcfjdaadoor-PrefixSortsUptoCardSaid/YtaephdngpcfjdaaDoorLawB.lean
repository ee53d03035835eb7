/- What the contracts of slices.Clone and slices.SortFunc ask at this seat. -/
import Derived.Test.YtaephdngpcfjdaaDoorDataA
import Derived.Test.YtaephdngpcfjdaaDoorContractsA
import Derived.Test.YtaephdngpcfjdaaDoorLawA
import Derived.Laws.StructEq
import Derived.Test.YtaephdngpcfjdaaDoorProg
import Derived.WalkKit
import Derived.Shelf.SlicesE.Kit
set_option linter.unusedVariables false
set_option linter.unusedSimpArgs false
namespace Go.Proofs.YtaephdngpcfjdaaDoor.tie
open Go Go.AM Go.AM.IR Go.Proofs Go.RowKit Go.Sort Go.Shelf Go.Lib
set_option maxRecDepth 100000
def pfxZero : Value := .agg #[.int .u32 0, .int .i64 0]
noncomputable def pfxInfo : TypeInfo := (Tryd.prog.info? 25).getD default
theorem ltOf_P (x y : Int × Int) : ltOf cfP x y = true ↔ ltP (toP x) (toP y) := by unfold ltOf cfP ltP; simp
theorem ltOf_F (x y : Int × Int) : ltOf cfP x y = false ↔ ¬ ltP (toP x) (toP y) := by rw [← ltOf_P]; simp
theorem swoP : SWO (ltOf cfP) where
  irrefl x := by rw [ltOf_F]; exact ltP_irrefl _
  trans x y z h1 h2 := by rw [ltOf_P] at *; exact ltP_trans h1 h2
  ntrans x y z h1 h2 := by
    rw [ltOf_F] at *
    intro h3
    rcases not_ltP h1 with e | e
    · rw [← e] at h3; exact h2 h3
    · exact h2 (ltP_trans e h3)
theorem partP {x y : Int × Int} (h1 : ltOf cfP x y = false) (h2 : ltOf cfP y x = false) : x = y := by
  rw [ltOf_F] at *
  by_cases e : toP x = toP y
  · have := congrArg ofP e; simpa [ofP_toP] using this
  · rcases ltP_tri e with q | q
    · exact absurd q h1
    · exact absurd q h2
theorem eqP : EqlAt Tryd.prog 25 (fun x => .agg (enc2 x).toArray) (fun x y => x.1 == y.1 && x.2 == y.2) := by
  refine ⟨fun x y w => ?_, GuardAt.agg _ (by kernel_rfl)⟩
  have u3 := Tryd.underlying3
  have a3 := Tryd.isAgg3
  have z3 := Tryd.sizeOf3
  have u23 := Tryd.underlying23
  have a23 := Tryd.isAgg23
  have z23 := Tryd.sizeOf23
  have hS : Tryd.prog.underlying 25 = some (.struct (Tryd.prog.fieldsOf 25)) := by kernel_rfl
  have hp : Tryd.prog.stoodInHeld 25 = false := by kernel_rfl
  simp only [enc2]
  rw [run_eql_struct, show (10000 : Nat) = 9999 + 1 from rfl, run_equalIn_agg w 9999 25 _ _ hS hp]
  simp only [Program.fieldsOf, Tryd.underlying25]
  go_simp
  by_cases h1 : x.fst = y.fst <;> by_cases h2 : x.snd = y.snd <;> simp [h1, h2]
set_option maxHeartbeats 2000000 in
/-- prefix.Compare, in whatever world. -/
theorem cmp36 (x y : Int × Int) (W : World) : Calls Tryd.prog 36 #[.agg #[.int .u32 x.1, .int .i64 x.2], .agg #[.int .u32 y.1, .int .i64 y.2]] W fun e w' => e = .returned (.int .i64 (cfP x y)) ∧ ∃ q os', w' = grow (W.drewN q) os' := by
  have heq := eqP.1
  simp only [enc2] at heq
  have hc : cfP x y = if x.1 < y.1 ∨ (x.1 = y.1 ∧ x.2 < y.2) then -1 else if x.1 = y.1 ∧ x.2 = y.2 then 0 else 1 := by
    unfold cfP cmpP toP
    simp
  rw [hc]
  go_enter Tryd.func36, Tryd.ntmps36
  go_wp2
  all_goals (try go_ret)
  all_goals first
    | exact ⟨rfl, 0, _, by rw [alloc_eq_grow, alloc_eq_grow, grow_grow]; rfl⟩
    | (exfalso; simp_all; done)
    | (exfalso; simp_all; omega)
#print axioms cmp36
end Go.Proofs.YtaephdngpcfjdaaDoor.tie
