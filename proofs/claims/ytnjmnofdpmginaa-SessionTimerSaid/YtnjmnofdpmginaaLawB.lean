/- The law SessionTimer returns true and leaves its arguments alone, for every input. -/
import Derived.Test.YtnjmnofdpmginaaRows
import Derived.WalkKit
import Derived.ProofKit
import Derived.OpenShut
import Derived.JoinedCond
import Derived.Test.YtnjmnofdpmginaaLawA
import Derived.Test.YtnjmnofdpmginaaDataC
set_option linter.unusedVariables false
set_option linter.unusedSimpArgs false
namespace Go.Proofs.Ytnjmnofdpmginaa.sessionTimer
open Go.ChangeShapes Go.WideShapes Go.ChangeAt Go.RowKit Go.AM Go.AM.IR
set_option maxRecDepth 100000
theorem tys : tysOf Try.prog 40 Try.f5.params.toList = some ([(.st [(.int .i64), (.int .i64), (.int .i64), (.int .i64), (.int .i64), (.int .u32), (.int .i64), .bool, (.int .i64)]), (.st [(.int .i64), (.int .i64), (.int .u32), (.int .u32), (.sl (.st [(.int .i64), (.int .i64), (.int .u32), (.int .u32), .bool, (.int .i64), (.int .i64), .str, .str, .bool, .bool])), (.sl (.st [(.int .u32), (.int .i64)])), (.st [(.sl (.st [.str, (.sl (.st [.bool, (.st [(.int .u32), (.int .i64)]), (.int .i64), (.int .i64)]))])), (.sl (.st [.str, (.sl (.st [.bool, .str]))])), (.sl (.st [.str, (.sl (.st [.bool, (.int .i64), (.int .i64)]))])), (.sl (.st [.str, (.sl (.st [.str, (.sl (.st [(.int .i64), .str, (.int .i64), (.st [(.int .u32), (.int .i64)]), .bool])), (.sl (.st [(.int .i64), (.int .i64), (.int .i64), (.int .u32), (.int .u32)])), (.int .i64)])), (.int .i64)]))]), (.st [(.int .i64), (.int .i64), (.int .i64), (.int .i64)]), (.int .i64)]), (.int .i64)]) := by kernel_rfl
theorem par : Try.f5.params.toList.all (parB Try.prog) = true := by kernel_rfl
theorem bool : Try.prog.underlying 4 = some .bool := by kernel_rfl
theorem spec {H : Type} (ds : List (DataW H)) (h : ds.length = Try.f5.params.size) : (Rows.sessionTimerSpec.fn H ds).results = [.lit (.bool true)] ∧ (Rows.sessionTimerSpec.fn H ds).args = ds ∧ (Rows.sessionTimerSpec.fn H ds).vars = [] := by
  have h' : ds.length = 3 := h
  match ds, h' with
  | [d0, d1, d2], _ => exact ⟨rfl, rfl, rfl⟩
theorem contract (H : Type) (enc : TypeId × Value → H) (W : World) (base : Nat) (args : Array Value) (ds gs : List (DataW H)) (before : List MemPlace)
    (hval : ∀ (j : Nat) t v, Try.f5.params[j]? = some t → args[j]? = some v → Value.okWide Try.prog W .any base t v)
    (hW : DataW.Whole enc Try.prog Try.f5.params.toList Rows.sessionTimerSpec.vars false W args.toList ds gs before) :
    Calls Try.prog 5 args W fun e W' => ∃ v, e = .returned v ∧ Rows.sessionTimerSpec.post enc Try.prog Try.f5 false true false false W args v W' := by
  exact law_post (B := tie.B) (glw_none rfl _) tie.gok tie.mixed tie.laid rfl bool rfl tys par rfl spec hval hW fun ass h1 _ => law123_all ass h1
theorem lifted (os : Os) (started : os.Started) (H : Type) (enc : TypeId × Value → H) :
    ReturnsInHanded {} Try.checked os 5 .any (Rows.sessionTimerSpec.pre6 enc Try.prog Try.f5 Rows.sessionTimerRow.domain false) (Rows.sessionTimerSpec.post enc Try.prog Try.f5 false true false false) := by
  refine returnsInHanded_of_change (C := Try.checked) tie.own started (by kernel_rfl) Try.func5
    (ChangeSpec.witness6 (enc := enc) (C := Try.checked) false ⟨#[], #[.agg #[.int .i64 0, .int .i64 0, .int .i64 0, .int .i64 0, .int .i64 0, .int .u32 0, .int .i64 0, .bool false, .int .i64 0], .agg #[.int .i64 0, .int .i64 0, .int .u32 0, .int .u32 0, .slice none 0 0, .slice none 0 0, .slice none 0 0, .slice none 0 0, .slice none 0 0, .slice none 0 0, .int .i64 0, .int .i64 0, .int .i64 0, .int .i64 0, .int .i64 0], .int .i64 0], []⟩ 12 (by kernel_rfl) (by kernel_rfl) (by kernel_rfl) (by kernel_rfl)) ?_
  intro W base args ds gs before hval hW _ _
  exact contract H enc W base args ds gs before hval hW
theorem proved : Rows.SessionTimerSaid :=
  OpenClaim.holds_of_wide 5 Try.f5 rfl rfl rfl rfl rfl rfl rfl ⟨rfl, rfl, rfl, rfl, rfl⟩ rfl rfl rfl rfl rfl (by kernel_rfl) Try.func5 (by kernel_rfl)
    (of_decide_eq_true (by kernel_rfl)) (by unfold Func.isWrapper; first | (rw [if_pos (by decide +kernel)]; kernel_rfl) | (rw [if_neg (by decide +kernel)]; exact ⟨rfl, rfl⟩))
    (fun os started H enc _ => lifted os started H enc)
end Go.Proofs.Ytnjmnofdpmginaa.sessionTimer
#print axioms Go.Proofs.Ytnjmnofdpmginaa.sessionTimer.proved
