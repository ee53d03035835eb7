/- The law SessionPair returns true and leaves its arguments alone, for every input. -/
import Derived.Test.YtnjmnofdpmginaaRows
import Derived.WalkKit
import Derived.ProofKit
import Derived.OpenShut
import Derived.JoinedCond
import Derived.Test.YtnjmnofdpmginaaLawA
import Derived.Test.YtnjmnofdpmginaaDataE
set_option linter.unusedVariables false
set_option linter.unusedSimpArgs false
namespace Go.Proofs.Ytnjmnofdpmginaa.sessionPair
open Go.ChangeShapes Go.WideShapes Go.ChangeAt Go.RowKit Go.AM Go.AM.IR
set_option maxRecDepth 100000
theorem tys : tysOf Try.prog 40 Try.f6.params.toList = some ([(.int .i64), (.int .i64), (.int .i64)]) := by kernel_rfl
theorem par : Try.f6.params.toList.all (parB Try.prog) = true := by kernel_rfl
theorem bool : Try.prog.underlying 4 = some .bool := by kernel_rfl
theorem spec {H : Type} (ds : List (DataW H)) (h : ds.length = Try.f6.params.size) : (Rows.sessionPairSpec.fn H ds).results = [.lit (.bool true)] ∧ (Rows.sessionPairSpec.fn H ds).args = ds ∧ (Rows.sessionPairSpec.fn H ds).vars = [] := by
  have h' : ds.length = 3 := h
  match ds, h' with
  | [d0, d1, d2], _ => exact ⟨rfl, rfl, rfl⟩
theorem contract (H : Type) (enc : TypeId × Value → H) (W : World) (base : Nat) (args : Array Value) (ds gs : List (DataW H)) (before : List MemPlace)
    (hval : ∀ (j : Nat) t v, Try.f6.params[j]? = some t → args[j]? = some v → Value.okWide Try.prog W .any base t v)
    (hW : DataW.Whole enc Try.prog Try.f6.params.toList Rows.sessionPairSpec.vars false W args.toList ds gs before) :
    Calls Try.prog 6 args W fun e W' => ∃ v, e = .returned v ∧ Rows.sessionPairSpec.post enc Try.prog Try.f6 false true false false W args v W' := by
  exact law_post (B := tie.B) (glw_none rfl _) tie.gok tie.mixed tie.laid rfl bool rfl tys par rfl spec hval hW fun ass h1 _ => law124_all ass h1
theorem lifted (os : Os) (started : os.Started) (H : Type) (enc : TypeId × Value → H) :
    ReturnsInHanded {} Try.checked os 6 .any (Rows.sessionPairSpec.pre6 enc Try.prog Try.f6 Rows.sessionPairRow.domain false) (Rows.sessionPairSpec.post enc Try.prog Try.f6 false true false false) := by
  refine returnsInHanded_of_change (C := Try.checked) tie.own started (by kernel_rfl) Try.func6
    (ChangeSpec.witness6 (enc := enc) (C := Try.checked) false ⟨#[], #[.int .i64 0, .int .i64 0, .int .i64 0], []⟩ 12 (by kernel_rfl) (by kernel_rfl) (by kernel_rfl) (by kernel_rfl)) ?_
  intro W base args ds gs before hval hW _ _
  exact contract H enc W base args ds gs before hval hW
theorem proved : Rows.SessionPairSaid :=
  OpenClaim.holds_of_wide 6 Try.f6 rfl rfl rfl rfl rfl rfl rfl ⟨rfl, rfl, rfl, rfl, rfl⟩ rfl rfl rfl rfl rfl (by kernel_rfl) Try.func6 (by kernel_rfl)
    (of_decide_eq_true (by kernel_rfl)) (by unfold Func.isWrapper; first | (rw [if_pos (by decide +kernel)]; kernel_rfl) | (rw [if_neg (by decide +kernel)]; exact ⟨rfl, rfl⟩))
    (fun os started H enc _ => lifted os started H enc)
end Go.Proofs.Ytnjmnofdpmginaa.sessionPair
#print axioms Go.Proofs.Ytnjmnofdpmginaa.sessionPair.proved
