/- The law SessionOrder returns true and leaves its arguments alone, where what it reads is of bulk at most 1048576. -/
import Derived.Test.YtnjmnofdpmginaaRows
import Derived.WalkKit
import Derived.ProofKit
import Derived.OpenShut
import Derived.JoinedCond
import Derived.Test.YtnjmnofdpmginaaLawA
import Derived.Test.YtnjmnofdpmginaaDataE
set_option linter.unusedVariables false
set_option linter.unusedSimpArgs false
namespace Go.Proofs.Ytnjmnofdpmginaa.sessionOrder
open Go.ChangeShapes Go.WideShapes Go.ChangeAt Go.RowKit Go.AM Go.AM.IR
set_option maxRecDepth 100000
theorem tys : tysOf Try.prog 40 Try.f7.params.toList = some ([(.st [(.int .i64), (.int .i64), (.int .i64), (.int .i64), (.int .i64), (.int .u32), (.int .i64), .bool, (.int .i64)]), (.st [(.int .i64), (.int .i64), (.int .u32), (.int .u32), (.sl (.st [(.int .i64), (.int .i64), (.int .u32), (.int .u32), .bool, (.int .i64), (.int .i64), .str, .str, .bool, .bool])), (.sl (.st [(.int .u32), (.int .i64)])), (.st [(.sl (.st [.str, (.sl (.st [.bool, (.st [(.int .u32), (.int .i64)]), (.int .i64), (.int .i64)]))])), (.sl (.st [.str, (.sl (.st [.bool, .str]))])), (.sl (.st [.str, (.sl (.st [.bool, (.int .i64), (.int .i64)]))])), (.sl (.st [.str, (.sl (.st [.str, (.sl (.st [(.int .i64), .str, (.int .i64), (.st [(.int .u32), (.int .i64)]), .bool])), (.sl (.st [(.int .i64), (.int .i64), (.int .i64), (.int .u32), (.int .u32)])), (.int .i64)])), (.int .i64)]))]), (.st [(.int .i64), (.int .i64), (.int .i64), (.int .i64)]), (.int .i64)]), (.st [(.int .i64), (.int .i64), (.int .i64), (.st [(.int .i64), (.int .i64), (.int .i64), (.int .i64), (.int .u32), (.sl (.st [(.int .i64), (.sl (.int .u8))])), (.sl (.st [(.int .u32), (.int .i64)])), (.st [(.int .i64), (.sl (.st [(.int .i64), (.sl (.int .i64))])), (.int .u32), .bool, (.int .i64), .bool, (.int .i64), .bool, .bool, (.int .i64), (.int .u32), (.sl (.int .u32)), .bool, (.int .u32), (.sl (.int .u32)), (.sl (.st [(.int .i64), (.sl (.int .u8))]))]), (.sl (.st [(.int .u32), (.int .i64)])), (.int .i64), (.int .i64), (.sl (.int .u8))]), (.int .i64)])]) := by kernel_rfl
theorem par : Try.f7.params.toList.all (parB Try.prog) = true := by kernel_rfl
theorem bool : Try.prog.underlying 4 = some .bool := by kernel_rfl
theorem spec {H : Type} (ds : List (DataW H)) (h : ds.length = Try.f7.params.size) : (Rows.sessionOrderSpec.fn H ds).results = [.lit (.bool true)] ∧ (Rows.sessionOrderSpec.fn H ds).args = ds ∧ (Rows.sessionOrderSpec.fn H ds).vars = [] := by
  have h' : ds.length = 3 := h
  match ds, h' with
  | [d0, d1, d2], _ => exact ⟨rfl, rfl, rfl⟩
theorem contract (H : Type) (enc : TypeId × Value → H) (W : World) (base : Nat) (args : Array Value) (ds gs : List (DataW H)) (before : List MemPlace)
    (hval : ∀ (j : Nat) t v, Try.f7.params[j]? = some t → args[j]? = some v → Value.okWide Try.prog W .any base t v)
    (hW : DataW.Whole enc Try.prog Try.f7.params.toList Rows.sessionOrderSpec.vars false W args.toList ds gs before) (hk : Rows.uptoSmall H (ds ++ gs) = true) :
    Calls Try.prog 7 args W fun e W' => ∃ v, e = .returned v ∧ Rows.sessionOrderSpec.post enc Try.prog Try.f7 false true false false W args v W' := by
  have hb : Rows.uptoBulkAll (ds ++ gs) ≤ 1048576 := of_decide_eq_true hk
  exact law_post (B := tie.B) (glw_none rfl _) tie.gok tie.mixed tie.laid rfl bool rfl tys par rfl spec hval hW fun ass h1 h2 => law125_all ass h1 (Nat.le_trans h2 hb)
theorem lifted (os : Os) (started : os.Started) (H : Type) (enc : TypeId × Value → H) (F : Stop.Interp) :
    ReturnsInHanded {} Try.checked os 7 .any ((Rows.OpenSpec.upto Rows.sessionOrderSpec).pre6 enc Try.prog Try.f7 Rows.sessionOrderUptoRow.domain false) (((Rows.OpenSpec.upto Rows.sessionOrderSpec).at F).post enc Try.prog Try.f7 false true false false) := by
  refine returnsInHanded_of_cond (C := Try.checked) (s := Rows.OpenSpec.upto Rows.sessionOrderSpec) (k := Rows.uptoSmall) rfl tie.own started (by kernel_rfl) Try.func7
    (OpenSpec.witness (enc := enc) (C := Try.checked) (s := Rows.OpenSpec.upto Rows.sessionOrderSpec) (k := Rows.uptoSmall) rfl false ⟨#[], #[.agg #[.int .i64 0, .int .i64 0, .int .i64 0, .int .i64 0, .int .i64 0, .int .u32 0, .int .i64 0, .bool false, .int .i64 0], .agg #[.int .i64 0, .int .i64 0, .int .u32 0, .int .u32 0, .slice none 0 0, .slice none 0 0, .slice none 0 0, .slice none 0 0, .slice none 0 0, .slice none 0 0, .int .i64 0, .int .i64 0, .int .i64 0, .int .i64 0, .int .i64 0], .agg #[.int .i64 0, .int .i64 0, .int .i64 0, .int .i64 0, .int .i64 0, .int .i64 0, .int .i64 0, .int .u32 0, .slice none 0 0, .slice none 0 0, .int .i64 0, .slice none 0 0, .int .u32 0, .bool false, .int .i64 0, .bool false, .int .i64 0, .bool false, .bool false, .int .i64 0, .int .u32 0, .slice none 0 0, .bool false, .int .u32 0, .slice none 0 0, .slice none 0 0, .slice none 0 0, .int .i64 0, .int .i64 0, .slice none 0 0, .int .i64 0]], []⟩ 12 (by kernel_rfl) (by kernel_rfl) (by kernel_rfl)
      (x := ([.agg [.lit (.int .i64 0), .lit (.int .i64 0), .lit (.int .i64 0), .lit (.int .i64 0), .lit (.int .i64 0), .lit (.int .u32 0), .lit (.int .i64 0), .lit (.bool false), .lit (.int .i64 0)], .agg [.lit (.int .i64 0), .lit (.int .i64 0), .lit (.int .u32 0), .lit (.int .u32 0), .nil, .nil, .agg [.nil, .nil, .nil, .nil], .agg [.lit (.int .i64 0), .lit (.int .i64 0), .lit (.int .i64 0), .lit (.int .i64 0)], .lit (.int .i64 0)], .agg [.lit (.int .i64 0), .lit (.int .i64 0), .lit (.int .i64 0), .agg [.lit (.int .i64 0), .lit (.int .i64 0), .lit (.int .i64 0), .lit (.int .i64 0), .lit (.int .u32 0), .nil, .nil, .agg [.lit (.int .i64 0), .nil, .lit (.int .u32 0), .lit (.bool false), .lit (.int .i64 0), .lit (.bool false), .lit (.int .i64 0), .lit (.bool false), .lit (.bool false), .lit (.int .i64 0), .lit (.int .u32 0), .nil, .lit (.bool false), .lit (.int .u32 0), .nil, .nil], .nil, .lit (.int .i64 0), .lit (.int .i64 0), .nil], .lit (.int .i64 0)]], [], [])) (by kernel_rfl) rfl (by kernel_rfl)) ?_
  intro W base args ds gs before hval hW _ hk _
  exact contract H enc W base args ds gs before hval hW hk
theorem proved : Rows.SessionOrderUptoSaid :=
  OpenClaim.holds_of_cond 7 Try.f7 rfl rfl rfl rfl rfl rfl rfl ⟨rfl, rfl, rfl, rfl, rfl⟩ rfl rfl rfl rfl rfl (by kernel_rfl) Try.func7 (by kernel_rfl)
    (of_decide_eq_true (by kernel_rfl)) (by unfold Func.isWrapper; first | (rw [if_pos (by decide +kernel)]; kernel_rfl) | (rw [if_neg (by decide +kernel)]; exact ⟨rfl, rfl⟩))
    (fun os started H enc _ F => lifted os started H enc F)
end Go.Proofs.Ytnjmnofdpmginaa.sessionOrder
#print axioms Go.Proofs.Ytnjmnofdpmginaa.sessionOrder.proved
