/- The law PlistBack returns true and leaves its arguments alone, where what it reads is of bulk at most 1048576; the listed variables that the code reads are tied to the program's text. -/
import Derived.Test.YtgpgpdgbocmheaaDoorCards
import Derived.Test.YtgpgpdgbocmheaaDoorTie
import Derived.WalkKit
import Derived.ProofKit
import Derived.OpenShut
import Derived.Deep.DeepHandedRow
import Derived.Test.YtgpgpdgbocmheaaDoorLawD
import Derived.Test.YtgpgpdgbocmheaaDoorDataB
set_option linter.unusedVariables false
set_option linter.unusedSimpArgs false
namespace Go.Proofs.YtgpgpdgbocmheaaDoor.plistBack
open Go.ChangeShapes Go.WideShapes Go.ChangeAt Go.RowKit Go.AM Go.AM.IR
set_option maxRecDepth 100000
theorem tys : tysOf Tryd.prog 40 Tryd.f5.params.toList = some ([(.st [.bool, (.st [(.int .u32), (.int .i64)]), (.int .i64), (.int .i64)])]) := by kernel_rfl
theorem par : Tryd.f5.params.toList.all (parB Tryd.prog) = true := by kernel_rfl
theorem bool : Tryd.prog.underlying 4 = some .bool := by kernel_rfl
theorem spec {H : Type} (ds : List (DataW H)) (h : ds.length = Tryd.f5.params.size) : (Rows.plistBackSpec.fn H ds).results = [.lit (.bool true)] ∧ (Rows.plistBackSpec.fn H ds).args = ds ∧ (Rows.plistBackSpec.fn H ds).vars = [] := by
  have h' : ds.length = 1 := h
  match ds, h' with
  | [d0], _ => exact ⟨rfl, rfl, rfl⟩
theorem contract (H : Type) (enc : TypeId × Value → H) (W : World) (base : Nat) (args : Array Value) (ds gs : List (DataW H)) (before : List MemPlace)
    (hval : ∀ (j : Nat) t v, Tryd.f5.params[j]? = some t → args[j]? = some v → Value.okWide Tryd.prog W .any base t v)
    (hW : DataW.Whole enc Tryd.prog Tryd.f5.params.toList Rows.plistBackSpec.vars false W args.toList ds gs before) (hL : laidMetH Tryd.prog Rows.plistBackUptoRow.laid W) (hsh : W.ShapedOpen Tryd.prog) (hk : Rows.uptoSmall H (ds ++ gs) = true) :
    Calls Tryd.prog 5 args W fun e W' => ∃ v, e = .returned v ∧ Rows.plistBackSpec.post enc Tryd.prog Tryd.f5 false true false false W args v W' := by
  have hb : Rows.uptoBulkAll (ds ++ gs) ≤ 1048576 := of_decide_eq_true hk
  have X := tie.facts hL hsh
  exact law_post (B := tie.B) (N := tie.N (tie.goW W)) (glw_none rfl _) (fun _ _ h => h) (tie.gok _ X) tie.mixed tie.laid rfl bool rfl tys par rfl spec hval hW fun ass h1 h2 => law321_all ass h1 (Nat.le_trans h2 hb)
theorem reads (os : Os) {H : Type} (enc : TypeId × Value → H) : ∃ places, DataW.whole enc Tryd.prog ((tie.laidWorld os).forCall (fun _ _ => 0) ⟨#[], #[.agg #[.bool false, .int .u32 0, .int .i64 0, .int .i64 0, .int .i64 0]], []⟩).memory Tryd.f5.params.toList Rows.plistBackSpec.vars false (#[.agg #[.bool false, .int .u32 0, .int .i64 0, .int .i64 0, .int .i64 0]] : Array Value).toList 12 = some ([.agg [.lit (.bool false), .agg [.lit (.int .u32 0), .lit (.int .i64 0)], .lit (.int .i64 0), .lit (.int .i64 0)]], [], places) :=
  ⟨[], by kernel_rfl⟩
theorem lifted (os : Os) (started : os.Started) (H : Type) (enc : TypeId × Value → H) (F : Stop.Interp) :
    ReturnsInHanded {} Tryd.checked os 5 .any ((Rows.OpenSpec.upto Rows.plistBackSpec).preRow enc Tryd.prog Tryd.f5 Rows.plistBackUptoRow.domain false Rows.plistBackUptoRow.laid) (((Rows.OpenSpec.upto Rows.plistBackSpec).at F).post enc Tryd.prog Tryd.f5 false true false false) := by
  obtain ⟨places, hx⟩ := reads os enc
  refine returnsInHanded_of_row (C := Tryd.checked) (s := Rows.OpenSpec.upto Rows.plistBackSpec) tie.own started (by kernel_rfl) Tryd.func5
    (witness_row_at (enc := enc) (C := Tryd.checked) false (tie.laidWorld os) #[.agg #[.bool false, .int .u32 0, .int .i64 0, .int .i64 0, .int .i64 0]] rfl (by kernel_rfl) (by kernel_rfl) (by kernel_rfl)
      (OpenSpec.preRow_of_cond 12 hx (by kernel_rfl) (fun k hk => by cases hk; kernel_rfl) (by kernel_rfl) (tie.laid_met os _))) ?_
  intro W base args ds gs before hval hW _ hcond _ hL hsh _
  exact contract H enc W base args ds gs before hval hW hL hsh (hcond _ rfl)
theorem said : Rows.PlistBackUptoSaid :=
  OpenClaim.holds_of_cond 5 Tryd.f5 rfl rfl rfl rfl rfl rfl rfl ⟨rfl, rfl, rfl, rfl, rfl⟩ rfl rfl rfl rfl rfl (by kernel_rfl) Tryd.func5 (by kernel_rfl)
    (of_decide_eq_true (by kernel_rfl)) (by unfold Func.isWrapper; first | (rw [if_pos (by decide +kernel)]; kernel_rfl) | (rw [if_neg (by decide +kernel)]; exact ⟨rfl, rfl⟩))
    (fun os started H enc _ F => by rw [OpenClaim.pre_eq_preRow]; exact lifted os started H enc F)
theorem plain (f : FuncId) (fn : Func) (hf : Tryd.pinned.checked.prog.funcNamed "routing/routinglaw19.PlistBack" = some f) (hfn : Tryd.pinned.checked.prog.funcs[f]? = some fn) :
    true = Tryd.pinned.checked.prog.looks [] ∧ ∀ (j : Nat) t, fn.params[j]? = some t → Tryd.pinned.checked.prog.wantsStandIn t = false := by
  obtain rfl : f = 5 := Option.some.inj ((show Tryd.prog.funcNamed "routing/routinglaw19.PlistBack" = some 5 by kernel_rfl).symm.trans hf) |>.symm
  obtain rfl : fn = Tryd.f5 := (Option.some.inj (Tryd.func5.symm.trans hfn)).symm
  refine ⟨by kernel_rfl, fun j t ht => ?_⟩
  have hall : Tryd.f5.params.toList.all (fun t => !Tryd.prog.wantsStandIn t) = true := by kernel_rfl
  have := List.all_eq_true.1 hall t (by simpa using Array.mem_of_getElem? ht)
  exact (by simpa using this : Tryd.prog.wantsStandIn t = false)
theorem proved : Rows.PlistBackUptoCardSaid :=
  Claim7.holds_tied_plain_at .later [] _ _ _ _ said (fun _ h => by cases h) (by kernel_rfl) (fun _ h => by cases h) plistBackUpto_row_tie rfl ⟨rfl, rfl⟩ (by kernel_rfl) rfl plain (by kernel_rfl)
end Go.Proofs.YtgpgpdgbocmheaaDoor.plistBack
#print axioms Go.Proofs.YtgpgpdgbocmheaaDoor.plistBack.proved
