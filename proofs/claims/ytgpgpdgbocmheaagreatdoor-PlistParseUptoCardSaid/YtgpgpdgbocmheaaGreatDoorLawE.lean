/- The law PlistParse returns true and leaves its arguments alone, where what it reads is of bulk at most 1048576; the listed variables that the code reads are tied to the program's text. -/
import Derived.Test.YtgpgpdgbocmheaaGreatDoorCards
import Derived.Test.YtgpgpdgbocmheaaGreatDoorTie
import Derived.WalkKit
import Derived.ProofKit
import Derived.OpenShut
import Derived.Deep.DeepHandedRow
import Derived.Test.YtgpgpdgbocmheaaGreatDoorLawD
import Derived.Test.YtgpgpdgbocmheaaGreatDoorDataB
set_option linter.unusedVariables false
set_option linter.unusedSimpArgs false
namespace Go.Proofs.YtgpgpdgbocmheaaGreatDoor.plistParse
open Go.ChangeShapes Go.WideShapes Go.ChangeAt Go.RowKit Go.AM Go.AM.IR
set_option maxRecDepth 100000
theorem tys : tysOf Tryz.prog 40 Tryz.f3.params.toList = some ([.str]) := by kernel_rfl
theorem par : Tryz.f3.params.toList.all (parB Tryz.prog) = true := by kernel_rfl
theorem bool : Tryz.prog.underlying 4 = some .bool := by kernel_rfl
theorem spec {H : Type} (ds : List (DataW H)) (h : ds.length = Tryz.f3.params.size) : (Rows.plistParseSpec.fn H ds).results = [.lit (.bool true)] ∧ (Rows.plistParseSpec.fn H ds).args = ds ∧ (Rows.plistParseSpec.fn H ds).vars = [] := by
  have h' : ds.length = 1 := h
  match ds, h' with
  | [d0], _ => exact ⟨rfl, rfl, rfl⟩
theorem contract (H : Type) (enc : TypeId × Value → H) (W : World) (base : Nat) (args : Array Value) (ds gs : List (DataW H)) (before : List MemPlace)
    (hval : ∀ (j : Nat) t v, Tryz.f3.params[j]? = some t → args[j]? = some v → Value.okWide Tryz.prog W .any base t v)
    (hW : DataW.Whole enc Tryz.prog Tryz.f3.params.toList Rows.plistParseSpec.vars false W args.toList ds gs before) (hL : laidMetH Tryz.prog Rows.plistParseUptoRow.laid W) (hsh : W.ShapedOpen Tryz.prog) (hk : Rows.uptoSmall H (ds ++ gs) = true) :
    Calls Tryz.prog 3 args W fun e W' => ∃ v, e = .returned v ∧ Rows.plistParseSpec.post enc Tryz.prog Tryz.f3 false true false false W args v W' := by
  have hb : Rows.uptoBulkAll (ds ++ gs) ≤ 1048576 := of_decide_eq_true hk
  have X := tie.facts hL hsh
  exact law_post (B := tie.B) (N := tie.N (tie.goW W)) (glw_none rfl _) (fun _ _ h => h) (tie.gok _ X) tie.mixed tie.laid rfl bool rfl tys par rfl spec hval hW fun ass h1 h2 => law348_all ass h1 (Nat.le_trans h2 hb)
theorem reads (os : Os) {H : Type} (enc : TypeId × Value → H) : ∃ places, DataW.whole enc Tryz.prog ((tie.laidWorld os).forCall (fun _ _ => 0) ⟨#[], #[.string ⟨#[]⟩], []⟩).memory Tryz.f3.params.toList Rows.plistParseSpec.vars false (#[.string ⟨#[]⟩] : Array Value).toList 12 = some ([.lit (.string [])], [], places) :=
  ⟨[], by kernel_rfl⟩
theorem lifted (os : Os) (started : os.Started) (H : Type) (enc : TypeId × Value → H) (F : Stop.Interp) :
    ReturnsInHanded {} Tryz.checked os 3 .any ((Rows.OpenSpec.upto Rows.plistParseSpec).preRow enc Tryz.prog Tryz.f3 Rows.plistParseUptoRow.domain false Rows.plistParseUptoRow.laid) (((Rows.OpenSpec.upto Rows.plistParseSpec).at F).post enc Tryz.prog Tryz.f3 false true false false) := by
  obtain ⟨places, hx⟩ := reads os enc
  refine returnsInHanded_of_row (C := Tryz.checked) (s := Rows.OpenSpec.upto Rows.plistParseSpec) tie.own started (by kernel_rfl) Tryz.func3
    (witness_row_at (enc := enc) (C := Tryz.checked) false (tie.laidWorld os) #[.string ⟨#[]⟩] rfl (by kernel_rfl) (by kernel_rfl) (by kernel_rfl)
      (OpenSpec.preRow_of_cond 12 hx (by kernel_rfl) (fun k hk => by cases hk; kernel_rfl) (by kernel_rfl) (tie.laid_met os _))) ?_
  intro W base args ds gs before hval hW _ hcond _ hL hsh _
  exact contract H enc W base args ds gs before hval hW hL hsh (hcond _ rfl)
theorem said : Rows.PlistParseUptoSaid :=
  OpenClaim.holds_of_cond 3 Tryz.f3 rfl rfl rfl rfl rfl rfl rfl ⟨rfl, rfl, rfl, rfl, rfl⟩ rfl rfl rfl rfl rfl (by kernel_rfl) Tryz.func3 (by kernel_rfl)
    (of_decide_eq_true (by kernel_rfl)) (by unfold Func.isWrapper; first | (rw [if_pos (by decide +kernel)]; kernel_rfl) | (rw [if_neg (by decide +kernel)]; exact ⟨rfl, rfl⟩))
    (fun os started H enc _ F => by rw [OpenClaim.pre_eq_preRow]; exact lifted os started H enc F)
theorem plain (f : FuncId) (fn : Func) (hf : Tryz.pinned.checked.prog.funcNamed "routing/routinglaw19.PlistParse" = some f) (hfn : Tryz.pinned.checked.prog.funcs[f]? = some fn) :
    true = Tryz.pinned.checked.prog.looks [] ∧ ∀ (j : Nat) t, fn.params[j]? = some t → Tryz.pinned.checked.prog.wantsStandIn t = false := by
  obtain rfl : f = 3 := Option.some.inj ((show Tryz.prog.funcNamed "routing/routinglaw19.PlistParse" = some 3 by kernel_rfl).symm.trans hf) |>.symm
  obtain rfl : fn = Tryz.f3 := (Option.some.inj (Tryz.func3.symm.trans hfn)).symm
  refine ⟨by kernel_rfl, fun j t ht => ?_⟩
  have hall : Tryz.f3.params.toList.all (fun t => !Tryz.prog.wantsStandIn t) = true := by kernel_rfl
  have := List.all_eq_true.1 hall t (by simpa using Array.mem_of_getElem? ht)
  exact (by simpa using this : Tryz.prog.wantsStandIn t = false)
theorem proved : Rows.PlistParseUptoCardSaid :=
  Claim7.holds_tied_plain_at .later [] _ _ _ _ said (fun _ h => by cases h) (by kernel_rfl) (fun _ h => by cases h) plistParseUpto_row_tie rfl ⟨rfl, rfl⟩ (by kernel_rfl) rfl plain (by kernel_rfl)
end Go.Proofs.YtgpgpdgbocmheaaGreatDoor.plistParse
#print axioms Go.Proofs.YtgpgpdgbocmheaaGreatDoor.plistParse.proved
