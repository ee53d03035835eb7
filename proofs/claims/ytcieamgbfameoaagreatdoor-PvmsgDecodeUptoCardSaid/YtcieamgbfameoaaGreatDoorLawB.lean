/- The law PvmsgDecode returns true and leaves its arguments alone, where what it reads is of bulk at most 1048576; the table that the code reads is tied to the program's text. -/
import Derived.Test.YtcieamgbfameoaaGreatDoorCards
import Derived.Test.YtcieamgbfameoaaGreatDoorTie
import Derived.WalkKit
import Derived.ProofKit
import Derived.OpenShut
import Derived.Deep.DeepHandedRow
import Derived.Lib.LaidTab
import Derived.Test.YtcieamgbfameoaaGreatDoorLawA
import Derived.Test.YtcieamgbfameoaaGreatDoorDataG
set_option linter.unusedVariables false
set_option linter.unusedSimpArgs false
namespace Go.Proofs.YtcieamgbfameoaaGreatDoor.pvmsgDecode
open Go.ChangeShapes Go.WideShapes Go.ChangeAt Go.RowKit Go.AM Go.AM.IR
set_option maxRecDepth 100000
theorem tys : qz Tryz.prog 40 Tryz.f4.params.toList = some ([(.sl (.int .u8)), .bool]) := by kernel_rfl
theorem par : Tryz.f4.params.toList.all (Jn Tryz.prog) = true := by kernel_rfl
theorem bool : Tryz.prog.underlying 4 = some .bool := by kernel_rfl
theorem gTab : Tryz.prog.globalNamed "routing/attrs.flags" = some 0 := by kernel_rfl
theorem gTabType : (Tryz.prog.globals[0]?).map (·.type) = some 137 := by kernel_rfl
theorem cU : Tryz.prog.cellsOf 137 = 11 := by kernel_rfl
theorem cellsE : Tryz.prog.cellsOf 5 = 1 := by kernel_rfl
theorem table {W : World} (h : laidMetH Tryz.prog Rows.pvmsgDecodeUptoRow.laid W) : Lib.TabIs Tryz.prog W "routing/attrs.flags" .u8 [224, 64, 64, 64, 128, 64, 64, 192, 192, 128, 128] :=
 Lib.tabIs_of_head (rest := []) gTab gTabType Tryz.underlying137 Tryz.underlying5 cellsE cU h
theorem glw {W : World} (h : laidMetH Tryz.prog Rows.pvmsgDecodeUptoRow.laid W) : GlW tie.N W := by
 intro g cs hg
 have hg' : (bif Nat.beq g 0 then some ([224, 64, 64, 64, 128, 64, 64, 192, 192, 128, 128].map fun n => AV.int .u8 n) else none) = some cs := hg
 cases hb : Nat.beq g 0 with
 | false => rw [hb] at hg'; cases hg'
 | true =>
  obtain rfl := Nat.eq_of_beq_eq_true hb
  obtain rfl : ([224, 64, 64, 64, 128, 64, 64, 192, 192, 128, 128].map fun n => AV.int .u8 n) = cs := Option.some.inj hg'
  refine ⟨fun j => .int .u8 ([224, 64, 64, 64, 128, 64, 64, 192, 192, 128, 128].getD j 0), fun j hj => ?_⟩
  have hj' : j < 11 := by simpa using hj
  have hc := (table h).cell gTab j (by simpa using hj')
  match j, hj' with
  | 0, _ => exact ⟨hc, rfl, fun E => .int _ _⟩
  | 1, _ => exact ⟨hc, rfl, fun E => .int _ _⟩
  | 2, _ => exact ⟨hc, rfl, fun E => .int _ _⟩
  | 3, _ => exact ⟨hc, rfl, fun E => .int _ _⟩
  | 4, _ => exact ⟨hc, rfl, fun E => .int _ _⟩
  | 5, _ => exact ⟨hc, rfl, fun E => .int _ _⟩
  | 6, _ => exact ⟨hc, rfl, fun E => .int _ _⟩
  | 7, _ => exact ⟨hc, rfl, fun E => .int _ _⟩
  | 8, _ => exact ⟨hc, rfl, fun E => .int _ _⟩
  | 9, _ => exact ⟨hc, rfl, fun E => .int _ _⟩
  | 10, _ => exact ⟨hc, rfl, fun E => .int _ _⟩
theorem spec {H : Type} (ds : List (DataW H)) (h : ds.length = Tryz.f4.params.size) : (Rows.pvmsgDecodeSpec.fn H ds).results = [.lit (.bool true)] ∧ (Rows.pvmsgDecodeSpec.fn H ds).args = ds ∧ (Rows.pvmsgDecodeSpec.fn H ds).vars = [] := by
 have h' : ds.length = 2 := h
 match ds, h' with
 | [d0, d1], _ => exact ⟨rfl, rfl, rfl⟩
theorem contract (H : Type) (enc : TypeId × Value → H) (W : World) (base : Nat) (args : Array Value) (ds gs : List (DataW H)) (before : List MemPlace)
  (hval : ∀ (j : Nat) t v, Tryz.f4.params[j]? = some t → args[j]? = some v → Value.okWide Tryz.prog W .any base t v)
  (hW : DataW.Whole enc Tryz.prog Tryz.f4.params.toList Rows.pvmsgDecodeSpec.vars false W args.toList ds gs before) (hL : laidMetH Tryz.prog Rows.pvmsgDecodeUptoRow.laid W) (hk : Rows.uptoSmall H (ds ++ gs) = true) :
  Calls Tryz.prog 4 args W fun e W' => ∃ v, e = .returned v ∧ Rows.pvmsgDecodeSpec.post enc Tryz.prog Tryz.f4 false true false false W args v W' := by
 have hb : Rows.uptoBulkAll (ds ++ gs) ≤ 1048576 := of_decide_eq_true hk
 exact P6 (B := tie.B) (glw hL) (Qe rfl _) tie.gok tie.mixed tie.laid rfl bool rfl tys par rfl spec hval hW fun ass h1 h2 => asg ass h1 (Nat.le_trans h2 hb)
noncomputable def laidWorld (os : Os) : World :=
 { World.holding Tryz.prog os ⟨#[], #[], []⟩ with heap := (World.holding Tryz.prog os ⟨#[], #[], []⟩).heap.modify 0 fun
   | .cells _ t frozen => .cells #[.int .u8 224, .int .u8 64, .int .u8 64, .int .u8 64, .int .u8 128, .int .u8 64, .int .u8 64, .int .u8 192, .int .u8 192, .int .u8 128, .int .u8 128] t frozen
   | o => o }
theorem laid_met (os : Os) : laidMet Tryz.prog Rows.pvmsgDecodeUptoRow.laid ((laidWorld os).forCall (fun _ _ => 0) ⟨#[], #[.slice none 0 0, .bool false], []⟩).memory :=
 laidMet_of_run' 12 (by kernel_rfl) (by kernel_rfl)
theorem reads (os : Os) {H : Type} (enc : TypeId × Value → H) : ∃ kp, DataW.whole enc Tryz.prog ((laidWorld os).forCall (fun _ _ => 0) ⟨#[], #[.slice none 0 0, .bool false], []⟩).memory Tryz.f4.params.toList Rows.pvmsgDecodeSpec.vars false (#[.slice none 0 0, .bool false] : Array Value).toList 12 = some ([.nil, .lit (.bool false)], [], kp) :=
 ⟨[], by kernel_rfl⟩
theorem lifted (os : Os) (started : os.Started) (H : Type) (enc : TypeId × Value → H) (F : Stop.Interp) :
  ReturnsInHanded {} Tryz.checked os 4 .any ((Rows.OpenSpec.upto Rows.pvmsgDecodeSpec).preRow enc Tryz.prog Tryz.f4 Rows.pvmsgDecodeUptoRow.domain false Rows.pvmsgDecodeUptoRow.laid) (((Rows.OpenSpec.upto Rows.pvmsgDecodeSpec).at F).post enc Tryz.prog Tryz.f4 false true false false) := by
 obtain ⟨kp, hx⟩ := reads os enc
 refine returnsInHanded_of_row (C := Tryz.checked) (s := Rows.OpenSpec.upto Rows.pvmsgDecodeSpec) tie.own started (by kernel_rfl) Tryz.func4
  (witness_row_at (enc := enc) (C := Tryz.checked) false (laidWorld os) #[.slice none 0 0, .bool false] rfl (by kernel_rfl) (by kernel_rfl) (by kernel_rfl)
   (OpenSpec.preRow_of_cond 12 hx (by kernel_rfl) (fun k hk => by cases hk; kernel_rfl) (by kernel_rfl) (laid_met os))) ?_
 intro W base args ds gs before hval hW _ hcond _ hL _ _
 exact contract H enc W base args ds gs before hval hW hL (hcond _ rfl)
theorem said : Rows.PvmsgDecodeUptoSaid :=
 OpenClaim.holds_of_cond 4 Tryz.f4 rfl rfl rfl rfl rfl rfl rfl ⟨rfl, rfl, rfl, rfl, rfl⟩ rfl rfl rfl rfl rfl (by kernel_rfl) Tryz.func4 (by kernel_rfl)
  (of_decide_eq_true (by kernel_rfl)) (by unfold Func.isWrapper; first | (rw [if_pos (by decide +kernel)]; kernel_rfl) | (rw [if_neg (by decide +kernel)]; exact ⟨rfl, rfl⟩))
  (fun os started H enc _ F => by rw [OpenClaim.pre_eq_preRow]; exact lifted os started H enc F)
theorem plain (f : FuncId) (fn : Func) (hf : Tryz.pinned.checked.prog.funcNamed "routing/routinglaw37.PvmsgDecode" = some f) (hfn : Tryz.pinned.checked.prog.funcs[f]? = some fn) :
  false = Tryz.pinned.checked.prog.looks [] ∧ ∀ (j : Nat) t, fn.params[j]? = some t → Tryz.pinned.checked.prog.wantsStandIn t = false := by
 obtain rfl : f = 4 := Option.some.inj ((show Tryz.prog.funcNamed "routing/routinglaw37.PvmsgDecode" = some 4 by kernel_rfl).symm.trans hf) |>.symm
 obtain rfl : fn = Tryz.f4 := (Option.some.inj (Tryz.func4.symm.trans hfn)).symm
 refine ⟨by kernel_rfl, fun j t ht => ?_⟩
 have hall : Tryz.f4.params.toList.all (fun t => !Tryz.prog.wantsStandIn t) = true := by kernel_rfl
 have := List.all_eq_true.1 hall t (by simpa using Array.mem_of_getElem? ht)
 exact (by simpa using this : Tryz.prog.wantsStandIn t = false)
theorem proved : Rows.PvmsgDecodeUptoCardSaid :=
 Claim7.holds_tied_plain_at .later [] _ _ _ _ said (fun _ h => by cases h) (by kernel_rfl) (fun _ h => by cases h) pvmsgDecodeUpto_row_tie rfl ⟨rfl, rfl⟩ (by kernel_rfl) rfl plain (by kernel_rfl)
end Go.Proofs.YtcieamgbfameoaaGreatDoor.pvmsgDecode
#print axioms Go.Proofs.YtcieamgbfameoaaGreatDoor.pvmsgDecode.proved
