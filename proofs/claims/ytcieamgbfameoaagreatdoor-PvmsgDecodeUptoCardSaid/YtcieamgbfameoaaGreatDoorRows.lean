/-
  NARROWER THAN 'FOR EVERY INPUT', by the rows' own cells (each row's printed sentence says how): PvmsgEncode: laid · PvmsgDecode: laid · PvmsgSplit: laid.
  DERIVED. THE GIVEN ROWS OF THIS SEAT. 3 by the template 'for every input the law returns true; each argument reads behind the call as it read before'; 0 by the template 'total and deterministic' (their statements: YtcieamgbfameoaaGreatDoorTotals.lean).
  GIVEN WITH THE SEED: the statements are not yours to turn. If you find one false, say at which input.
  Laid BY PROGRAM, IN A SANDBOX (cutbox-rows.mjs): the forced cells as the released guide's own fill.sh prints them over the translation 2891686a35f4423e… (all of the seat's roots in one cut). By AI agents, Wed Nov 11 2026. No macro, syntax, notation, axiom, sorry.
-/
import Derived.Test.YtcieamgbfameoaaGreatDoorChecked
import GoSem.Claim
import GoSem.ClaimJoined
import GoSem.ClaimMapViews
import Derived.JoinedTies
import Derived.KernelRfl
namespace Go.Proofs.YtcieamgbfameoaaGreatDoor
/- THE CELL 'sum', in the pinned program and in every row, IS THE sha256 OF THE DUMP (.gsa) THAT YtcieamgbfameoaaGreatDoorProg.lean LOADS. Nothing in Lean hashes anything: it is a label: what it is worth is what the hold of that sum in a sandbox is worth. -/
noncomputable def Tryz.pinned : Pinned := { name := "ytcieamgbfameoaagreatdoor", sum := "2891686a35f4423e06d9618ec7a6c3c2ccb6ef63ac21d635f8b766c8c9fcf405", checked := Tryz.checked }
namespace Rows
def none {H : Type} : Left H := { results := [], args := [] }

/- WHAT THE LISTED PACKAGE-LEVEL VARIABLES READ AS WHEN THE CALL BEGINS. Each datum BY PROGRAM (the guide's laid-datum.mjs) off the statement by which the dump's own 'gosem.cut.vars' lays the variable. In a bare row this is a premise. The card (YtcieamgbfameoaaGreatDoorCards.lean) ties it to the program's text. -/
def laid_routing_attrs_flags {H : Type} : DataW H := .agg [.lit (.int .u8 224), .lit (.int .u8 64), .lit (.int .u8 64), .lit (.int .u8 64), .lit (.int .u8 128), .lit (.int .u8 64), .lit (.int .u8 64), .lit (.int .u8 192), .lit (.int .u8 192), .lit (.int .u8 128), .lit (.int .u8 128)]

/-- 'routinglaw37.PvmsgEncode': WHATEVER THE INPUT: true; the input reads as it did. -/
def pvmsgEncodeSpec : ChangeSpec := { name := "pvmsgEncode", fn := fun _ => fun
  | [d1, d2] => { results := [.lit (.bool true)], args := [d1, d2] }
  | _ => none }
def pvmsgEncodeRow : OpenClaim := { program := "ytcieamgbfameoaagreatdoor", sum := "2891686a35f4423e06d9618ec7a6c3c2ccb6ef63ac21d635f8b766c8c9fcf405", func := "routing/routinglaw37.PvmsgEncode", spec := "pvmsgEncode", recurses := true, named := ["routing/attrs.flags"], apart := false, laid := [("routing/attrs.flags", laid_routing_attrs_flags)] }
def PvmsgEncodeSaid : Prop := pvmsgEncodeRow.holds Tryz.pinned (OpenSpec.ofChange pvmsgEncodeSpec)

/-- ITS FALSE NEIGHBOUR: 'it returns false'. Refute it at one input. -/
def pvmsgEncodeWrong : ChangeSpec := { name := "pvmsgEncode", fn := fun _ => fun
  | [d1, d2] => { results := [.lit (.bool false)], args := [d1, d2] }
  | _ => none }
def PvmsgEncodeWrongFalsely : Prop := pvmsgEncodeRow.holds Tryz.pinned (OpenSpec.ofChange pvmsgEncodeWrong)

/-- 'routinglaw37.PvmsgDecode': WHATEVER THE INPUT: true; the input reads as it did. -/
def pvmsgDecodeSpec : ChangeSpec := { name := "pvmsgDecode", fn := fun _ => fun
  | [d1, d2] => { results := [.lit (.bool true)], args := [d1, d2] }
  | _ => none }
def pvmsgDecodeRow : OpenClaim := { program := "ytcieamgbfameoaagreatdoor", sum := "2891686a35f4423e06d9618ec7a6c3c2ccb6ef63ac21d635f8b766c8c9fcf405", func := "routing/routinglaw37.PvmsgDecode", spec := "pvmsgDecode", recurses := true, named := ["routing/attrs.flags"], apart := false, laid := [("routing/attrs.flags", laid_routing_attrs_flags)] }
def PvmsgDecodeSaid : Prop := pvmsgDecodeRow.holds Tryz.pinned (OpenSpec.ofChange pvmsgDecodeSpec)

/-- ITS FALSE NEIGHBOUR: 'it returns false'. Refute it at one input. -/
def pvmsgDecodeWrong : ChangeSpec := { name := "pvmsgDecode", fn := fun _ => fun
  | [d1, d2] => { results := [.lit (.bool false)], args := [d1, d2] }
  | _ => none }
def PvmsgDecodeWrongFalsely : Prop := pvmsgDecodeRow.holds Tryz.pinned (OpenSpec.ofChange pvmsgDecodeWrong)

/-- 'routinglaw37.PvmsgSplit': WHATEVER THE INPUT: true; the input reads as it did. -/
def pvmsgSplitSpec : ChangeSpec := { name := "pvmsgSplit", fn := fun _ => fun
  | [d1, d2] => { results := [.lit (.bool true)], args := [d1, d2] }
  | _ => none }
def pvmsgSplitRow : OpenClaim := { program := "ytcieamgbfameoaagreatdoor", sum := "2891686a35f4423e06d9618ec7a6c3c2ccb6ef63ac21d635f8b766c8c9fcf405", func := "routing/routinglaw37.PvmsgSplit", spec := "pvmsgSplit", recurses := true, named := ["routing/attrs.flags"], apart := false, laid := [("routing/attrs.flags", laid_routing_attrs_flags)] }
def PvmsgSplitSaid : Prop := pvmsgSplitRow.holds Tryz.pinned (OpenSpec.ofChange pvmsgSplitSpec)

/-- ITS FALSE NEIGHBOUR: 'it returns false'. Refute it at one input. -/
def pvmsgSplitWrong : ChangeSpec := { name := "pvmsgSplit", fn := fun _ => fun
  | [d1, d2] => { results := [.lit (.bool false)], args := [d1, d2] }
  | _ => none }
def PvmsgSplitWrongFalsely : Prop := pvmsgSplitRow.holds Tryz.pinned (OpenSpec.ofChange pvmsgSplitWrong)

/- THE SECOND FORM. 'bulk': how many values and letters a reading holds, each counted each time it is reached (what is shared counts as often as it is met; a slice's spare places count too). A statement '..UptoSaid' is the law's where the arguments, and the package variables that the reading takes, are together of bulk at most 1048576: NARROWER than '..Said'. Prove '..Said' where nothing that the law and all that it calls make is longer than what came in: it says more and counts as full. Else prove '..UptoSaid'. A law counts once. -/
mutual
def uptoBulk {H : Type} : DataW H → Nat
  | .lit (.string bytes) => bytes.length + 1
  | .lit _ => 1
  | .nil => 1
  | .ptr d => uptoBulk d + 1
  | .slice elems spare => uptoBulkAll elems + uptoBulkAll spare + 1
  | .agg parts => uptoBulkAll parts + 1
  | .iface _ d => uptoBulk d + 1
  | .map entries => uptoBulkEntries entries + 1
  | .held _ => 1
def uptoBulkAll {H : Type} : List (DataW H) → Nat
  | [] => 0
  | d :: r => uptoBulk d + uptoBulkAll r
def uptoBulkEntries {H : Type} : List (Lit × DataW H) → Nat
  | [] => 0
  | x :: r => uptoBulkEntry x + uptoBulkEntries r
def uptoBulkEntry {H : Type} : Lit × DataW H → Nat
  | (.string bytes, d) => bytes.length + uptoBulk d + 1
  | (_, d) => uptoBulk d + 1
 end
def uptoSmall : (H : Type) → List (DataW H) → Bool := fun _ ds => decide (uptoBulkAll ds ≤ 1048576)
def OpenSpec.upto (s : _root_.Go.ChangeSpec) : _root_.Go.OpenSpec := { _root_.Go.OpenSpec.ofChange s with cond := some uptoSmall }

/-- 'routinglaw37.PvmsgEncode', WHERE WHAT IT READS IS OF BULK AT MOST 1048576: true; the input reads as it did. -/
def pvmsgEncodeUptoRow : OpenClaim := { program := "ytcieamgbfameoaagreatdoor", sum := "2891686a35f4423e06d9618ec7a6c3c2ccb6ef63ac21d635f8b766c8c9fcf405", func := "routing/routinglaw37.PvmsgEncode", spec := "pvmsgEncode", recurses := true, named := ["routing/attrs.flags"], apart := false, laid := [("routing/attrs.flags", laid_routing_attrs_flags)], narrowed := true }
def PvmsgEncodeUptoSaid : Prop := pvmsgEncodeUptoRow.holds Tryz.pinned (OpenSpec.upto pvmsgEncodeSpec)

/-- 'routinglaw37.PvmsgDecode', WHERE WHAT IT READS IS OF BULK AT MOST 1048576: true; the input reads as it did. -/
def pvmsgDecodeUptoRow : OpenClaim := { program := "ytcieamgbfameoaagreatdoor", sum := "2891686a35f4423e06d9618ec7a6c3c2ccb6ef63ac21d635f8b766c8c9fcf405", func := "routing/routinglaw37.PvmsgDecode", spec := "pvmsgDecode", recurses := true, named := ["routing/attrs.flags"], apart := false, laid := [("routing/attrs.flags", laid_routing_attrs_flags)], narrowed := true }
def PvmsgDecodeUptoSaid : Prop := pvmsgDecodeUptoRow.holds Tryz.pinned (OpenSpec.upto pvmsgDecodeSpec)

/-- 'routinglaw37.PvmsgSplit', WHERE WHAT IT READS IS OF BULK AT MOST 1048576: true; the input reads as it did. -/
def pvmsgSplitUptoRow : OpenClaim := { program := "ytcieamgbfameoaagreatdoor", sum := "2891686a35f4423e06d9618ec7a6c3c2ccb6ef63ac21d635f8b766c8c9fcf405", func := "routing/routinglaw37.PvmsgSplit", spec := "pvmsgSplit", recurses := true, named := ["routing/attrs.flags"], apart := false, laid := [("routing/attrs.flags", laid_routing_attrs_flags)], narrowed := true }
def PvmsgSplitUptoSaid : Prop := pvmsgSplitUptoRow.holds Tryz.pinned (OpenSpec.upto pvmsgSplitSpec)

end Rows
end Go.Proofs.YtcieamgbfameoaaGreatDoor
