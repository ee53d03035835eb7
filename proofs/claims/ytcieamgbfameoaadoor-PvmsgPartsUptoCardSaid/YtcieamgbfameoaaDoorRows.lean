/-
  NARROWER THAN 'FOR EVERY INPUT', by the rows' own cells (each row's printed sentence says how): PvmsgCheck: laid · PvmsgBack: laid · PvmsgFault: laid · PvmsgParts: laid · PvmsgSame: laid.
  DERIVED. THE GIVEN ROWS OF THIS SEAT. 5 by the template 'for every input the law returns true; each argument reads behind the call as it read before'; 0 by the template 'total and deterministic' (their statements: YtcieamgbfameoaaDoorTotals.lean).
  GIVEN WITH THE SEED: the statements are not yours to turn. If you find one false, say at which input.
  Laid BY PROGRAM, IN A SANDBOX (cutbox-rows.mjs): the forced cells as the released guide's own fill.sh prints them over the translation a7d9a8c92e228fe1… (all of the seat's roots in one cut). By AI agents, Wed Nov 11 2026. No macro, syntax, notation, axiom, sorry.
-/
import Derived.Test.YtcieamgbfameoaaDoorChecked
import GoSem.Claim
import GoSem.ClaimJoined
import GoSem.ClaimMapViews
import Derived.JoinedTies
import Derived.KernelRfl
namespace Go.Proofs.YtcieamgbfameoaaDoor
/- THE CELL 'sum', in the pinned program and in every row, IS THE sha256 OF THE DUMP (.gsa) THAT YtcieamgbfameoaaDoorProg.lean LOADS. Nothing in Lean hashes anything: it is a label: what it is worth is what the hold of that sum in a sandbox is worth. -/
noncomputable def Tryd.pinned : Pinned := { name := "ytcieamgbfameoaadoor", sum := "a7d9a8c92e228fe1ee60c5624d8b5c1cde1da4e64834f158b2816235fa17cc28", checked := Tryd.checked }
namespace Rows
def none {H : Type} : Left H := { results := [], args := [] }

/- WHAT THE LISTED PACKAGE-LEVEL VARIABLES READ AS WHEN THE CALL BEGINS. Each datum BY PROGRAM (the guide's laid-datum.mjs) off the statement by which the dump's own 'gosem.cut.vars' lays the variable. In a bare row this is a premise. The card (YtcieamgbfameoaaDoorCards.lean) ties it to the program's text. -/
def laid_routing_attrs_flags {H : Type} : DataW H := .agg [.lit (.int .u8 224), .lit (.int .u8 64), .lit (.int .u8 64), .lit (.int .u8 64), .lit (.int .u8 128), .lit (.int .u8 64), .lit (.int .u8 64), .lit (.int .u8 192), .lit (.int .u8 192), .lit (.int .u8 128), .lit (.int .u8 128)]

/-- 'routinglaw37.PvmsgCheck': WHATEVER THE INPUT: true; the input reads as it did. -/
def pvmsgCheckSpec : ChangeSpec := { name := "pvmsgCheck", fn := fun _ => fun
  | [d] => { results := [.lit (.bool true)], args := [d] }
  | _ => none }
def pvmsgCheckRow : OpenClaim := { program := "ytcieamgbfameoaadoor", sum := "a7d9a8c92e228fe1ee60c5624d8b5c1cde1da4e64834f158b2816235fa17cc28", func := "routing/routinglaw37.PvmsgCheck", spec := "pvmsgCheck", recurses := true, named := ["routing/attrs.flags"], apart := false, laid := [("routing/attrs.flags", laid_routing_attrs_flags)] }
def PvmsgCheckSaid : Prop := pvmsgCheckRow.holds Tryd.pinned (OpenSpec.ofChange pvmsgCheckSpec)

/-- ITS FALSE NEIGHBOUR: 'it returns false'. Refute it at one input. -/
def pvmsgCheckWrong : ChangeSpec := { name := "pvmsgCheck", fn := fun _ => fun
  | [d] => { results := [.lit (.bool false)], args := [d] }
  | _ => none }
def PvmsgCheckWrongFalsely : Prop := pvmsgCheckRow.holds Tryd.pinned (OpenSpec.ofChange pvmsgCheckWrong)

/-- 'routinglaw37.PvmsgBack': WHATEVER THE INPUT: true; the input reads as it did. -/
def pvmsgBackSpec : ChangeSpec := { name := "pvmsgBack", fn := fun _ => fun
  | [d1, d2, d3] => { results := [.lit (.bool true)], args := [d1, d2, d3] }
  | _ => none }
def pvmsgBackRow : OpenClaim := { program := "ytcieamgbfameoaadoor", sum := "a7d9a8c92e228fe1ee60c5624d8b5c1cde1da4e64834f158b2816235fa17cc28", func := "routing/routinglaw37.PvmsgBack", spec := "pvmsgBack", recurses := true, named := ["routing/attrs.flags"], apart := false, laid := [("routing/attrs.flags", laid_routing_attrs_flags)] }
def PvmsgBackSaid : Prop := pvmsgBackRow.holds Tryd.pinned (OpenSpec.ofChange pvmsgBackSpec)

/-- ITS FALSE NEIGHBOUR: 'it returns false'. Refute it at one input. -/
def pvmsgBackWrong : ChangeSpec := { name := "pvmsgBack", fn := fun _ => fun
  | [d1, d2, d3] => { results := [.lit (.bool false)], args := [d1, d2, d3] }
  | _ => none }
def PvmsgBackWrongFalsely : Prop := pvmsgBackRow.holds Tryd.pinned (OpenSpec.ofChange pvmsgBackWrong)

/-- 'routinglaw37.PvmsgFault': WHATEVER THE INPUT: true; the input reads as it did. -/
def pvmsgFaultSpec : ChangeSpec := { name := "pvmsgFault", fn := fun _ => fun
  | [d1, d2] => { results := [.lit (.bool true)], args := [d1, d2] }
  | _ => none }
def pvmsgFaultRow : OpenClaim := { program := "ytcieamgbfameoaadoor", sum := "a7d9a8c92e228fe1ee60c5624d8b5c1cde1da4e64834f158b2816235fa17cc28", func := "routing/routinglaw37.PvmsgFault", spec := "pvmsgFault", recurses := true, named := ["routing/attrs.flags"], apart := false, laid := [("routing/attrs.flags", laid_routing_attrs_flags)] }
def PvmsgFaultSaid : Prop := pvmsgFaultRow.holds Tryd.pinned (OpenSpec.ofChange pvmsgFaultSpec)

/-- ITS FALSE NEIGHBOUR: 'it returns false'. Refute it at one input. -/
def pvmsgFaultWrong : ChangeSpec := { name := "pvmsgFault", fn := fun _ => fun
  | [d1, d2] => { results := [.lit (.bool false)], args := [d1, d2] }
  | _ => none }
def PvmsgFaultWrongFalsely : Prop := pvmsgFaultRow.holds Tryd.pinned (OpenSpec.ofChange pvmsgFaultWrong)

/-- 'routinglaw37.PvmsgParts': WHATEVER THE INPUT: true; the input reads as it did. -/
def pvmsgPartsSpec : ChangeSpec := { name := "pvmsgParts", fn := fun _ => fun
  | [d1, d2] => { results := [.lit (.bool true)], args := [d1, d2] }
  | _ => none }
def pvmsgPartsRow : OpenClaim := { program := "ytcieamgbfameoaadoor", sum := "a7d9a8c92e228fe1ee60c5624d8b5c1cde1da4e64834f158b2816235fa17cc28", func := "routing/routinglaw37.PvmsgParts", spec := "pvmsgParts", recurses := true, named := ["routing/attrs.flags"], apart := false, laid := [("routing/attrs.flags", laid_routing_attrs_flags)] }
def PvmsgPartsSaid : Prop := pvmsgPartsRow.holds Tryd.pinned (OpenSpec.ofChange pvmsgPartsSpec)

/-- ITS FALSE NEIGHBOUR: 'it returns false'. Refute it at one input. -/
def pvmsgPartsWrong : ChangeSpec := { name := "pvmsgParts", fn := fun _ => fun
  | [d1, d2] => { results := [.lit (.bool false)], args := [d1, d2] }
  | _ => none }
def PvmsgPartsWrongFalsely : Prop := pvmsgPartsRow.holds Tryd.pinned (OpenSpec.ofChange pvmsgPartsWrong)

/-- 'routinglaw37.PvmsgSame': WHATEVER THE INPUT: true; the input reads as it did. -/
def pvmsgSameSpec : ChangeSpec := { name := "pvmsgSame", fn := fun _ => fun
  | [d1, d2] => { results := [.lit (.bool true)], args := [d1, d2] }
  | _ => none }
def pvmsgSameRow : OpenClaim := { program := "ytcieamgbfameoaadoor", sum := "a7d9a8c92e228fe1ee60c5624d8b5c1cde1da4e64834f158b2816235fa17cc28", func := "routing/routinglaw37.PvmsgSame", spec := "pvmsgSame", recurses := true, named := ["routing/attrs.flags"], apart := false, laid := [("routing/attrs.flags", laid_routing_attrs_flags)] }
def PvmsgSameSaid : Prop := pvmsgSameRow.holds Tryd.pinned (OpenSpec.ofChange pvmsgSameSpec)

/-- ITS FALSE NEIGHBOUR: 'it returns false'. Refute it at one input. -/
def pvmsgSameWrong : ChangeSpec := { name := "pvmsgSame", fn := fun _ => fun
  | [d1, d2] => { results := [.lit (.bool false)], args := [d1, d2] }
  | _ => none }
def PvmsgSameWrongFalsely : Prop := pvmsgSameRow.holds Tryd.pinned (OpenSpec.ofChange pvmsgSameWrong)

/- THE SECOND FORM. 'bulk': how many values and letters a reading holds, each counted each time it is reached (what is shared counts as often as it is met; a slice's spare places count too). A statement '..UptoSaid' is the law's where the arguments, and the package variables that the reading takes, are together of bulk at most 1048576: NARROWER than '..Said'. Prove '..Said' where nothing that the law and all that it calls make is longer than what came in: it says more and counts as full. Else prove '..UptoSaid'. A law counts once. -/
mutual
def uptoBulk {H : Type} : DataW H → Nat
  | .lit (.string bytes) => bytes.length + 1
  | .lit _ => 1
  | .nil => 1
  | .ptr d => uptoBulk d + 1
  | .slice elems spare => uptoBulkAll elems + uptoBulkAll spare + 1
  | .agg parts => uptoBulkAll parts + 1
  | .iface _ d => uptoBulk d + 1
  | .map entries => uptoBulkEntries entries + 1
  | .held _ => 1
def uptoBulkAll {H : Type} : List (DataW H) → Nat
  | [] => 0
  | d :: r => uptoBulk d + uptoBulkAll r
def uptoBulkEntries {H : Type} : List (Lit × DataW H) → Nat
  | [] => 0
  | x :: r => uptoBulkEntry x + uptoBulkEntries r
def uptoBulkEntry {H : Type} : Lit × DataW H → Nat
  | (.string bytes, d) => bytes.length + uptoBulk d + 1
  | (_, d) => uptoBulk d + 1
 end
def uptoSmall : (H : Type) → List (DataW H) → Bool := fun _ ds => decide (uptoBulkAll ds ≤ 1048576)
def OpenSpec.upto (s : _root_.Go.ChangeSpec) : _root_.Go.OpenSpec := { _root_.Go.OpenSpec.ofChange s with cond := some uptoSmall }

/-- 'routinglaw37.PvmsgCheck', WHERE WHAT IT READS IS OF BULK AT MOST 1048576: true; the input reads as it did. -/
def pvmsgCheckUptoRow : OpenClaim := { program := "ytcieamgbfameoaadoor", sum := "a7d9a8c92e228fe1ee60c5624d8b5c1cde1da4e64834f158b2816235fa17cc28", func := "routing/routinglaw37.PvmsgCheck", spec := "pvmsgCheck", recurses := true, named := ["routing/attrs.flags"], apart := false, laid := [("routing/attrs.flags", laid_routing_attrs_flags)], narrowed := true }
def PvmsgCheckUptoSaid : Prop := pvmsgCheckUptoRow.holds Tryd.pinned (OpenSpec.upto pvmsgCheckSpec)

/-- 'routinglaw37.PvmsgBack', WHERE WHAT IT READS IS OF BULK AT MOST 1048576: true; the input reads as it did. -/
def pvmsgBackUptoRow : OpenClaim := { program := "ytcieamgbfameoaadoor", sum := "a7d9a8c92e228fe1ee60c5624d8b5c1cde1da4e64834f158b2816235fa17cc28", func := "routing/routinglaw37.PvmsgBack", spec := "pvmsgBack", recurses := true, named := ["routing/attrs.flags"], apart := false, laid := [("routing/attrs.flags", laid_routing_attrs_flags)], narrowed := true }
def PvmsgBackUptoSaid : Prop := pvmsgBackUptoRow.holds Tryd.pinned (OpenSpec.upto pvmsgBackSpec)

/-- 'routinglaw37.PvmsgFault', WHERE WHAT IT READS IS OF BULK AT MOST 1048576: true; the input reads as it did. -/
def pvmsgFaultUptoRow : OpenClaim := { program := "ytcieamgbfameoaadoor", sum := "a7d9a8c92e228fe1ee60c5624d8b5c1cde1da4e64834f158b2816235fa17cc28", func := "routing/routinglaw37.PvmsgFault", spec := "pvmsgFault", recurses := true, named := ["routing/attrs.flags"], apart := false, laid := [("routing/attrs.flags", laid_routing_attrs_flags)], narrowed := true }
def PvmsgFaultUptoSaid : Prop := pvmsgFaultUptoRow.holds Tryd.pinned (OpenSpec.upto pvmsgFaultSpec)

/-- 'routinglaw37.PvmsgParts', WHERE WHAT IT READS IS OF BULK AT MOST 1048576: true; the input reads as it did. -/
def pvmsgPartsUptoRow : OpenClaim := { program := "ytcieamgbfameoaadoor", sum := "a7d9a8c92e228fe1ee60c5624d8b5c1cde1da4e64834f158b2816235fa17cc28", func := "routing/routinglaw37.PvmsgParts", spec := "pvmsgParts", recurses := true, named := ["routing/attrs.flags"], apart := false, laid := [("routing/attrs.flags", laid_routing_attrs_flags)], narrowed := true }
def PvmsgPartsUptoSaid : Prop := pvmsgPartsUptoRow.holds Tryd.pinned (OpenSpec.upto pvmsgPartsSpec)

/-- 'routinglaw37.PvmsgSame', WHERE WHAT IT READS IS OF BULK AT MOST 1048576: true; the input reads as it did. -/
def pvmsgSameUptoRow : OpenClaim := { program := "ytcieamgbfameoaadoor", sum := "a7d9a8c92e228fe1ee60c5624d8b5c1cde1da4e64834f158b2816235fa17cc28", func := "routing/routinglaw37.PvmsgSame", spec := "pvmsgSame", recurses := true, named := ["routing/attrs.flags"], apart := false, laid := [("routing/attrs.flags", laid_routing_attrs_flags)], narrowed := true }
def PvmsgSameUptoSaid : Prop := pvmsgSameUptoRow.holds Tryd.pinned (OpenSpec.upto pvmsgSameSpec)

end Rows
end Go.Proofs.YtcieamgbfameoaaDoor
