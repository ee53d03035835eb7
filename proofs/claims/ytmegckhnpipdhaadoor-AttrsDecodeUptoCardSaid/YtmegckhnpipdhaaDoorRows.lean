/-
  NARROWER THAN 'FOR EVERY INPUT', by the rows' own cells (each row's printed sentence says how): AttrsCheck: laid · AttrsEncode: laid · AttrsBack: laid · AttrsDecode: laid · AttrsWide: laid · AttrsSame: laid.
  DERIVED. THE GIVEN ROWS OF THIS SEAT. 6 by the template 'for every input the law returns true; each argument reads behind the call as it read before'; 0 by the template 'total and deterministic' (their statements: YtmegckhnpipdhaaDoorTotals.lean).
  GIVEN WITH THE SEED: the statements are not yours to turn. If you find one false, say at which input.
  Laid BY PROGRAM, IN A SANDBOX (cutbox-rows.mjs): the forced cells as the released guide's own fill.sh prints them over the translation 5d936c521a36259c… (all of the seat's roots in one cut). By AI agents, Wed Nov 11 2026. No macro, syntax, notation, axiom, sorry.
-/
import Derived.Test.YtmegckhnpipdhaaDoorChecked
import GoSem.Claim
import GoSem.ClaimJoined
import GoSem.ClaimMapViews
import Derived.JoinedTies
import Derived.KernelRfl
namespace Go.Proofs.YtmegckhnpipdhaaDoor
/- THE CELL 'sum', in the pinned program and in every row, IS THE sha256 OF THE DUMP (.gsa) THAT YtmegckhnpipdhaaDoorProg.lean LOADS. Nothing in Lean hashes anything: it is a label: what it is worth is what the hold of that sum in a sandbox is worth. -/
noncomputable def Tryd.pinned : Pinned := { name := "ytmegckhnpipdhaadoor", sum := "5d936c521a36259c0e22424ca661d0da7cb5cfd60f18c90070457d566e06d8bd", checked := Tryd.checked }
namespace Rows
def none {H : Type} : Left H := { results := [], args := [] }

/- WHAT THE LISTED PACKAGE-LEVEL VARIABLES READ AS WHEN THE CALL BEGINS. Each datum BY PROGRAM (the guide's laid-datum.mjs) off the statement by which the dump's own 'gosem.cut.vars' lays the variable. In a bare row this is a premise. The card (YtmegckhnpipdhaaDoorCards.lean) ties it to the program's text. -/
def laid_routing_attrs_flags {H : Type} : DataW H := .agg [.lit (.int .u8 224), .lit (.int .u8 64), .lit (.int .u8 64), .lit (.int .u8 64), .lit (.int .u8 128), .lit (.int .u8 64), .lit (.int .u8 64), .lit (.int .u8 192), .lit (.int .u8 192), .lit (.int .u8 128), .lit (.int .u8 128)]

/-- 'routinglaw36.AttrsCheck': WHATEVER THE INPUT: true; the input reads as it did. -/
def attrsCheckSpec : ChangeSpec := { name := "attrsCheck", fn := fun _ => fun
  | [d] => { results := [.lit (.bool true)], args := [d] }
  | _ => none }
def attrsCheckRow : OpenClaim := { program := "ytmegckhnpipdhaadoor", sum := "5d936c521a36259c0e22424ca661d0da7cb5cfd60f18c90070457d566e06d8bd", func := "routing/routinglaw36.AttrsCheck", spec := "attrsCheck", named := ["routing/attrs.flags"], apart := false, laid := [("routing/attrs.flags", laid_routing_attrs_flags)] }
def AttrsCheckSaid : Prop := attrsCheckRow.holds Tryd.pinned (OpenSpec.ofChange attrsCheckSpec)

/-- ITS FALSE NEIGHBOUR: 'it returns false'. Refute it at one input. -/
def attrsCheckWrong : ChangeSpec := { name := "attrsCheck", fn := fun _ => fun
  | [d] => { results := [.lit (.bool false)], args := [d] }
  | _ => none }
def AttrsCheckWrongFalsely : Prop := attrsCheckRow.holds Tryd.pinned (OpenSpec.ofChange attrsCheckWrong)

/-- 'routinglaw36.AttrsEncode': WHATEVER THE INPUT: true; the input reads as it did. -/
def attrsEncodeSpec : ChangeSpec := { name := "attrsEncode", fn := fun _ => fun
  | [d1, d2] => { results := [.lit (.bool true)], args := [d1, d2] }
  | _ => none }
def attrsEncodeRow : OpenClaim := { program := "ytmegckhnpipdhaadoor", sum := "5d936c521a36259c0e22424ca661d0da7cb5cfd60f18c90070457d566e06d8bd", func := "routing/routinglaw36.AttrsEncode", spec := "attrsEncode", named := ["routing/attrs.flags"], apart := false, laid := [("routing/attrs.flags", laid_routing_attrs_flags)] }
def AttrsEncodeSaid : Prop := attrsEncodeRow.holds Tryd.pinned (OpenSpec.ofChange attrsEncodeSpec)

/-- ITS FALSE NEIGHBOUR: 'it returns false'. Refute it at one input. -/
def attrsEncodeWrong : ChangeSpec := { name := "attrsEncode", fn := fun _ => fun
  | [d1, d2] => { results := [.lit (.bool false)], args := [d1, d2] }
  | _ => none }
def AttrsEncodeWrongFalsely : Prop := attrsEncodeRow.holds Tryd.pinned (OpenSpec.ofChange attrsEncodeWrong)

/-- 'routinglaw36.AttrsBack': WHATEVER THE INPUT: true; the input reads as it did. -/
def attrsBackSpec : ChangeSpec := { name := "attrsBack", fn := fun _ => fun
  | [d1, d2] => { results := [.lit (.bool true)], args := [d1, d2] }
  | _ => none }
def attrsBackRow : OpenClaim := { program := "ytmegckhnpipdhaadoor", sum := "5d936c521a36259c0e22424ca661d0da7cb5cfd60f18c90070457d566e06d8bd", func := "routing/routinglaw36.AttrsBack", spec := "attrsBack", named := ["routing/attrs.flags"], apart := false, laid := [("routing/attrs.flags", laid_routing_attrs_flags)] }
def AttrsBackSaid : Prop := attrsBackRow.holds Tryd.pinned (OpenSpec.ofChange attrsBackSpec)

/-- ITS FALSE NEIGHBOUR: 'it returns false'. Refute it at one input. -/
def attrsBackWrong : ChangeSpec := { name := "attrsBack", fn := fun _ => fun
  | [d1, d2] => { results := [.lit (.bool false)], args := [d1, d2] }
  | _ => none }
def AttrsBackWrongFalsely : Prop := attrsBackRow.holds Tryd.pinned (OpenSpec.ofChange attrsBackWrong)

/-- 'routinglaw36.AttrsDecode': WHATEVER THE INPUT: true; the input reads as it did. -/
def attrsDecodeSpec : ChangeSpec := { name := "attrsDecode", fn := fun _ => fun
  | [d1, d2] => { results := [.lit (.bool true)], args := [d1, d2] }
  | _ => none }
def attrsDecodeRow : OpenClaim := { program := "ytmegckhnpipdhaadoor", sum := "5d936c521a36259c0e22424ca661d0da7cb5cfd60f18c90070457d566e06d8bd", func := "routing/routinglaw36.AttrsDecode", spec := "attrsDecode", named := ["routing/attrs.flags"], apart := false, laid := [("routing/attrs.flags", laid_routing_attrs_flags)] }
def AttrsDecodeSaid : Prop := attrsDecodeRow.holds Tryd.pinned (OpenSpec.ofChange attrsDecodeSpec)

/-- ITS FALSE NEIGHBOUR: 'it returns false'. Refute it at one input. -/
def attrsDecodeWrong : ChangeSpec := { name := "attrsDecode", fn := fun _ => fun
  | [d1, d2] => { results := [.lit (.bool false)], args := [d1, d2] }
  | _ => none }
def AttrsDecodeWrongFalsely : Prop := attrsDecodeRow.holds Tryd.pinned (OpenSpec.ofChange attrsDecodeWrong)

/-- 'routinglaw36.AttrsWide': WHATEVER THE INPUT: true; the input reads as it did. -/
def attrsWideSpec : ChangeSpec := { name := "attrsWide", fn := fun _ => fun
  | [d] => { results := [.lit (.bool true)], args := [d] }
  | _ => none }
def attrsWideRow : OpenClaim := { program := "ytmegckhnpipdhaadoor", sum := "5d936c521a36259c0e22424ca661d0da7cb5cfd60f18c90070457d566e06d8bd", func := "routing/routinglaw36.AttrsWide", spec := "attrsWide", named := ["routing/attrs.flags"], apart := false, laid := [("routing/attrs.flags", laid_routing_attrs_flags)] }
def AttrsWideSaid : Prop := attrsWideRow.holds Tryd.pinned (OpenSpec.ofChange attrsWideSpec)

/-- ITS FALSE NEIGHBOUR: 'it returns false'. Refute it at one input. -/
def attrsWideWrong : ChangeSpec := { name := "attrsWide", fn := fun _ => fun
  | [d] => { results := [.lit (.bool false)], args := [d] }
  | _ => none }
def AttrsWideWrongFalsely : Prop := attrsWideRow.holds Tryd.pinned (OpenSpec.ofChange attrsWideWrong)

/-- 'routinglaw36.AttrsSame': WHATEVER THE INPUT: true; the input reads as it did. -/
def attrsSameSpec : ChangeSpec := { name := "attrsSame", fn := fun _ => fun
  | [d1, d2] => { results := [.lit (.bool true)], args := [d1, d2] }
  | _ => none }
def attrsSameRow : OpenClaim := { program := "ytmegckhnpipdhaadoor", sum := "5d936c521a36259c0e22424ca661d0da7cb5cfd60f18c90070457d566e06d8bd", func := "routing/routinglaw36.AttrsSame", spec := "attrsSame", named := ["routing/attrs.flags"], apart := false, laid := [("routing/attrs.flags", laid_routing_attrs_flags)] }
def AttrsSameSaid : Prop := attrsSameRow.holds Tryd.pinned (OpenSpec.ofChange attrsSameSpec)

/-- ITS FALSE NEIGHBOUR: 'it returns false'. Refute it at one input. -/
def attrsSameWrong : ChangeSpec := { name := "attrsSame", fn := fun _ => fun
  | [d1, d2] => { results := [.lit (.bool false)], args := [d1, d2] }
  | _ => none }
def AttrsSameWrongFalsely : Prop := attrsSameRow.holds Tryd.pinned (OpenSpec.ofChange attrsSameWrong)

/- THE SECOND FORM. 'bulk': how many values and letters a reading holds, each counted each time it is reached (what is shared counts as often as it is met; a slice's spare places count too). A statement '..UptoSaid' is the law's where the arguments, and the package variables that the reading takes, are together of bulk at most 1048576: NARROWER than '..Said'. Prove '..Said' where nothing that the law and all that it calls make is longer than what came in: it says more and counts as full. Else prove '..UptoSaid'. A law counts once. -/
mutual
def uptoBulk {H : Type} : DataW H → Nat
  | .lit (.string bytes) => bytes.length + 1
  | .lit _ => 1
  | .nil => 1
  | .ptr d => uptoBulk d + 1
  | .slice elems spare => uptoBulkAll elems + uptoBulkAll spare + 1
  | .agg parts => uptoBulkAll parts + 1
  | .iface _ d => uptoBulk d + 1
  | .map entries => uptoBulkEntries entries + 1
  | .held _ => 1
def uptoBulkAll {H : Type} : List (DataW H) → Nat
  | [] => 0
  | d :: r => uptoBulk d + uptoBulkAll r
def uptoBulkEntries {H : Type} : List (Lit × DataW H) → Nat
  | [] => 0
  | x :: r => uptoBulkEntry x + uptoBulkEntries r
def uptoBulkEntry {H : Type} : Lit × DataW H → Nat
  | (.string bytes, d) => bytes.length + uptoBulk d + 1
  | (_, d) => uptoBulk d + 1
 end
def uptoSmall : (H : Type) → List (DataW H) → Bool := fun _ ds => decide (uptoBulkAll ds ≤ 1048576)
def OpenSpec.upto (s : _root_.Go.ChangeSpec) : _root_.Go.OpenSpec := { _root_.Go.OpenSpec.ofChange s with cond := some uptoSmall }

/-- 'routinglaw36.AttrsCheck', WHERE WHAT IT READS IS OF BULK AT MOST 1048576: true; the input reads as it did. -/
def attrsCheckUptoRow : OpenClaim := { program := "ytmegckhnpipdhaadoor", sum := "5d936c521a36259c0e22424ca661d0da7cb5cfd60f18c90070457d566e06d8bd", func := "routing/routinglaw36.AttrsCheck", spec := "attrsCheck", named := ["routing/attrs.flags"], apart := false, laid := [("routing/attrs.flags", laid_routing_attrs_flags)], narrowed := true }
def AttrsCheckUptoSaid : Prop := attrsCheckUptoRow.holds Tryd.pinned (OpenSpec.upto attrsCheckSpec)

/-- 'routinglaw36.AttrsEncode', WHERE WHAT IT READS IS OF BULK AT MOST 1048576: true; the input reads as it did. -/
def attrsEncodeUptoRow : OpenClaim := { program := "ytmegckhnpipdhaadoor", sum := "5d936c521a36259c0e22424ca661d0da7cb5cfd60f18c90070457d566e06d8bd", func := "routing/routinglaw36.AttrsEncode", spec := "attrsEncode", named := ["routing/attrs.flags"], apart := false, laid := [("routing/attrs.flags", laid_routing_attrs_flags)], narrowed := true }
def AttrsEncodeUptoSaid : Prop := attrsEncodeUptoRow.holds Tryd.pinned (OpenSpec.upto attrsEncodeSpec)

/-- 'routinglaw36.AttrsBack', WHERE WHAT IT READS IS OF BULK AT MOST 1048576: true; the input reads as it did. -/
def attrsBackUptoRow : OpenClaim := { program := "ytmegckhnpipdhaadoor", sum := "5d936c521a36259c0e22424ca661d0da7cb5cfd60f18c90070457d566e06d8bd", func := "routing/routinglaw36.AttrsBack", spec := "attrsBack", named := ["routing/attrs.flags"], apart := false, laid := [("routing/attrs.flags", laid_routing_attrs_flags)], narrowed := true }
def AttrsBackUptoSaid : Prop := attrsBackUptoRow.holds Tryd.pinned (OpenSpec.upto attrsBackSpec)

/-- 'routinglaw36.AttrsDecode', WHERE WHAT IT READS IS OF BULK AT MOST 1048576: true; the input reads as it did. -/
def attrsDecodeUptoRow : OpenClaim := { program := "ytmegckhnpipdhaadoor", sum := "5d936c521a36259c0e22424ca661d0da7cb5cfd60f18c90070457d566e06d8bd", func := "routing/routinglaw36.AttrsDecode", spec := "attrsDecode", named := ["routing/attrs.flags"], apart := false, laid := [("routing/attrs.flags", laid_routing_attrs_flags)], narrowed := true }
def AttrsDecodeUptoSaid : Prop := attrsDecodeUptoRow.holds Tryd.pinned (OpenSpec.upto attrsDecodeSpec)

/-- 'routinglaw36.AttrsWide', WHERE WHAT IT READS IS OF BULK AT MOST 1048576: true; the input reads as it did. -/
def attrsWideUptoRow : OpenClaim := { program := "ytmegckhnpipdhaadoor", sum := "5d936c521a36259c0e22424ca661d0da7cb5cfd60f18c90070457d566e06d8bd", func := "routing/routinglaw36.AttrsWide", spec := "attrsWide", named := ["routing/attrs.flags"], apart := false, laid := [("routing/attrs.flags", laid_routing_attrs_flags)], narrowed := true }
def AttrsWideUptoSaid : Prop := attrsWideUptoRow.holds Tryd.pinned (OpenSpec.upto attrsWideSpec)

/-- 'routinglaw36.AttrsSame', WHERE WHAT IT READS IS OF BULK AT MOST 1048576: true; the input reads as it did. -/
def attrsSameUptoRow : OpenClaim := { program := "ytmegckhnpipdhaadoor", sum := "5d936c521a36259c0e22424ca661d0da7cb5cfd60f18c90070457d566e06d8bd", func := "routing/routinglaw36.AttrsSame", spec := "attrsSame", named := ["routing/attrs.flags"], apart := false, laid := [("routing/attrs.flags", laid_routing_attrs_flags)], narrowed := true }
def AttrsSameUptoSaid : Prop := attrsSameUptoRow.holds Tryd.pinned (OpenSpec.upto attrsSameSpec)

end Rows
end Go.Proofs.YtmegckhnpipdhaaDoor
