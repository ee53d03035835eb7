/-
  No cell of these rows narrows 'for every input' (looked for: loops, veiled, ifaces, maps, wideKeys, modest, calm, conditions, laid).
  DERIVED. THE GIVEN ROWS OF THIS SEAT. 7 by the template 'for every input the law returns true; each argument reads behind the call as it read before'; 0 by the template 'total and deterministic' (their statements: YtndmifcopcaenaaTotals.lean).
  GIVEN WITH THE SEED: the statements are not yours to turn. If you find one false, say at which input.
  Laid BY PROGRAM, IN A SANDBOX (cutbox-rows.mjs): the forced cells as the released guide's own fill.sh prints them over the translation ee1e1400fdc34c7c… (all of the seat's roots in one cut). By AI agents, Wed Nov 11 2026. No macro, syntax, notation, axiom, sorry.
-/
import Derived.Test.YtndmifcopcaenaaChecked
import GoSem.Claim
import GoSem.ClaimJoined
import GoSem.ClaimMapViews
import Derived.JoinedTies
import Derived.KernelRfl
namespace Go.Proofs.Ytndmifcopcaenaa
/- THE CELL 'sum', in the pinned program and in every row, IS THE sha256 OF THE DUMP (.gsa) THAT YtndmifcopcaenaaProg.lean LOADS. Nothing in Lean hashes anything: it is a label: what it is worth is what the hold of that sum in a sandbox is worth. -/
noncomputable def Try.pinned : Pinned := { name := "ytndmifcopcaenaa", sum := "ee1e1400fdc34c7c2e6f28a2f6dc72a731a3845f2d9e3f4d4b4beb9f7474b7f3", checked := Try.checked }
namespace Rows
def none {H : Type} : Left H := { results := [], args := [] }

/-- 'routinglaw40.DecisionCost': WHATEVER THE INPUT: true; the input reads as it did. -/
def decisionCostSpec : ChangeSpec := { name := "decisionCost", fn := fun _ => fun
  | [d1, d2] => { results := [.lit (.bool true)], args := [d1, d2] }
  | _ => none }
def decisionCostRow : OpenClaim := { program := "ytndmifcopcaenaa", sum := "ee1e1400fdc34c7c2e6f28a2f6dc72a731a3845f2d9e3f4d4b4beb9f7474b7f3", func := "routing/routinglaw40.DecisionCost", spec := "decisionCost", unfollowed := true, recurses := true, apart := false }
def DecisionCostSaid : Prop := decisionCostRow.holds Try.pinned (OpenSpec.ofChange decisionCostSpec)

/-- ITS FALSE NEIGHBOUR: 'it returns false'. Refute it at one input. -/
def decisionCostWrong : ChangeSpec := { name := "decisionCost", fn := fun _ => fun
  | [d1, d2] => { results := [.lit (.bool false)], args := [d1, d2] }
  | _ => none }
def DecisionCostWrongFalsely : Prop := decisionCostRow.holds Try.pinned (OpenSpec.ofChange decisionCostWrong)

/-- 'routinglaw40.DecisionCompare': WHATEVER THE INPUT: true; the input reads as it did. -/
def decisionCompareSpec : ChangeSpec := { name := "decisionCompare", fn := fun _ => fun
  | [d1, d2, d3] => { results := [.lit (.bool true)], args := [d1, d2, d3] }
  | _ => none }
def decisionCompareRow : OpenClaim := { program := "ytndmifcopcaenaa", sum := "ee1e1400fdc34c7c2e6f28a2f6dc72a731a3845f2d9e3f4d4b4beb9f7474b7f3", func := "routing/routinglaw40.DecisionCompare", spec := "decisionCompare", unfollowed := true, recurses := true, apart := false }
def DecisionCompareSaid : Prop := decisionCompareRow.holds Try.pinned (OpenSpec.ofChange decisionCompareSpec)

/-- ITS FALSE NEIGHBOUR: 'it returns false'. Refute it at one input. -/
def decisionCompareWrong : ChangeSpec := { name := "decisionCompare", fn := fun _ => fun
  | [d1, d2, d3] => { results := [.lit (.bool false)], args := [d1, d2, d3] }
  | _ => none }
def DecisionCompareWrongFalsely : Prop := decisionCompareRow.holds Try.pinned (OpenSpec.ofChange decisionCompareWrong)

/-- 'routinglaw40.DecisionBest': WHATEVER THE INPUT: true; the input reads as it did. -/
def decisionBestSpec : ChangeSpec := { name := "decisionBest", fn := fun _ => fun
  | [d1, d2] => { results := [.lit (.bool true)], args := [d1, d2] }
  | _ => none }
def decisionBestRow : OpenClaim := { program := "ytndmifcopcaenaa", sum := "ee1e1400fdc34c7c2e6f28a2f6dc72a731a3845f2d9e3f4d4b4beb9f7474b7f3", func := "routing/routinglaw40.DecisionBest", spec := "decisionBest", unfollowed := true, recurses := true, apart := false }
def DecisionBestSaid : Prop := decisionBestRow.holds Try.pinned (OpenSpec.ofChange decisionBestSpec)

/-- ITS FALSE NEIGHBOUR: 'it returns false'. Refute it at one input. -/
def decisionBestWrong : ChangeSpec := { name := "decisionBest", fn := fun _ => fun
  | [d1, d2] => { results := [.lit (.bool false)], args := [d1, d2] }
  | _ => none }
def DecisionBestWrongFalsely : Prop := decisionBestRow.holds Try.pinned (OpenSpec.ofChange decisionBestWrong)

/-- 'routinglaw40.DecisionEqual': WHATEVER THE INPUT: true; the input reads as it did. -/
def decisionEqualSpec : ChangeSpec := { name := "decisionEqual", fn := fun _ => fun
  | [d1, d2, d3] => { results := [.lit (.bool true)], args := [d1, d2, d3] }
  | _ => none }
def decisionEqualRow : OpenClaim := { program := "ytndmifcopcaenaa", sum := "ee1e1400fdc34c7c2e6f28a2f6dc72a731a3845f2d9e3f4d4b4beb9f7474b7f3", func := "routing/routinglaw40.DecisionEqual", spec := "decisionEqual", unfollowed := true, recurses := true, apart := false }
def DecisionEqualSaid : Prop := decisionEqualRow.holds Try.pinned (OpenSpec.ofChange decisionEqualSpec)

/-- ITS FALSE NEIGHBOUR: 'it returns false'. Refute it at one input. -/
def decisionEqualWrong : ChangeSpec := { name := "decisionEqual", fn := fun _ => fun
  | [d1, d2, d3] => { results := [.lit (.bool false)], args := [d1, d2, d3] }
  | _ => none }
def DecisionEqualWrongFalsely : Prop := decisionEqualRow.holds Try.pinned (OpenSpec.ofChange decisionEqualWrong)

/-- 'routinglaw40.DecisionOrder': WHATEVER THE INPUT: true; the input reads as it did. -/
def decisionOrderSpec : ChangeSpec := { name := "decisionOrder", fn := fun _ => fun
  | [d1, d2, d3] => { results := [.lit (.bool true)], args := [d1, d2, d3] }
  | _ => none }
def decisionOrderRow : OpenClaim := { program := "ytndmifcopcaenaa", sum := "ee1e1400fdc34c7c2e6f28a2f6dc72a731a3845f2d9e3f4d4b4beb9f7474b7f3", func := "routing/routinglaw40.DecisionOrder", spec := "decisionOrder", unfollowed := true, recurses := true, apart := false }
def DecisionOrderSaid : Prop := decisionOrderRow.holds Try.pinned (OpenSpec.ofChange decisionOrderSpec)

/-- ITS FALSE NEIGHBOUR: 'it returns false'. Refute it at one input. -/
def decisionOrderWrong : ChangeSpec := { name := "decisionOrder", fn := fun _ => fun
  | [d1, d2, d3] => { results := [.lit (.bool false)], args := [d1, d2, d3] }
  | _ => none }
def DecisionOrderWrongFalsely : Prop := decisionOrderRow.holds Try.pinned (OpenSpec.ofChange decisionOrderWrong)

/-- 'routinglaw40.DecisionRemoval': WHATEVER THE INPUT: true; the input reads as it did. -/
def decisionRemovalSpec : ChangeSpec := { name := "decisionRemoval", fn := fun _ => fun
  | [d1, d2, d3] => { results := [.lit (.bool true)], args := [d1, d2, d3] }
  | _ => none }
def decisionRemovalRow : OpenClaim := { program := "ytndmifcopcaenaa", sum := "ee1e1400fdc34c7c2e6f28a2f6dc72a731a3845f2d9e3f4d4b4beb9f7474b7f3", func := "routing/routinglaw40.DecisionRemoval", spec := "decisionRemoval", unfollowed := true, recurses := true, apart := false }
def DecisionRemovalSaid : Prop := decisionRemovalRow.holds Try.pinned (OpenSpec.ofChange decisionRemovalSpec)

/-- ITS FALSE NEIGHBOUR: 'it returns false'. Refute it at one input. -/
def decisionRemovalWrong : ChangeSpec := { name := "decisionRemoval", fn := fun _ => fun
  | [d1, d2, d3] => { results := [.lit (.bool false)], args := [d1, d2, d3] }
  | _ => none }
def DecisionRemovalWrongFalsely : Prop := decisionRemovalRow.holds Try.pinned (OpenSpec.ofChange decisionRemovalWrong)

/-- 'routinglaw40.DecisionTransitive': WHATEVER THE INPUT: true; the input reads as it did. -/
def decisionTransitiveSpec : ChangeSpec := { name := "decisionTransitive", fn := fun _ => fun
  | [d1, d2, d3] => { results := [.lit (.bool true)], args := [d1, d2, d3] }
  | _ => none }
def decisionTransitiveRow : OpenClaim := { program := "ytndmifcopcaenaa", sum := "ee1e1400fdc34c7c2e6f28a2f6dc72a731a3845f2d9e3f4d4b4beb9f7474b7f3", func := "routing/routinglaw40.DecisionTransitive", spec := "decisionTransitive", unfollowed := true, recurses := true, apart := false }
def DecisionTransitiveSaid : Prop := decisionTransitiveRow.holds Try.pinned (OpenSpec.ofChange decisionTransitiveSpec)

/-- ITS FALSE NEIGHBOUR: 'it returns false'. Refute it at one input. -/
def decisionTransitiveWrong : ChangeSpec := { name := "decisionTransitive", fn := fun _ => fun
  | [d1, d2, d3] => { results := [.lit (.bool false)], args := [d1, d2, d3] }
  | _ => none }
def DecisionTransitiveWrongFalsely : Prop := decisionTransitiveRow.holds Try.pinned (OpenSpec.ofChange decisionTransitiveWrong)

/- THE SECOND FORM. 'bulk': how many values and letters a reading holds, each counted each time it is reached (what is shared counts as often as it is met; a slice's spare places count too). A statement '..UptoSaid' is the law's where the arguments, and the package variables that the reading takes, are together of bulk at most 1048576: NARROWER than '..Said'. Prove '..Said' where nothing that the law and all that it calls make is longer than what came in: it says more and counts as full. Else prove '..UptoSaid'. A law counts once. -/
mutual
def uptoBulk {H : Type} : DataW H → Nat
  | .lit (.string bytes) => bytes.length + 1
  | .lit _ => 1
  | .nil => 1
  | .ptr d => uptoBulk d + 1
  | .slice elems spare => uptoBulkAll elems + uptoBulkAll spare + 1
  | .agg parts => uptoBulkAll parts + 1
  | .iface _ d => uptoBulk d + 1
  | .map entries => uptoBulkEntries entries + 1
  | .held _ => 1
def uptoBulkAll {H : Type} : List (DataW H) → Nat
  | [] => 0
  | d :: r => uptoBulk d + uptoBulkAll r
def uptoBulkEntries {H : Type} : List (Lit × DataW H) → Nat
  | [] => 0
  | x :: r => uptoBulkEntry x + uptoBulkEntries r
def uptoBulkEntry {H : Type} : Lit × DataW H → Nat
  | (.string bytes, d) => bytes.length + uptoBulk d + 1
  | (_, d) => uptoBulk d + 1
 end
def uptoSmall : (H : Type) → List (DataW H) → Bool := fun _ ds => decide (uptoBulkAll ds ≤ 1048576)
def OpenSpec.upto (s : _root_.Go.ChangeSpec) : _root_.Go.OpenSpec := { _root_.Go.OpenSpec.ofChange s with cond := some uptoSmall }

/-- 'routinglaw40.DecisionCost', WHERE WHAT IT READS IS OF BULK AT MOST 1048576: true; the input reads as it did. -/
def decisionCostUptoRow : OpenClaim := { program := "ytndmifcopcaenaa", sum := "ee1e1400fdc34c7c2e6f28a2f6dc72a731a3845f2d9e3f4d4b4beb9f7474b7f3", func := "routing/routinglaw40.DecisionCost", spec := "decisionCost", unfollowed := true, recurses := true, apart := false, narrowed := true }
def DecisionCostUptoSaid : Prop := decisionCostUptoRow.holds Try.pinned (OpenSpec.upto decisionCostSpec)

/-- 'routinglaw40.DecisionCompare', WHERE WHAT IT READS IS OF BULK AT MOST 1048576: true; the input reads as it did. -/
def decisionCompareUptoRow : OpenClaim := { program := "ytndmifcopcaenaa", sum := "ee1e1400fdc34c7c2e6f28a2f6dc72a731a3845f2d9e3f4d4b4beb9f7474b7f3", func := "routing/routinglaw40.DecisionCompare", spec := "decisionCompare", unfollowed := true, recurses := true, apart := false, narrowed := true }
def DecisionCompareUptoSaid : Prop := decisionCompareUptoRow.holds Try.pinned (OpenSpec.upto decisionCompareSpec)

/-- 'routinglaw40.DecisionBest', WHERE WHAT IT READS IS OF BULK AT MOST 1048576: true; the input reads as it did. -/
def decisionBestUptoRow : OpenClaim := { program := "ytndmifcopcaenaa", sum := "ee1e1400fdc34c7c2e6f28a2f6dc72a731a3845f2d9e3f4d4b4beb9f7474b7f3", func := "routing/routinglaw40.DecisionBest", spec := "decisionBest", unfollowed := true, recurses := true, apart := false, narrowed := true }
def DecisionBestUptoSaid : Prop := decisionBestUptoRow.holds Try.pinned (OpenSpec.upto decisionBestSpec)

/-- 'routinglaw40.DecisionEqual', WHERE WHAT IT READS IS OF BULK AT MOST 1048576: true; the input reads as it did. -/
def decisionEqualUptoRow : OpenClaim := { program := "ytndmifcopcaenaa", sum := "ee1e1400fdc34c7c2e6f28a2f6dc72a731a3845f2d9e3f4d4b4beb9f7474b7f3", func := "routing/routinglaw40.DecisionEqual", spec := "decisionEqual", unfollowed := true, recurses := true, apart := false, narrowed := true }
def DecisionEqualUptoSaid : Prop := decisionEqualUptoRow.holds Try.pinned (OpenSpec.upto decisionEqualSpec)

/-- 'routinglaw40.DecisionOrder', WHERE WHAT IT READS IS OF BULK AT MOST 1048576: true; the input reads as it did. -/
def decisionOrderUptoRow : OpenClaim := { program := "ytndmifcopcaenaa", sum := "ee1e1400fdc34c7c2e6f28a2f6dc72a731a3845f2d9e3f4d4b4beb9f7474b7f3", func := "routing/routinglaw40.DecisionOrder", spec := "decisionOrder", unfollowed := true, recurses := true, apart := false, narrowed := true }
def DecisionOrderUptoSaid : Prop := decisionOrderUptoRow.holds Try.pinned (OpenSpec.upto decisionOrderSpec)

/-- 'routinglaw40.DecisionRemoval', WHERE WHAT IT READS IS OF BULK AT MOST 1048576: true; the input reads as it did. -/
def decisionRemovalUptoRow : OpenClaim := { program := "ytndmifcopcaenaa", sum := "ee1e1400fdc34c7c2e6f28a2f6dc72a731a3845f2d9e3f4d4b4beb9f7474b7f3", func := "routing/routinglaw40.DecisionRemoval", spec := "decisionRemoval", unfollowed := true, recurses := true, apart := false, narrowed := true }
def DecisionRemovalUptoSaid : Prop := decisionRemovalUptoRow.holds Try.pinned (OpenSpec.upto decisionRemovalSpec)

/-- 'routinglaw40.DecisionTransitive', WHERE WHAT IT READS IS OF BULK AT MOST 1048576: true; the input reads as it did. -/
def decisionTransitiveUptoRow : OpenClaim := { program := "ytndmifcopcaenaa", sum := "ee1e1400fdc34c7c2e6f28a2f6dc72a731a3845f2d9e3f4d4b4beb9f7474b7f3", func := "routing/routinglaw40.DecisionTransitive", spec := "decisionTransitive", unfollowed := true, recurses := true, apart := false, narrowed := true }
def DecisionTransitiveUptoSaid : Prop := decisionTransitiveUptoRow.holds Try.pinned (OpenSpec.upto decisionTransitiveSpec)

end Rows
end Go.Proofs.Ytndmifcopcaenaa
