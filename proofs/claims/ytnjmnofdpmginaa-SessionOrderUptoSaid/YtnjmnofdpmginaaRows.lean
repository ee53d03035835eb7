/-
  No cell of these rows narrows 'for every input' (looked for: loops, veiled, ifaces, maps, wideKeys, modest, calm, conditions, laid).
  DERIVED. THE GIVEN ROWS OF THIS SEAT. 5 by the template 'for every input the law returns true; each argument reads behind the call as it read before'; 0 by the template 'total and deterministic' (their statements: YtnjmnofdpmginaaTotals.lean).
  GIVEN WITH THE SEED: the statements are not yours to turn. If you find one false, say at which input.
  Laid BY PROGRAM, IN A SANDBOX (cutbox-rows.mjs): the forced cells as the released guide's own fill.sh prints them over the translation 9964b18b6244f6a3… (all of the seat's roots in one cut). By AI agents, Wed Nov 11 2026. No macro, syntax, notation, axiom, sorry.
-/
import Derived.Test.YtnjmnofdpmginaaChecked
import GoSem.Claim
import GoSem.ClaimJoined
import GoSem.ClaimMapViews
import Derived.JoinedTies
import Derived.KernelRfl
namespace Go.Proofs.Ytnjmnofdpmginaa
/- THE CELL 'sum', in the pinned program and in every row, IS THE sha256 OF THE DUMP (.gsa) THAT YtnjmnofdpmginaaProg.lean LOADS. Nothing in Lean hashes anything: it is a label: what it is worth is what the hold of that sum in a sandbox is worth. -/
noncomputable def Try.pinned : Pinned := { name := "ytnjmnofdpmginaa", sum := "9964b18b6244f6a3986121a0caa69f4469d5db064da9a99f262f7398812c645e", checked := Try.checked }
namespace Rows
def none {H : Type} : Left H := { results := [], args := [] }

/-- 'routinglaw38.SessionOpen': WHATEVER THE INPUT: true; the input reads as it did. -/
def sessionOpenSpec : ChangeSpec := { name := "sessionOpen", fn := fun _ => fun
  | [d1, d2] => { results := [.lit (.bool true)], args := [d1, d2] }
  | _ => none }
def sessionOpenRow : OpenClaim := { program := "ytnjmnofdpmginaa", sum := "9964b18b6244f6a3986121a0caa69f4469d5db064da9a99f262f7398812c645e", func := "routing/routinglaw38.SessionOpen", spec := "sessionOpen", unfollowed := true, recurses := true, apart := false }
def SessionOpenSaid : Prop := sessionOpenRow.holds Try.pinned (OpenSpec.ofChange sessionOpenSpec)

/-- ITS FALSE NEIGHBOUR: 'it returns false'. Refute it at one input. -/
def sessionOpenWrong : ChangeSpec := { name := "sessionOpen", fn := fun _ => fun
  | [d1, d2] => { results := [.lit (.bool false)], args := [d1, d2] }
  | _ => none }
def SessionOpenWrongFalsely : Prop := sessionOpenRow.holds Try.pinned (OpenSpec.ofChange sessionOpenWrong)

/-- 'routinglaw38.SessionAgree': WHATEVER THE INPUT: true; the input reads as it did. -/
def sessionAgreeSpec : ChangeSpec := { name := "sessionAgree", fn := fun _ => fun
  | [d1, d2, d3] => { results := [.lit (.bool true)], args := [d1, d2, d3] }
  | _ => none }
def sessionAgreeRow : OpenClaim := { program := "ytnjmnofdpmginaa", sum := "9964b18b6244f6a3986121a0caa69f4469d5db064da9a99f262f7398812c645e", func := "routing/routinglaw38.SessionAgree", spec := "sessionAgree", unfollowed := true, recurses := true, apart := false }
def SessionAgreeSaid : Prop := sessionAgreeRow.holds Try.pinned (OpenSpec.ofChange sessionAgreeSpec)

/-- ITS FALSE NEIGHBOUR: 'it returns false'. Refute it at one input. -/
def sessionAgreeWrong : ChangeSpec := { name := "sessionAgree", fn := fun _ => fun
  | [d1, d2, d3] => { results := [.lit (.bool false)], args := [d1, d2, d3] }
  | _ => none }
def SessionAgreeWrongFalsely : Prop := sessionAgreeRow.holds Try.pinned (OpenSpec.ofChange sessionAgreeWrong)

/-- 'routinglaw38.SessionTimer': WHATEVER THE INPUT: true; the input reads as it did. -/
def sessionTimerSpec : ChangeSpec := { name := "sessionTimer", fn := fun _ => fun
  | [d1, d2, d3] => { results := [.lit (.bool true)], args := [d1, d2, d3] }
  | _ => none }
def sessionTimerRow : OpenClaim := { program := "ytnjmnofdpmginaa", sum := "9964b18b6244f6a3986121a0caa69f4469d5db064da9a99f262f7398812c645e", func := "routing/routinglaw38.SessionTimer", spec := "sessionTimer", unfollowed := true, recurses := true, apart := false }
def SessionTimerSaid : Prop := sessionTimerRow.holds Try.pinned (OpenSpec.ofChange sessionTimerSpec)

/-- ITS FALSE NEIGHBOUR: 'it returns false'. Refute it at one input. -/
def sessionTimerWrong : ChangeSpec := { name := "sessionTimer", fn := fun _ => fun
  | [d1, d2, d3] => { results := [.lit (.bool false)], args := [d1, d2, d3] }
  | _ => none }
def SessionTimerWrongFalsely : Prop := sessionTimerRow.holds Try.pinned (OpenSpec.ofChange sessionTimerWrong)

/-- 'routinglaw38.SessionPair': WHATEVER THE INPUT: true; the input reads as it did. -/
def sessionPairSpec : ChangeSpec := { name := "sessionPair", fn := fun _ => fun
  | [d1, d2, d3] => { results := [.lit (.bool true)], args := [d1, d2, d3] }
  | _ => none }
def sessionPairRow : OpenClaim := { program := "ytnjmnofdpmginaa", sum := "9964b18b6244f6a3986121a0caa69f4469d5db064da9a99f262f7398812c645e", func := "routing/routinglaw38.SessionPair", spec := "sessionPair", unfollowed := true, recurses := true, apart := false }
def SessionPairSaid : Prop := sessionPairRow.holds Try.pinned (OpenSpec.ofChange sessionPairSpec)

/-- ITS FALSE NEIGHBOUR: 'it returns false'. Refute it at one input. -/
def sessionPairWrong : ChangeSpec := { name := "sessionPair", fn := fun _ => fun
  | [d1, d2, d3] => { results := [.lit (.bool false)], args := [d1, d2, d3] }
  | _ => none }
def SessionPairWrongFalsely : Prop := sessionPairRow.holds Try.pinned (OpenSpec.ofChange sessionPairWrong)

/-- 'routinglaw38.SessionOrder': WHATEVER THE INPUT: true; the input reads as it did. -/
def sessionOrderSpec : ChangeSpec := { name := "sessionOrder", fn := fun _ => fun
  | [d1, d2, d3] => { results := [.lit (.bool true)], args := [d1, d2, d3] }
  | _ => none }
def sessionOrderRow : OpenClaim := { program := "ytnjmnofdpmginaa", sum := "9964b18b6244f6a3986121a0caa69f4469d5db064da9a99f262f7398812c645e", func := "routing/routinglaw38.SessionOrder", spec := "sessionOrder", unfollowed := true, recurses := true, apart := false }
def SessionOrderSaid : Prop := sessionOrderRow.holds Try.pinned (OpenSpec.ofChange sessionOrderSpec)

/-- ITS FALSE NEIGHBOUR: 'it returns false'. Refute it at one input. -/
def sessionOrderWrong : ChangeSpec := { name := "sessionOrder", fn := fun _ => fun
  | [d1, d2, d3] => { results := [.lit (.bool false)], args := [d1, d2, d3] }
  | _ => none }
def SessionOrderWrongFalsely : Prop := sessionOrderRow.holds Try.pinned (OpenSpec.ofChange sessionOrderWrong)

/- THE SECOND FORM. 'bulk': how many values and letters a reading holds, each counted each time it is reached (what is shared counts as often as it is met; a slice's spare places count too). A statement '..UptoSaid' is the law's where the arguments, and the package variables that the reading takes, are together of bulk at most 1048576: NARROWER than '..Said'. Prove '..Said' where nothing that the law and all that it calls make is longer than what came in: it says more and counts as full. Else prove '..UptoSaid'. A law counts once. -/
mutual
def uptoBulk {H : Type} : DataW H → Nat
  | .lit (.string bytes) => bytes.length + 1
  | .lit _ => 1
  | .nil => 1
  | .ptr d => uptoBulk d + 1
  | .slice elems spare => uptoBulkAll elems + uptoBulkAll spare + 1
  | .agg parts => uptoBulkAll parts + 1
  | .iface _ d => uptoBulk d + 1
  | .map entries => uptoBulkEntries entries + 1
  | .held _ => 1
def uptoBulkAll {H : Type} : List (DataW H) → Nat
  | [] => 0
  | d :: r => uptoBulk d + uptoBulkAll r
def uptoBulkEntries {H : Type} : List (Lit × DataW H) → Nat
  | [] => 0
  | x :: r => uptoBulkEntry x + uptoBulkEntries r
def uptoBulkEntry {H : Type} : Lit × DataW H → Nat
  | (.string bytes, d) => bytes.length + uptoBulk d + 1
  | (_, d) => uptoBulk d + 1
 end
def uptoSmall : (H : Type) → List (DataW H) → Bool := fun _ ds => decide (uptoBulkAll ds ≤ 1048576)
def OpenSpec.upto (s : _root_.Go.ChangeSpec) : _root_.Go.OpenSpec := { _root_.Go.OpenSpec.ofChange s with cond := some uptoSmall }

/-- 'routinglaw38.SessionOpen', WHERE WHAT IT READS IS OF BULK AT MOST 1048576: true; the input reads as it did. -/
def sessionOpenUptoRow : OpenClaim := { program := "ytnjmnofdpmginaa", sum := "9964b18b6244f6a3986121a0caa69f4469d5db064da9a99f262f7398812c645e", func := "routing/routinglaw38.SessionOpen", spec := "sessionOpen", unfollowed := true, recurses := true, apart := false, narrowed := true }
def SessionOpenUptoSaid : Prop := sessionOpenUptoRow.holds Try.pinned (OpenSpec.upto sessionOpenSpec)

/-- 'routinglaw38.SessionAgree', WHERE WHAT IT READS IS OF BULK AT MOST 1048576: true; the input reads as it did. -/
def sessionAgreeUptoRow : OpenClaim := { program := "ytnjmnofdpmginaa", sum := "9964b18b6244f6a3986121a0caa69f4469d5db064da9a99f262f7398812c645e", func := "routing/routinglaw38.SessionAgree", spec := "sessionAgree", unfollowed := true, recurses := true, apart := false, narrowed := true }
def SessionAgreeUptoSaid : Prop := sessionAgreeUptoRow.holds Try.pinned (OpenSpec.upto sessionAgreeSpec)

/-- 'routinglaw38.SessionTimer', WHERE WHAT IT READS IS OF BULK AT MOST 1048576: true; the input reads as it did. -/
def sessionTimerUptoRow : OpenClaim := { program := "ytnjmnofdpmginaa", sum := "9964b18b6244f6a3986121a0caa69f4469d5db064da9a99f262f7398812c645e", func := "routing/routinglaw38.SessionTimer", spec := "sessionTimer", unfollowed := true, recurses := true, apart := false, narrowed := true }
def SessionTimerUptoSaid : Prop := sessionTimerUptoRow.holds Try.pinned (OpenSpec.upto sessionTimerSpec)

/-- 'routinglaw38.SessionPair', WHERE WHAT IT READS IS OF BULK AT MOST 1048576: true; the input reads as it did. -/
def sessionPairUptoRow : OpenClaim := { program := "ytnjmnofdpmginaa", sum := "9964b18b6244f6a3986121a0caa69f4469d5db064da9a99f262f7398812c645e", func := "routing/routinglaw38.SessionPair", spec := "sessionPair", unfollowed := true, recurses := true, apart := false, narrowed := true }
def SessionPairUptoSaid : Prop := sessionPairUptoRow.holds Try.pinned (OpenSpec.upto sessionPairSpec)

/-- 'routinglaw38.SessionOrder', WHERE WHAT IT READS IS OF BULK AT MOST 1048576: true; the input reads as it did. -/
def sessionOrderUptoRow : OpenClaim := { program := "ytnjmnofdpmginaa", sum := "9964b18b6244f6a3986121a0caa69f4469d5db064da9a99f262f7398812c645e", func := "routing/routinglaw38.SessionOrder", spec := "sessionOrder", unfollowed := true, recurses := true, apart := false, narrowed := true }
def SessionOrderUptoSaid : Prop := sessionOrderUptoRow.holds Try.pinned (OpenSpec.upto sessionOrderSpec)

end Rows
end Go.Proofs.Ytnjmnofdpmginaa
