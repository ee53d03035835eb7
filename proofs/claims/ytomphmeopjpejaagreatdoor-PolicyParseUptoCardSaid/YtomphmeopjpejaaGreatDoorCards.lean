/-
  DERIVED. GIVEN WITH THE SEED: THE CARDS: each row of YtomphmeopjpejaaGreatDoorRows.lean that lists a variable, with what it lists TIED to the program's text (the seventh form; the later family's looks); each row that meets fmt, with fmt's text TOLD by the authors' own Lean function (tested against real Go, not proved from fmt's source: count such statements apart). THE CARD IS WHAT COUNTS. Prove the row's statement (the work); the ties are given (YtomphmeopjpejaaGreatDoorTie.lean); close each card by the builder's one call (the guide's Derived/Test/ToyasCard.lean, 'card_holds'). Laid BY PROGRAM, IN A SANDBOX (cutbox-door.mjs). By AI agents, Wed Nov 11 2026. No macro, syntax, notation, axiom, sorry.
-/
import Derived.Test.YtomphmeopjpejaaGreatDoorRows
import GoSem.ClaimSeven
namespace Go.Proofs.YtomphmeopjpejaaGreatDoor
namespace Rows

/-- THE TIED CARD OF 'routinglaw20.PolicyCheck'. -/
def policyCheckCard : Claim7 := { stood := { row := policyCheckRow, standIns := [], harness := (true, "efc9a56f2a02130cdca90595cbc59c67bd8ac240a01b2c13c2492a6f21f47419"), looks := true }, kinds := [], alts := [], laidByText := true, laidKinds := [.data, .data, .data, .data, .sentinel, .sentinel, .pinned], laidTests := true, laidLooks := .later }
def PolicyCheckCardSaid : Prop := Claim7.holds Tryz.pinned (.plain (OpenSpec.ofChange policyCheckSpec)) policyCheckCard

/-- THE TIED CARD OF 'routinglaw20.PolicyBack'. -/
def policyBackCard : Claim7 := { stood := { row := policyBackRow, standIns := [], harness := (true, "efc9a56f2a02130cdca90595cbc59c67bd8ac240a01b2c13c2492a6f21f47419"), looks := true }, kinds := [], alts := [], laidByText := true, laidKinds := [.data, .data, .data, .data, .sentinel, .sentinel, .pinned], laidTests := true, laidLooks := .later }
def PolicyBackCardSaid : Prop := Claim7.holds Tryz.pinned (.plain (OpenSpec.ofChange policyBackSpec)) policyBackCard

/-- THE TIED CARD OF 'routinglaw20.PolicyParse'. -/
def policyParseCard : Claim7 := { stood := { row := policyParseRow, standIns := [], harness := (true, "efc9a56f2a02130cdca90595cbc59c67bd8ac240a01b2c13c2492a6f21f47419"), looks := true }, kinds := [], alts := [], laidByText := true, laidKinds := [.data, .data, .data, .data, .sentinel, .sentinel, .pinned], laidTests := true, laidLooks := .later }
def PolicyParseCardSaid : Prop := Claim7.holds Tryz.pinned (.plain (OpenSpec.ofChange policyParseSpec)) policyParseCard

/-- THE TIED CARD OF 'routinglaw20.PolicyValid'. -/
def policyValidCard : Claim7 := { stood := { row := policyValidRow, standIns := [], harness := (true, "efc9a56f2a02130cdca90595cbc59c67bd8ac240a01b2c13c2492a6f21f47419"), looks := true }, kinds := [], alts := [], laidByText := true, laidKinds := [.data, .data, .data, .data, .sentinel, .sentinel, .pinned], laidTests := true, laidLooks := .later }
def PolicyValidCardSaid : Prop := Claim7.holds Tryz.pinned (.plain (OpenSpec.ofChange policyValidSpec)) policyValidCard

/-- THE TIED CARD OF 'routinglaw20.PolicyFind'. -/
def policyFindCard : Claim7 := { stood := { row := policyFindRow, standIns := [], harness := (true, "efc9a56f2a02130cdca90595cbc59c67bd8ac240a01b2c13c2492a6f21f47419"), looks := true }, kinds := [], alts := [], laidByText := true, laidKinds := [.data, .data, .data, .data, .sentinel, .sentinel, .pinned], laidTests := true, laidLooks := .later }
def PolicyFindCardSaid : Prop := Claim7.holds Tryz.pinned (.plain (OpenSpec.ofChange policyFindSpec)) policyFindCard

/-- THE TIED CARD OF 'routinglaw20.PolicySame'. -/
def policySameCard : Claim7 := { stood := { row := policySameRow, standIns := [], harness := (true, "efc9a56f2a02130cdca90595cbc59c67bd8ac240a01b2c13c2492a6f21f47419"), looks := true }, kinds := [], alts := [], laidByText := true, laidKinds := [.data, .data, .data, .data, .sentinel, .sentinel, .pinned], laidTests := true, laidLooks := .later }
def PolicySameCardSaid : Prop := Claim7.holds Tryz.pinned (.plain (OpenSpec.ofChange policySameSpec)) policySameCard

/-- THE SECOND FORM's CARD OF 'routinglaw20.PolicyCheck'. -/
def policyCheckUptoCard : Claim7 := { stood := { row := policyCheckUptoRow, standIns := [], harness := (true, "efc9a56f2a02130cdca90595cbc59c67bd8ac240a01b2c13c2492a6f21f47419"), looks := true }, kinds := [], alts := [], laidByText := true, laidKinds := [.data, .data, .data, .data, .sentinel, .sentinel, .pinned], laidTests := true, laidLooks := .later }
def PolicyCheckUptoCardSaid : Prop := Claim7.holds Tryz.pinned (.plain (OpenSpec.upto policyCheckSpec)) policyCheckUptoCard

/-- THE SECOND FORM's CARD OF 'routinglaw20.PolicyBack'. -/
def policyBackUptoCard : Claim7 := { stood := { row := policyBackUptoRow, standIns := [], harness := (true, "efc9a56f2a02130cdca90595cbc59c67bd8ac240a01b2c13c2492a6f21f47419"), looks := true }, kinds := [], alts := [], laidByText := true, laidKinds := [.data, .data, .data, .data, .sentinel, .sentinel, .pinned], laidTests := true, laidLooks := .later }
def PolicyBackUptoCardSaid : Prop := Claim7.holds Tryz.pinned (.plain (OpenSpec.upto policyBackSpec)) policyBackUptoCard

/-- THE SECOND FORM's CARD OF 'routinglaw20.PolicyParse'. -/
def policyParseUptoCard : Claim7 := { stood := { row := policyParseUptoRow, standIns := [], harness := (true, "efc9a56f2a02130cdca90595cbc59c67bd8ac240a01b2c13c2492a6f21f47419"), looks := true }, kinds := [], alts := [], laidByText := true, laidKinds := [.data, .data, .data, .data, .sentinel, .sentinel, .pinned], laidTests := true, laidLooks := .later }
def PolicyParseUptoCardSaid : Prop := Claim7.holds Tryz.pinned (.plain (OpenSpec.upto policyParseSpec)) policyParseUptoCard

/-- THE SECOND FORM's CARD OF 'routinglaw20.PolicyValid'. -/
def policyValidUptoCard : Claim7 := { stood := { row := policyValidUptoRow, standIns := [], harness := (true, "efc9a56f2a02130cdca90595cbc59c67bd8ac240a01b2c13c2492a6f21f47419"), looks := true }, kinds := [], alts := [], laidByText := true, laidKinds := [.data, .data, .data, .data, .sentinel, .sentinel, .pinned], laidTests := true, laidLooks := .later }
def PolicyValidUptoCardSaid : Prop := Claim7.holds Tryz.pinned (.plain (OpenSpec.upto policyValidSpec)) policyValidUptoCard

/-- THE SECOND FORM's CARD OF 'routinglaw20.PolicyFind'. -/
def policyFindUptoCard : Claim7 := { stood := { row := policyFindUptoRow, standIns := [], harness := (true, "efc9a56f2a02130cdca90595cbc59c67bd8ac240a01b2c13c2492a6f21f47419"), looks := true }, kinds := [], alts := [], laidByText := true, laidKinds := [.data, .data, .data, .data, .sentinel, .sentinel, .pinned], laidTests := true, laidLooks := .later }
def PolicyFindUptoCardSaid : Prop := Claim7.holds Tryz.pinned (.plain (OpenSpec.upto policyFindSpec)) policyFindUptoCard

/-- THE SECOND FORM's CARD OF 'routinglaw20.PolicySame'. -/
def policySameUptoCard : Claim7 := { stood := { row := policySameUptoRow, standIns := [], harness := (true, "efc9a56f2a02130cdca90595cbc59c67bd8ac240a01b2c13c2492a6f21f47419"), looks := true }, kinds := [], alts := [], laidByText := true, laidKinds := [.data, .data, .data, .data, .sentinel, .sentinel, .pinned], laidTests := true, laidLooks := .later }
def PolicySameUptoCardSaid : Prop := Claim7.holds Tryz.pinned (.plain (OpenSpec.upto policySameSpec)) policySameUptoCard
end Rows
end Go.Proofs.YtomphmeopjpejaaGreatDoor
