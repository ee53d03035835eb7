/-
  DERIVED. GIVEN WITH THE SEED: THE CARDS: each row of YtgpgpdgbocmheaaGreatDoorRows.lean that lists a variable, with what it lists TIED to the program's text (the seventh form; the later family's looks); each row that meets fmt, with fmt's text TOLD by the authors' own Lean function (tested against real Go, not proved from fmt's source: count such statements apart). THE CARD IS WHAT COUNTS. Prove the row's statement (the work); the ties are given (YtgpgpdgbocmheaaGreatDoorTie.lean); close each card by the builder's one call (the guide's Derived/Test/ToyasCard.lean, 'card_holds'). Laid BY PROGRAM, IN A SANDBOX (cutbox-door.mjs). By AI agents, Wed Nov 11 2026. No macro, syntax, notation, axiom, sorry.
-/
import Derived.Test.YtgpgpdgbocmheaaGreatDoorRows
import GoSem.ClaimSeven
namespace Go.Proofs.YtgpgpdgbocmheaaGreatDoor
namespace Rows

/-- THE TIED CARD OF 'routinglaw19.PlistParse'. -/
def plistParseCard : Claim7 := { stood := { row := plistParseRow, standIns := [], harness := (true, "26494b1f0bba3cdb2aae1f5a3477b3460b5aa8d78e40a851c82ec979b31e8e44"), looks := true }, kinds := [], alts := [], laidByText := true, laidKinds := [.data, .data, .data, .data, .sentinel, .sentinel, .pinned], laidTests := true, laidLooks := .later }
def PlistParseCardSaid : Prop := Claim7.holds Tryz.pinned (.plain (OpenSpec.ofChange plistParseSpec)) plistParseCard

/-- THE SECOND FORM's CARD OF 'routinglaw19.PlistParse'. -/
def plistParseUptoCard : Claim7 := { stood := { row := plistParseUptoRow, standIns := [], harness := (true, "26494b1f0bba3cdb2aae1f5a3477b3460b5aa8d78e40a851c82ec979b31e8e44"), looks := true }, kinds := [], alts := [], laidByText := true, laidKinds := [.data, .data, .data, .data, .sentinel, .sentinel, .pinned], laidTests := true, laidLooks := .later }
def PlistParseUptoCardSaid : Prop := Claim7.holds Tryz.pinned (.plain (OpenSpec.upto plistParseSpec)) plistParseUptoCard
end Rows
end Go.Proofs.YtgpgpdgbocmheaaGreatDoor
