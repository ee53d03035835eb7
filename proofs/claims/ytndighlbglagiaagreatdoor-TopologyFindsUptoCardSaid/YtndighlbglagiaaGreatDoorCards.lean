/-
  DERIVED. GIVEN WITH THE SEED: THE CARDS: each row of YtndighlbglagiaaGreatDoorRows.lean that lists a variable, with what it lists TIED to the program's text (the seventh form; the later family's looks); each row that meets fmt, with fmt's text TOLD by the authors' own Lean function (tested against real Go, not proved from fmt's source: count such statements apart). THE CARD IS WHAT COUNTS. Prove the row's statement (the work); the ties are given (YtndighlbglagiaaGreatDoorTie.lean); close each card by the builder's one call (the guide's Derived/Test/ToyasCard.lean, 'card_holds'). Laid BY PROGRAM, IN A SANDBOX (cutbox-door.mjs). By AI agents, Wed Nov 11 2026. No macro, syntax, notation, axiom, sorry.
-/
import Derived.Test.YtndighlbglagiaaGreatDoorRows
import GoSem.ClaimSeven
namespace Go.Proofs.YtndighlbglagiaaGreatDoor
namespace Rows

/-- THE TIED CARD OF 'routinglaw53.TopologyFinds'. -/
def topologyFindsCard : Claim7 := { stood := { row := topologyFindsRow, standIns := [], harness := (true, "e8880f9f99a7e09e7905736457c86a5fb873c595d2101bd4675461e5ecc51c13"), looks := true }, kinds := [], alts := [], laidByText := true, laidKinds := [.data, .data, .data, .data, .sentinel, .sentinel, .pinned], laidTests := true, laidLooks := .later }
def TopologyFindsCardSaid : Prop := Claim7.holds Tryz.pinned (.plain (OpenSpec.ofChange topologyFindsSpec)) topologyFindsCard

/-- THE SECOND FORM's CARD OF 'routinglaw53.TopologyFinds'. -/
def topologyFindsUptoCard : Claim7 := { stood := { row := topologyFindsUptoRow, standIns := [], harness := (true, "e8880f9f99a7e09e7905736457c86a5fb873c595d2101bd4675461e5ecc51c13"), looks := true }, kinds := [], alts := [], laidByText := true, laidKinds := [.data, .data, .data, .data, .sentinel, .sentinel, .pinned], laidTests := true, laidLooks := .later }
def TopologyFindsUptoCardSaid : Prop := Claim7.holds Tryz.pinned (.plain (OpenSpec.upto topologyFindsSpec)) topologyFindsUptoCard
end Rows
end Go.Proofs.YtndighlbglagiaaGreatDoor
