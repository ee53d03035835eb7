/-
  DERIVED. GIVEN WITH THE SEED: THE CARDS: each row of YtekpmkbdjkoooaaGreatDoorRows.lean that lists a variable, with what it lists TIED to the program's text (the seventh form; the later family's looks); each row that meets fmt, with fmt's text TOLD by the authors' own Lean function (tested against real Go, not proved from fmt's source: count such statements apart). THE CARD IS WHAT COUNTS. Prove the row's statement (the work); the ties are given (YtekpmkbdjkoooaaGreatDoorTie.lean); close each card by the builder's one call (the guide's Derived/Test/ToyasCard.lean, 'card_holds'). Laid BY PROGRAM, IN A SANDBOX (cutbox-door.mjs). By AI agents, Wed Nov 11 2026. No macro, syntax, notation, axiom, sorry.
-/
import Derived.Test.YtekpmkbdjkoooaaGreatDoorRows
import GoSem.ClaimSeven
namespace Go.Proofs.YtekpmkbdjkoooaaGreatDoor
namespace Rows

/-- THE TIED CARD OF 'routinglaw53.TopologyPrints'. -/
def topologyPrintsCard : Claim7 := { stood := { row := topologyPrintsRow, standIns := [], harness := (true, "1e79c261b07cfe7446985324763cb85a1cd6dbe1d717cfff34d1c38bc3f4fd35"), looks := true }, kinds := [], alts := [], laidByText := true, laidKinds := [.data, .data, .data, .data, .sentinel, .sentinel, .pinned], laidTests := true, laidLooks := .later }
def TopologyPrintsCardSaid : Prop := Claim7.holds Tryz.pinned (.plain (OpenSpec.ofChange topologyPrintsSpec)) topologyPrintsCard

/-- THE TIED CARD OF 'routinglaw53.TopologyGraphs'. -/
def topologyGraphsCard : Claim7 := { stood := { row := topologyGraphsRow, standIns := [], harness := (true, "1e79c261b07cfe7446985324763cb85a1cd6dbe1d717cfff34d1c38bc3f4fd35"), looks := true }, kinds := [], alts := [], laidByText := true, laidKinds := [.data, .data, .data, .data, .sentinel, .sentinel, .pinned], laidTests := true, laidLooks := .later }
def TopologyGraphsCardSaid : Prop := Claim7.holds Tryz.pinned (.plain (OpenSpec.ofChange topologyGraphsSpec)) topologyGraphsCard

/-- THE SECOND FORM's CARD OF 'routinglaw53.TopologyPrints'. -/
def topologyPrintsUptoCard : Claim7 := { stood := { row := topologyPrintsUptoRow, standIns := [], harness := (true, "1e79c261b07cfe7446985324763cb85a1cd6dbe1d717cfff34d1c38bc3f4fd35"), looks := true }, kinds := [], alts := [], laidByText := true, laidKinds := [.data, .data, .data, .data, .sentinel, .sentinel, .pinned], laidTests := true, laidLooks := .later }
def TopologyPrintsUptoCardSaid : Prop := Claim7.holds Tryz.pinned (.plain (OpenSpec.upto topologyPrintsSpec)) topologyPrintsUptoCard

/-- THE SECOND FORM's CARD OF 'routinglaw53.TopologyGraphs'. -/
def topologyGraphsUptoCard : Claim7 := { stood := { row := topologyGraphsUptoRow, standIns := [], harness := (true, "1e79c261b07cfe7446985324763cb85a1cd6dbe1d717cfff34d1c38bc3f4fd35"), looks := true }, kinds := [], alts := [], laidByText := true, laidKinds := [.data, .data, .data, .data, .sentinel, .sentinel, .pinned], laidTests := true, laidLooks := .later }
def TopologyGraphsUptoCardSaid : Prop := Claim7.holds Tryz.pinned (.plain (OpenSpec.upto topologyGraphsSpec)) topologyGraphsUptoCard
end Rows
end Go.Proofs.YtekpmkbdjkoooaaGreatDoor
