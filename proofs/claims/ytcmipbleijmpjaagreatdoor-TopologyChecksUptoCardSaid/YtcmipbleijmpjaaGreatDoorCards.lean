/-
  DERIVED. GIVEN WITH THE SEED: THE CARDS: each row of YtcmipbleijmpjaaGreatDoorRows.lean that lists a variable, with what it lists TIED to the program's text (the seventh form; the later family's looks); each row that meets fmt, with fmt's text TOLD by the authors' own Lean function (tested against real Go, not proved from fmt's source: count such statements apart). THE CARD IS WHAT COUNTS. Prove the row's statement (the work); the ties are given (YtcmipbleijmpjaaGreatDoorTie.lean); close each card by the builder's one call (the guide's Derived/Test/ToyasCard.lean, 'card_holds'). Laid BY PROGRAM, IN A SANDBOX (cutbox-door.mjs). By AI agents, Wed Nov 11 2026. No macro, syntax, notation, axiom, sorry.
-/
import Derived.Test.YtcmipbleijmpjaaGreatDoorRows
import GoSem.ClaimSeven
namespace Go.Proofs.YtcmipbleijmpjaaGreatDoor
namespace Rows

/-- THE TIED CARD OF 'routinglaw53.TopologyChecks'. -/
def topologyChecksCard : Claim7 := { stood := { row := topologyChecksRow, standIns := [], harness := (true, "0ce5f4f6cf853e6ab97d3e84504026a7fbfee9d1428b56fc39af0f3d5f655fea"), looks := true }, kinds := [], alts := [], laidByText := true, laidKinds := [.data, .data, .data, .data, .sentinel, .sentinel, .pinned], laidTests := true, laidLooks := .later }
def TopologyChecksCardSaid : Prop := Claim7.holds Tryz.pinned (.plain (OpenSpec.ofChange topologyChecksSpec)) topologyChecksCard

/-- THE TIED CARD OF 'routinglaw53.TopologyPeers'. -/
def topologyPeersCard : Claim7 := { stood := { row := topologyPeersRow, standIns := [], harness := (true, "0ce5f4f6cf853e6ab97d3e84504026a7fbfee9d1428b56fc39af0f3d5f655fea"), looks := true }, kinds := [], alts := [], laidByText := true, laidKinds := [.data, .data, .data, .data, .sentinel, .sentinel, .pinned], laidTests := true, laidLooks := .later }
def TopologyPeersCardSaid : Prop := Claim7.holds Tryz.pinned (.plain (OpenSpec.ofChange topologyPeersSpec)) topologyPeersCard

/-- THE TIED CARD OF 'routinglaw53.TopologySessions'. -/
def topologySessionsCard : Claim7 := { stood := { row := topologySessionsRow, standIns := [], harness := (true, "0ce5f4f6cf853e6ab97d3e84504026a7fbfee9d1428b56fc39af0f3d5f655fea"), looks := true }, kinds := [], alts := [], laidByText := true, laidKinds := [.data, .data, .data, .data, .sentinel, .sentinel, .pinned], laidTests := true, laidLooks := .later }
def TopologySessionsCardSaid : Prop := Claim7.holds Tryz.pinned (.plain (OpenSpec.ofChange topologySessionsSpec)) topologySessionsCard

/-- THE SECOND FORM's CARD OF 'routinglaw53.TopologyChecks'. -/
def topologyChecksUptoCard : Claim7 := { stood := { row := topologyChecksUptoRow, standIns := [], harness := (true, "0ce5f4f6cf853e6ab97d3e84504026a7fbfee9d1428b56fc39af0f3d5f655fea"), looks := true }, kinds := [], alts := [], laidByText := true, laidKinds := [.data, .data, .data, .data, .sentinel, .sentinel, .pinned], laidTests := true, laidLooks := .later }
def TopologyChecksUptoCardSaid : Prop := Claim7.holds Tryz.pinned (.plain (OpenSpec.upto topologyChecksSpec)) topologyChecksUptoCard

/-- THE SECOND FORM's CARD OF 'routinglaw53.TopologyPeers'. -/
def topologyPeersUptoCard : Claim7 := { stood := { row := topologyPeersUptoRow, standIns := [], harness := (true, "0ce5f4f6cf853e6ab97d3e84504026a7fbfee9d1428b56fc39af0f3d5f655fea"), looks := true }, kinds := [], alts := [], laidByText := true, laidKinds := [.data, .data, .data, .data, .sentinel, .sentinel, .pinned], laidTests := true, laidLooks := .later }
def TopologyPeersUptoCardSaid : Prop := Claim7.holds Tryz.pinned (.plain (OpenSpec.upto topologyPeersSpec)) topologyPeersUptoCard

/-- THE SECOND FORM's CARD OF 'routinglaw53.TopologySessions'. -/
def topologySessionsUptoCard : Claim7 := { stood := { row := topologySessionsUptoRow, standIns := [], harness := (true, "0ce5f4f6cf853e6ab97d3e84504026a7fbfee9d1428b56fc39af0f3d5f655fea"), looks := true }, kinds := [], alts := [], laidByText := true, laidKinds := [.data, .data, .data, .data, .sentinel, .sentinel, .pinned], laidTests := true, laidLooks := .later }
def TopologySessionsUptoCardSaid : Prop := Claim7.holds Tryz.pinned (.plain (OpenSpec.upto topologySessionsSpec)) topologySessionsUptoCard
end Rows
end Go.Proofs.YtcmipbleijmpjaaGreatDoor
