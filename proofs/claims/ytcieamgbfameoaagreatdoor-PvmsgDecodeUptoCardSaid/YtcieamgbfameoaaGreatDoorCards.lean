/-
  DERIVED. GIVEN WITH THE SEED: THE CARDS: each row of YtcieamgbfameoaaGreatDoorRows.lean that lists a variable, with what it lists TIED to the program's text (the seventh form; the later family's looks); each row that meets fmt, with fmt's text TOLD by the authors' own Lean function (tested against real Go, not proved from fmt's source: count such statements apart). THE CARD IS WHAT COUNTS. Prove the row's statement (the work); the ties are given (YtcieamgbfameoaaGreatDoorTie.lean); close each card by the builder's one call (the guide's Derived/Test/ToyasCard.lean, 'card_holds'). Laid BY PROGRAM, IN A SANDBOX (cutbox-door.mjs). By AI agents, Wed Nov 11 2026. No macro, syntax, notation, axiom, sorry.
-/
import Derived.Test.YtcieamgbfameoaaGreatDoorRows
import GoSem.ClaimSeven
namespace Go.Proofs.YtcieamgbfameoaaGreatDoor
namespace Rows

/-- THE TIED CARD OF 'routinglaw37.PvmsgEncode'. -/
def pvmsgEncodeCard : Claim7 := { stood := { row := pvmsgEncodeRow, standIns := [], harness := (true, "33adf5d6f56700f0e6104c9eac2859530c902e38a28178a02d243241bc69cceb"), looks := false }, kinds := [], alts := [], laidByText := true, laidKinds := [.data], laidTests := true, laidLooks := .later }
def PvmsgEncodeCardSaid : Prop := Claim7.holds Tryz.pinned (.plain (OpenSpec.ofChange pvmsgEncodeSpec)) pvmsgEncodeCard

/-- THE TIED CARD OF 'routinglaw37.PvmsgDecode'. -/
def pvmsgDecodeCard : Claim7 := { stood := { row := pvmsgDecodeRow, standIns := [], harness := (true, "33adf5d6f56700f0e6104c9eac2859530c902e38a28178a02d243241bc69cceb"), looks := false }, kinds := [], alts := [], laidByText := true, laidKinds := [.data], laidTests := true, laidLooks := .later }
def PvmsgDecodeCardSaid : Prop := Claim7.holds Tryz.pinned (.plain (OpenSpec.ofChange pvmsgDecodeSpec)) pvmsgDecodeCard

/-- THE TIED CARD OF 'routinglaw37.PvmsgSplit'. -/
def pvmsgSplitCard : Claim7 := { stood := { row := pvmsgSplitRow, standIns := [], harness := (true, "33adf5d6f56700f0e6104c9eac2859530c902e38a28178a02d243241bc69cceb"), looks := false }, kinds := [], alts := [], laidByText := true, laidKinds := [.data], laidTests := true, laidLooks := .later }
def PvmsgSplitCardSaid : Prop := Claim7.holds Tryz.pinned (.plain (OpenSpec.ofChange pvmsgSplitSpec)) pvmsgSplitCard

/-- THE SECOND FORM's CARD OF 'routinglaw37.PvmsgEncode'. -/
def pvmsgEncodeUptoCard : Claim7 := { stood := { row := pvmsgEncodeUptoRow, standIns := [], harness := (true, "33adf5d6f56700f0e6104c9eac2859530c902e38a28178a02d243241bc69cceb"), looks := false }, kinds := [], alts := [], laidByText := true, laidKinds := [.data], laidTests := true, laidLooks := .later }
def PvmsgEncodeUptoCardSaid : Prop := Claim7.holds Tryz.pinned (.plain (OpenSpec.upto pvmsgEncodeSpec)) pvmsgEncodeUptoCard

/-- THE SECOND FORM's CARD OF 'routinglaw37.PvmsgDecode'. -/
def pvmsgDecodeUptoCard : Claim7 := { stood := { row := pvmsgDecodeUptoRow, standIns := [], harness := (true, "33adf5d6f56700f0e6104c9eac2859530c902e38a28178a02d243241bc69cceb"), looks := false }, kinds := [], alts := [], laidByText := true, laidKinds := [.data], laidTests := true, laidLooks := .later }
def PvmsgDecodeUptoCardSaid : Prop := Claim7.holds Tryz.pinned (.plain (OpenSpec.upto pvmsgDecodeSpec)) pvmsgDecodeUptoCard

/-- THE SECOND FORM's CARD OF 'routinglaw37.PvmsgSplit'. -/
def pvmsgSplitUptoCard : Claim7 := { stood := { row := pvmsgSplitUptoRow, standIns := [], harness := (true, "33adf5d6f56700f0e6104c9eac2859530c902e38a28178a02d243241bc69cceb"), looks := false }, kinds := [], alts := [], laidByText := true, laidKinds := [.data], laidTests := true, laidLooks := .later }
def PvmsgSplitUptoCardSaid : Prop := Claim7.holds Tryz.pinned (.plain (OpenSpec.upto pvmsgSplitSpec)) pvmsgSplitUptoCard
end Rows
end Go.Proofs.YtcieamgbfameoaaGreatDoor
