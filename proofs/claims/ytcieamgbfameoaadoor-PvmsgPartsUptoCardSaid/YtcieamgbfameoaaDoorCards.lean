/-
  DERIVED. GIVEN WITH THE SEED: THE CARDS: each row of YtcieamgbfameoaaDoorRows.lean that lists a variable, with what it lists TIED to the program's text (the seventh form; the later family's looks); each row that meets fmt, with fmt's text TOLD by the authors' own Lean function (tested against real Go, not proved from fmt's source: count such statements apart). THE CARD IS WHAT COUNTS. Prove the row's statement (the work); the ties are given (YtcieamgbfameoaaDoorTie.lean); close each card by the builder's one call (the guide's Derived/Test/ToyasCard.lean, 'card_holds'). Laid BY PROGRAM, IN A SANDBOX (cutbox-door.mjs). By AI agents, Wed Nov 11 2026. No macro, syntax, notation, axiom, sorry.
-/
import Derived.Test.YtcieamgbfameoaaDoorRows
import GoSem.ClaimSeven
namespace Go.Proofs.YtcieamgbfameoaaDoor
namespace Rows

/-- THE TIED CARD OF 'routinglaw37.PvmsgCheck'. -/
def pvmsgCheckCard : Claim7 := { stood := { row := pvmsgCheckRow, standIns := [], harness := (true, "3ef83e7d4f99b4b1415adee219194b9a3c1f700b3b02f7365d0c5a8cd45883a9"), looks := false }, kinds := [], alts := [], laidByText := true, laidKinds := [.data], laidTests := true, laidLooks := .later }
def PvmsgCheckCardSaid : Prop := Claim7.holds Tryd.pinned (.plain (OpenSpec.ofChange pvmsgCheckSpec)) pvmsgCheckCard

/-- THE TIED CARD OF 'routinglaw37.PvmsgBack'. -/
def pvmsgBackCard : Claim7 := { stood := { row := pvmsgBackRow, standIns := [], harness := (true, "3ef83e7d4f99b4b1415adee219194b9a3c1f700b3b02f7365d0c5a8cd45883a9"), looks := false }, kinds := [], alts := [], laidByText := true, laidKinds := [.data], laidTests := true, laidLooks := .later }
def PvmsgBackCardSaid : Prop := Claim7.holds Tryd.pinned (.plain (OpenSpec.ofChange pvmsgBackSpec)) pvmsgBackCard

/-- THE TIED CARD OF 'routinglaw37.PvmsgFault'. -/
def pvmsgFaultCard : Claim7 := { stood := { row := pvmsgFaultRow, standIns := [], harness := (true, "3ef83e7d4f99b4b1415adee219194b9a3c1f700b3b02f7365d0c5a8cd45883a9"), looks := false }, kinds := [], alts := [], laidByText := true, laidKinds := [.data], laidTests := true, laidLooks := .later }
def PvmsgFaultCardSaid : Prop := Claim7.holds Tryd.pinned (.plain (OpenSpec.ofChange pvmsgFaultSpec)) pvmsgFaultCard

/-- THE TIED CARD OF 'routinglaw37.PvmsgParts'. -/
def pvmsgPartsCard : Claim7 := { stood := { row := pvmsgPartsRow, standIns := [], harness := (true, "3ef83e7d4f99b4b1415adee219194b9a3c1f700b3b02f7365d0c5a8cd45883a9"), looks := false }, kinds := [], alts := [], laidByText := true, laidKinds := [.data], laidTests := true, laidLooks := .later }
def PvmsgPartsCardSaid : Prop := Claim7.holds Tryd.pinned (.plain (OpenSpec.ofChange pvmsgPartsSpec)) pvmsgPartsCard

/-- THE TIED CARD OF 'routinglaw37.PvmsgSame'. -/
def pvmsgSameCard : Claim7 := { stood := { row := pvmsgSameRow, standIns := [], harness := (true, "3ef83e7d4f99b4b1415adee219194b9a3c1f700b3b02f7365d0c5a8cd45883a9"), looks := false }, kinds := [], alts := [], laidByText := true, laidKinds := [.data], laidTests := true, laidLooks := .later }
def PvmsgSameCardSaid : Prop := Claim7.holds Tryd.pinned (.plain (OpenSpec.ofChange pvmsgSameSpec)) pvmsgSameCard

/-- THE SECOND FORM's CARD OF 'routinglaw37.PvmsgCheck'. -/
def pvmsgCheckUptoCard : Claim7 := { stood := { row := pvmsgCheckUptoRow, standIns := [], harness := (true, "3ef83e7d4f99b4b1415adee219194b9a3c1f700b3b02f7365d0c5a8cd45883a9"), looks := false }, kinds := [], alts := [], laidByText := true, laidKinds := [.data], laidTests := true, laidLooks := .later }
def PvmsgCheckUptoCardSaid : Prop := Claim7.holds Tryd.pinned (.plain (OpenSpec.upto pvmsgCheckSpec)) pvmsgCheckUptoCard

/-- THE SECOND FORM's CARD OF 'routinglaw37.PvmsgBack'. -/
def pvmsgBackUptoCard : Claim7 := { stood := { row := pvmsgBackUptoRow, standIns := [], harness := (true, "3ef83e7d4f99b4b1415adee219194b9a3c1f700b3b02f7365d0c5a8cd45883a9"), looks := false }, kinds := [], alts := [], laidByText := true, laidKinds := [.data], laidTests := true, laidLooks := .later }
def PvmsgBackUptoCardSaid : Prop := Claim7.holds Tryd.pinned (.plain (OpenSpec.upto pvmsgBackSpec)) pvmsgBackUptoCard

/-- THE SECOND FORM's CARD OF 'routinglaw37.PvmsgFault'. -/
def pvmsgFaultUptoCard : Claim7 := { stood := { row := pvmsgFaultUptoRow, standIns := [], harness := (true, "3ef83e7d4f99b4b1415adee219194b9a3c1f700b3b02f7365d0c5a8cd45883a9"), looks := false }, kinds := [], alts := [], laidByText := true, laidKinds := [.data], laidTests := true, laidLooks := .later }
def PvmsgFaultUptoCardSaid : Prop := Claim7.holds Tryd.pinned (.plain (OpenSpec.upto pvmsgFaultSpec)) pvmsgFaultUptoCard

/-- THE SECOND FORM's CARD OF 'routinglaw37.PvmsgParts'. -/
def pvmsgPartsUptoCard : Claim7 := { stood := { row := pvmsgPartsUptoRow, standIns := [], harness := (true, "3ef83e7d4f99b4b1415adee219194b9a3c1f700b3b02f7365d0c5a8cd45883a9"), looks := false }, kinds := [], alts := [], laidByText := true, laidKinds := [.data], laidTests := true, laidLooks := .later }
def PvmsgPartsUptoCardSaid : Prop := Claim7.holds Tryd.pinned (.plain (OpenSpec.upto pvmsgPartsSpec)) pvmsgPartsUptoCard

/-- THE SECOND FORM's CARD OF 'routinglaw37.PvmsgSame'. -/
def pvmsgSameUptoCard : Claim7 := { stood := { row := pvmsgSameUptoRow, standIns := [], harness := (true, "3ef83e7d4f99b4b1415adee219194b9a3c1f700b3b02f7365d0c5a8cd45883a9"), looks := false }, kinds := [], alts := [], laidByText := true, laidKinds := [.data], laidTests := true, laidLooks := .later }
def PvmsgSameUptoCardSaid : Prop := Claim7.holds Tryd.pinned (.plain (OpenSpec.upto pvmsgSameSpec)) pvmsgSameUptoCard
end Rows
end Go.Proofs.YtcieamgbfameoaaDoor
