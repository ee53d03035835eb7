/-
  DERIVED. GIVEN WITH THE SEED: THE CARDS: each row of YtmegckhnpipdhaaDoorRows.lean that lists a variable, with what it lists TIED to the program's text (the seventh form; the later family's looks); each row that meets fmt, with fmt's text TOLD by the authors' own Lean function (tested against real Go, not proved from fmt's source: count such statements apart). THE CARD IS WHAT COUNTS. Prove the row's statement (the work); the ties are given (YtmegckhnpipdhaaDoorTie.lean); close each card by the builder's one call (the guide's Derived/Test/ToyasCard.lean, 'card_holds'). Laid BY PROGRAM, IN A SANDBOX (cutbox-door.mjs). By AI agents, Wed Nov 11 2026. No macro, syntax, notation, axiom, sorry.
-/
import Derived.Test.YtmegckhnpipdhaaDoorRows
import GoSem.ClaimSeven
namespace Go.Proofs.YtmegckhnpipdhaaDoor
namespace Rows

/-- THE TIED CARD OF 'routinglaw36.AttrsCheck'. -/
def attrsCheckCard : Claim7 := { stood := { row := attrsCheckRow, standIns := [], harness := (true, "7e8d7f855c448fd72cc756b840c60ac09a8df42ef7791324229c11cc7e2c8151"), looks := false }, kinds := [], alts := [], laidByText := true, laidKinds := [.data], laidTests := true, laidLooks := .later }
def AttrsCheckCardSaid : Prop := Claim7.holds Tryd.pinned (.plain (OpenSpec.ofChange attrsCheckSpec)) attrsCheckCard

/-- THE TIED CARD OF 'routinglaw36.AttrsEncode'. -/
def attrsEncodeCard : Claim7 := { stood := { row := attrsEncodeRow, standIns := [], harness := (true, "7e8d7f855c448fd72cc756b840c60ac09a8df42ef7791324229c11cc7e2c8151"), looks := false }, kinds := [], alts := [], laidByText := true, laidKinds := [.data], laidTests := true, laidLooks := .later }
def AttrsEncodeCardSaid : Prop := Claim7.holds Tryd.pinned (.plain (OpenSpec.ofChange attrsEncodeSpec)) attrsEncodeCard

/-- THE TIED CARD OF 'routinglaw36.AttrsBack'. -/
def attrsBackCard : Claim7 := { stood := { row := attrsBackRow, standIns := [], harness := (true, "7e8d7f855c448fd72cc756b840c60ac09a8df42ef7791324229c11cc7e2c8151"), looks := false }, kinds := [], alts := [], laidByText := true, laidKinds := [.data], laidTests := true, laidLooks := .later }
def AttrsBackCardSaid : Prop := Claim7.holds Tryd.pinned (.plain (OpenSpec.ofChange attrsBackSpec)) attrsBackCard

/-- THE TIED CARD OF 'routinglaw36.AttrsDecode'. -/
def attrsDecodeCard : Claim7 := { stood := { row := attrsDecodeRow, standIns := [], harness := (true, "7e8d7f855c448fd72cc756b840c60ac09a8df42ef7791324229c11cc7e2c8151"), looks := false }, kinds := [], alts := [], laidByText := true, laidKinds := [.data], laidTests := true, laidLooks := .later }
def AttrsDecodeCardSaid : Prop := Claim7.holds Tryd.pinned (.plain (OpenSpec.ofChange attrsDecodeSpec)) attrsDecodeCard

/-- THE TIED CARD OF 'routinglaw36.AttrsWide'. -/
def attrsWideCard : Claim7 := { stood := { row := attrsWideRow, standIns := [], harness := (true, "7e8d7f855c448fd72cc756b840c60ac09a8df42ef7791324229c11cc7e2c8151"), looks := false }, kinds := [], alts := [], laidByText := true, laidKinds := [.data], laidTests := true, laidLooks := .later }
def AttrsWideCardSaid : Prop := Claim7.holds Tryd.pinned (.plain (OpenSpec.ofChange attrsWideSpec)) attrsWideCard

/-- THE TIED CARD OF 'routinglaw36.AttrsSame'. -/
def attrsSameCard : Claim7 := { stood := { row := attrsSameRow, standIns := [], harness := (true, "7e8d7f855c448fd72cc756b840c60ac09a8df42ef7791324229c11cc7e2c8151"), looks := false }, kinds := [], alts := [], laidByText := true, laidKinds := [.data], laidTests := true, laidLooks := .later }
def AttrsSameCardSaid : Prop := Claim7.holds Tryd.pinned (.plain (OpenSpec.ofChange attrsSameSpec)) attrsSameCard

/-- THE SECOND FORM's CARD OF 'routinglaw36.AttrsCheck'. -/
def attrsCheckUptoCard : Claim7 := { stood := { row := attrsCheckUptoRow, standIns := [], harness := (true, "7e8d7f855c448fd72cc756b840c60ac09a8df42ef7791324229c11cc7e2c8151"), looks := false }, kinds := [], alts := [], laidByText := true, laidKinds := [.data], laidTests := true, laidLooks := .later }
def AttrsCheckUptoCardSaid : Prop := Claim7.holds Tryd.pinned (.plain (OpenSpec.upto attrsCheckSpec)) attrsCheckUptoCard

/-- THE SECOND FORM's CARD OF 'routinglaw36.AttrsEncode'. -/
def attrsEncodeUptoCard : Claim7 := { stood := { row := attrsEncodeUptoRow, standIns := [], harness := (true, "7e8d7f855c448fd72cc756b840c60ac09a8df42ef7791324229c11cc7e2c8151"), looks := false }, kinds := [], alts := [], laidByText := true, laidKinds := [.data], laidTests := true, laidLooks := .later }
def AttrsEncodeUptoCardSaid : Prop := Claim7.holds Tryd.pinned (.plain (OpenSpec.upto attrsEncodeSpec)) attrsEncodeUptoCard

/-- THE SECOND FORM's CARD OF 'routinglaw36.AttrsBack'. -/
def attrsBackUptoCard : Claim7 := { stood := { row := attrsBackUptoRow, standIns := [], harness := (true, "7e8d7f855c448fd72cc756b840c60ac09a8df42ef7791324229c11cc7e2c8151"), looks := false }, kinds := [], alts := [], laidByText := true, laidKinds := [.data], laidTests := true, laidLooks := .later }
def AttrsBackUptoCardSaid : Prop := Claim7.holds Tryd.pinned (.plain (OpenSpec.upto attrsBackSpec)) attrsBackUptoCard

/-- THE SECOND FORM's CARD OF 'routinglaw36.AttrsDecode'. -/
def attrsDecodeUptoCard : Claim7 := { stood := { row := attrsDecodeUptoRow, standIns := [], harness := (true, "7e8d7f855c448fd72cc756b840c60ac09a8df42ef7791324229c11cc7e2c8151"), looks := false }, kinds := [], alts := [], laidByText := true, laidKinds := [.data], laidTests := true, laidLooks := .later }
def AttrsDecodeUptoCardSaid : Prop := Claim7.holds Tryd.pinned (.plain (OpenSpec.upto attrsDecodeSpec)) attrsDecodeUptoCard

/-- THE SECOND FORM's CARD OF 'routinglaw36.AttrsWide'. -/
def attrsWideUptoCard : Claim7 := { stood := { row := attrsWideUptoRow, standIns := [], harness := (true, "7e8d7f855c448fd72cc756b840c60ac09a8df42ef7791324229c11cc7e2c8151"), looks := false }, kinds := [], alts := [], laidByText := true, laidKinds := [.data], laidTests := true, laidLooks := .later }
def AttrsWideUptoCardSaid : Prop := Claim7.holds Tryd.pinned (.plain (OpenSpec.upto attrsWideSpec)) attrsWideUptoCard

/-- THE SECOND FORM's CARD OF 'routinglaw36.AttrsSame'. -/
def attrsSameUptoCard : Claim7 := { stood := { row := attrsSameUptoRow, standIns := [], harness := (true, "7e8d7f855c448fd72cc756b840c60ac09a8df42ef7791324229c11cc7e2c8151"), looks := false }, kinds := [], alts := [], laidByText := true, laidKinds := [.data], laidTests := true, laidLooks := .later }
def AttrsSameUptoCardSaid : Prop := Claim7.holds Tryd.pinned (.plain (OpenSpec.upto attrsSameSpec)) attrsSameUptoCard
end Rows
end Go.Proofs.YtmegckhnpipdhaaDoor
