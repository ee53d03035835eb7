/-
  DERIVED. GIVEN WITH THE SEED: THE CARDS: each row of YtaephdngpcfjdaaDoorRows.lean that lists a variable, with what it lists TIED to the program's text (the seventh form; the later family's looks); each row that meets fmt, with fmt's text TOLD by the authors' own Lean function (tested against real Go, not proved from fmt's source: count such statements apart). THE CARD IS WHAT COUNTS. Prove the row's statement (the work); the ties are given (YtaephdngpcfjdaaDoorTie.lean); close each card by the builder's one call (the guide's Derived/Test/ToyasCard.lean, 'card_holds'). Laid BY PROGRAM, IN A SANDBOX (cutbox-door.mjs). By AI agents, Wed Nov 11 2026. No macro, syntax, notation, axiom, sorry.
-/
import Derived.Test.YtaephdngpcfjdaaDoorRows
import GoSem.ClaimSeven
namespace Go.Proofs.YtaephdngpcfjdaaDoor
namespace Rows

/-- THE TIED CARD OF 'routinglaw02.PrefixSteps'. -/
def prefixStepsCard : Claim7 := { stood := { row := prefixStepsRow, standIns := [], harness := (true, "57cea30f8d89ba871e71f82c796e54cad5b886bb53fe977199012cf40551a476"), looks := true }, kinds := [], alts := [], laidByText := true, laidKinds := [.data, .data, .data, .data, .sentinel, .sentinel, .pinned], laidTests := true, laidLooks := .later }
def PrefixStepsCardSaid : Prop := Claim7.holds Tryd.pinned (.plain (OpenSpec.ofChange prefixStepsSpec)) prefixStepsCard

/-- THE TIED CARD OF 'routinglaw02.PrefixTexts'. -/
def prefixTextsCard : Claim7 := { stood := { row := prefixTextsRow, standIns := [], harness := (true, "57cea30f8d89ba871e71f82c796e54cad5b886bb53fe977199012cf40551a476"), looks := true }, kinds := [], alts := [], laidByText := true, laidKinds := [.data, .data, .data, .data, .sentinel, .sentinel, .pinned], laidTests := true, laidLooks := .later }
def PrefixTextsCardSaid : Prop := Claim7.holds Tryd.pinned (.plain (OpenSpec.ofChange prefixTextsSpec)) prefixTextsCard

/-- THE TIED CARD OF 'routinglaw02.PrefixParses'. -/
def prefixParsesCard : Claim7 := { stood := { row := prefixParsesRow, standIns := [], harness := (true, "57cea30f8d89ba871e71f82c796e54cad5b886bb53fe977199012cf40551a476"), looks := true }, kinds := [], alts := [], laidByText := true, laidKinds := [.data, .data, .data, .data, .sentinel, .sentinel, .pinned], laidTests := true, laidLooks := .later }
def PrefixParsesCardSaid : Prop := Claim7.holds Tryd.pinned (.plain (OpenSpec.ofChange prefixParsesSpec)) prefixParsesCard

/-- THE TIED CARD OF 'routinglaw02.PrefixBack'. -/
def prefixBackCard : Claim7 := { stood := { row := prefixBackRow, standIns := [], harness := (true, "57cea30f8d89ba871e71f82c796e54cad5b886bb53fe977199012cf40551a476"), looks := true }, kinds := [], alts := [], laidByText := true, laidKinds := [.data, .data, .data, .data, .sentinel, .sentinel, .pinned], laidTests := true, laidLooks := .later }
def PrefixBackCardSaid : Prop := Claim7.holds Tryd.pinned (.plain (OpenSpec.ofChange prefixBackSpec)) prefixBackCard

/-- THE TIED CARD OF 'routinglaw02.PrefixHalves'. -/
def prefixHalvesCard : Claim7 := { stood := { row := prefixHalvesRow, standIns := [], harness := (true, "57cea30f8d89ba871e71f82c796e54cad5b886bb53fe977199012cf40551a476"), looks := true }, kinds := [], alts := [], laidByText := true, laidKinds := [.data, .data, .data, .data, .sentinel, .sentinel, .pinned], laidTests := true, laidLooks := .later }
def PrefixHalvesCardSaid : Prop := Claim7.holds Tryd.pinned (.plain (OpenSpec.ofChange prefixHalvesSpec)) prefixHalvesCard

/-- THE TIED CARD OF 'routinglaw02.PrefixNested'. -/
def prefixNestedCard : Claim7 := { stood := { row := prefixNestedRow, standIns := [], harness := (true, "57cea30f8d89ba871e71f82c796e54cad5b886bb53fe977199012cf40551a476"), looks := true }, kinds := [], alts := [], laidByText := true, laidKinds := [.data, .data, .data, .data, .sentinel, .sentinel, .pinned], laidTests := true, laidLooks := .later }
def PrefixNestedCardSaid : Prop := Claim7.holds Tryd.pinned (.plain (OpenSpec.ofChange prefixNestedSpec)) prefixNestedCard

/-- THE TIED CARD OF 'routinglaw02.PrefixTells'. -/
def prefixTellsCard : Claim7 := { stood := { row := prefixTellsRow, standIns := [], harness := (true, "57cea30f8d89ba871e71f82c796e54cad5b886bb53fe977199012cf40551a476"), looks := true }, kinds := [], alts := [], laidByText := true, laidKinds := [.data, .data, .data, .data, .sentinel, .sentinel, .pinned], laidTests := true, laidLooks := .later }
def PrefixTellsCardSaid : Prop := Claim7.holds Tryd.pinned (.plain (OpenSpec.ofChange prefixTellsSpec)) prefixTellsCard

/-- THE TIED CARD OF 'routinglaw02.PrefixOrders'. -/
def prefixOrdersCard : Claim7 := { stood := { row := prefixOrdersRow, standIns := [], harness := (true, "57cea30f8d89ba871e71f82c796e54cad5b886bb53fe977199012cf40551a476"), looks := true }, kinds := [], alts := [], laidByText := true, laidKinds := [.data, .data, .data, .data, .sentinel, .sentinel, .pinned], laidTests := true, laidLooks := .later }
def PrefixOrdersCardSaid : Prop := Claim7.holds Tryd.pinned (.plain (OpenSpec.ofChange prefixOrdersSpec)) prefixOrdersCard

/-- THE TIED CARD OF 'routinglaw02.PrefixSorts'. -/
def prefixSortsCard : Claim7 := { stood := { row := prefixSortsRow, standIns := [], harness := (true, "57cea30f8d89ba871e71f82c796e54cad5b886bb53fe977199012cf40551a476"), looks := true }, kinds := [], alts := [], laidByText := true, laidKinds := [.data, .data, .data, .data, .sentinel, .sentinel, .pinned], laidTests := true, laidLooks := .later }
def PrefixSortsCardSaid : Prop := Claim7.holds Tryd.pinned (.plain (OpenSpec.ofChange prefixSortsSpec)) prefixSortsCard

/-- THE SECOND FORM's CARD OF 'routinglaw02.PrefixSteps'. -/
def prefixStepsUptoCard : Claim7 := { stood := { row := prefixStepsUptoRow, standIns := [], harness := (true, "57cea30f8d89ba871e71f82c796e54cad5b886bb53fe977199012cf40551a476"), looks := true }, kinds := [], alts := [], laidByText := true, laidKinds := [.data, .data, .data, .data, .sentinel, .sentinel, .pinned], laidTests := true, laidLooks := .later }
def PrefixStepsUptoCardSaid : Prop := Claim7.holds Tryd.pinned (.plain (OpenSpec.upto prefixStepsSpec)) prefixStepsUptoCard

/-- THE SECOND FORM's CARD OF 'routinglaw02.PrefixTexts'. -/
def prefixTextsUptoCard : Claim7 := { stood := { row := prefixTextsUptoRow, standIns := [], harness := (true, "57cea30f8d89ba871e71f82c796e54cad5b886bb53fe977199012cf40551a476"), looks := true }, kinds := [], alts := [], laidByText := true, laidKinds := [.data, .data, .data, .data, .sentinel, .sentinel, .pinned], laidTests := true, laidLooks := .later }
def PrefixTextsUptoCardSaid : Prop := Claim7.holds Tryd.pinned (.plain (OpenSpec.upto prefixTextsSpec)) prefixTextsUptoCard

/-- THE SECOND FORM's CARD OF 'routinglaw02.PrefixParses'. -/
def prefixParsesUptoCard : Claim7 := { stood := { row := prefixParsesUptoRow, standIns := [], harness := (true, "57cea30f8d89ba871e71f82c796e54cad5b886bb53fe977199012cf40551a476"), looks := true }, kinds := [], alts := [], laidByText := true, laidKinds := [.data, .data, .data, .data, .sentinel, .sentinel, .pinned], laidTests := true, laidLooks := .later }
def PrefixParsesUptoCardSaid : Prop := Claim7.holds Tryd.pinned (.plain (OpenSpec.upto prefixParsesSpec)) prefixParsesUptoCard

/-- THE SECOND FORM's CARD OF 'routinglaw02.PrefixBack'. -/
def prefixBackUptoCard : Claim7 := { stood := { row := prefixBackUptoRow, standIns := [], harness := (true, "57cea30f8d89ba871e71f82c796e54cad5b886bb53fe977199012cf40551a476"), looks := true }, kinds := [], alts := [], laidByText := true, laidKinds := [.data, .data, .data, .data, .sentinel, .sentinel, .pinned], laidTests := true, laidLooks := .later }
def PrefixBackUptoCardSaid : Prop := Claim7.holds Tryd.pinned (.plain (OpenSpec.upto prefixBackSpec)) prefixBackUptoCard

/-- THE SECOND FORM's CARD OF 'routinglaw02.PrefixHalves'. -/
def prefixHalvesUptoCard : Claim7 := { stood := { row := prefixHalvesUptoRow, standIns := [], harness := (true, "57cea30f8d89ba871e71f82c796e54cad5b886bb53fe977199012cf40551a476"), looks := true }, kinds := [], alts := [], laidByText := true, laidKinds := [.data, .data, .data, .data, .sentinel, .sentinel, .pinned], laidTests := true, laidLooks := .later }
def PrefixHalvesUptoCardSaid : Prop := Claim7.holds Tryd.pinned (.plain (OpenSpec.upto prefixHalvesSpec)) prefixHalvesUptoCard

/-- THE SECOND FORM's CARD OF 'routinglaw02.PrefixNested'. -/
def prefixNestedUptoCard : Claim7 := { stood := { row := prefixNestedUptoRow, standIns := [], harness := (true, "57cea30f8d89ba871e71f82c796e54cad5b886bb53fe977199012cf40551a476"), looks := true }, kinds := [], alts := [], laidByText := true, laidKinds := [.data, .data, .data, .data, .sentinel, .sentinel, .pinned], laidTests := true, laidLooks := .later }
def PrefixNestedUptoCardSaid : Prop := Claim7.holds Tryd.pinned (.plain (OpenSpec.upto prefixNestedSpec)) prefixNestedUptoCard

/-- THE SECOND FORM's CARD OF 'routinglaw02.PrefixTells'. -/
def prefixTellsUptoCard : Claim7 := { stood := { row := prefixTellsUptoRow, standIns := [], harness := (true, "57cea30f8d89ba871e71f82c796e54cad5b886bb53fe977199012cf40551a476"), looks := true }, kinds := [], alts := [], laidByText := true, laidKinds := [.data, .data, .data, .data, .sentinel, .sentinel, .pinned], laidTests := true, laidLooks := .later }
def PrefixTellsUptoCardSaid : Prop := Claim7.holds Tryd.pinned (.plain (OpenSpec.upto prefixTellsSpec)) prefixTellsUptoCard

/-- THE SECOND FORM's CARD OF 'routinglaw02.PrefixOrders'. -/
def prefixOrdersUptoCard : Claim7 := { stood := { row := prefixOrdersUptoRow, standIns := [], harness := (true, "57cea30f8d89ba871e71f82c796e54cad5b886bb53fe977199012cf40551a476"), looks := true }, kinds := [], alts := [], laidByText := true, laidKinds := [.data, .data, .data, .data, .sentinel, .sentinel, .pinned], laidTests := true, laidLooks := .later }
def PrefixOrdersUptoCardSaid : Prop := Claim7.holds Tryd.pinned (.plain (OpenSpec.upto prefixOrdersSpec)) prefixOrdersUptoCard

/-- THE SECOND FORM's CARD OF 'routinglaw02.PrefixSorts'. -/
def prefixSortsUptoCard : Claim7 := { stood := { row := prefixSortsUptoRow, standIns := [], harness := (true, "57cea30f8d89ba871e71f82c796e54cad5b886bb53fe977199012cf40551a476"), looks := true }, kinds := [], alts := [], laidByText := true, laidKinds := [.data, .data, .data, .data, .sentinel, .sentinel, .pinned], laidTests := true, laidLooks := .later }
def PrefixSortsUptoCardSaid : Prop := Claim7.holds Tryd.pinned (.plain (OpenSpec.upto prefixSortsSpec)) prefixSortsUptoCard
end Rows
end Go.Proofs.YtaephdngpcfjdaaDoor
