/-
  DERIVED. GIVEN WITH THE SEED: THE CARDS: each row of YtfpnglgipchjhaaDoorRows.lean that lists a variable, with what it lists TIED to the program's text (the seventh form; the later family's looks); each row that meets fmt, with fmt's text TOLD by the authors' own Lean function (tested against real Go, not proved from fmt's source: count such statements apart). THE CARD IS WHAT COUNTS. Prove the row's statement (the work); the ties are given (YtfpnglgipchjhaaDoorTie.lean); close each card by the builder's one call (the guide's Derived/Test/ToyasCard.lean, 'card_holds'). Laid BY PROGRAM, IN A SANDBOX (cutbox-door.mjs). By AI agents, Wed Nov 11 2026. No macro, syntax, notation, axiom, sorry.
-/
import Derived.Test.YtfpnglgipchjhaaDoorRows
import GoSem.ClaimSeven
namespace Go.Proofs.YtfpnglgipchjhaaDoor
namespace Rows

/-- THE TIED CARD OF 'pointillistlaw04.DecParses'. -/
def decParsesCard : Claim7 := { stood := { row := decParsesRow, standIns := [], harness := (true, "95a1d7fb7ec61b2c49942a01a6c8ef2bac4f2accfb1daa00ec890a19cac31087"), looks := false }, kinds := [], alts := [], laidByText := true, laidKinds := [.data, .data], laidTests := true, laidLooks := .later }
def DecParsesCardSaid : Prop := Claim7.holds Tryd.pinned (.plain (OpenSpec.ofChange decParsesSpec)) decParsesCard

/-- THE TIED CARD OF 'pointillistlaw04.DecNoughts'. -/
def decNoughtsCard : Claim7 := { stood := { row := decNoughtsRow, standIns := [], harness := (true, "95a1d7fb7ec61b2c49942a01a6c8ef2bac4f2accfb1daa00ec890a19cac31087"), looks := false }, kinds := [], alts := [], laidByText := true, laidKinds := [.data, .data], laidTests := true, laidLooks := .later }
def DecNoughtsCardSaid : Prop := Claim7.holds Tryd.pinned (.plain (OpenSpec.ofChange decNoughtsSpec)) decNoughtsCard

/-- THE TIED CARD OF 'pointillistlaw04.DecRises'. -/
def decRisesCard : Claim7 := { stood := { row := decRisesRow, standIns := [], harness := (true, "95a1d7fb7ec61b2c49942a01a6c8ef2bac4f2accfb1daa00ec890a19cac31087"), looks := false }, kinds := [], alts := [], laidByText := true, laidKinds := [.data, .data], laidTests := true, laidLooks := .later }
def DecRisesCardSaid : Prop := Claim7.holds Tryd.pinned (.plain (OpenSpec.ofChange decRisesSpec)) decRisesCard

/-- THE TIED CARD OF 'pointillistlaw05.ScanLists'. -/
def scanListsCard : Claim7 := { stood := { row := scanListsRow, standIns := [], harness := (true, "95a1d7fb7ec61b2c49942a01a6c8ef2bac4f2accfb1daa00ec890a19cac31087"), looks := false }, kinds := [], alts := [], laidByText := true, laidKinds := [.data, .data, .data], laidTests := true, laidLooks := .later }
def ScanListsCardSaid : Prop := Claim7.holds Tryd.pinned (.plain (OpenSpec.ofChange scanListsSpec)) scanListsCard

/-- THE TIED CARD OF 'pointillistlaw05.ScanGaps'. -/
def scanGapsCard : Claim7 := { stood := { row := scanGapsRow, standIns := [], harness := (true, "95a1d7fb7ec61b2c49942a01a6c8ef2bac4f2accfb1daa00ec890a19cac31087"), looks := false }, kinds := [], alts := [], laidByText := true, laidKinds := [.data, .data, .data], laidTests := true, laidLooks := .later }
def ScanGapsCardSaid : Prop := Claim7.holds Tryd.pinned (.plain (OpenSpec.ofChange scanGapsSpec)) scanGapsCard

/-- THE TIED CARD OF 'pointillistlaw05.ScanActs'. -/
def scanActsCard : Claim7 := { stood := { row := scanActsRow, standIns := [], harness := (true, "95a1d7fb7ec61b2c49942a01a6c8ef2bac4f2accfb1daa00ec890a19cac31087"), looks := false }, kinds := [], alts := [], laidByText := true, laidKinds := [.data, .data, .data], laidTests := true, laidLooks := .later }
def ScanActsCardSaid : Prop := Claim7.holds Tryd.pinned (.plain (OpenSpec.ofChange scanActsSpec)) scanActsCard

/-- THE TIED CARD OF 'pointillistlaw05.ScanNever'. -/
def scanNeverCard : Claim7 := { stood := { row := scanNeverRow, standIns := [], harness := (true, "95a1d7fb7ec61b2c49942a01a6c8ef2bac4f2accfb1daa00ec890a19cac31087"), looks := false }, kinds := [], alts := [], laidByText := true, laidKinds := [.data, .data, .data], laidTests := true, laidLooks := .later }
def ScanNeverCardSaid : Prop := Claim7.holds Tryd.pinned (.plain (OpenSpec.ofChange scanNeverSpec)) scanNeverCard

/-- THE TIED CARD OF 'pointillistlaw04.DecPrints'. -/
def decPrintsCard : Claim7 := { stood := { row := decPrintsRow, standIns := [], harness := (true, "95a1d7fb7ec61b2c49942a01a6c8ef2bac4f2accfb1daa00ec890a19cac31087"), looks := false }, kinds := [], alts := [], laidByText := true, laidKinds := [.data, .data, .data, .data, .data], laidTests := true, laidLooks := .later }
def DecPrintsCardSaid : Prop := Claim7.holds Tryd.pinned (.plain (OpenSpec.ofChange decPrintsSpec)) decPrintsCard

/-- THE SECOND FORM's CARD OF 'pointillistlaw04.DecParses'. -/
def decParsesUptoCard : Claim7 := { stood := { row := decParsesUptoRow, standIns := [], harness := (true, "95a1d7fb7ec61b2c49942a01a6c8ef2bac4f2accfb1daa00ec890a19cac31087"), looks := false }, kinds := [], alts := [], laidByText := true, laidKinds := [.data, .data], laidTests := true, laidLooks := .later }
def DecParsesUptoCardSaid : Prop := Claim7.holds Tryd.pinned (.plain (OpenSpec.upto decParsesSpec)) decParsesUptoCard

/-- THE SECOND FORM's CARD OF 'pointillistlaw04.DecNoughts'. -/
def decNoughtsUptoCard : Claim7 := { stood := { row := decNoughtsUptoRow, standIns := [], harness := (true, "95a1d7fb7ec61b2c49942a01a6c8ef2bac4f2accfb1daa00ec890a19cac31087"), looks := false }, kinds := [], alts := [], laidByText := true, laidKinds := [.data, .data], laidTests := true, laidLooks := .later }
def DecNoughtsUptoCardSaid : Prop := Claim7.holds Tryd.pinned (.plain (OpenSpec.upto decNoughtsSpec)) decNoughtsUptoCard

/-- THE SECOND FORM's CARD OF 'pointillistlaw04.DecRises'. -/
def decRisesUptoCard : Claim7 := { stood := { row := decRisesUptoRow, standIns := [], harness := (true, "95a1d7fb7ec61b2c49942a01a6c8ef2bac4f2accfb1daa00ec890a19cac31087"), looks := false }, kinds := [], alts := [], laidByText := true, laidKinds := [.data, .data], laidTests := true, laidLooks := .later }
def DecRisesUptoCardSaid : Prop := Claim7.holds Tryd.pinned (.plain (OpenSpec.upto decRisesSpec)) decRisesUptoCard

/-- THE SECOND FORM's CARD OF 'pointillistlaw05.ScanLists'. -/
def scanListsUptoCard : Claim7 := { stood := { row := scanListsUptoRow, standIns := [], harness := (true, "95a1d7fb7ec61b2c49942a01a6c8ef2bac4f2accfb1daa00ec890a19cac31087"), looks := false }, kinds := [], alts := [], laidByText := true, laidKinds := [.data, .data, .data], laidTests := true, laidLooks := .later }
def ScanListsUptoCardSaid : Prop := Claim7.holds Tryd.pinned (.plain (OpenSpec.upto scanListsSpec)) scanListsUptoCard

/-- THE SECOND FORM's CARD OF 'pointillistlaw05.ScanGaps'. -/
def scanGapsUptoCard : Claim7 := { stood := { row := scanGapsUptoRow, standIns := [], harness := (true, "95a1d7fb7ec61b2c49942a01a6c8ef2bac4f2accfb1daa00ec890a19cac31087"), looks := false }, kinds := [], alts := [], laidByText := true, laidKinds := [.data, .data, .data], laidTests := true, laidLooks := .later }
def ScanGapsUptoCardSaid : Prop := Claim7.holds Tryd.pinned (.plain (OpenSpec.upto scanGapsSpec)) scanGapsUptoCard

/-- THE SECOND FORM's CARD OF 'pointillistlaw05.ScanActs'. -/
def scanActsUptoCard : Claim7 := { stood := { row := scanActsUptoRow, standIns := [], harness := (true, "95a1d7fb7ec61b2c49942a01a6c8ef2bac4f2accfb1daa00ec890a19cac31087"), looks := false }, kinds := [], alts := [], laidByText := true, laidKinds := [.data, .data, .data], laidTests := true, laidLooks := .later }
def ScanActsUptoCardSaid : Prop := Claim7.holds Tryd.pinned (.plain (OpenSpec.upto scanActsSpec)) scanActsUptoCard

/-- THE SECOND FORM's CARD OF 'pointillistlaw05.ScanNever'. -/
def scanNeverUptoCard : Claim7 := { stood := { row := scanNeverUptoRow, standIns := [], harness := (true, "95a1d7fb7ec61b2c49942a01a6c8ef2bac4f2accfb1daa00ec890a19cac31087"), looks := false }, kinds := [], alts := [], laidByText := true, laidKinds := [.data, .data, .data], laidTests := true, laidLooks := .later }
def ScanNeverUptoCardSaid : Prop := Claim7.holds Tryd.pinned (.plain (OpenSpec.upto scanNeverSpec)) scanNeverUptoCard

/-- THE SECOND FORM's CARD OF 'pointillistlaw04.DecPrints'. -/
def decPrintsUptoCard : Claim7 := { stood := { row := decPrintsUptoRow, standIns := [], harness := (true, "95a1d7fb7ec61b2c49942a01a6c8ef2bac4f2accfb1daa00ec890a19cac31087"), looks := false }, kinds := [], alts := [], laidByText := true, laidKinds := [.data, .data, .data, .data, .data], laidTests := true, laidLooks := .later }
def DecPrintsUptoCardSaid : Prop := Claim7.holds Tryd.pinned (.plain (OpenSpec.upto decPrintsSpec)) decPrintsUptoCard
end Rows
end Go.Proofs.YtfpnglgipchjhaaDoor
