/-
  DERIVED. GIVEN WITH THE SEED: THE CARDS: each row of YtkljnfinjacejaaDoorRows.lean that lists a variable, with what it lists TIED to the program's text (the seventh form; the later family's looks); each row that meets fmt, with fmt's text TOLD by the authors' own Lean function (tested against real Go, not proved from fmt's source: count such statements apart). THE CARD IS WHAT COUNTS. Prove the row's statement (the work); the ties are given (YtkljnfinjacejaaDoorTie.lean); close each card by the builder's one call (the guide's Derived/Test/ToyasCard.lean, 'card_holds'). Laid BY PROGRAM, IN A SANDBOX (cutbox-door.mjs). By AI agents, Wed Nov 11 2026. No macro, syntax, notation, axiom, sorry.
-/
import Derived.Test.YtkljnfinjacejaaDoorRows
import GoSem.ClaimSeven
namespace Go.Proofs.YtkljnfinjacejaaDoor
namespace Rows

/-- THE TIED CARD OF 'laws.FnExactFeederOk'. -/
def fnExactFeederOkCard : Claim7 := { stood := { row := fnExactFeederOkRow, standIns := [], harness := (true, "53c3f5e03c68e95ada82e9ac9b4d33f67d434394a60a77399e79f9ab2fead796"), looks := false }, kinds := [], alts := [], laidByText := true, laidKinds := [.data, .pinned], laidTests := true, laidLooks := .later }
def FnExactFeederOkCardSaid : Prop := Claim7.holds Tryd.pinned (.plain (OpenSpec.ofChange fnExactFeederOkSpec)) fnExactFeederOkCard

/-- THE TIED CARD OF 'laws.FnExactFeed'. -/
def fnExactFeedCard : Claim7 := { stood := { row := fnExactFeedRow, standIns := [], harness := (true, "53c3f5e03c68e95ada82e9ac9b4d33f67d434394a60a77399e79f9ab2fead796"), looks := false }, kinds := [], alts := [], laidByText := true, laidKinds := [.data, .pinned], laidTests := true, laidLooks := .later }
def FnExactFeedCardSaid : Prop := Claim7.holds Tryd.pinned (.plain (OpenSpec.ofChange fnExactFeedSpec)) fnExactFeedCard

/-- THE TIED CARD OF 'laws.FnRunes'. -/
def fnRunesCard : Claim7 := { stood := { row := fnRunesRow, standIns := [], harness := (true, "53c3f5e03c68e95ada82e9ac9b4d33f67d434394a60a77399e79f9ab2fead796"), looks := false }, kinds := [], alts := [], laidByText := true, laidKinds := [.data, .pinned], laidTests := true, laidLooks := .later }
def FnRunesCardSaid : Prop := Claim7.holds Tryd.pinned (.plain (OpenSpec.ofChange fnRunesSpec)) fnRunesCard

/-- THE TIED CARD OF 'laws.FnFed'. -/
def fnFedCard : Claim7 := { stood := { row := fnFedRow, standIns := [], harness := (true, "53c3f5e03c68e95ada82e9ac9b4d33f67d434394a60a77399e79f9ab2fead796"), looks := false }, kinds := [], alts := [], laidByText := true, laidKinds := [.data, .pinned], laidTests := true, laidLooks := .later }
def FnFedCardSaid : Prop := Claim7.holds Tryd.pinned (.plain (OpenSpec.ofChange fnFedSpec)) fnFedCard

/-- THE TIED CARD OF 'laws.FnWidths'. -/
def fnWidthsCard : Claim7 := { stood := { row := fnWidthsRow, standIns := [], harness := (true, "53c3f5e03c68e95ada82e9ac9b4d33f67d434394a60a77399e79f9ab2fead796"), looks := false }, kinds := [], alts := [], laidByText := true, laidKinds := [.data, .pinned], laidTests := true, laidLooks := .later }
def FnWidthsCardSaid : Prop := Claim7.holds Tryd.pinned (.plain (OpenSpec.ofChange fnWidthsSpec)) fnWidthsCard

/-- THE TIED CARD OF 'laws.FnExactPressed'. -/
def fnExactPressedCard : Claim7 := { stood := { row := fnExactPressedRow, standIns := [], harness := (true, "53c3f5e03c68e95ada82e9ac9b4d33f67d434394a60a77399e79f9ab2fead796"), looks := false }, kinds := [], alts := [], laidByText := true, laidKinds := [.data, .pinned], laidTests := true, laidLooks := .later }
def FnExactPressedCardSaid : Prop := Claim7.holds Tryd.pinned (.plain (OpenSpec.ofChange fnExactPressedSpec)) fnExactPressedCard

/-- THE SECOND FORM's CARD OF 'laws.FnExactFeederOk'. -/
def fnExactFeederOkUptoCard : Claim7 := { stood := { row := fnExactFeederOkUptoRow, standIns := [], harness := (true, "53c3f5e03c68e95ada82e9ac9b4d33f67d434394a60a77399e79f9ab2fead796"), looks := false }, kinds := [], alts := [], laidByText := true, laidKinds := [.data, .pinned], laidTests := true, laidLooks := .later }
def FnExactFeederOkUptoCardSaid : Prop := Claim7.holds Tryd.pinned (.plain (OpenSpec.upto fnExactFeederOkSpec)) fnExactFeederOkUptoCard

/-- THE SECOND FORM's CARD OF 'laws.FnExactFeed'. -/
def fnExactFeedUptoCard : Claim7 := { stood := { row := fnExactFeedUptoRow, standIns := [], harness := (true, "53c3f5e03c68e95ada82e9ac9b4d33f67d434394a60a77399e79f9ab2fead796"), looks := false }, kinds := [], alts := [], laidByText := true, laidKinds := [.data, .pinned], laidTests := true, laidLooks := .later }
def FnExactFeedUptoCardSaid : Prop := Claim7.holds Tryd.pinned (.plain (OpenSpec.upto fnExactFeedSpec)) fnExactFeedUptoCard

/-- THE SECOND FORM's CARD OF 'laws.FnRunes'. -/
def fnRunesUptoCard : Claim7 := { stood := { row := fnRunesUptoRow, standIns := [], harness := (true, "53c3f5e03c68e95ada82e9ac9b4d33f67d434394a60a77399e79f9ab2fead796"), looks := false }, kinds := [], alts := [], laidByText := true, laidKinds := [.data, .pinned], laidTests := true, laidLooks := .later }
def FnRunesUptoCardSaid : Prop := Claim7.holds Tryd.pinned (.plain (OpenSpec.upto fnRunesSpec)) fnRunesUptoCard

/-- THE SECOND FORM's CARD OF 'laws.FnFed'. -/
def fnFedUptoCard : Claim7 := { stood := { row := fnFedUptoRow, standIns := [], harness := (true, "53c3f5e03c68e95ada82e9ac9b4d33f67d434394a60a77399e79f9ab2fead796"), looks := false }, kinds := [], alts := [], laidByText := true, laidKinds := [.data, .pinned], laidTests := true, laidLooks := .later }
def FnFedUptoCardSaid : Prop := Claim7.holds Tryd.pinned (.plain (OpenSpec.upto fnFedSpec)) fnFedUptoCard

/-- THE SECOND FORM's CARD OF 'laws.FnWidths'. -/
def fnWidthsUptoCard : Claim7 := { stood := { row := fnWidthsUptoRow, standIns := [], harness := (true, "53c3f5e03c68e95ada82e9ac9b4d33f67d434394a60a77399e79f9ab2fead796"), looks := false }, kinds := [], alts := [], laidByText := true, laidKinds := [.data, .pinned], laidTests := true, laidLooks := .later }
def FnWidthsUptoCardSaid : Prop := Claim7.holds Tryd.pinned (.plain (OpenSpec.upto fnWidthsSpec)) fnWidthsUptoCard

/-- THE SECOND FORM's CARD OF 'laws.FnExactPressed'. -/
def fnExactPressedUptoCard : Claim7 := { stood := { row := fnExactPressedUptoRow, standIns := [], harness := (true, "53c3f5e03c68e95ada82e9ac9b4d33f67d434394a60a77399e79f9ab2fead796"), looks := false }, kinds := [], alts := [], laidByText := true, laidKinds := [.data, .pinned], laidTests := true, laidLooks := .later }
def FnExactPressedUptoCardSaid : Prop := Claim7.holds Tryd.pinned (.plain (OpenSpec.upto fnExactPressedSpec)) fnExactPressedUptoCard
end Rows
end Go.Proofs.YtkljnfinjacejaaDoor
