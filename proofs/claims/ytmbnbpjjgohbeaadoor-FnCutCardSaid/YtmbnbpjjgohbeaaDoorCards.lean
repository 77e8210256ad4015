/-
  DERIVED. GIVEN WITH THE SEED: THE CARDS: each row of YtmbnbpjjgohbeaaDoorRows.lean that lists a variable, with what it lists TIED to the program's text (the seventh form; the later family's looks); each row that meets fmt, with fmt's text TOLD by the authors' own Lean function (tested against real Go, not proved from fmt's source: count such statements apart). THE CARD IS WHAT COUNTS. Prove the row's statement (the work); the ties are given (YtmbnbpjjgohbeaaDoorTie.lean); close each card by the builder's one call (the guide's Derived/Test/ToyasCard.lean, 'card_holds'). Laid BY PROGRAM, IN A SANDBOX (cutbox-door.mjs). By AI agents, Wed Nov 11 2026. No macro, syntax, notation, axiom, sorry.
-/
import Derived.Test.YtmbnbpjjgohbeaaDoorRows
import GoSem.ClaimSeven
namespace Go.Proofs.YtmbnbpjjgohbeaaDoor
namespace Rows

/-- THE TIED CARD OF 'laws.FnExactFeederOk'. -/
def fnExactFeederOkCard : Claim7 := { stood := { row := fnExactFeederOkRow, standIns := [], harness := (true, "8cff9bd9c5aca03da099d31bfe895be295955aec2d3105b26e9c78a5a0e251b7"), looks := false }, kinds := [], alts := [], laidByText := true, laidKinds := [.data, .pinned], laidTests := true, laidLooks := .later }
def FnExactFeederOkCardSaid : Prop := Claim7.holds Tryd.pinned (.plain (OpenSpec.ofChange fnExactFeederOkSpec)) fnExactFeederOkCard

/-- THE TIED CARD OF 'laws.FnExactGet'. -/
def fnExactGetCard : Claim7 := { stood := { row := fnExactGetRow, standIns := [], harness := (true, "8cff9bd9c5aca03da099d31bfe895be295955aec2d3105b26e9c78a5a0e251b7"), looks := false }, kinds := [], alts := [], laidByText := true, laidKinds := [.data, .pinned], laidTests := true, laidLooks := .later }
def FnExactGetCardSaid : Prop := Claim7.holds Tryd.pinned (.plain (OpenSpec.ofChange fnExactGetSpec)) fnExactGetCard

/-- THE TIED CARD OF 'laws.FnExactRunes'. -/
def fnExactRunesCard : Claim7 := { stood := { row := fnExactRunesRow, standIns := [], harness := (true, "8cff9bd9c5aca03da099d31bfe895be295955aec2d3105b26e9c78a5a0e251b7"), looks := false }, kinds := [], alts := [], laidByText := true, laidKinds := [.data, .pinned], laidTests := true, laidLooks := .later }
def FnExactRunesCardSaid : Prop := Claim7.holds Tryd.pinned (.plain (OpenSpec.ofChange fnExactRunesSpec)) fnExactRunesCard

/-- THE TIED CARD OF 'laws.FnExactFitting'. -/
def fnExactFittingCard : Claim7 := { stood := { row := fnExactFittingRow, standIns := [], harness := (true, "8cff9bd9c5aca03da099d31bfe895be295955aec2d3105b26e9c78a5a0e251b7"), looks := false }, kinds := [], alts := [], laidByText := true, laidKinds := [.data, .pinned], laidTests := true, laidLooks := .later }
def FnExactFittingCardSaid : Prop := Claim7.holds Tryd.pinned (.plain (OpenSpec.ofChange fnExactFittingSpec)) fnExactFittingCard

/-- THE TIED CARD OF 'laws.FnExactTextWidth'. -/
def fnExactTextWidthCard : Claim7 := { stood := { row := fnExactTextWidthRow, standIns := [], harness := (true, "8cff9bd9c5aca03da099d31bfe895be295955aec2d3105b26e9c78a5a0e251b7"), looks := false }, kinds := [], alts := [], laidByText := true, laidKinds := [.data, .pinned], laidTests := true, laidLooks := .later }
def FnExactTextWidthCardSaid : Prop := Claim7.holds Tryd.pinned (.plain (OpenSpec.ofChange fnExactTextWidthSpec)) fnExactTextWidthCard

/-- THE TIED CARD OF 'laws.FnCut'. -/
def fnCutCard : Claim7 := { stood := { row := fnCutRow, standIns := [], harness := (true, "8cff9bd9c5aca03da099d31bfe895be295955aec2d3105b26e9c78a5a0e251b7"), looks := false }, kinds := [], alts := [], laidByText := true, laidKinds := [.data, .pinned], laidTests := true, laidLooks := .later }
def FnCutCardSaid : Prop := Claim7.holds Tryd.pinned (.plain (OpenSpec.ofChange fnCutSpec)) fnCutCard

/-- THE TIED CARD OF 'laws.FnExactFeed'. -/
def fnExactFeedCard : Claim7 := { stood := { row := fnExactFeedRow, standIns := [], harness := (true, "8cff9bd9c5aca03da099d31bfe895be295955aec2d3105b26e9c78a5a0e251b7"), looks := false }, kinds := [], alts := [], laidByText := true, laidKinds := [.data, .pinned], laidTests := true, laidLooks := .later }
def FnExactFeedCardSaid : Prop := Claim7.holds Tryd.pinned (.plain (OpenSpec.ofChange fnExactFeedSpec)) fnExactFeedCard

/-- THE TIED CARD OF 'laws.FnRunes'. -/
def fnRunesCard : Claim7 := { stood := { row := fnRunesRow, standIns := [], harness := (true, "8cff9bd9c5aca03da099d31bfe895be295955aec2d3105b26e9c78a5a0e251b7"), looks := false }, kinds := [], alts := [], laidByText := true, laidKinds := [.data, .pinned], laidTests := true, laidLooks := .later }
def FnRunesCardSaid : Prop := Claim7.holds Tryd.pinned (.plain (OpenSpec.ofChange fnRunesSpec)) fnRunesCard

/-- THE TIED CARD OF 'laws.FnFed'. -/
def fnFedCard : Claim7 := { stood := { row := fnFedRow, standIns := [], harness := (true, "8cff9bd9c5aca03da099d31bfe895be295955aec2d3105b26e9c78a5a0e251b7"), looks := false }, kinds := [], alts := [], laidByText := true, laidKinds := [.data, .pinned], laidTests := true, laidLooks := .later }
def FnFedCardSaid : Prop := Claim7.holds Tryd.pinned (.plain (OpenSpec.ofChange fnFedSpec)) fnFedCard

/-- THE TIED CARD OF 'laws.FnWidths'. -/
def fnWidthsCard : Claim7 := { stood := { row := fnWidthsRow, standIns := [], harness := (true, "8cff9bd9c5aca03da099d31bfe895be295955aec2d3105b26e9c78a5a0e251b7"), looks := false }, kinds := [], alts := [], laidByText := true, laidKinds := [.data, .pinned], laidTests := true, laidLooks := .later }
def FnWidthsCardSaid : Prop := Claim7.holds Tryd.pinned (.plain (OpenSpec.ofChange fnWidthsSpec)) fnWidthsCard

/-- THE TIED CARD OF 'laws.FnExactPressed'. -/
def fnExactPressedCard : Claim7 := { stood := { row := fnExactPressedRow, standIns := [], harness := (true, "8cff9bd9c5aca03da099d31bfe895be295955aec2d3105b26e9c78a5a0e251b7"), looks := false }, kinds := [], alts := [], laidByText := true, laidKinds := [.data, .pinned], laidTests := true, laidLooks := .later }
def FnExactPressedCardSaid : Prop := Claim7.holds Tryd.pinned (.plain (OpenSpec.ofChange fnExactPressedSpec)) fnExactPressedCard

/-- THE TIED CARD OF 'laws.FnPressed'. -/
def fnPressedCard : Claim7 := { stood := { row := fnPressedRow, standIns := [], harness := (true, "8cff9bd9c5aca03da099d31bfe895be295955aec2d3105b26e9c78a5a0e251b7"), looks := false }, kinds := [], alts := [], laidByText := true, laidKinds := [.data, .pinned], laidTests := true, laidLooks := .later }
def FnPressedCardSaid : Prop := Claim7.holds Tryd.pinned (.plain (OpenSpec.ofChange fnPressedSpec)) fnPressedCard

/-- THE SECOND FORM's CARD OF 'laws.FnExactFeederOk'. -/
def fnExactFeederOkUptoCard : Claim7 := { stood := { row := fnExactFeederOkUptoRow, standIns := [], harness := (true, "8cff9bd9c5aca03da099d31bfe895be295955aec2d3105b26e9c78a5a0e251b7"), looks := false }, kinds := [], alts := [], laidByText := true, laidKinds := [.data, .pinned], laidTests := true, laidLooks := .later }
def FnExactFeederOkUptoCardSaid : Prop := Claim7.holds Tryd.pinned (.plain (OpenSpec.upto fnExactFeederOkSpec)) fnExactFeederOkUptoCard

/-- THE SECOND FORM's CARD OF 'laws.FnExactGet'. -/
def fnExactGetUptoCard : Claim7 := { stood := { row := fnExactGetUptoRow, standIns := [], harness := (true, "8cff9bd9c5aca03da099d31bfe895be295955aec2d3105b26e9c78a5a0e251b7"), looks := false }, kinds := [], alts := [], laidByText := true, laidKinds := [.data, .pinned], laidTests := true, laidLooks := .later }
def FnExactGetUptoCardSaid : Prop := Claim7.holds Tryd.pinned (.plain (OpenSpec.upto fnExactGetSpec)) fnExactGetUptoCard

/-- THE SECOND FORM's CARD OF 'laws.FnExactRunes'. -/
def fnExactRunesUptoCard : Claim7 := { stood := { row := fnExactRunesUptoRow, standIns := [], harness := (true, "8cff9bd9c5aca03da099d31bfe895be295955aec2d3105b26e9c78a5a0e251b7"), looks := false }, kinds := [], alts := [], laidByText := true, laidKinds := [.data, .pinned], laidTests := true, laidLooks := .later }
def FnExactRunesUptoCardSaid : Prop := Claim7.holds Tryd.pinned (.plain (OpenSpec.upto fnExactRunesSpec)) fnExactRunesUptoCard

/-- THE SECOND FORM's CARD OF 'laws.FnExactFitting'. -/
def fnExactFittingUptoCard : Claim7 := { stood := { row := fnExactFittingUptoRow, standIns := [], harness := (true, "8cff9bd9c5aca03da099d31bfe895be295955aec2d3105b26e9c78a5a0e251b7"), looks := false }, kinds := [], alts := [], laidByText := true, laidKinds := [.data, .pinned], laidTests := true, laidLooks := .later }
def FnExactFittingUptoCardSaid : Prop := Claim7.holds Tryd.pinned (.plain (OpenSpec.upto fnExactFittingSpec)) fnExactFittingUptoCard

/-- THE SECOND FORM's CARD OF 'laws.FnExactTextWidth'. -/
def fnExactTextWidthUptoCard : Claim7 := { stood := { row := fnExactTextWidthUptoRow, standIns := [], harness := (true, "8cff9bd9c5aca03da099d31bfe895be295955aec2d3105b26e9c78a5a0e251b7"), looks := false }, kinds := [], alts := [], laidByText := true, laidKinds := [.data, .pinned], laidTests := true, laidLooks := .later }
def FnExactTextWidthUptoCardSaid : Prop := Claim7.holds Tryd.pinned (.plain (OpenSpec.upto fnExactTextWidthSpec)) fnExactTextWidthUptoCard

/-- THE SECOND FORM's CARD OF 'laws.FnCut'. -/
def fnCutUptoCard : Claim7 := { stood := { row := fnCutUptoRow, standIns := [], harness := (true, "8cff9bd9c5aca03da099d31bfe895be295955aec2d3105b26e9c78a5a0e251b7"), looks := false }, kinds := [], alts := [], laidByText := true, laidKinds := [.data, .pinned], laidTests := true, laidLooks := .later }
def FnCutUptoCardSaid : Prop := Claim7.holds Tryd.pinned (.plain (OpenSpec.upto fnCutSpec)) fnCutUptoCard

/-- THE SECOND FORM's CARD OF 'laws.FnExactFeed'. -/
def fnExactFeedUptoCard : Claim7 := { stood := { row := fnExactFeedUptoRow, standIns := [], harness := (true, "8cff9bd9c5aca03da099d31bfe895be295955aec2d3105b26e9c78a5a0e251b7"), looks := false }, kinds := [], alts := [], laidByText := true, laidKinds := [.data, .pinned], laidTests := true, laidLooks := .later }
def FnExactFeedUptoCardSaid : Prop := Claim7.holds Tryd.pinned (.plain (OpenSpec.upto fnExactFeedSpec)) fnExactFeedUptoCard

/-- THE SECOND FORM's CARD OF 'laws.FnRunes'. -/
def fnRunesUptoCard : Claim7 := { stood := { row := fnRunesUptoRow, standIns := [], harness := (true, "8cff9bd9c5aca03da099d31bfe895be295955aec2d3105b26e9c78a5a0e251b7"), looks := false }, kinds := [], alts := [], laidByText := true, laidKinds := [.data, .pinned], laidTests := true, laidLooks := .later }
def FnRunesUptoCardSaid : Prop := Claim7.holds Tryd.pinned (.plain (OpenSpec.upto fnRunesSpec)) fnRunesUptoCard

/-- THE SECOND FORM's CARD OF 'laws.FnFed'. -/
def fnFedUptoCard : Claim7 := { stood := { row := fnFedUptoRow, standIns := [], harness := (true, "8cff9bd9c5aca03da099d31bfe895be295955aec2d3105b26e9c78a5a0e251b7"), looks := false }, kinds := [], alts := [], laidByText := true, laidKinds := [.data, .pinned], laidTests := true, laidLooks := .later }
def FnFedUptoCardSaid : Prop := Claim7.holds Tryd.pinned (.plain (OpenSpec.upto fnFedSpec)) fnFedUptoCard

/-- THE SECOND FORM's CARD OF 'laws.FnWidths'. -/
def fnWidthsUptoCard : Claim7 := { stood := { row := fnWidthsUptoRow, standIns := [], harness := (true, "8cff9bd9c5aca03da099d31bfe895be295955aec2d3105b26e9c78a5a0e251b7"), looks := false }, kinds := [], alts := [], laidByText := true, laidKinds := [.data, .pinned], laidTests := true, laidLooks := .later }
def FnWidthsUptoCardSaid : Prop := Claim7.holds Tryd.pinned (.plain (OpenSpec.upto fnWidthsSpec)) fnWidthsUptoCard

/-- THE SECOND FORM's CARD OF 'laws.FnExactPressed'. -/
def fnExactPressedUptoCard : Claim7 := { stood := { row := fnExactPressedUptoRow, standIns := [], harness := (true, "8cff9bd9c5aca03da099d31bfe895be295955aec2d3105b26e9c78a5a0e251b7"), looks := false }, kinds := [], alts := [], laidByText := true, laidKinds := [.data, .pinned], laidTests := true, laidLooks := .later }
def FnExactPressedUptoCardSaid : Prop := Claim7.holds Tryd.pinned (.plain (OpenSpec.upto fnExactPressedSpec)) fnExactPressedUptoCard

/-- THE SECOND FORM's CARD OF 'laws.FnPressed'. -/
def fnPressedUptoCard : Claim7 := { stood := { row := fnPressedUptoRow, standIns := [], harness := (true, "8cff9bd9c5aca03da099d31bfe895be295955aec2d3105b26e9c78a5a0e251b7"), looks := false }, kinds := [], alts := [], laidByText := true, laidKinds := [.data, .pinned], laidTests := true, laidLooks := .later }
def FnPressedUptoCardSaid : Prop := Claim7.holds Tryd.pinned (.plain (OpenSpec.upto fnPressedSpec)) fnPressedUptoCard
end Rows
end Go.Proofs.YtmbnbpjjgohbeaaDoor
