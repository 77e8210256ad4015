/-
  DERIVED. GIVEN WITH THE SEED: THE CARDS: each row of YtfhkpneffmcdbaaDoorRows.lean that lists a variable, with what it lists TIED to the program's text (the seventh form; the later family's looks); each row that meets fmt, with fmt's text TOLD by the authors' own Lean function (tested against real Go, not proved from fmt's source: count such statements apart). THE CARD IS WHAT COUNTS. Prove the row's statement (the work); the ties are given (YtfhkpneffmcdbaaDoorTie.lean); close each card by the builder's one call (the guide's Derived/Test/ToyasCard.lean, 'card_holds'). Laid BY PROGRAM, IN A SANDBOX (cutbox-door.mjs). By AI agents, Wed Nov 11 2026. No macro, syntax, notation, axiom, sorry.
-/
import Derived.Test.YtfhkpneffmcdbaaDoorRows
import GoSem.ClaimSeven
namespace Go.Proofs.YtfhkpneffmcdbaaDoor
namespace Rows

/-- THE TIED CARD OF 'laws.FnRunes'. -/
def fnRunesCard : Claim7 := { stood := { row := fnRunesRow, standIns := [], harness := (true, "4663b09678c47baaf12e439a9ee99631a8ac20c509105b69059ea5c7b669f470"), looks := false }, kinds := [], alts := [], laidByText := true, laidKinds := [.data, .pinned], laidTests := true, laidLooks := .later }
def FnRunesCardSaid : Prop := Claim7.holds Tryd.pinned (.plain (OpenSpec.ofChange fnRunesSpec)) fnRunesCard

/-- THE TIED CARD OF 'laws.FnFed'. -/
def fnFedCard : Claim7 := { stood := { row := fnFedRow, standIns := [], harness := (true, "4663b09678c47baaf12e439a9ee99631a8ac20c509105b69059ea5c7b669f470"), looks := false }, kinds := [], alts := [], laidByText := true, laidKinds := [.data, .pinned], laidTests := true, laidLooks := .later }
def FnFedCardSaid : Prop := Claim7.holds Tryd.pinned (.plain (OpenSpec.ofChange fnFedSpec)) fnFedCard

/-- THE TIED CARD OF 'laws.FnWidths'. -/
def fnWidthsCard : Claim7 := { stood := { row := fnWidthsRow, standIns := [], harness := (true, "4663b09678c47baaf12e439a9ee99631a8ac20c509105b69059ea5c7b669f470"), looks := false }, kinds := [], alts := [], laidByText := true, laidKinds := [.data, .pinned], laidTests := true, laidLooks := .later }
def FnWidthsCardSaid : Prop := Claim7.holds Tryd.pinned (.plain (OpenSpec.ofChange fnWidthsSpec)) fnWidthsCard

/-- THE TIED CARD OF 'laws.FnPressed'. -/
def fnPressedCard : Claim7 := { stood := { row := fnPressedRow, standIns := [], harness := (true, "4663b09678c47baaf12e439a9ee99631a8ac20c509105b69059ea5c7b669f470"), looks := false }, kinds := [], alts := [], laidByText := true, laidKinds := [.data, .pinned], laidTests := true, laidLooks := .later }
def FnPressedCardSaid : Prop := Claim7.holds Tryd.pinned (.plain (OpenSpec.ofChange fnPressedSpec)) fnPressedCard

/-- THE SECOND FORM's CARD OF 'laws.FnRunes'. -/
def fnRunesUptoCard : Claim7 := { stood := { row := fnRunesUptoRow, standIns := [], harness := (true, "4663b09678c47baaf12e439a9ee99631a8ac20c509105b69059ea5c7b669f470"), looks := false }, kinds := [], alts := [], laidByText := true, laidKinds := [.data, .pinned], laidTests := true, laidLooks := .later }
def FnRunesUptoCardSaid : Prop := Claim7.holds Tryd.pinned (.plain (OpenSpec.upto fnRunesSpec)) fnRunesUptoCard

/-- THE SECOND FORM's CARD OF 'laws.FnFed'. -/
def fnFedUptoCard : Claim7 := { stood := { row := fnFedUptoRow, standIns := [], harness := (true, "4663b09678c47baaf12e439a9ee99631a8ac20c509105b69059ea5c7b669f470"), looks := false }, kinds := [], alts := [], laidByText := true, laidKinds := [.data, .pinned], laidTests := true, laidLooks := .later }
def FnFedUptoCardSaid : Prop := Claim7.holds Tryd.pinned (.plain (OpenSpec.upto fnFedSpec)) fnFedUptoCard

/-- THE SECOND FORM's CARD OF 'laws.FnWidths'. -/
def fnWidthsUptoCard : Claim7 := { stood := { row := fnWidthsUptoRow, standIns := [], harness := (true, "4663b09678c47baaf12e439a9ee99631a8ac20c509105b69059ea5c7b669f470"), looks := false }, kinds := [], alts := [], laidByText := true, laidKinds := [.data, .pinned], laidTests := true, laidLooks := .later }
def FnWidthsUptoCardSaid : Prop := Claim7.holds Tryd.pinned (.plain (OpenSpec.upto fnWidthsSpec)) fnWidthsUptoCard

/-- THE SECOND FORM's CARD OF 'laws.FnPressed'. -/
def fnPressedUptoCard : Claim7 := { stood := { row := fnPressedUptoRow, standIns := [], harness := (true, "4663b09678c47baaf12e439a9ee99631a8ac20c509105b69059ea5c7b669f470"), looks := false }, kinds := [], alts := [], laidByText := true, laidKinds := [.data, .pinned], laidTests := true, laidLooks := .later }
def FnPressedUptoCardSaid : Prop := Claim7.holds Tryd.pinned (.plain (OpenSpec.upto fnPressedSpec)) fnPressedUptoCard
end Rows
end Go.Proofs.YtfhkpneffmcdbaaDoor
