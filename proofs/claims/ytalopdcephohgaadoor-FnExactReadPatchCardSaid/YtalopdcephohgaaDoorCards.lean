/-
  DERIVED. GIVEN WITH THE SEED: THE CARDS: each row of YtalopdcephohgaaDoorRows.lean that lists a variable, with what it lists TIED to the program's text (the seventh form; the later family's looks); each row that meets fmt, with fmt's text TOLD by the authors' own Lean function (tested against real Go, not proved from fmt's source: count such statements apart). THE CARD IS WHAT COUNTS. Prove the row's statement (the work); the ties are given (YtalopdcephohgaaDoorTie.lean); close each card by the builder's one call (the guide's Derived/Test/ToyasCard.lean, 'card_holds'). Laid BY PROGRAM, IN A SANDBOX (cutbox-door.mjs). By AI agents, Wed Nov 11 2026. No macro, syntax, notation, axiom, sorry.
-/
import Derived.Test.YtalopdcephohgaaDoorRows
import GoSem.ClaimSeven
namespace Go.Proofs.YtalopdcephohgaaDoor
namespace Rows

/-- THE TIED CARD OF 'laws.FnExactShowPatch'. -/
def fnExactShowPatchCard : Claim7 := { stood := { row := fnExactShowPatchRow, standIns := [], harness := (true, "ae0b0adc0eab39b733c0bacd1e7b4b982ef83b82257ca291a400f50a4bd98cde"), looks := true }, kinds := [], alts := [], laidByText := true, laidKinds := [.data, .data, .data], laidTests := true, laidLooks := .later }
def FnExactShowPatchCardSaid : Prop := Claim7.holds Tryd.pinned (.plain (OpenSpec.ofChange fnExactShowPatchSpec)) fnExactShowPatchCard

/-- THE TIED CARD OF 'laws.FnExactReadPatch'. -/
def fnExactReadPatchCard : Claim7 := { stood := { row := fnExactReadPatchRow, standIns := [], harness := (true, "ae0b0adc0eab39b733c0bacd1e7b4b982ef83b82257ca291a400f50a4bd98cde"), looks := true }, kinds := [], alts := [], laidByText := true, laidKinds := [.data, .data, .data, .data, .sentinel, .sentinel, .pinned], laidTests := true, laidLooks := .later }
def FnExactReadPatchCardSaid : Prop := Claim7.holds Tryd.pinned (.plain (OpenSpec.ofChange fnExactReadPatchSpec)) fnExactReadPatchCard

/-- THE SECOND FORM's CARD OF 'laws.FnExactShowPatch'. -/
def fnExactShowPatchUptoCard : Claim7 := { stood := { row := fnExactShowPatchUptoRow, standIns := [], harness := (true, "ae0b0adc0eab39b733c0bacd1e7b4b982ef83b82257ca291a400f50a4bd98cde"), looks := true }, kinds := [], alts := [], laidByText := true, laidKinds := [.data, .data, .data], laidTests := true, laidLooks := .later }
def FnExactShowPatchUptoCardSaid : Prop := Claim7.holds Tryd.pinned (.plain (OpenSpec.upto fnExactShowPatchSpec)) fnExactShowPatchUptoCard

/-- THE SECOND FORM's CARD OF 'laws.FnExactReadPatch'. -/
def fnExactReadPatchUptoCard : Claim7 := { stood := { row := fnExactReadPatchUptoRow, standIns := [], harness := (true, "ae0b0adc0eab39b733c0bacd1e7b4b982ef83b82257ca291a400f50a4bd98cde"), looks := true }, kinds := [], alts := [], laidByText := true, laidKinds := [.data, .data, .data, .data, .sentinel, .sentinel, .pinned], laidTests := true, laidLooks := .later }
def FnExactReadPatchUptoCardSaid : Prop := Claim7.holds Tryd.pinned (.plain (OpenSpec.upto fnExactReadPatchSpec)) fnExactReadPatchUptoCard
end Rows
end Go.Proofs.YtalopdcephohgaaDoor
