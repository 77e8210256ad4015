/-
  DERIVED. GIVEN WITH THE SEED: THE CARDS: each row of YtbgekmchjdkjiaaDoorRows.lean that lists a variable, with what it lists TIED to the program's text (the seventh form; the later family's looks); each row that meets fmt, with fmt's text TOLD by the authors' own Lean function (tested against real Go, not proved from fmt's source: count such statements apart). THE CARD IS WHAT COUNTS. Prove the row's statement (the work); the ties are given (YtbgekmchjdkjiaaDoorTie.lean); close each card by the builder's one call (the guide's Derived/Test/ToyasCard.lean, 'card_holds'). Laid BY PROGRAM, IN A SANDBOX (cutbox-door.mjs). By AI agents, Wed Nov 11 2026. No macro, syntax, notation, axiom, sorry.
-/
import Derived.Test.YtbgekmchjdkjiaaDoorRows
import GoSem.ClaimSeven
namespace Go.Proofs.YtbgekmchjdkjiaaDoor
namespace Rows

/-- THE TIED CARD OF 'laws.FnExactSign'. -/
def fnExactSignCard : Claim7 := { stood := { row := fnExactSignRow, standIns := [], harness := (true, "a5251e5fe87f55046e608ea5181d989ac42191ad5d42c60b3edd0a6b6c982adf"), looks := false }, kinds := [], alts := [], laidByText := true, laidKinds := [.data, .data, .data], laidTests := true, laidLooks := .later }
def FnExactSignCardSaid : Prop := Claim7.holds Tryd.pinned (.plain (OpenSpec.ofChange fnExactSignSpec)) fnExactSignCard

/-- THE TIED CARD OF 'laws.FnExactRowText'. -/
def fnExactRowTextCard : Claim7 := { stood := { row := fnExactRowTextRow, standIns := [], harness := (true, "a5251e5fe87f55046e608ea5181d989ac42191ad5d42c60b3edd0a6b6c982adf"), looks := false }, kinds := [], alts := [], laidByText := true, laidKinds := [.data, .pinned], laidTests := true, laidLooks := .later }
def FnExactRowTextCardSaid : Prop := Claim7.holds Tryd.pinned (.plain (OpenSpec.ofChange fnExactRowTextSpec)) fnExactRowTextCard

/-- THE TIED CARD OF 'laws.FnStyles'. -/
def fnStylesCard : Claim7 := { stood := { row := fnStylesRow, standIns := [], harness := (true, "a5251e5fe87f55046e608ea5181d989ac42191ad5d42c60b3edd0a6b6c982adf"), looks := false }, kinds := [], alts := [], laidByText := true, laidKinds := [.data, .data, .data], laidTests := true, laidLooks := .later }
def FnStylesCardSaid : Prop := Claim7.holds Tryd.pinned (.plain (OpenSpec.ofChange fnStylesSpec)) fnStylesCard

/-- THE SECOND FORM's CARD OF 'laws.FnExactSign'. -/
def fnExactSignUptoCard : Claim7 := { stood := { row := fnExactSignUptoRow, standIns := [], harness := (true, "a5251e5fe87f55046e608ea5181d989ac42191ad5d42c60b3edd0a6b6c982adf"), looks := false }, kinds := [], alts := [], laidByText := true, laidKinds := [.data, .data, .data], laidTests := true, laidLooks := .later }
def FnExactSignUptoCardSaid : Prop := Claim7.holds Tryd.pinned (.plain (OpenSpec.upto fnExactSignSpec)) fnExactSignUptoCard

/-- THE SECOND FORM's CARD OF 'laws.FnExactRowText'. -/
def fnExactRowTextUptoCard : Claim7 := { stood := { row := fnExactRowTextUptoRow, standIns := [], harness := (true, "a5251e5fe87f55046e608ea5181d989ac42191ad5d42c60b3edd0a6b6c982adf"), looks := false }, kinds := [], alts := [], laidByText := true, laidKinds := [.data, .pinned], laidTests := true, laidLooks := .later }
def FnExactRowTextUptoCardSaid : Prop := Claim7.holds Tryd.pinned (.plain (OpenSpec.upto fnExactRowTextSpec)) fnExactRowTextUptoCard

/-- THE SECOND FORM's CARD OF 'laws.FnStyles'. -/
def fnStylesUptoCard : Claim7 := { stood := { row := fnStylesUptoRow, standIns := [], harness := (true, "a5251e5fe87f55046e608ea5181d989ac42191ad5d42c60b3edd0a6b6c982adf"), looks := false }, kinds := [], alts := [], laidByText := true, laidKinds := [.data, .data, .data], laidTests := true, laidLooks := .later }
def FnStylesUptoCardSaid : Prop := Claim7.holds Tryd.pinned (.plain (OpenSpec.upto fnStylesSpec)) fnStylesUptoCard
end Rows
end Go.Proofs.YtbgekmchjdkjiaaDoor
