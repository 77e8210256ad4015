/-
  No cell of these rows narrows 'for every input' (looked for: loops, veiled, ifaces, maps, wideKeys, modest, calm, conditions, laid).
  DERIVED. THE GIVEN ROWS OF THIS SEAT. 9 by the template 'for every input the law returns true; each argument reads behind the call as it read before'; 0 by the template 'total and deterministic' (their statements: YtlbdegpjgonnnaaTotals.lean).
  GIVEN WITH THE SEED: the statements are not yours to turn. If you find one false, say at which input.
  Laid BY PROGRAM, IN A SANDBOX (cutbox-rows.mjs): the forced cells as the released guide's own fill.sh prints them over the translation 37c7f325dcecd64f… (all of the seat's roots in one cut). By AI agents, Wed Nov 11 2026. No macro, syntax, notation, axiom, sorry.
-/
import Derived.Test.YtlbdegpjgonnnaaChecked
import GoSem.Claim
import GoSem.ClaimJoined
import GoSem.ClaimMapViews
import Derived.JoinedTies
import Derived.KernelRfl
namespace Go.Proofs.Ytlbdegpjgonnnaa
/- THE CELL 'sum', in the pinned program and in every row, IS THE sha256 OF THE DUMP (.gsa) THAT YtlbdegpjgonnnaaProg.lean LOADS. Nothing in Lean hashes anything: it is a label: what it is worth is what the hold of that sum in a sandbox is worth. -/
noncomputable def Try.pinned : Pinned := { name := "ytlbdegpjgonnnaa", sum := "37c7f325dcecd64f070cea91cedfac658ffa51b4d015843a84a3235b16e7498f", checked := Try.checked }
namespace Rows
def none {H : Type} : Left H := { results := [], args := [] }

/-- 'laws.FnExactPeriod': WHATEVER THE INPUT: true; the input reads as it did. -/
def fnExactPeriodSpec : ChangeSpec := { name := "fnExactPeriod", fn := fun _ => fun
  | [d] => { results := [.lit (.bool true)], args := [d] }
  | _ => none }
def fnExactPeriodRow : OpenClaim := { program := "ytlbdegpjgonnnaa", sum := "37c7f325dcecd64f070cea91cedfac658ffa51b4d015843a84a3235b16e7498f", func := "loop.example/g00215/laws.FnExactPeriod", spec := "fnExactPeriod", apart := false }
def FnExactPeriodSaid : Prop := fnExactPeriodRow.holds Try.pinned (OpenSpec.ofChange fnExactPeriodSpec)

/-- ITS FALSE NEIGHBOUR: 'it returns false'. Refute it at one input. -/
def fnExactPeriodWrong : ChangeSpec := { name := "fnExactPeriod", fn := fun _ => fun
  | [d] => { results := [.lit (.bool false)], args := [d] }
  | _ => none }
def FnExactPeriodWrongFalsely : Prop := fnExactPeriodRow.holds Try.pinned (OpenSpec.ofChange fnExactPeriodWrong)

/-- 'laws.FnExactBorders': WHATEVER THE INPUT: true; the input reads as it did. -/
def fnExactBordersSpec : ChangeSpec := { name := "fnExactBorders", fn := fun _ => fun
  | [d] => { results := [.lit (.bool true)], args := [d] }
  | _ => none }
def fnExactBordersRow : OpenClaim := { program := "ytlbdegpjgonnnaa", sum := "37c7f325dcecd64f070cea91cedfac658ffa51b4d015843a84a3235b16e7498f", func := "loop.example/g00215/laws.FnExactBorders", spec := "fnExactBorders", apart := false }
def FnExactBordersSaid : Prop := fnExactBordersRow.holds Try.pinned (OpenSpec.ofChange fnExactBordersSpec)

/-- ITS FALSE NEIGHBOUR: 'it returns false'. Refute it at one input. -/
def fnExactBordersWrong : ChangeSpec := { name := "fnExactBorders", fn := fun _ => fun
  | [d] => { results := [.lit (.bool false)], args := [d] }
  | _ => none }
def FnExactBordersWrongFalsely : Prop := fnExactBordersRow.holds Try.pinned (OpenSpec.ofChange fnExactBordersWrong)

/-- 'laws.FnExactText': WHATEVER THE INPUT: true; the input reads as it did. -/
def fnExactTextSpec : ChangeSpec := { name := "fnExactText", fn := fun _ => fun
  | [d] => { results := [.lit (.bool true)], args := [d] }
  | _ => none }
def fnExactTextRow : OpenClaim := { program := "ytlbdegpjgonnnaa", sum := "37c7f325dcecd64f070cea91cedfac658ffa51b4d015843a84a3235b16e7498f", func := "loop.example/g00215/laws.FnExactText", spec := "fnExactText", apart := false }
def FnExactTextSaid : Prop := fnExactTextRow.holds Try.pinned (OpenSpec.ofChange fnExactTextSpec)

/-- ITS FALSE NEIGHBOUR: 'it returns false'. Refute it at one input. -/
def fnExactTextWrong : ChangeSpec := { name := "fnExactText", fn := fun _ => fun
  | [d] => { results := [.lit (.bool false)], args := [d] }
  | _ => none }
def FnExactTextWrongFalsely : Prop := fnExactTextRow.holds Try.pinned (OpenSpec.ofChange fnExactTextWrong)

/-- 'laws.FnExactNewHistory': WHATEVER THE INPUT: true; the input reads as it did. -/
def fnExactNewHistorySpec : ChangeSpec := { name := "fnExactNewHistory", fn := fun _ => fun
  | [d] => { results := [.lit (.bool true)], args := [d] }
  | _ => none }
def fnExactNewHistoryRow : OpenClaim := { program := "ytlbdegpjgonnnaa", sum := "37c7f325dcecd64f070cea91cedfac658ffa51b4d015843a84a3235b16e7498f", func := "loop.example/g00215/laws.FnExactNewHistory", spec := "fnExactNewHistory", apart := false }
def FnExactNewHistorySaid : Prop := fnExactNewHistoryRow.holds Try.pinned (OpenSpec.ofChange fnExactNewHistorySpec)

/-- ITS FALSE NEIGHBOUR: 'it returns false'. Refute it at one input. -/
def fnExactNewHistoryWrong : ChangeSpec := { name := "fnExactNewHistory", fn := fun _ => fun
  | [d] => { results := [.lit (.bool false)], args := [d] }
  | _ => none }
def FnExactNewHistoryWrongFalsely : Prop := fnExactNewHistoryRow.holds Try.pinned (OpenSpec.ofChange fnExactNewHistoryWrong)

/-- 'laws.FnExactApart': WHATEVER THE INPUT: true; the input reads as it did. -/
def fnExactApartSpec : ChangeSpec := { name := "fnExactApart", fn := fun _ => fun
  | [d1, d2] => { results := [.lit (.bool true)], args := [d1, d2] }
  | _ => none }
def fnExactApartRow : OpenClaim := { program := "ytlbdegpjgonnnaa", sum := "37c7f325dcecd64f070cea91cedfac658ffa51b4d015843a84a3235b16e7498f", func := "loop.example/g00215/laws.FnExactApart", spec := "fnExactApart", apart := false }
def FnExactApartSaid : Prop := fnExactApartRow.holds Try.pinned (OpenSpec.ofChange fnExactApartSpec)

/-- ITS FALSE NEIGHBOUR: 'it returns false'. Refute it at one input. -/
def fnExactApartWrong : ChangeSpec := { name := "fnExactApart", fn := fun _ => fun
  | [d1, d2] => { results := [.lit (.bool false)], args := [d1, d2] }
  | _ => none }
def FnExactApartWrongFalsely : Prop := fnExactApartRow.holds Try.pinned (OpenSpec.ofChange fnExactApartWrong)

/-- 'laws.FnExactHistoryOk': WHATEVER THE INPUT: true; the input reads as it did. -/
def fnExactHistoryOkSpec : ChangeSpec := { name := "fnExactHistoryOk", fn := fun _ => fun
  | [d] => { results := [.lit (.bool true)], args := [d] }
  | _ => none }
def fnExactHistoryOkRow : OpenClaim := { program := "ytlbdegpjgonnnaa", sum := "37c7f325dcecd64f070cea91cedfac658ffa51b4d015843a84a3235b16e7498f", func := "loop.example/g00215/laws.FnExactHistoryOk", spec := "fnExactHistoryOk", unfollowed := true, recurses := true, apart := false }
def FnExactHistoryOkSaid : Prop := fnExactHistoryOkRow.holds Try.pinned (OpenSpec.ofChange fnExactHistoryOkSpec)

/-- ITS FALSE NEIGHBOUR: 'it returns false'. Refute it at one input. -/
def fnExactHistoryOkWrong : ChangeSpec := { name := "fnExactHistoryOk", fn := fun _ => fun
  | [d] => { results := [.lit (.bool false)], args := [d] }
  | _ => none }
def FnExactHistoryOkWrongFalsely : Prop := fnExactHistoryOkRow.holds Try.pinned (OpenSpec.ofChange fnExactHistoryOkWrong)

/-- 'laws.FnExactPlaces': WHATEVER THE INPUT: true; the input reads as it did. -/
def fnExactPlacesSpec : ChangeSpec := { name := "fnExactPlaces", fn := fun _ => fun
  | [d1, d2] => { results := [.lit (.bool true)], args := [d1, d2] }
  | _ => none }
def fnExactPlacesRow : OpenClaim := { program := "ytlbdegpjgonnnaa", sum := "37c7f325dcecd64f070cea91cedfac658ffa51b4d015843a84a3235b16e7498f", func := "loop.example/g00215/laws.FnExactPlaces", spec := "fnExactPlaces", apart := false }
def FnExactPlacesSaid : Prop := fnExactPlacesRow.holds Try.pinned (OpenSpec.ofChange fnExactPlacesSpec)

/-- ITS FALSE NEIGHBOUR: 'it returns false'. Refute it at one input. -/
def fnExactPlacesWrong : ChangeSpec := { name := "fnExactPlaces", fn := fun _ => fun
  | [d1, d2] => { results := [.lit (.bool false)], args := [d1, d2] }
  | _ => none }
def FnExactPlacesWrongFalsely : Prop := fnExactPlacesRow.holds Try.pinned (OpenSpec.ofChange fnExactPlacesWrong)

/-- 'laws.FnExactLineAt': WHATEVER THE INPUT: true; the input reads as it did. -/
def fnExactLineAtSpec : ChangeSpec := { name := "fnExactLineAt", fn := fun _ => fun
  | [d1, d2] => { results := [.lit (.bool true)], args := [d1, d2] }
  | _ => none }
def fnExactLineAtRow : OpenClaim := { program := "ytlbdegpjgonnnaa", sum := "37c7f325dcecd64f070cea91cedfac658ffa51b4d015843a84a3235b16e7498f", func := "loop.example/g00215/laws.FnExactLineAt", spec := "fnExactLineAt", unfollowed := true, recurses := true, apart := false }
def FnExactLineAtSaid : Prop := fnExactLineAtRow.holds Try.pinned (OpenSpec.ofChange fnExactLineAtSpec)

/-- ITS FALSE NEIGHBOUR: 'it returns false'. Refute it at one input. -/
def fnExactLineAtWrong : ChangeSpec := { name := "fnExactLineAt", fn := fun _ => fun
  | [d1, d2] => { results := [.lit (.bool false)], args := [d1, d2] }
  | _ => none }
def FnExactLineAtWrongFalsely : Prop := fnExactLineAtRow.holds Try.pinned (OpenSpec.ofChange fnExactLineAtWrong)

/-- 'laws.FnExactSent': WHATEVER THE INPUT: true; the input reads as it did. -/
def fnExactSentSpec : ChangeSpec := { name := "fnExactSent", fn := fun _ => fun
  | [d] => { results := [.lit (.bool true)], args := [d] }
  | _ => none }
def fnExactSentRow : OpenClaim := { program := "ytlbdegpjgonnnaa", sum := "37c7f325dcecd64f070cea91cedfac658ffa51b4d015843a84a3235b16e7498f", func := "loop.example/g00215/laws.FnExactSent", spec := "fnExactSent", apart := false }
def FnExactSentSaid : Prop := fnExactSentRow.holds Try.pinned (OpenSpec.ofChange fnExactSentSpec)

/-- ITS FALSE NEIGHBOUR: 'it returns false'. Refute it at one input. -/
def fnExactSentWrong : ChangeSpec := { name := "fnExactSent", fn := fun _ => fun
  | [d] => { results := [.lit (.bool false)], args := [d] }
  | _ => none }
def FnExactSentWrongFalsely : Prop := fnExactSentRow.holds Try.pinned (OpenSpec.ofChange fnExactSentWrong)

/- THE SECOND FORM. 'bulk': how many values and letters a reading holds, each counted each time it is reached (what is shared counts as often as it is met; a slice's spare places count too). A statement '..UptoSaid' is the law's where the arguments, and the package variables that the reading takes, are together of bulk at most 1048576: NARROWER than '..Said'. Prove '..Said' where nothing that the law and all that it calls make is longer than what came in: it says more and counts as full. Else prove '..UptoSaid'. A law counts once. -/
mutual
def uptoBulk {H : Type} : DataW H → Nat
  | .lit (.string bytes) => bytes.length + 1
  | .lit _ => 1
  | .nil => 1
  | .ptr d => uptoBulk d + 1
  | .slice elems spare => uptoBulkAll elems + uptoBulkAll spare + 1
  | .agg parts => uptoBulkAll parts + 1
  | .iface _ d => uptoBulk d + 1
  | .map entries => uptoBulkEntries entries + 1
  | .held _ => 1
def uptoBulkAll {H : Type} : List (DataW H) → Nat
  | [] => 0
  | d :: r => uptoBulk d + uptoBulkAll r
def uptoBulkEntries {H : Type} : List (Lit × DataW H) → Nat
  | [] => 0
  | x :: r => uptoBulkEntry x + uptoBulkEntries r
def uptoBulkEntry {H : Type} : Lit × DataW H → Nat
  | (.string bytes, d) => bytes.length + uptoBulk d + 1
  | (_, d) => uptoBulk d + 1
 end
def uptoSmall : (H : Type) → List (DataW H) → Bool := fun _ ds => decide (uptoBulkAll ds ≤ 1048576)
def OpenSpec.upto (s : _root_.Go.ChangeSpec) : _root_.Go.OpenSpec := { _root_.Go.OpenSpec.ofChange s with cond := some uptoSmall }

/-- 'laws.FnExactPeriod', WHERE WHAT IT READS IS OF BULK AT MOST 1048576: true; the input reads as it did. -/
def fnExactPeriodUptoRow : OpenClaim := { program := "ytlbdegpjgonnnaa", sum := "37c7f325dcecd64f070cea91cedfac658ffa51b4d015843a84a3235b16e7498f", func := "loop.example/g00215/laws.FnExactPeriod", spec := "fnExactPeriod", apart := false, narrowed := true }
def FnExactPeriodUptoSaid : Prop := fnExactPeriodUptoRow.holds Try.pinned (OpenSpec.upto fnExactPeriodSpec)

/-- 'laws.FnExactBorders', WHERE WHAT IT READS IS OF BULK AT MOST 1048576: true; the input reads as it did. -/
def fnExactBordersUptoRow : OpenClaim := { program := "ytlbdegpjgonnnaa", sum := "37c7f325dcecd64f070cea91cedfac658ffa51b4d015843a84a3235b16e7498f", func := "loop.example/g00215/laws.FnExactBorders", spec := "fnExactBorders", apart := false, narrowed := true }
def FnExactBordersUptoSaid : Prop := fnExactBordersUptoRow.holds Try.pinned (OpenSpec.upto fnExactBordersSpec)

/-- 'laws.FnExactText', WHERE WHAT IT READS IS OF BULK AT MOST 1048576: true; the input reads as it did. -/
def fnExactTextUptoRow : OpenClaim := { program := "ytlbdegpjgonnnaa", sum := "37c7f325dcecd64f070cea91cedfac658ffa51b4d015843a84a3235b16e7498f", func := "loop.example/g00215/laws.FnExactText", spec := "fnExactText", apart := false, narrowed := true }
def FnExactTextUptoSaid : Prop := fnExactTextUptoRow.holds Try.pinned (OpenSpec.upto fnExactTextSpec)

/-- 'laws.FnExactNewHistory', WHERE WHAT IT READS IS OF BULK AT MOST 1048576: true; the input reads as it did. -/
def fnExactNewHistoryUptoRow : OpenClaim := { program := "ytlbdegpjgonnnaa", sum := "37c7f325dcecd64f070cea91cedfac658ffa51b4d015843a84a3235b16e7498f", func := "loop.example/g00215/laws.FnExactNewHistory", spec := "fnExactNewHistory", apart := false, narrowed := true }
def FnExactNewHistoryUptoSaid : Prop := fnExactNewHistoryUptoRow.holds Try.pinned (OpenSpec.upto fnExactNewHistorySpec)

/-- 'laws.FnExactApart', WHERE WHAT IT READS IS OF BULK AT MOST 1048576: true; the input reads as it did. -/
def fnExactApartUptoRow : OpenClaim := { program := "ytlbdegpjgonnnaa", sum := "37c7f325dcecd64f070cea91cedfac658ffa51b4d015843a84a3235b16e7498f", func := "loop.example/g00215/laws.FnExactApart", spec := "fnExactApart", apart := false, narrowed := true }
def FnExactApartUptoSaid : Prop := fnExactApartUptoRow.holds Try.pinned (OpenSpec.upto fnExactApartSpec)

/-- 'laws.FnExactHistoryOk', WHERE WHAT IT READS IS OF BULK AT MOST 1048576: true; the input reads as it did. -/
def fnExactHistoryOkUptoRow : OpenClaim := { program := "ytlbdegpjgonnnaa", sum := "37c7f325dcecd64f070cea91cedfac658ffa51b4d015843a84a3235b16e7498f", func := "loop.example/g00215/laws.FnExactHistoryOk", spec := "fnExactHistoryOk", unfollowed := true, recurses := true, apart := false, narrowed := true }
def FnExactHistoryOkUptoSaid : Prop := fnExactHistoryOkUptoRow.holds Try.pinned (OpenSpec.upto fnExactHistoryOkSpec)

/-- 'laws.FnExactPlaces', WHERE WHAT IT READS IS OF BULK AT MOST 1048576: true; the input reads as it did. -/
def fnExactPlacesUptoRow : OpenClaim := { program := "ytlbdegpjgonnnaa", sum := "37c7f325dcecd64f070cea91cedfac658ffa51b4d015843a84a3235b16e7498f", func := "loop.example/g00215/laws.FnExactPlaces", spec := "fnExactPlaces", apart := false, narrowed := true }
def FnExactPlacesUptoSaid : Prop := fnExactPlacesUptoRow.holds Try.pinned (OpenSpec.upto fnExactPlacesSpec)

/-- 'laws.FnExactLineAt', WHERE WHAT IT READS IS OF BULK AT MOST 1048576: true; the input reads as it did. -/
def fnExactLineAtUptoRow : OpenClaim := { program := "ytlbdegpjgonnnaa", sum := "37c7f325dcecd64f070cea91cedfac658ffa51b4d015843a84a3235b16e7498f", func := "loop.example/g00215/laws.FnExactLineAt", spec := "fnExactLineAt", unfollowed := true, recurses := true, apart := false, narrowed := true }
def FnExactLineAtUptoSaid : Prop := fnExactLineAtUptoRow.holds Try.pinned (OpenSpec.upto fnExactLineAtSpec)

/-- 'laws.FnExactSent', WHERE WHAT IT READS IS OF BULK AT MOST 1048576: true; the input reads as it did. -/
def fnExactSentUptoRow : OpenClaim := { program := "ytlbdegpjgonnnaa", sum := "37c7f325dcecd64f070cea91cedfac658ffa51b4d015843a84a3235b16e7498f", func := "loop.example/g00215/laws.FnExactSent", spec := "fnExactSent", apart := false, narrowed := true }
def FnExactSentUptoSaid : Prop := fnExactSentUptoRow.holds Try.pinned (OpenSpec.upto fnExactSentSpec)

end Rows
end Go.Proofs.Ytlbdegpjgonnnaa
