/-
  No cell of these rows narrows 'for every input' (looked for: loops, veiled, ifaces, maps, wideKeys, modest, calm, conditions, laid).
  DERIVED. THE GIVEN ROWS OF THIS SEAT. 12 by the template 'for every input the law returns true; each argument reads behind the call as it read before'; 0 by the template 'total and deterministic' (their statements: YtnkoppgbbmeknaaTotals.lean).
  GIVEN WITH THE SEED: the statements are not yours to turn. If you find one false, say at which input.
  Laid BY PROGRAM, IN A SANDBOX (cutbox-rows.mjs): the forced cells as the released guide's own fill.sh prints them over the translation 5313255c26ab6fac… (all of the seat's roots in one cut). By AI agents, Wed Nov 11 2026. No macro, syntax, notation, axiom, sorry.
-/
import Derived.Test.YtnkoppgbbmeknaaChecked
import GoSem.Claim
import GoSem.ClaimJoined
import GoSem.ClaimMapViews
import Derived.JoinedTies
import Derived.KernelRfl
namespace Go.Proofs.Ytnkoppgbbmeknaa
/- THE CELL 'sum', in the pinned program and in every row, IS THE sha256 OF THE DUMP (.gsa) THAT YtnkoppgbbmeknaaProg.lean LOADS. Nothing in Lean hashes anything: it is a label: what it is worth is what the hold of that sum in a sandbox is worth. -/
noncomputable def Try.pinned : Pinned := { name := "ytnkoppgbbmeknaa", sum := "5313255c26ab6fac70684d05fc6d9a9923a74c3b1759d05bd1701ad7e7413873", checked := Try.checked }
namespace Rows
def none {H : Type} : Left H := { results := [], args := [] }

/-- 'laws.FnLevenshtein': WHATEVER THE INPUT: true; the input reads as it did. -/
def fnLevenshteinSpec : ChangeSpec := { name := "fnLevenshtein", fn := fun _ => fun
  | [d] => { results := [.lit (.bool true)], args := [d] }
  | _ => none }
def fnLevenshteinRow : OpenClaim := { program := "ytnkoppgbbmeknaa", sum := "5313255c26ab6fac70684d05fc6d9a9923a74c3b1759d05bd1701ad7e7413873", func := "loop.example/g00215/laws.FnLevenshtein", spec := "fnLevenshtein", apart := false }
def FnLevenshteinSaid : Prop := fnLevenshteinRow.holds Try.pinned (OpenSpec.ofChange fnLevenshteinSpec)

/-- ITS FALSE NEIGHBOUR: 'it returns false'. Refute it at one input. -/
def fnLevenshteinWrong : ChangeSpec := { name := "fnLevenshtein", fn := fun _ => fun
  | [d] => { results := [.lit (.bool false)], args := [d] }
  | _ => none }
def FnLevenshteinWrongFalsely : Prop := fnLevenshteinRow.holds Try.pinned (OpenSpec.ofChange fnLevenshteinWrong)

/-- 'laws.FnExactHistoryOk': WHATEVER THE INPUT: true; the input reads as it did. -/
def fnExactHistoryOkSpec : ChangeSpec := { name := "fnExactHistoryOk", fn := fun _ => fun
  | [d] => { results := [.lit (.bool true)], args := [d] }
  | _ => none }
def fnExactHistoryOkRow : OpenClaim := { program := "ytnkoppgbbmeknaa", sum := "5313255c26ab6fac70684d05fc6d9a9923a74c3b1759d05bd1701ad7e7413873", func := "loop.example/g00215/laws.FnExactHistoryOk", spec := "fnExactHistoryOk", unfollowed := true, recurses := true, apart := false }
def FnExactHistoryOkSaid : Prop := fnExactHistoryOkRow.holds Try.pinned (OpenSpec.ofChange fnExactHistoryOkSpec)

/-- ITS FALSE NEIGHBOUR: 'it returns false'. Refute it at one input. -/
def fnExactHistoryOkWrong : ChangeSpec := { name := "fnExactHistoryOk", fn := fun _ => fun
  | [d] => { results := [.lit (.bool false)], args := [d] }
  | _ => none }
def FnExactHistoryOkWrongFalsely : Prop := fnExactHistoryOkRow.holds Try.pinned (OpenSpec.ofChange fnExactHistoryOkWrong)

/-- 'laws.FnExactLineAt': WHATEVER THE INPUT: true; the input reads as it did. -/
def fnExactLineAtSpec : ChangeSpec := { name := "fnExactLineAt", fn := fun _ => fun
  | [d1, d2] => { results := [.lit (.bool true)], args := [d1, d2] }
  | _ => none }
def fnExactLineAtRow : OpenClaim := { program := "ytnkoppgbbmeknaa", sum := "5313255c26ab6fac70684d05fc6d9a9923a74c3b1759d05bd1701ad7e7413873", func := "loop.example/g00215/laws.FnExactLineAt", spec := "fnExactLineAt", unfollowed := true, recurses := true, apart := false }
def FnExactLineAtSaid : Prop := fnExactLineAtRow.holds Try.pinned (OpenSpec.ofChange fnExactLineAtSpec)

/-- ITS FALSE NEIGHBOUR: 'it returns false'. Refute it at one input. -/
def fnExactLineAtWrong : ChangeSpec := { name := "fnExactLineAt", fn := fun _ => fun
  | [d1, d2] => { results := [.lit (.bool false)], args := [d1, d2] }
  | _ => none }
def FnExactLineAtWrongFalsely : Prop := fnExactLineAtRow.holds Try.pinned (OpenSpec.ofChange fnExactLineAtWrong)

/-- 'laws.FnExactSent': WHATEVER THE INPUT: true; the input reads as it did. -/
def fnExactSentSpec : ChangeSpec := { name := "fnExactSent", fn := fun _ => fun
  | [d] => { results := [.lit (.bool true)], args := [d] }
  | _ => none }
def fnExactSentRow : OpenClaim := { program := "ytnkoppgbbmeknaa", sum := "5313255c26ab6fac70684d05fc6d9a9923a74c3b1759d05bd1701ad7e7413873", func := "loop.example/g00215/laws.FnExactSent", spec := "fnExactSent", apart := false }
def FnExactSentSaid : Prop := fnExactSentRow.holds Try.pinned (OpenSpec.ofChange fnExactSentSpec)

/-- ITS FALSE NEIGHBOUR: 'it returns false'. Refute it at one input. -/
def fnExactSentWrong : ChangeSpec := { name := "fnExactSent", fn := fun _ => fun
  | [d] => { results := [.lit (.bool false)], args := [d] }
  | _ => none }
def FnExactSentWrongFalsely : Prop := fnExactSentRow.holds Try.pinned (OpenSpec.ofChange fnExactSentWrong)

/-- 'laws.FnExactParserOk': WHATEVER THE INPUT: true; the input reads as it did. -/
def fnExactParserOkSpec : ChangeSpec := { name := "fnExactParserOk", fn := fun _ => fun
  | [d] => { results := [.lit (.bool true)], args := [d] }
  | _ => none }
def fnExactParserOkRow : OpenClaim := { program := "ytnkoppgbbmeknaa", sum := "5313255c26ab6fac70684d05fc6d9a9923a74c3b1759d05bd1701ad7e7413873", func := "loop.example/g00215/laws.FnExactParserOk", spec := "fnExactParserOk", unfollowed := true, recurses := true, apart := false }
def FnExactParserOkSaid : Prop := fnExactParserOkRow.holds Try.pinned (OpenSpec.ofChange fnExactParserOkSpec)

/-- ITS FALSE NEIGHBOUR: 'it returns false'. Refute it at one input. -/
def fnExactParserOkWrong : ChangeSpec := { name := "fnExactParserOk", fn := fun _ => fun
  | [d] => { results := [.lit (.bool false)], args := [d] }
  | _ => none }
def FnExactParserOkWrongFalsely : Prop := fnExactParserOkRow.holds Try.pinned (OpenSpec.ofChange fnExactParserOkWrong)

/-- 'laws.FnExactParams': WHATEVER THE INPUT: true; the input reads as it did. -/
def fnExactParamsSpec : ChangeSpec := { name := "fnExactParams", fn := fun _ => fun
  | [d1, d2] => { results := [.lit (.bool true)], args := [d1, d2] }
  | _ => none }
def fnExactParamsRow : OpenClaim := { program := "ytnkoppgbbmeknaa", sum := "5313255c26ab6fac70684d05fc6d9a9923a74c3b1759d05bd1701ad7e7413873", func := "loop.example/g00215/laws.FnExactParams", spec := "fnExactParams", apart := false }
def FnExactParamsSaid : Prop := fnExactParamsRow.holds Try.pinned (OpenSpec.ofChange fnExactParamsSpec)

/-- ITS FALSE NEIGHBOUR: 'it returns false'. Refute it at one input. -/
def fnExactParamsWrong : ChangeSpec := { name := "fnExactParams", fn := fun _ => fun
  | [d1, d2] => { results := [.lit (.bool false)], args := [d1, d2] }
  | _ => none }
def FnExactParamsWrongFalsely : Prop := fnExactParamsRow.holds Try.pinned (OpenSpec.ofChange fnExactParamsWrong)

/-- 'laws.FnExactStyled': WHATEVER THE INPUT: true; the input reads as it did. -/
def fnExactStyledSpec : ChangeSpec := { name := "fnExactStyled", fn := fun _ => fun
  | [d1, d2] => { results := [.lit (.bool true)], args := [d1, d2] }
  | _ => none }
def fnExactStyledRow : OpenClaim := { program := "ytnkoppgbbmeknaa", sum := "5313255c26ab6fac70684d05fc6d9a9923a74c3b1759d05bd1701ad7e7413873", func := "loop.example/g00215/laws.FnExactStyled", spec := "fnExactStyled", apart := false }
def FnExactStyledSaid : Prop := fnExactStyledRow.holds Try.pinned (OpenSpec.ofChange fnExactStyledSpec)

/-- ITS FALSE NEIGHBOUR: 'it returns false'. Refute it at one input. -/
def fnExactStyledWrong : ChangeSpec := { name := "fnExactStyled", fn := fun _ => fun
  | [d1, d2] => { results := [.lit (.bool false)], args := [d1, d2] }
  | _ => none }
def FnExactStyledWrongFalsely : Prop := fnExactStyledRow.holds Try.pinned (OpenSpec.ofChange fnExactStyledWrong)

/-- 'laws.FnExactRowOk': WHATEVER THE INPUT: true; the input reads as it did. -/
def fnExactRowOkSpec : ChangeSpec := { name := "fnExactRowOk", fn := fun _ => fun
  | [d] => { results := [.lit (.bool true)], args := [d] }
  | _ => none }
def fnExactRowOkRow : OpenClaim := { program := "ytnkoppgbbmeknaa", sum := "5313255c26ab6fac70684d05fc6d9a9923a74c3b1759d05bd1701ad7e7413873", func := "loop.example/g00215/laws.FnExactRowOk", spec := "fnExactRowOk", apart := false }
def FnExactRowOkSaid : Prop := fnExactRowOkRow.holds Try.pinned (OpenSpec.ofChange fnExactRowOkSpec)

/-- ITS FALSE NEIGHBOUR: 'it returns false'. Refute it at one input. -/
def fnExactRowOkWrong : ChangeSpec := { name := "fnExactRowOk", fn := fun _ => fun
  | [d] => { results := [.lit (.bool false)], args := [d] }
  | _ => none }
def FnExactRowOkWrongFalsely : Prop := fnExactRowOkRow.holds Try.pinned (OpenSpec.ofChange fnExactRowOkWrong)

/-- 'laws.FnExactKeep': WHATEVER THE INPUT: true; the input reads as it did. -/
def fnExactKeepSpec : ChangeSpec := { name := "fnExactKeep", fn := fun _ => fun
  | [d1, d2] => { results := [.lit (.bool true)], args := [d1, d2] }
  | _ => none }
def fnExactKeepRow : OpenClaim := { program := "ytnkoppgbbmeknaa", sum := "5313255c26ab6fac70684d05fc6d9a9923a74c3b1759d05bd1701ad7e7413873", func := "loop.example/g00215/laws.FnExactKeep", spec := "fnExactKeep", unfollowed := true, recurses := true, apart := false }
def FnExactKeepSaid : Prop := fnExactKeepRow.holds Try.pinned (OpenSpec.ofChange fnExactKeepSpec)

/-- ITS FALSE NEIGHBOUR: 'it returns false'. Refute it at one input. -/
def fnExactKeepWrong : ChangeSpec := { name := "fnExactKeep", fn := fun _ => fun
  | [d1, d2] => { results := [.lit (.bool false)], args := [d1, d2] }
  | _ => none }
def FnExactKeepWrongFalsely : Prop := fnExactKeepRow.holds Try.pinned (OpenSpec.ofChange fnExactKeepWrong)

/-- 'laws.FnExactBlank': WHATEVER THE INPUT: true; the input reads as it did. -/
def fnExactBlankSpec : ChangeSpec := { name := "fnExactBlank", fn := fun _ => fun
  | [d1, d2] => { results := [.lit (.bool true)], args := [d1, d2] }
  | _ => none }
def fnExactBlankRow : OpenClaim := { program := "ytnkoppgbbmeknaa", sum := "5313255c26ab6fac70684d05fc6d9a9923a74c3b1759d05bd1701ad7e7413873", func := "loop.example/g00215/laws.FnExactBlank", spec := "fnExactBlank", apart := false }
def FnExactBlankSaid : Prop := fnExactBlankRow.holds Try.pinned (OpenSpec.ofChange fnExactBlankSpec)

/-- ITS FALSE NEIGHBOUR: 'it returns false'. Refute it at one input. -/
def fnExactBlankWrong : ChangeSpec := { name := "fnExactBlank", fn := fun _ => fun
  | [d1, d2] => { results := [.lit (.bool false)], args := [d1, d2] }
  | _ => none }
def FnExactBlankWrongFalsely : Prop := fnExactBlankRow.holds Try.pinned (OpenSpec.ofChange fnExactBlankWrong)

/-- 'laws.FnExactEdits': WHATEVER THE INPUT: true; the input reads as it did. -/
def fnExactEditsSpec : ChangeSpec := { name := "fnExactEdits", fn := fun _ => fun
  | [d1, d2] => { results := [.lit (.bool true)], args := [d1, d2] }
  | _ => none }
def fnExactEditsRow : OpenClaim := { program := "ytnkoppgbbmeknaa", sum := "5313255c26ab6fac70684d05fc6d9a9923a74c3b1759d05bd1701ad7e7413873", func := "loop.example/g00215/laws.FnExactEdits", spec := "fnExactEdits", apart := false }
def FnExactEditsSaid : Prop := fnExactEditsRow.holds Try.pinned (OpenSpec.ofChange fnExactEditsSpec)

/-- ITS FALSE NEIGHBOUR: 'it returns false'. Refute it at one input. -/
def fnExactEditsWrong : ChangeSpec := { name := "fnExactEdits", fn := fun _ => fun
  | [d1, d2] => { results := [.lit (.bool false)], args := [d1, d2] }
  | _ => none }
def FnExactEditsWrongFalsely : Prop := fnExactEditsRow.holds Try.pinned (OpenSpec.ofChange fnExactEditsWrong)

/-- 'laws.FnExactNewGrid': WHATEVER THE INPUT: true; the input reads as it did. -/
def fnExactNewGridSpec : ChangeSpec := { name := "fnExactNewGrid", fn := fun _ => fun
  | [d1, d2] => { results := [.lit (.bool true)], args := [d1, d2] }
  | _ => none }
def fnExactNewGridRow : OpenClaim := { program := "ytnkoppgbbmeknaa", sum := "5313255c26ab6fac70684d05fc6d9a9923a74c3b1759d05bd1701ad7e7413873", func := "loop.example/g00215/laws.FnExactNewGrid", spec := "fnExactNewGrid", apart := false }
def FnExactNewGridSaid : Prop := fnExactNewGridRow.holds Try.pinned (OpenSpec.ofChange fnExactNewGridSpec)

/-- ITS FALSE NEIGHBOUR: 'it returns false'. Refute it at one input. -/
def fnExactNewGridWrong : ChangeSpec := { name := "fnExactNewGrid", fn := fun _ => fun
  | [d1, d2] => { results := [.lit (.bool false)], args := [d1, d2] }
  | _ => none }
def FnExactNewGridWrongFalsely : Prop := fnExactNewGridRow.holds Try.pinned (OpenSpec.ofChange fnExactNewGridWrong)

/- THE SECOND FORM. 'bulk': how many values and letters a reading holds, each counted each time it is reached (what is shared counts as often as it is met; a slice's spare places count too). A statement '..UptoSaid' is the law's where the arguments, and the package variables that the reading takes, are together of bulk at most 1048576: NARROWER than '..Said'. Prove '..Said' where nothing that the law and all that it calls make is longer than what came in: it says more and counts as full. Else prove '..UptoSaid'. A law counts once. -/
mutual
def uptoBulk {H : Type} : DataW H → Nat
  | .lit (.string bytes) => bytes.length + 1
  | .lit _ => 1
  | .nil => 1
  | .ptr d => uptoBulk d + 1
  | .slice elems spare => uptoBulkAll elems + uptoBulkAll spare + 1
  | .agg parts => uptoBulkAll parts + 1
  | .iface _ d => uptoBulk d + 1
  | .map entries => uptoBulkEntries entries + 1
  | .held _ => 1
def uptoBulkAll {H : Type} : List (DataW H) → Nat
  | [] => 0
  | d :: r => uptoBulk d + uptoBulkAll r
def uptoBulkEntries {H : Type} : List (Lit × DataW H) → Nat
  | [] => 0
  | x :: r => uptoBulkEntry x + uptoBulkEntries r
def uptoBulkEntry {H : Type} : Lit × DataW H → Nat
  | (.string bytes, d) => bytes.length + uptoBulk d + 1
  | (_, d) => uptoBulk d + 1
 end
def uptoSmall : (H : Type) → List (DataW H) → Bool := fun _ ds => decide (uptoBulkAll ds ≤ 1048576)
def OpenSpec.upto (s : _root_.Go.ChangeSpec) : _root_.Go.OpenSpec := { _root_.Go.OpenSpec.ofChange s with cond := some uptoSmall }

/-- 'laws.FnLevenshtein', WHERE WHAT IT READS IS OF BULK AT MOST 1048576: true; the input reads as it did. -/
def fnLevenshteinUptoRow : OpenClaim := { program := "ytnkoppgbbmeknaa", sum := "5313255c26ab6fac70684d05fc6d9a9923a74c3b1759d05bd1701ad7e7413873", func := "loop.example/g00215/laws.FnLevenshtein", spec := "fnLevenshtein", apart := false, narrowed := true }
def FnLevenshteinUptoSaid : Prop := fnLevenshteinUptoRow.holds Try.pinned (OpenSpec.upto fnLevenshteinSpec)

/-- 'laws.FnExactHistoryOk', WHERE WHAT IT READS IS OF BULK AT MOST 1048576: true; the input reads as it did. -/
def fnExactHistoryOkUptoRow : OpenClaim := { program := "ytnkoppgbbmeknaa", sum := "5313255c26ab6fac70684d05fc6d9a9923a74c3b1759d05bd1701ad7e7413873", func := "loop.example/g00215/laws.FnExactHistoryOk", spec := "fnExactHistoryOk", unfollowed := true, recurses := true, apart := false, narrowed := true }
def FnExactHistoryOkUptoSaid : Prop := fnExactHistoryOkUptoRow.holds Try.pinned (OpenSpec.upto fnExactHistoryOkSpec)

/-- 'laws.FnExactLineAt', WHERE WHAT IT READS IS OF BULK AT MOST 1048576: true; the input reads as it did. -/
def fnExactLineAtUptoRow : OpenClaim := { program := "ytnkoppgbbmeknaa", sum := "5313255c26ab6fac70684d05fc6d9a9923a74c3b1759d05bd1701ad7e7413873", func := "loop.example/g00215/laws.FnExactLineAt", spec := "fnExactLineAt", unfollowed := true, recurses := true, apart := false, narrowed := true }
def FnExactLineAtUptoSaid : Prop := fnExactLineAtUptoRow.holds Try.pinned (OpenSpec.upto fnExactLineAtSpec)

/-- 'laws.FnExactSent', WHERE WHAT IT READS IS OF BULK AT MOST 1048576: true; the input reads as it did. -/
def fnExactSentUptoRow : OpenClaim := { program := "ytnkoppgbbmeknaa", sum := "5313255c26ab6fac70684d05fc6d9a9923a74c3b1759d05bd1701ad7e7413873", func := "loop.example/g00215/laws.FnExactSent", spec := "fnExactSent", apart := false, narrowed := true }
def FnExactSentUptoSaid : Prop := fnExactSentUptoRow.holds Try.pinned (OpenSpec.upto fnExactSentSpec)

/-- 'laws.FnExactParserOk', WHERE WHAT IT READS IS OF BULK AT MOST 1048576: true; the input reads as it did. -/
def fnExactParserOkUptoRow : OpenClaim := { program := "ytnkoppgbbmeknaa", sum := "5313255c26ab6fac70684d05fc6d9a9923a74c3b1759d05bd1701ad7e7413873", func := "loop.example/g00215/laws.FnExactParserOk", spec := "fnExactParserOk", unfollowed := true, recurses := true, apart := false, narrowed := true }
def FnExactParserOkUptoSaid : Prop := fnExactParserOkUptoRow.holds Try.pinned (OpenSpec.upto fnExactParserOkSpec)

/-- 'laws.FnExactParams', WHERE WHAT IT READS IS OF BULK AT MOST 1048576: true; the input reads as it did. -/
def fnExactParamsUptoRow : OpenClaim := { program := "ytnkoppgbbmeknaa", sum := "5313255c26ab6fac70684d05fc6d9a9923a74c3b1759d05bd1701ad7e7413873", func := "loop.example/g00215/laws.FnExactParams", spec := "fnExactParams", apart := false, narrowed := true }
def FnExactParamsUptoSaid : Prop := fnExactParamsUptoRow.holds Try.pinned (OpenSpec.upto fnExactParamsSpec)

/-- 'laws.FnExactStyled', WHERE WHAT IT READS IS OF BULK AT MOST 1048576: true; the input reads as it did. -/
def fnExactStyledUptoRow : OpenClaim := { program := "ytnkoppgbbmeknaa", sum := "5313255c26ab6fac70684d05fc6d9a9923a74c3b1759d05bd1701ad7e7413873", func := "loop.example/g00215/laws.FnExactStyled", spec := "fnExactStyled", apart := false, narrowed := true }
def FnExactStyledUptoSaid : Prop := fnExactStyledUptoRow.holds Try.pinned (OpenSpec.upto fnExactStyledSpec)

/-- 'laws.FnExactRowOk', WHERE WHAT IT READS IS OF BULK AT MOST 1048576: true; the input reads as it did. -/
def fnExactRowOkUptoRow : OpenClaim := { program := "ytnkoppgbbmeknaa", sum := "5313255c26ab6fac70684d05fc6d9a9923a74c3b1759d05bd1701ad7e7413873", func := "loop.example/g00215/laws.FnExactRowOk", spec := "fnExactRowOk", apart := false, narrowed := true }
def FnExactRowOkUptoSaid : Prop := fnExactRowOkUptoRow.holds Try.pinned (OpenSpec.upto fnExactRowOkSpec)

/-- 'laws.FnExactKeep', WHERE WHAT IT READS IS OF BULK AT MOST 1048576: true; the input reads as it did. -/
def fnExactKeepUptoRow : OpenClaim := { program := "ytnkoppgbbmeknaa", sum := "5313255c26ab6fac70684d05fc6d9a9923a74c3b1759d05bd1701ad7e7413873", func := "loop.example/g00215/laws.FnExactKeep", spec := "fnExactKeep", unfollowed := true, recurses := true, apart := false, narrowed := true }
def FnExactKeepUptoSaid : Prop := fnExactKeepUptoRow.holds Try.pinned (OpenSpec.upto fnExactKeepSpec)

/-- 'laws.FnExactBlank', WHERE WHAT IT READS IS OF BULK AT MOST 1048576: true; the input reads as it did. -/
def fnExactBlankUptoRow : OpenClaim := { program := "ytnkoppgbbmeknaa", sum := "5313255c26ab6fac70684d05fc6d9a9923a74c3b1759d05bd1701ad7e7413873", func := "loop.example/g00215/laws.FnExactBlank", spec := "fnExactBlank", apart := false, narrowed := true }
def FnExactBlankUptoSaid : Prop := fnExactBlankUptoRow.holds Try.pinned (OpenSpec.upto fnExactBlankSpec)

/-- 'laws.FnExactEdits', WHERE WHAT IT READS IS OF BULK AT MOST 1048576: true; the input reads as it did. -/
def fnExactEditsUptoRow : OpenClaim := { program := "ytnkoppgbbmeknaa", sum := "5313255c26ab6fac70684d05fc6d9a9923a74c3b1759d05bd1701ad7e7413873", func := "loop.example/g00215/laws.FnExactEdits", spec := "fnExactEdits", apart := false, narrowed := true }
def FnExactEditsUptoSaid : Prop := fnExactEditsUptoRow.holds Try.pinned (OpenSpec.upto fnExactEditsSpec)

/-- 'laws.FnExactNewGrid', WHERE WHAT IT READS IS OF BULK AT MOST 1048576: true; the input reads as it did. -/
def fnExactNewGridUptoRow : OpenClaim := { program := "ytnkoppgbbmeknaa", sum := "5313255c26ab6fac70684d05fc6d9a9923a74c3b1759d05bd1701ad7e7413873", func := "loop.example/g00215/laws.FnExactNewGrid", spec := "fnExactNewGrid", apart := false, narrowed := true }
def FnExactNewGridUptoSaid : Prop := fnExactNewGridUptoRow.holds Try.pinned (OpenSpec.upto fnExactNewGridSpec)

end Rows
end Go.Proofs.Ytnkoppgbbmeknaa
