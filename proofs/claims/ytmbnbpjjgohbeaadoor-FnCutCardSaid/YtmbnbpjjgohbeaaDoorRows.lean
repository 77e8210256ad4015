/-
  NARROWER THAN 'FOR EVERY INPUT', by the rows' own cells (each row's printed sentence says how): FnExactFeederOk: laid · FnExactGet: laid · FnExactRunes: laid · FnExactFitting: laid · FnExactTextWidth: laid · FnCut: laid · FnExactFeed: laid · FnRunes: laid · FnFed: laid · FnWidths: laid · FnExactPressed: laid · FnPressed: laid.
  DERIVED. THE GIVEN ROWS OF THIS SEAT. 12 by the template 'for every input the law returns true; each argument reads behind the call as it read before'; 0 by the template 'total and deterministic' (their statements: YtmbnbpjjgohbeaaDoorTotals.lean).
  GIVEN WITH THE SEED: the statements are not yours to turn. If you find one false, say at which input.
  Laid BY PROGRAM, IN A SANDBOX (cutbox-rows.mjs): the forced cells as the released guide's own fill.sh prints them over the translation c1cc46f4d5dc924d… (all of the seat's roots in one cut). By AI agents, Wed Nov 11 2026. No macro, syntax, notation, axiom, sorry.
-/
import Derived.Test.YtmbnbpjjgohbeaaDoorChecked
import GoSem.PinnedTables
import GoSem.Claim
import GoSem.ClaimJoined
import GoSem.ClaimMapViews
import Derived.JoinedTies
import Derived.KernelRfl
namespace Go.Proofs.YtmbnbpjjgohbeaaDoor
/- THE CELL 'sum', in the pinned program and in every row, IS THE sha256 OF THE DUMP (.gsa) THAT YtmbnbpjjgohbeaaDoorProg.lean LOADS. Nothing in Lean hashes anything: it is a label: what it is worth is what the hold of that sum in a sandbox is worth. -/
noncomputable def Tryd.pinned : Pinned := { name := "ytmbnbpjjgohbeaadoor", sum := "c1cc46f4d5dc924dbbf963fa701c578fcfb96b4c4eaf04f92a28bd5eafc0f4aa", checked := Tryd.checked }
namespace Rows
def none {H : Type} : Left H := { results := [], args := [] }

/- WHAT THE LISTED PACKAGE-LEVEL VARIABLES READ AS WHEN THE CALL BEGINS. Each datum BY PROGRAM (the guide's laid-datum.mjs) off the statement by which the dump's own 'gosem.cut.vars' lays the variable. In a bare row this is a premise. The card (YtmbnbpjjgohbeaaDoorCards.lean) ties it to the program's text. -/
def laid_unicode_utf8_acceptRanges {H : Type} : DataW H := .agg [.agg [.lit (.int .u8 128), .lit (.int .u8 191)], .agg [.lit (.int .u8 160), .lit (.int .u8 191)], .agg [.lit (.int .u8 128), .lit (.int .u8 159)], .agg [.lit (.int .u8 144), .lit (.int .u8 191)], .agg [.lit (.int .u8 128), .lit (.int .u8 143)], .agg [.lit (.int .u8 0), .lit (.int .u8 0)], .agg [.lit (.int .u8 0), .lit (.int .u8 0)], .agg [.lit (.int .u8 0), .lit (.int .u8 0)], .agg [.lit (.int .u8 0), .lit (.int .u8 0)], .agg [.lit (.int .u8 0), .lit (.int .u8 0)], .agg [.lit (.int .u8 0), .lit (.int .u8 0)], .agg [.lit (.int .u8 0), .lit (.int .u8 0)], .agg [.lit (.int .u8 0), .lit (.int .u8 0)], .agg [.lit (.int .u8 0), .lit (.int .u8 0)], .agg [.lit (.int .u8 0), .lit (.int .u8 0)], .agg [.lit (.int .u8 0), .lit (.int .u8 0)]]
/-- One of Go's own tables, pinned by name: the form's constant. -/
def laid_unicode_utf8_first : DataW Unit := Go.Pinned.utf8First

/-- 'laws.FnExactFeederOk': WHATEVER THE INPUT: true; the input reads as it did. -/
def fnExactFeederOkSpec : ChangeSpec := { name := "fnExactFeederOk", fn := fun _ => fun
  | [d] => { results := [.lit (.bool true)], args := [d] }
  | _ => none }
def fnExactFeederOkRow : OpenClaim := { program := "ytmbnbpjjgohbeaadoor", sum := "c1cc46f4d5dc924dbbf963fa701c578fcfb96b4c4eaf04f92a28bd5eafc0f4aa", func := "loop.example/g00215/laws.FnExactFeederOk", spec := "fnExactFeederOk", named := ["unicode/utf8.first", "unicode/utf8.acceptRanges"], apart := false, laid := [("unicode/utf8.acceptRanges", laid_unicode_utf8_acceptRanges), ("unicode/utf8.first", laid_unicode_utf8_first)] }
def FnExactFeederOkSaid : Prop := fnExactFeederOkRow.holds Tryd.pinned (OpenSpec.ofChange fnExactFeederOkSpec)

/-- ITS FALSE NEIGHBOUR: 'it returns false'. Refute it at one input. -/
def fnExactFeederOkWrong : ChangeSpec := { name := "fnExactFeederOk", fn := fun _ => fun
  | [d] => { results := [.lit (.bool false)], args := [d] }
  | _ => none }
def FnExactFeederOkWrongFalsely : Prop := fnExactFeederOkRow.holds Tryd.pinned (OpenSpec.ofChange fnExactFeederOkWrong)

/-- 'laws.FnExactGet': WHATEVER THE INPUT: true; the input reads as it did. -/
def fnExactGetSpec : ChangeSpec := { name := "fnExactGet", fn := fun _ => fun
  | [d] => { results := [.lit (.bool true)], args := [d] }
  | _ => none }
def fnExactGetRow : OpenClaim := { program := "ytmbnbpjjgohbeaadoor", sum := "c1cc46f4d5dc924dbbf963fa701c578fcfb96b4c4eaf04f92a28bd5eafc0f4aa", func := "loop.example/g00215/laws.FnExactGet", spec := "fnExactGet", named := ["unicode/utf8.first", "unicode/utf8.acceptRanges"], apart := false, laid := [("unicode/utf8.acceptRanges", laid_unicode_utf8_acceptRanges), ("unicode/utf8.first", laid_unicode_utf8_first)] }
def FnExactGetSaid : Prop := fnExactGetRow.holds Tryd.pinned (OpenSpec.ofChange fnExactGetSpec)

/-- ITS FALSE NEIGHBOUR: 'it returns false'. Refute it at one input. -/
def fnExactGetWrong : ChangeSpec := { name := "fnExactGet", fn := fun _ => fun
  | [d] => { results := [.lit (.bool false)], args := [d] }
  | _ => none }
def FnExactGetWrongFalsely : Prop := fnExactGetRow.holds Tryd.pinned (OpenSpec.ofChange fnExactGetWrong)

/-- 'laws.FnExactRunes': WHATEVER THE INPUT: true; the input reads as it did. -/
def fnExactRunesSpec : ChangeSpec := { name := "fnExactRunes", fn := fun _ => fun
  | [d] => { results := [.lit (.bool true)], args := [d] }
  | _ => none }
def fnExactRunesRow : OpenClaim := { program := "ytmbnbpjjgohbeaadoor", sum := "c1cc46f4d5dc924dbbf963fa701c578fcfb96b4c4eaf04f92a28bd5eafc0f4aa", func := "loop.example/g00215/laws.FnExactRunes", spec := "fnExactRunes", named := ["unicode/utf8.first", "unicode/utf8.acceptRanges"], apart := false, laid := [("unicode/utf8.acceptRanges", laid_unicode_utf8_acceptRanges), ("unicode/utf8.first", laid_unicode_utf8_first)] }
def FnExactRunesSaid : Prop := fnExactRunesRow.holds Tryd.pinned (OpenSpec.ofChange fnExactRunesSpec)

/-- ITS FALSE NEIGHBOUR: 'it returns false'. Refute it at one input. -/
def fnExactRunesWrong : ChangeSpec := { name := "fnExactRunes", fn := fun _ => fun
  | [d] => { results := [.lit (.bool false)], args := [d] }
  | _ => none }
def FnExactRunesWrongFalsely : Prop := fnExactRunesRow.holds Tryd.pinned (OpenSpec.ofChange fnExactRunesWrong)

/-- 'laws.FnExactFitting': WHATEVER THE INPUT: true; the input reads as it did. -/
def fnExactFittingSpec : ChangeSpec := { name := "fnExactFitting", fn := fun _ => fun
  | [d1, d2] => { results := [.lit (.bool true)], args := [d1, d2] }
  | _ => none }
def fnExactFittingRow : OpenClaim := { program := "ytmbnbpjjgohbeaadoor", sum := "c1cc46f4d5dc924dbbf963fa701c578fcfb96b4c4eaf04f92a28bd5eafc0f4aa", func := "loop.example/g00215/laws.FnExactFitting", spec := "fnExactFitting", named := ["unicode/utf8.first", "unicode/utf8.acceptRanges"], apart := false, laid := [("unicode/utf8.acceptRanges", laid_unicode_utf8_acceptRanges), ("unicode/utf8.first", laid_unicode_utf8_first)] }
def FnExactFittingSaid : Prop := fnExactFittingRow.holds Tryd.pinned (OpenSpec.ofChange fnExactFittingSpec)

/-- ITS FALSE NEIGHBOUR: 'it returns false'. Refute it at one input. -/
def fnExactFittingWrong : ChangeSpec := { name := "fnExactFitting", fn := fun _ => fun
  | [d1, d2] => { results := [.lit (.bool false)], args := [d1, d2] }
  | _ => none }
def FnExactFittingWrongFalsely : Prop := fnExactFittingRow.holds Tryd.pinned (OpenSpec.ofChange fnExactFittingWrong)

/-- 'laws.FnExactTextWidth': WHATEVER THE INPUT: true; the input reads as it did. -/
def fnExactTextWidthSpec : ChangeSpec := { name := "fnExactTextWidth", fn := fun _ => fun
  | [d] => { results := [.lit (.bool true)], args := [d] }
  | _ => none }
def fnExactTextWidthRow : OpenClaim := { program := "ytmbnbpjjgohbeaadoor", sum := "c1cc46f4d5dc924dbbf963fa701c578fcfb96b4c4eaf04f92a28bd5eafc0f4aa", func := "loop.example/g00215/laws.FnExactTextWidth", spec := "fnExactTextWidth", named := ["unicode/utf8.first", "unicode/utf8.acceptRanges"], apart := false, laid := [("unicode/utf8.acceptRanges", laid_unicode_utf8_acceptRanges), ("unicode/utf8.first", laid_unicode_utf8_first)] }
def FnExactTextWidthSaid : Prop := fnExactTextWidthRow.holds Tryd.pinned (OpenSpec.ofChange fnExactTextWidthSpec)

/-- ITS FALSE NEIGHBOUR: 'it returns false'. Refute it at one input. -/
def fnExactTextWidthWrong : ChangeSpec := { name := "fnExactTextWidth", fn := fun _ => fun
  | [d] => { results := [.lit (.bool false)], args := [d] }
  | _ => none }
def FnExactTextWidthWrongFalsely : Prop := fnExactTextWidthRow.holds Tryd.pinned (OpenSpec.ofChange fnExactTextWidthWrong)

/-- 'laws.FnCut': WHATEVER THE INPUT: true; the input reads as it did. -/
def fnCutSpec : ChangeSpec := { name := "fnCut", fn := fun _ => fun
  | [d] => { results := [.lit (.bool true)], args := [d] }
  | _ => none }
def fnCutRow : OpenClaim := { program := "ytmbnbpjjgohbeaadoor", sum := "c1cc46f4d5dc924dbbf963fa701c578fcfb96b4c4eaf04f92a28bd5eafc0f4aa", func := "loop.example/g00215/laws.FnCut", spec := "fnCut", named := ["unicode/utf8.first", "unicode/utf8.acceptRanges"], apart := false, laid := [("unicode/utf8.acceptRanges", laid_unicode_utf8_acceptRanges), ("unicode/utf8.first", laid_unicode_utf8_first)] }
def FnCutSaid : Prop := fnCutRow.holds Tryd.pinned (OpenSpec.ofChange fnCutSpec)

/-- ITS FALSE NEIGHBOUR: 'it returns false'. Refute it at one input. -/
def fnCutWrong : ChangeSpec := { name := "fnCut", fn := fun _ => fun
  | [d] => { results := [.lit (.bool false)], args := [d] }
  | _ => none }
def FnCutWrongFalsely : Prop := fnCutRow.holds Tryd.pinned (OpenSpec.ofChange fnCutWrong)

/-- 'laws.FnExactFeed': WHATEVER THE INPUT: true; the input reads as it did. -/
def fnExactFeedSpec : ChangeSpec := { name := "fnExactFeed", fn := fun _ => fun
  | [d1, d2] => { results := [.lit (.bool true)], args := [d1, d2] }
  | _ => none }
def fnExactFeedRow : OpenClaim := { program := "ytmbnbpjjgohbeaadoor", sum := "c1cc46f4d5dc924dbbf963fa701c578fcfb96b4c4eaf04f92a28bd5eafc0f4aa", func := "loop.example/g00215/laws.FnExactFeed", spec := "fnExactFeed", named := ["unicode/utf8.first", "unicode/utf8.acceptRanges"], apart := false, laid := [("unicode/utf8.acceptRanges", laid_unicode_utf8_acceptRanges), ("unicode/utf8.first", laid_unicode_utf8_first)] }
def FnExactFeedSaid : Prop := fnExactFeedRow.holds Tryd.pinned (OpenSpec.ofChange fnExactFeedSpec)

/-- ITS FALSE NEIGHBOUR: 'it returns false'. Refute it at one input. -/
def fnExactFeedWrong : ChangeSpec := { name := "fnExactFeed", fn := fun _ => fun
  | [d1, d2] => { results := [.lit (.bool false)], args := [d1, d2] }
  | _ => none }
def FnExactFeedWrongFalsely : Prop := fnExactFeedRow.holds Tryd.pinned (OpenSpec.ofChange fnExactFeedWrong)

/-- 'laws.FnRunes': WHATEVER THE INPUT: true; the input reads as it did. -/
def fnRunesSpec : ChangeSpec := { name := "fnRunes", fn := fun _ => fun
  | [d] => { results := [.lit (.bool true)], args := [d] }
  | _ => none }
def fnRunesRow : OpenClaim := { program := "ytmbnbpjjgohbeaadoor", sum := "c1cc46f4d5dc924dbbf963fa701c578fcfb96b4c4eaf04f92a28bd5eafc0f4aa", func := "loop.example/g00215/laws.FnRunes", spec := "fnRunes", named := ["unicode/utf8.first", "unicode/utf8.acceptRanges"], apart := false, laid := [("unicode/utf8.acceptRanges", laid_unicode_utf8_acceptRanges), ("unicode/utf8.first", laid_unicode_utf8_first)] }
def FnRunesSaid : Prop := fnRunesRow.holds Tryd.pinned (OpenSpec.ofChange fnRunesSpec)

/-- ITS FALSE NEIGHBOUR: 'it returns false'. Refute it at one input. -/
def fnRunesWrong : ChangeSpec := { name := "fnRunes", fn := fun _ => fun
  | [d] => { results := [.lit (.bool false)], args := [d] }
  | _ => none }
def FnRunesWrongFalsely : Prop := fnRunesRow.holds Tryd.pinned (OpenSpec.ofChange fnRunesWrong)

/-- 'laws.FnFed': WHATEVER THE INPUT: true; the input reads as it did. -/
def fnFedSpec : ChangeSpec := { name := "fnFed", fn := fun _ => fun
  | [d] => { results := [.lit (.bool true)], args := [d] }
  | _ => none }
def fnFedRow : OpenClaim := { program := "ytmbnbpjjgohbeaadoor", sum := "c1cc46f4d5dc924dbbf963fa701c578fcfb96b4c4eaf04f92a28bd5eafc0f4aa", func := "loop.example/g00215/laws.FnFed", spec := "fnFed", named := ["unicode/utf8.first", "unicode/utf8.acceptRanges"], apart := false, laid := [("unicode/utf8.acceptRanges", laid_unicode_utf8_acceptRanges), ("unicode/utf8.first", laid_unicode_utf8_first)] }
def FnFedSaid : Prop := fnFedRow.holds Tryd.pinned (OpenSpec.ofChange fnFedSpec)

/-- ITS FALSE NEIGHBOUR: 'it returns false'. Refute it at one input. -/
def fnFedWrong : ChangeSpec := { name := "fnFed", fn := fun _ => fun
  | [d] => { results := [.lit (.bool false)], args := [d] }
  | _ => none }
def FnFedWrongFalsely : Prop := fnFedRow.holds Tryd.pinned (OpenSpec.ofChange fnFedWrong)

/-- 'laws.FnWidths': WHATEVER THE INPUT: true; the input reads as it did. -/
def fnWidthsSpec : ChangeSpec := { name := "fnWidths", fn := fun _ => fun
  | [d] => { results := [.lit (.bool true)], args := [d] }
  | _ => none }
def fnWidthsRow : OpenClaim := { program := "ytmbnbpjjgohbeaadoor", sum := "c1cc46f4d5dc924dbbf963fa701c578fcfb96b4c4eaf04f92a28bd5eafc0f4aa", func := "loop.example/g00215/laws.FnWidths", spec := "fnWidths", named := ["unicode/utf8.first", "unicode/utf8.acceptRanges"], apart := false, laid := [("unicode/utf8.acceptRanges", laid_unicode_utf8_acceptRanges), ("unicode/utf8.first", laid_unicode_utf8_first)] }
def FnWidthsSaid : Prop := fnWidthsRow.holds Tryd.pinned (OpenSpec.ofChange fnWidthsSpec)

/-- ITS FALSE NEIGHBOUR: 'it returns false'. Refute it at one input. -/
def fnWidthsWrong : ChangeSpec := { name := "fnWidths", fn := fun _ => fun
  | [d] => { results := [.lit (.bool false)], args := [d] }
  | _ => none }
def FnWidthsWrongFalsely : Prop := fnWidthsRow.holds Tryd.pinned (OpenSpec.ofChange fnWidthsWrong)

/-- 'laws.FnExactPressed': WHATEVER THE INPUT: true; the input reads as it did. -/
def fnExactPressedSpec : ChangeSpec := { name := "fnExactPressed", fn := fun _ => fun
  | [d] => { results := [.lit (.bool true)], args := [d] }
  | _ => none }
def fnExactPressedRow : OpenClaim := { program := "ytmbnbpjjgohbeaadoor", sum := "c1cc46f4d5dc924dbbf963fa701c578fcfb96b4c4eaf04f92a28bd5eafc0f4aa", func := "loop.example/g00215/laws.FnExactPressed", spec := "fnExactPressed", named := ["unicode/utf8.first", "unicode/utf8.acceptRanges"], apart := false, laid := [("unicode/utf8.acceptRanges", laid_unicode_utf8_acceptRanges), ("unicode/utf8.first", laid_unicode_utf8_first)] }
def FnExactPressedSaid : Prop := fnExactPressedRow.holds Tryd.pinned (OpenSpec.ofChange fnExactPressedSpec)

/-- ITS FALSE NEIGHBOUR: 'it returns false'. Refute it at one input. -/
def fnExactPressedWrong : ChangeSpec := { name := "fnExactPressed", fn := fun _ => fun
  | [d] => { results := [.lit (.bool false)], args := [d] }
  | _ => none }
def FnExactPressedWrongFalsely : Prop := fnExactPressedRow.holds Tryd.pinned (OpenSpec.ofChange fnExactPressedWrong)

/-- 'laws.FnPressed': WHATEVER THE INPUT: true; the input reads as it did. -/
def fnPressedSpec : ChangeSpec := { name := "fnPressed", fn := fun _ => fun
  | [d] => { results := [.lit (.bool true)], args := [d] }
  | _ => none }
def fnPressedRow : OpenClaim := { program := "ytmbnbpjjgohbeaadoor", sum := "c1cc46f4d5dc924dbbf963fa701c578fcfb96b4c4eaf04f92a28bd5eafc0f4aa", func := "loop.example/g00215/laws.FnPressed", spec := "fnPressed", named := ["unicode/utf8.first", "unicode/utf8.acceptRanges"], apart := false, laid := [("unicode/utf8.acceptRanges", laid_unicode_utf8_acceptRanges), ("unicode/utf8.first", laid_unicode_utf8_first)] }
def FnPressedSaid : Prop := fnPressedRow.holds Tryd.pinned (OpenSpec.ofChange fnPressedSpec)

/-- ITS FALSE NEIGHBOUR: 'it returns false'. Refute it at one input. -/
def fnPressedWrong : ChangeSpec := { name := "fnPressed", fn := fun _ => fun
  | [d] => { results := [.lit (.bool false)], args := [d] }
  | _ => none }
def FnPressedWrongFalsely : Prop := fnPressedRow.holds Tryd.pinned (OpenSpec.ofChange fnPressedWrong)

/- THE SECOND FORM. 'bulk': how many values and letters a reading holds, each counted each time it is reached (what is shared counts as often as it is met; a slice's spare places count too). A statement '..UptoSaid' is the law's where the arguments, and the package variables that the reading takes, are together of bulk at most 1048576: NARROWER than '..Said'. Prove '..Said' where nothing that the law and all that it calls make is longer than what came in: it says more and counts as full. Else prove '..UptoSaid'. A law counts once. -/
mutual
def uptoBulk {H : Type} : DataW H → Nat
  | .lit (.string bytes) => bytes.length + 1
  | .lit _ => 1
  | .nil => 1
  | .ptr d => uptoBulk d + 1
  | .slice elems spare => uptoBulkAll elems + uptoBulkAll spare + 1
  | .agg parts => uptoBulkAll parts + 1
  | .iface _ d => uptoBulk d + 1
  | .map entries => uptoBulkEntries entries + 1
  | .held _ => 1
def uptoBulkAll {H : Type} : List (DataW H) → Nat
  | [] => 0
  | d :: r => uptoBulk d + uptoBulkAll r
def uptoBulkEntries {H : Type} : List (Lit × DataW H) → Nat
  | [] => 0
  | x :: r => uptoBulkEntry x + uptoBulkEntries r
def uptoBulkEntry {H : Type} : Lit × DataW H → Nat
  | (.string bytes, d) => bytes.length + uptoBulk d + 1
  | (_, d) => uptoBulk d + 1
 end
def uptoSmall : (H : Type) → List (DataW H) → Bool := fun _ ds => decide (uptoBulkAll ds ≤ 1048576)
def OpenSpec.upto (s : _root_.Go.ChangeSpec) : _root_.Go.OpenSpec := { _root_.Go.OpenSpec.ofChange s with cond := some uptoSmall }

/-- 'laws.FnExactFeederOk', WHERE WHAT IT READS IS OF BULK AT MOST 1048576: true; the input reads as it did. -/
def fnExactFeederOkUptoRow : OpenClaim := { program := "ytmbnbpjjgohbeaadoor", sum := "c1cc46f4d5dc924dbbf963fa701c578fcfb96b4c4eaf04f92a28bd5eafc0f4aa", func := "loop.example/g00215/laws.FnExactFeederOk", spec := "fnExactFeederOk", named := ["unicode/utf8.first", "unicode/utf8.acceptRanges"], apart := false, laid := [("unicode/utf8.acceptRanges", laid_unicode_utf8_acceptRanges), ("unicode/utf8.first", laid_unicode_utf8_first)], narrowed := true }
def FnExactFeederOkUptoSaid : Prop := fnExactFeederOkUptoRow.holds Tryd.pinned (OpenSpec.upto fnExactFeederOkSpec)

/-- 'laws.FnExactGet', WHERE WHAT IT READS IS OF BULK AT MOST 1048576: true; the input reads as it did. -/
def fnExactGetUptoRow : OpenClaim := { program := "ytmbnbpjjgohbeaadoor", sum := "c1cc46f4d5dc924dbbf963fa701c578fcfb96b4c4eaf04f92a28bd5eafc0f4aa", func := "loop.example/g00215/laws.FnExactGet", spec := "fnExactGet", named := ["unicode/utf8.first", "unicode/utf8.acceptRanges"], apart := false, laid := [("unicode/utf8.acceptRanges", laid_unicode_utf8_acceptRanges), ("unicode/utf8.first", laid_unicode_utf8_first)], narrowed := true }
def FnExactGetUptoSaid : Prop := fnExactGetUptoRow.holds Tryd.pinned (OpenSpec.upto fnExactGetSpec)

/-- 'laws.FnExactRunes', WHERE WHAT IT READS IS OF BULK AT MOST 1048576: true; the input reads as it did. -/
def fnExactRunesUptoRow : OpenClaim := { program := "ytmbnbpjjgohbeaadoor", sum := "c1cc46f4d5dc924dbbf963fa701c578fcfb96b4c4eaf04f92a28bd5eafc0f4aa", func := "loop.example/g00215/laws.FnExactRunes", spec := "fnExactRunes", named := ["unicode/utf8.first", "unicode/utf8.acceptRanges"], apart := false, laid := [("unicode/utf8.acceptRanges", laid_unicode_utf8_acceptRanges), ("unicode/utf8.first", laid_unicode_utf8_first)], narrowed := true }
def FnExactRunesUptoSaid : Prop := fnExactRunesUptoRow.holds Tryd.pinned (OpenSpec.upto fnExactRunesSpec)

/-- 'laws.FnExactFitting', WHERE WHAT IT READS IS OF BULK AT MOST 1048576: true; the input reads as it did. -/
def fnExactFittingUptoRow : OpenClaim := { program := "ytmbnbpjjgohbeaadoor", sum := "c1cc46f4d5dc924dbbf963fa701c578fcfb96b4c4eaf04f92a28bd5eafc0f4aa", func := "loop.example/g00215/laws.FnExactFitting", spec := "fnExactFitting", named := ["unicode/utf8.first", "unicode/utf8.acceptRanges"], apart := false, laid := [("unicode/utf8.acceptRanges", laid_unicode_utf8_acceptRanges), ("unicode/utf8.first", laid_unicode_utf8_first)], narrowed := true }
def FnExactFittingUptoSaid : Prop := fnExactFittingUptoRow.holds Tryd.pinned (OpenSpec.upto fnExactFittingSpec)

/-- 'laws.FnExactTextWidth', WHERE WHAT IT READS IS OF BULK AT MOST 1048576: true; the input reads as it did. -/
def fnExactTextWidthUptoRow : OpenClaim := { program := "ytmbnbpjjgohbeaadoor", sum := "c1cc46f4d5dc924dbbf963fa701c578fcfb96b4c4eaf04f92a28bd5eafc0f4aa", func := "loop.example/g00215/laws.FnExactTextWidth", spec := "fnExactTextWidth", named := ["unicode/utf8.first", "unicode/utf8.acceptRanges"], apart := false, laid := [("unicode/utf8.acceptRanges", laid_unicode_utf8_acceptRanges), ("unicode/utf8.first", laid_unicode_utf8_first)], narrowed := true }
def FnExactTextWidthUptoSaid : Prop := fnExactTextWidthUptoRow.holds Tryd.pinned (OpenSpec.upto fnExactTextWidthSpec)

/-- 'laws.FnCut', WHERE WHAT IT READS IS OF BULK AT MOST 1048576: true; the input reads as it did. -/
def fnCutUptoRow : OpenClaim := { program := "ytmbnbpjjgohbeaadoor", sum := "c1cc46f4d5dc924dbbf963fa701c578fcfb96b4c4eaf04f92a28bd5eafc0f4aa", func := "loop.example/g00215/laws.FnCut", spec := "fnCut", named := ["unicode/utf8.first", "unicode/utf8.acceptRanges"], apart := false, laid := [("unicode/utf8.acceptRanges", laid_unicode_utf8_acceptRanges), ("unicode/utf8.first", laid_unicode_utf8_first)], narrowed := true }
def FnCutUptoSaid : Prop := fnCutUptoRow.holds Tryd.pinned (OpenSpec.upto fnCutSpec)

/-- 'laws.FnExactFeed', WHERE WHAT IT READS IS OF BULK AT MOST 1048576: true; the input reads as it did. -/
def fnExactFeedUptoRow : OpenClaim := { program := "ytmbnbpjjgohbeaadoor", sum := "c1cc46f4d5dc924dbbf963fa701c578fcfb96b4c4eaf04f92a28bd5eafc0f4aa", func := "loop.example/g00215/laws.FnExactFeed", spec := "fnExactFeed", named := ["unicode/utf8.first", "unicode/utf8.acceptRanges"], apart := false, laid := [("unicode/utf8.acceptRanges", laid_unicode_utf8_acceptRanges), ("unicode/utf8.first", laid_unicode_utf8_first)], narrowed := true }
def FnExactFeedUptoSaid : Prop := fnExactFeedUptoRow.holds Tryd.pinned (OpenSpec.upto fnExactFeedSpec)

/-- 'laws.FnRunes', WHERE WHAT IT READS IS OF BULK AT MOST 1048576: true; the input reads as it did. -/
def fnRunesUptoRow : OpenClaim := { program := "ytmbnbpjjgohbeaadoor", sum := "c1cc46f4d5dc924dbbf963fa701c578fcfb96b4c4eaf04f92a28bd5eafc0f4aa", func := "loop.example/g00215/laws.FnRunes", spec := "fnRunes", named := ["unicode/utf8.first", "unicode/utf8.acceptRanges"], apart := false, laid := [("unicode/utf8.acceptRanges", laid_unicode_utf8_acceptRanges), ("unicode/utf8.first", laid_unicode_utf8_first)], narrowed := true }
def FnRunesUptoSaid : Prop := fnRunesUptoRow.holds Tryd.pinned (OpenSpec.upto fnRunesSpec)

/-- 'laws.FnFed', WHERE WHAT IT READS IS OF BULK AT MOST 1048576: true; the input reads as it did. -/
def fnFedUptoRow : OpenClaim := { program := "ytmbnbpjjgohbeaadoor", sum := "c1cc46f4d5dc924dbbf963fa701c578fcfb96b4c4eaf04f92a28bd5eafc0f4aa", func := "loop.example/g00215/laws.FnFed", spec := "fnFed", named := ["unicode/utf8.first", "unicode/utf8.acceptRanges"], apart := false, laid := [("unicode/utf8.acceptRanges", laid_unicode_utf8_acceptRanges), ("unicode/utf8.first", laid_unicode_utf8_first)], narrowed := true }
def FnFedUptoSaid : Prop := fnFedUptoRow.holds Tryd.pinned (OpenSpec.upto fnFedSpec)

/-- 'laws.FnWidths', WHERE WHAT IT READS IS OF BULK AT MOST 1048576: true; the input reads as it did. -/
def fnWidthsUptoRow : OpenClaim := { program := "ytmbnbpjjgohbeaadoor", sum := "c1cc46f4d5dc924dbbf963fa701c578fcfb96b4c4eaf04f92a28bd5eafc0f4aa", func := "loop.example/g00215/laws.FnWidths", spec := "fnWidths", named := ["unicode/utf8.first", "unicode/utf8.acceptRanges"], apart := false, laid := [("unicode/utf8.acceptRanges", laid_unicode_utf8_acceptRanges), ("unicode/utf8.first", laid_unicode_utf8_first)], narrowed := true }
def FnWidthsUptoSaid : Prop := fnWidthsUptoRow.holds Tryd.pinned (OpenSpec.upto fnWidthsSpec)

/-- 'laws.FnExactPressed', WHERE WHAT IT READS IS OF BULK AT MOST 1048576: true; the input reads as it did. -/
def fnExactPressedUptoRow : OpenClaim := { program := "ytmbnbpjjgohbeaadoor", sum := "c1cc46f4d5dc924dbbf963fa701c578fcfb96b4c4eaf04f92a28bd5eafc0f4aa", func := "loop.example/g00215/laws.FnExactPressed", spec := "fnExactPressed", named := ["unicode/utf8.first", "unicode/utf8.acceptRanges"], apart := false, laid := [("unicode/utf8.acceptRanges", laid_unicode_utf8_acceptRanges), ("unicode/utf8.first", laid_unicode_utf8_first)], narrowed := true }
def FnExactPressedUptoSaid : Prop := fnExactPressedUptoRow.holds Tryd.pinned (OpenSpec.upto fnExactPressedSpec)

/-- 'laws.FnPressed', WHERE WHAT IT READS IS OF BULK AT MOST 1048576: true; the input reads as it did. -/
def fnPressedUptoRow : OpenClaim := { program := "ytmbnbpjjgohbeaadoor", sum := "c1cc46f4d5dc924dbbf963fa701c578fcfb96b4c4eaf04f92a28bd5eafc0f4aa", func := "loop.example/g00215/laws.FnPressed", spec := "fnPressed", named := ["unicode/utf8.first", "unicode/utf8.acceptRanges"], apart := false, laid := [("unicode/utf8.acceptRanges", laid_unicode_utf8_acceptRanges), ("unicode/utf8.first", laid_unicode_utf8_first)], narrowed := true }
def FnPressedUptoSaid : Prop := fnPressedUptoRow.holds Tryd.pinned (OpenSpec.upto fnPressedSpec)

end Rows
end Go.Proofs.YtmbnbpjjgohbeaaDoor
