/-
  No cell of these rows narrows 'for every input' (looked for: loops, veiled, ifaces, maps, wideKeys, modest, calm, conditions, laid).
  DERIVED. THE GIVEN ROWS OF THIS SEAT. 12 by the template 'for every input the law returns true; each argument reads behind the call as it read before'; 0 by the template 'total and deterministic' (their statements: YtfkhllmokmjdaaaTotals.lean).
  GIVEN WITH THE SEED: the statements are not yours to turn. If you find one false, say at which input.
  Laid BY PROGRAM, IN A SANDBOX (cutbox-rows.mjs): the forced cells as the released guide's own fill.sh prints them over the translation 66720232ac1f9b7c… (all of the seat's roots in one cut). By AI agents, Wed Nov 11 2026. No macro, syntax, notation, axiom, sorry.
-/
import Derived.Test.YtfkhllmokmjdaaaChecked
import GoSem.Claim
import GoSem.ClaimJoined
import GoSem.ClaimMapViews
import Derived.JoinedTies
import Derived.KernelRfl
namespace Go.Proofs.Ytfkhllmokmjdaaa
/- THE CELL 'sum', in the pinned program and in every row, IS THE sha256 OF THE DUMP (.gsa) THAT YtfkhllmokmjdaaaProg.lean LOADS. Nothing in Lean hashes anything: it is a label: what it is worth is what the hold of that sum in a sandbox is worth. -/
noncomputable def Try.pinned : Pinned := { name := "ytfkhllmokmjdaaa", sum := "66720232ac1f9b7c22e3599709b71c304fa96e5be19a23cca28c6ee41c447a72", checked := Try.checked }
namespace Rows
def none {H : Type} : Left H := { results := [], args := [] }

/-- 'laws.FnExactConstants': WHATEVER THE INPUT: true; the input reads as it did. -/
def fnExactConstantsSpec : ChangeSpec := { name := "fnExactConstants", fn := fun _ => fun
  | [] => { results := [.lit (.bool true)], args := [] }
  | _ => none }
def fnExactConstantsRow : OpenClaim := { program := "ytfkhllmokmjdaaa", sum := "66720232ac1f9b7c22e3599709b71c304fa96e5be19a23cca28c6ee41c447a72", func := "loop.example/g00215/laws.FnExactConstants", spec := "fnExactConstants", apart := false }
def FnExactConstantsSaid : Prop := fnExactConstantsRow.holds Try.pinned (OpenSpec.ofChange fnExactConstantsSpec)

/-- ITS FALSE NEIGHBOUR: 'it returns false'. Refute it at one input. -/
def fnExactConstantsWrong : ChangeSpec := { name := "fnExactConstants", fn := fun _ => fun
  | [] => { results := [.lit (.bool false)], args := [] }
  | _ => none }
def FnExactConstantsWrongFalsely : Prop := fnExactConstantsRow.holds Try.pinned (OpenSpec.ofChange fnExactConstantsWrong)

/-- 'laws.FnExactStarts': WHATEVER THE INPUT: true; the input reads as it did. -/
def fnExactStartsSpec : ChangeSpec := { name := "fnExactStarts", fn := fun _ => fun
  | [d] => { results := [.lit (.bool true)], args := [d] }
  | _ => none }
def fnExactStartsRow : OpenClaim := { program := "ytfkhllmokmjdaaa", sum := "66720232ac1f9b7c22e3599709b71c304fa96e5be19a23cca28c6ee41c447a72", func := "loop.example/g00215/laws.FnExactStarts", spec := "fnExactStarts", apart := false }
def FnExactStartsSaid : Prop := fnExactStartsRow.holds Try.pinned (OpenSpec.ofChange fnExactStartsSpec)

/-- ITS FALSE NEIGHBOUR: 'it returns false'. Refute it at one input. -/
def fnExactStartsWrong : ChangeSpec := { name := "fnExactStarts", fn := fun _ => fun
  | [d] => { results := [.lit (.bool false)], args := [d] }
  | _ => none }
def FnExactStartsWrongFalsely : Prop := fnExactStartsRow.holds Try.pinned (OpenSpec.ofChange fnExactStartsWrong)

/-- 'laws.FnExactRuneOk': WHATEVER THE INPUT: true; the input reads as it did. -/
def fnExactRuneOkSpec : ChangeSpec := { name := "fnExactRuneOk", fn := fun _ => fun
  | [d] => { results := [.lit (.bool true)], args := [d] }
  | _ => none }
def fnExactRuneOkRow : OpenClaim := { program := "ytfkhllmokmjdaaa", sum := "66720232ac1f9b7c22e3599709b71c304fa96e5be19a23cca28c6ee41c447a72", func := "loop.example/g00215/laws.FnExactRuneOk", spec := "fnExactRuneOk", apart := false }
def FnExactRuneOkSaid : Prop := fnExactRuneOkRow.holds Try.pinned (OpenSpec.ofChange fnExactRuneOkSpec)

/-- ITS FALSE NEIGHBOUR: 'it returns false'. Refute it at one input. -/
def fnExactRuneOkWrong : ChangeSpec := { name := "fnExactRuneOk", fn := fun _ => fun
  | [d] => { results := [.lit (.bool false)], args := [d] }
  | _ => none }
def FnExactRuneOkWrongFalsely : Prop := fnExactRuneOkRow.holds Try.pinned (OpenSpec.ofChange fnExactRuneOkWrong)

/-- 'laws.FnExactStyleOk': WHATEVER THE INPUT: true; the input reads as it did. -/
def fnExactStyleOkSpec : ChangeSpec := { name := "fnExactStyleOk", fn := fun _ => fun
  | [d] => { results := [.lit (.bool true)], args := [d] }
  | _ => none }
def fnExactStyleOkRow : OpenClaim := { program := "ytfkhllmokmjdaaa", sum := "66720232ac1f9b7c22e3599709b71c304fa96e5be19a23cca28c6ee41c447a72", func := "loop.example/g00215/laws.FnExactStyleOk", spec := "fnExactStyleOk", apart := false }
def FnExactStyleOkSaid : Prop := fnExactStyleOkRow.holds Try.pinned (OpenSpec.ofChange fnExactStyleOkSpec)

/-- ITS FALSE NEIGHBOUR: 'it returns false'. Refute it at one input. -/
def fnExactStyleOkWrong : ChangeSpec := { name := "fnExactStyleOk", fn := fun _ => fun
  | [d] => { results := [.lit (.bool false)], args := [d] }
  | _ => none }
def FnExactStyleOkWrongFalsely : Prop := fnExactStyleOkRow.holds Try.pinned (OpenSpec.ofChange fnExactStyleOkWrong)

/-- 'laws.FnExactMix': WHATEVER THE INPUT: true; the input reads as it did. -/
def fnExactMixSpec : ChangeSpec := { name := "fnExactMix", fn := fun _ => fun
  | [d1, d2] => { results := [.lit (.bool true)], args := [d1, d2] }
  | _ => none }
def fnExactMixRow : OpenClaim := { program := "ytfkhllmokmjdaaa", sum := "66720232ac1f9b7c22e3599709b71c304fa96e5be19a23cca28c6ee41c447a72", func := "loop.example/g00215/laws.FnExactMix", spec := "fnExactMix", apart := false }
def FnExactMixSaid : Prop := fnExactMixRow.holds Try.pinned (OpenSpec.ofChange fnExactMixSpec)

/-- ITS FALSE NEIGHBOUR: 'it returns false'. Refute it at one input. -/
def fnExactMixWrong : ChangeSpec := { name := "fnExactMix", fn := fun _ => fun
  | [d1, d2] => { results := [.lit (.bool false)], args := [d1, d2] }
  | _ => none }
def FnExactMixWrongFalsely : Prop := fnExactMixRow.holds Try.pinned (OpenSpec.ofChange fnExactMixWrong)

/-- 'laws.FnExactWidth': WHATEVER THE INPUT: true; the input reads as it did. -/
def fnExactWidthSpec : ChangeSpec := { name := "fnExactWidth", fn := fun _ => fun
  | [d] => { results := [.lit (.bool true)], args := [d] }
  | _ => none }
def fnExactWidthRow : OpenClaim := { program := "ytfkhllmokmjdaaa", sum := "66720232ac1f9b7c22e3599709b71c304fa96e5be19a23cca28c6ee41c447a72", func := "loop.example/g00215/laws.FnExactWidth", spec := "fnExactWidth", apart := false }
def FnExactWidthSaid : Prop := fnExactWidthRow.holds Try.pinned (OpenSpec.ofChange fnExactWidthSpec)

/-- ITS FALSE NEIGHBOUR: 'it returns false'. Refute it at one input. -/
def fnExactWidthWrong : ChangeSpec := { name := "fnExactWidth", fn := fun _ => fun
  | [d] => { results := [.lit (.bool false)], args := [d] }
  | _ => none }
def FnExactWidthWrongFalsely : Prop := fnExactWidthRow.holds Try.pinned (OpenSpec.ofChange fnExactWidthWrong)

/-- 'laws.FnExactKeyOk': WHATEVER THE INPUT: true; the input reads as it did. -/
def fnExactKeyOkSpec : ChangeSpec := { name := "fnExactKeyOk", fn := fun _ => fun
  | [d] => { results := [.lit (.bool true)], args := [d] }
  | _ => none }
def fnExactKeyOkRow : OpenClaim := { program := "ytfkhllmokmjdaaa", sum := "66720232ac1f9b7c22e3599709b71c304fa96e5be19a23cca28c6ee41c447a72", func := "loop.example/g00215/laws.FnExactKeyOk", spec := "fnExactKeyOk", apart := false }
def FnExactKeyOkSaid : Prop := fnExactKeyOkRow.holds Try.pinned (OpenSpec.ofChange fnExactKeyOkSpec)

/-- ITS FALSE NEIGHBOUR: 'it returns false'. Refute it at one input. -/
def fnExactKeyOkWrong : ChangeSpec := { name := "fnExactKeyOk", fn := fun _ => fun
  | [d] => { results := [.lit (.bool false)], args := [d] }
  | _ => none }
def FnExactKeyOkWrongFalsely : Prop := fnExactKeyOkRow.holds Try.pinned (OpenSpec.ofChange fnExactKeyOkWrong)

/-- 'laws.FnLevenshtein': WHATEVER THE INPUT: true; the input reads as it did. -/
def fnLevenshteinSpec : ChangeSpec := { name := "fnLevenshtein", fn := fun _ => fun
  | [d] => { results := [.lit (.bool true)], args := [d] }
  | _ => none }
def fnLevenshteinRow : OpenClaim := { program := "ytfkhllmokmjdaaa", sum := "66720232ac1f9b7c22e3599709b71c304fa96e5be19a23cca28c6ee41c447a72", func := "loop.example/g00215/laws.FnLevenshtein", spec := "fnLevenshtein", apart := false }
def FnLevenshteinSaid : Prop := fnLevenshteinRow.holds Try.pinned (OpenSpec.ofChange fnLevenshteinSpec)

/-- ITS FALSE NEIGHBOUR: 'it returns false'. Refute it at one input. -/
def fnLevenshteinWrong : ChangeSpec := { name := "fnLevenshtein", fn := fun _ => fun
  | [d] => { results := [.lit (.bool false)], args := [d] }
  | _ => none }
def FnLevenshteinWrongFalsely : Prop := fnLevenshteinRow.holds Try.pinned (OpenSpec.ofChange fnLevenshteinWrong)

/-- 'laws.FnExactPut': WHATEVER THE INPUT: true; the input reads as it did. -/
def fnExactPutSpec : ChangeSpec := { name := "fnExactPut", fn := fun _ => fun
  | [d] => { results := [.lit (.bool true)], args := [d] }
  | _ => none }
def fnExactPutRow : OpenClaim := { program := "ytfkhllmokmjdaaa", sum := "66720232ac1f9b7c22e3599709b71c304fa96e5be19a23cca28c6ee41c447a72", func := "loop.example/g00215/laws.FnExactPut", spec := "fnExactPut", apart := false }
def FnExactPutSaid : Prop := fnExactPutRow.holds Try.pinned (OpenSpec.ofChange fnExactPutSpec)

/-- ITS FALSE NEIGHBOUR: 'it returns false'. Refute it at one input. -/
def fnExactPutWrong : ChangeSpec := { name := "fnExactPut", fn := fun _ => fun
  | [d] => { results := [.lit (.bool false)], args := [d] }
  | _ => none }
def FnExactPutWrongFalsely : Prop := fnExactPutRow.holds Try.pinned (OpenSpec.ofChange fnExactPutWrong)

/-- 'laws.FnExactMark': WHATEVER THE INPUT: true; the input reads as it did. -/
def fnExactMarkSpec : ChangeSpec := { name := "fnExactMark", fn := fun _ => fun
  | [d1, d2, d3] => { results := [.lit (.bool true)], args := [d1, d2, d3] }
  | _ => none }
def fnExactMarkRow : OpenClaim := { program := "ytfkhllmokmjdaaa", sum := "66720232ac1f9b7c22e3599709b71c304fa96e5be19a23cca28c6ee41c447a72", func := "loop.example/g00215/laws.FnExactMark", spec := "fnExactMark", apart := false }
def FnExactMarkSaid : Prop := fnExactMarkRow.holds Try.pinned (OpenSpec.ofChange fnExactMarkSpec)

/-- ITS FALSE NEIGHBOUR: 'it returns false'. Refute it at one input. -/
def fnExactMarkWrong : ChangeSpec := { name := "fnExactMark", fn := fun _ => fun
  | [d1, d2, d3] => { results := [.lit (.bool false)], args := [d1, d2, d3] }
  | _ => none }
def FnExactMarkWrongFalsely : Prop := fnExactMarkRow.holds Try.pinned (OpenSpec.ofChange fnExactMarkWrong)

/-- 'laws.FnExactShared': WHATEVER THE INPUT: true; the input reads as it did. -/
def fnExactSharedSpec : ChangeSpec := { name := "fnExactShared", fn := fun _ => fun
  | [d1, d2] => { results := [.lit (.bool true)], args := [d1, d2] }
  | _ => none }
def fnExactSharedRow : OpenClaim := { program := "ytfkhllmokmjdaaa", sum := "66720232ac1f9b7c22e3599709b71c304fa96e5be19a23cca28c6ee41c447a72", func := "loop.example/g00215/laws.FnExactShared", spec := "fnExactShared", apart := false }
def FnExactSharedSaid : Prop := fnExactSharedRow.holds Try.pinned (OpenSpec.ofChange fnExactSharedSpec)

/-- ITS FALSE NEIGHBOUR: 'it returns false'. Refute it at one input. -/
def fnExactSharedWrong : ChangeSpec := { name := "fnExactShared", fn := fun _ => fun
  | [d1, d2] => { results := [.lit (.bool false)], args := [d1, d2] }
  | _ => none }
def FnExactSharedWrongFalsely : Prop := fnExactSharedRow.holds Try.pinned (OpenSpec.ofChange fnExactSharedWrong)

/-- 'laws.FnExactStream': WHATEVER THE INPUT: true; the input reads as it did. -/
def fnExactStreamSpec : ChangeSpec := { name := "fnExactStream", fn := fun _ => fun
  | [d1, d2, d3] => { results := [.lit (.bool true)], args := [d1, d2, d3] }
  | _ => none }
def fnExactStreamRow : OpenClaim := { program := "ytfkhllmokmjdaaa", sum := "66720232ac1f9b7c22e3599709b71c304fa96e5be19a23cca28c6ee41c447a72", func := "loop.example/g00215/laws.FnExactStream", spec := "fnExactStream", apart := false }
def FnExactStreamSaid : Prop := fnExactStreamRow.holds Try.pinned (OpenSpec.ofChange fnExactStreamSpec)

/-- ITS FALSE NEIGHBOUR: 'it returns false'. Refute it at one input. -/
def fnExactStreamWrong : ChangeSpec := { name := "fnExactStream", fn := fun _ => fun
  | [d1, d2, d3] => { results := [.lit (.bool false)], args := [d1, d2, d3] }
  | _ => none }
def FnExactStreamWrongFalsely : Prop := fnExactStreamRow.holds Try.pinned (OpenSpec.ofChange fnExactStreamWrong)

/- THE SECOND FORM. 'bulk': how many values and letters a reading holds, each counted each time it is reached (what is shared counts as often as it is met; a slice's spare places count too). A statement '..UptoSaid' is the law's where the arguments, and the package variables that the reading takes, are together of bulk at most 1048576: NARROWER than '..Said'. Prove '..Said' where nothing that the law and all that it calls make is longer than what came in: it says more and counts as full. Else prove '..UptoSaid'. A law counts once. -/
mutual
def uptoBulk {H : Type} : DataW H → Nat
  | .lit (.string bytes) => bytes.length + 1
  | .lit _ => 1
  | .nil => 1
  | .ptr d => uptoBulk d + 1
  | .slice elems spare => uptoBulkAll elems + uptoBulkAll spare + 1
  | .agg parts => uptoBulkAll parts + 1
  | .iface _ d => uptoBulk d + 1
  | .map entries => uptoBulkEntries entries + 1
  | .held _ => 1
def uptoBulkAll {H : Type} : List (DataW H) → Nat
  | [] => 0
  | d :: r => uptoBulk d + uptoBulkAll r
def uptoBulkEntries {H : Type} : List (Lit × DataW H) → Nat
  | [] => 0
  | x :: r => uptoBulkEntry x + uptoBulkEntries r
def uptoBulkEntry {H : Type} : Lit × DataW H → Nat
  | (.string bytes, d) => bytes.length + uptoBulk d + 1
  | (_, d) => uptoBulk d + 1
 end
def uptoSmall : (H : Type) → List (DataW H) → Bool := fun _ ds => decide (uptoBulkAll ds ≤ 1048576)
def OpenSpec.upto (s : _root_.Go.ChangeSpec) : _root_.Go.OpenSpec := { _root_.Go.OpenSpec.ofChange s with cond := some uptoSmall }

/-- 'laws.FnExactConstants', WHERE WHAT IT READS IS OF BULK AT MOST 1048576: true; the input reads as it did. -/
def fnExactConstantsUptoRow : OpenClaim := { program := "ytfkhllmokmjdaaa", sum := "66720232ac1f9b7c22e3599709b71c304fa96e5be19a23cca28c6ee41c447a72", func := "loop.example/g00215/laws.FnExactConstants", spec := "fnExactConstants", apart := false, narrowed := true }
def FnExactConstantsUptoSaid : Prop := fnExactConstantsUptoRow.holds Try.pinned (OpenSpec.upto fnExactConstantsSpec)

/-- 'laws.FnExactStarts', WHERE WHAT IT READS IS OF BULK AT MOST 1048576: true; the input reads as it did. -/
def fnExactStartsUptoRow : OpenClaim := { program := "ytfkhllmokmjdaaa", sum := "66720232ac1f9b7c22e3599709b71c304fa96e5be19a23cca28c6ee41c447a72", func := "loop.example/g00215/laws.FnExactStarts", spec := "fnExactStarts", apart := false, narrowed := true }
def FnExactStartsUptoSaid : Prop := fnExactStartsUptoRow.holds Try.pinned (OpenSpec.upto fnExactStartsSpec)

/-- 'laws.FnExactRuneOk', WHERE WHAT IT READS IS OF BULK AT MOST 1048576: true; the input reads as it did. -/
def fnExactRuneOkUptoRow : OpenClaim := { program := "ytfkhllmokmjdaaa", sum := "66720232ac1f9b7c22e3599709b71c304fa96e5be19a23cca28c6ee41c447a72", func := "loop.example/g00215/laws.FnExactRuneOk", spec := "fnExactRuneOk", apart := false, narrowed := true }
def FnExactRuneOkUptoSaid : Prop := fnExactRuneOkUptoRow.holds Try.pinned (OpenSpec.upto fnExactRuneOkSpec)

/-- 'laws.FnExactStyleOk', WHERE WHAT IT READS IS OF BULK AT MOST 1048576: true; the input reads as it did. -/
def fnExactStyleOkUptoRow : OpenClaim := { program := "ytfkhllmokmjdaaa", sum := "66720232ac1f9b7c22e3599709b71c304fa96e5be19a23cca28c6ee41c447a72", func := "loop.example/g00215/laws.FnExactStyleOk", spec := "fnExactStyleOk", apart := false, narrowed := true }
def FnExactStyleOkUptoSaid : Prop := fnExactStyleOkUptoRow.holds Try.pinned (OpenSpec.upto fnExactStyleOkSpec)

/-- 'laws.FnExactMix', WHERE WHAT IT READS IS OF BULK AT MOST 1048576: true; the input reads as it did. -/
def fnExactMixUptoRow : OpenClaim := { program := "ytfkhllmokmjdaaa", sum := "66720232ac1f9b7c22e3599709b71c304fa96e5be19a23cca28c6ee41c447a72", func := "loop.example/g00215/laws.FnExactMix", spec := "fnExactMix", apart := false, narrowed := true }
def FnExactMixUptoSaid : Prop := fnExactMixUptoRow.holds Try.pinned (OpenSpec.upto fnExactMixSpec)

/-- 'laws.FnExactWidth', WHERE WHAT IT READS IS OF BULK AT MOST 1048576: true; the input reads as it did. -/
def fnExactWidthUptoRow : OpenClaim := { program := "ytfkhllmokmjdaaa", sum := "66720232ac1f9b7c22e3599709b71c304fa96e5be19a23cca28c6ee41c447a72", func := "loop.example/g00215/laws.FnExactWidth", spec := "fnExactWidth", apart := false, narrowed := true }
def FnExactWidthUptoSaid : Prop := fnExactWidthUptoRow.holds Try.pinned (OpenSpec.upto fnExactWidthSpec)

/-- 'laws.FnExactKeyOk', WHERE WHAT IT READS IS OF BULK AT MOST 1048576: true; the input reads as it did. -/
def fnExactKeyOkUptoRow : OpenClaim := { program := "ytfkhllmokmjdaaa", sum := "66720232ac1f9b7c22e3599709b71c304fa96e5be19a23cca28c6ee41c447a72", func := "loop.example/g00215/laws.FnExactKeyOk", spec := "fnExactKeyOk", apart := false, narrowed := true }
def FnExactKeyOkUptoSaid : Prop := fnExactKeyOkUptoRow.holds Try.pinned (OpenSpec.upto fnExactKeyOkSpec)

/-- 'laws.FnLevenshtein', WHERE WHAT IT READS IS OF BULK AT MOST 1048576: true; the input reads as it did. -/
def fnLevenshteinUptoRow : OpenClaim := { program := "ytfkhllmokmjdaaa", sum := "66720232ac1f9b7c22e3599709b71c304fa96e5be19a23cca28c6ee41c447a72", func := "loop.example/g00215/laws.FnLevenshtein", spec := "fnLevenshtein", apart := false, narrowed := true }
def FnLevenshteinUptoSaid : Prop := fnLevenshteinUptoRow.holds Try.pinned (OpenSpec.upto fnLevenshteinSpec)

/-- 'laws.FnExactPut', WHERE WHAT IT READS IS OF BULK AT MOST 1048576: true; the input reads as it did. -/
def fnExactPutUptoRow : OpenClaim := { program := "ytfkhllmokmjdaaa", sum := "66720232ac1f9b7c22e3599709b71c304fa96e5be19a23cca28c6ee41c447a72", func := "loop.example/g00215/laws.FnExactPut", spec := "fnExactPut", apart := false, narrowed := true }
def FnExactPutUptoSaid : Prop := fnExactPutUptoRow.holds Try.pinned (OpenSpec.upto fnExactPutSpec)

/-- 'laws.FnExactMark', WHERE WHAT IT READS IS OF BULK AT MOST 1048576: true; the input reads as it did. -/
def fnExactMarkUptoRow : OpenClaim := { program := "ytfkhllmokmjdaaa", sum := "66720232ac1f9b7c22e3599709b71c304fa96e5be19a23cca28c6ee41c447a72", func := "loop.example/g00215/laws.FnExactMark", spec := "fnExactMark", apart := false, narrowed := true }
def FnExactMarkUptoSaid : Prop := fnExactMarkUptoRow.holds Try.pinned (OpenSpec.upto fnExactMarkSpec)

/-- 'laws.FnExactShared', WHERE WHAT IT READS IS OF BULK AT MOST 1048576: true; the input reads as it did. -/
def fnExactSharedUptoRow : OpenClaim := { program := "ytfkhllmokmjdaaa", sum := "66720232ac1f9b7c22e3599709b71c304fa96e5be19a23cca28c6ee41c447a72", func := "loop.example/g00215/laws.FnExactShared", spec := "fnExactShared", apart := false, narrowed := true }
def FnExactSharedUptoSaid : Prop := fnExactSharedUptoRow.holds Try.pinned (OpenSpec.upto fnExactSharedSpec)

/-- 'laws.FnExactStream', WHERE WHAT IT READS IS OF BULK AT MOST 1048576: true; the input reads as it did. -/
def fnExactStreamUptoRow : OpenClaim := { program := "ytfkhllmokmjdaaa", sum := "66720232ac1f9b7c22e3599709b71c304fa96e5be19a23cca28c6ee41c447a72", func := "loop.example/g00215/laws.FnExactStream", spec := "fnExactStream", apart := false, narrowed := true }
def FnExactStreamUptoSaid : Prop := fnExactStreamUptoRow.holds Try.pinned (OpenSpec.upto fnExactStreamSpec)

end Rows
end Go.Proofs.Ytfkhllmokmjdaaa
