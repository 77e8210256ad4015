/-
  No cell of these rows narrows 'for every input' (looked for: loops, veiled, ifaces, maps, wideKeys, modest, calm, conditions, laid).
  DERIVED. THE GIVEN ROWS OF THIS SEAT. 5 by the template 'for every input the law returns true; each argument reads behind the call as it read before'; 0 by the template 'total and deterministic' (their statements: YtfhkpneffmcdbaaTotals.lean).
  GIVEN WITH THE SEED: the statements are not yours to turn. If you find one false, say at which input.
  Laid BY PROGRAM, IN A SANDBOX (cutbox-rows.mjs): the forced cells as the released guide's own fill.sh prints them over the translation a4d35b5fb42f994e… (all of the seat's roots in one cut). By AI agents, Wed Nov 11 2026. No macro, syntax, notation, axiom, sorry.
-/
import Derived.Test.YtfhkpneffmcdbaaChecked
import GoSem.Claim
import GoSem.ClaimJoined
import GoSem.ClaimMapViews
import Derived.JoinedTies
import Derived.KernelRfl
namespace Go.Proofs.Ytfhkpneffmcdbaa
/- THE CELL 'sum', in the pinned program and in every row, IS THE sha256 OF THE DUMP (.gsa) THAT YtfhkpneffmcdbaaProg.lean LOADS. Nothing in Lean hashes anything: it is a label: what it is worth is what the hold of that sum in a sandbox is worth. -/
noncomputable def Try.pinned : Pinned := { name := "ytfhkpneffmcdbaa", sum := "a4d35b5fb42f994e6b25bfed4a76fd818435e38b7b635e29fb9c4e34cee638f6", checked := Try.checked }
namespace Rows
def none {H : Type} : Left H := { results := [], args := [] }

/-- 'laws.FnExactPulled': WHATEVER THE INPUT: true; the input reads as it did. -/
def fnExactPulledSpec : ChangeSpec := { name := "fnExactPulled", fn := fun _ => fun
  | [d1, d2, d3, d4] => { results := [.lit (.bool true)], args := [d1, d2, d3, d4] }
  | _ => none }
def fnExactPulledRow : OpenClaim := { program := "ytfhkpneffmcdbaa", sum := "a4d35b5fb42f994e6b25bfed4a76fd818435e38b7b635e29fb9c4e34cee638f6", func := "loop.example/g00215/laws.FnExactPulled", spec := "fnExactPulled", apart := false }
def FnExactPulledSaid : Prop := fnExactPulledRow.holds Try.pinned (OpenSpec.ofChange fnExactPulledSpec)

/-- ITS FALSE NEIGHBOUR: 'it returns false'. Refute it at one input. -/
def fnExactPulledWrong : ChangeSpec := { name := "fnExactPulled", fn := fun _ => fun
  | [d1, d2, d3, d4] => { results := [.lit (.bool false)], args := [d1, d2, d3, d4] }
  | _ => none }
def FnExactPulledWrongFalsely : Prop := fnExactPulledRow.holds Try.pinned (OpenSpec.ofChange fnExactPulledWrong)

/-- 'laws.FnExactPushed': WHATEVER THE INPUT: true; the input reads as it did. -/
def fnExactPushedSpec : ChangeSpec := { name := "fnExactPushed", fn := fun _ => fun
  | [d1, d2, d3, d4] => { results := [.lit (.bool true)], args := [d1, d2, d3, d4] }
  | _ => none }
def fnExactPushedRow : OpenClaim := { program := "ytfhkpneffmcdbaa", sum := "a4d35b5fb42f994e6b25bfed4a76fd818435e38b7b635e29fb9c4e34cee638f6", func := "loop.example/g00215/laws.FnExactPushed", spec := "fnExactPushed", inPlace := ["slices.overlaps[loop.example/g00215/impl.Cell]"], apart := false }
def FnExactPushedSaid : Prop := fnExactPushedRow.holds Try.pinned (OpenSpec.ofChange fnExactPushedSpec)

/-- ITS FALSE NEIGHBOUR: 'it returns false'. Refute it at one input. -/
def fnExactPushedWrong : ChangeSpec := { name := "fnExactPushed", fn := fun _ => fun
  | [d1, d2, d3, d4] => { results := [.lit (.bool false)], args := [d1, d2, d3, d4] }
  | _ => none }
def FnExactPushedWrongFalsely : Prop := fnExactPushedRow.holds Try.pinned (OpenSpec.ofChange fnExactPushedWrong)

/-- 'laws.FnMoved': WHATEVER THE INPUT: true; the input reads as it did. -/
def fnMovedSpec : ChangeSpec := { name := "fnMoved", fn := fun _ => fun
  | [d] => { results := [.lit (.bool true)], args := [d] }
  | _ => none }
def fnMovedRow : OpenClaim := { program := "ytfhkpneffmcdbaa", sum := "a4d35b5fb42f994e6b25bfed4a76fd818435e38b7b635e29fb9c4e34cee638f6", func := "loop.example/g00215/laws.FnMoved", spec := "fnMoved", inPlace := ["slices.overlaps[loop.example/g00215/impl.Cell]"], apart := false }
def FnMovedSaid : Prop := fnMovedRow.holds Try.pinned (OpenSpec.ofChange fnMovedSpec)

/-- ITS FALSE NEIGHBOUR: 'it returns false'. Refute it at one input. -/
def fnMovedWrong : ChangeSpec := { name := "fnMoved", fn := fun _ => fun
  | [d] => { results := [.lit (.bool false)], args := [d] }
  | _ => none }
def FnMovedWrongFalsely : Prop := fnMovedRow.holds Try.pinned (OpenSpec.ofChange fnMovedWrong)

/-- 'laws.FnExactNewGrid': WHATEVER THE INPUT: true; the input reads as it did. -/
def fnExactNewGridSpec : ChangeSpec := { name := "fnExactNewGrid", fn := fun _ => fun
  | [d1, d2] => { results := [.lit (.bool true)], args := [d1, d2] }
  | _ => none }
def fnExactNewGridRow : OpenClaim := { program := "ytfhkpneffmcdbaa", sum := "a4d35b5fb42f994e6b25bfed4a76fd818435e38b7b635e29fb9c4e34cee638f6", func := "loop.example/g00215/laws.FnExactNewGrid", spec := "fnExactNewGrid", apart := false }
def FnExactNewGridSaid : Prop := fnExactNewGridRow.holds Try.pinned (OpenSpec.ofChange fnExactNewGridSpec)

/-- ITS FALSE NEIGHBOUR: 'it returns false'. Refute it at one input. -/
def fnExactNewGridWrong : ChangeSpec := { name := "fnExactNewGrid", fn := fun _ => fun
  | [d1, d2] => { results := [.lit (.bool false)], args := [d1, d2] }
  | _ => none }
def FnExactNewGridWrongFalsely : Prop := fnExactNewGridRow.holds Try.pinned (OpenSpec.ofChange fnExactNewGridWrong)

/-- 'laws.FnExactResized': WHATEVER THE INPUT: true; the input reads as it did. -/
def fnExactResizedSpec : ChangeSpec := { name := "fnExactResized", fn := fun _ => fun
  | [d1, d2, d3] => { results := [.lit (.bool true)], args := [d1, d2, d3] }
  | _ => none }
def fnExactResizedRow : OpenClaim := { program := "ytfhkpneffmcdbaa", sum := "a4d35b5fb42f994e6b25bfed4a76fd818435e38b7b635e29fb9c4e34cee638f6", func := "loop.example/g00215/laws.FnExactResized", spec := "fnExactResized", unfollowed := true, recurses := true, apart := false }
def FnExactResizedSaid : Prop := fnExactResizedRow.holds Try.pinned (OpenSpec.ofChange fnExactResizedSpec)

/-- ITS FALSE NEIGHBOUR: 'it returns false'. Refute it at one input. -/
def fnExactResizedWrong : ChangeSpec := { name := "fnExactResized", fn := fun _ => fun
  | [d1, d2, d3] => { results := [.lit (.bool false)], args := [d1, d2, d3] }
  | _ => none }
def FnExactResizedWrongFalsely : Prop := fnExactResizedRow.holds Try.pinned (OpenSpec.ofChange fnExactResizedWrong)

/- THE SECOND FORM. 'bulk': how many values and letters a reading holds, each counted each time it is reached (what is shared counts as often as it is met; a slice's spare places count too). A statement '..UptoSaid' is the law's where the arguments, and the package variables that the reading takes, are together of bulk at most 1048576: NARROWER than '..Said'. Prove '..Said' where nothing that the law and all that it calls make is longer than what came in: it says more and counts as full. Else prove '..UptoSaid'. A law counts once. -/
mutual
def uptoBulk {H : Type} : DataW H → Nat
  | .lit (.string bytes) => bytes.length + 1
  | .lit _ => 1
  | .nil => 1
  | .ptr d => uptoBulk d + 1
  | .slice elems spare => uptoBulkAll elems + uptoBulkAll spare + 1
  | .agg parts => uptoBulkAll parts + 1
  | .iface _ d => uptoBulk d + 1
  | .map entries => uptoBulkEntries entries + 1
  | .held _ => 1
def uptoBulkAll {H : Type} : List (DataW H) → Nat
  | [] => 0
  | d :: r => uptoBulk d + uptoBulkAll r
def uptoBulkEntries {H : Type} : List (Lit × DataW H) → Nat
  | [] => 0
  | x :: r => uptoBulkEntry x + uptoBulkEntries r
def uptoBulkEntry {H : Type} : Lit × DataW H → Nat
  | (.string bytes, d) => bytes.length + uptoBulk d + 1
  | (_, d) => uptoBulk d + 1
 end
def uptoSmall : (H : Type) → List (DataW H) → Bool := fun _ ds => decide (uptoBulkAll ds ≤ 1048576)
def OpenSpec.upto (s : _root_.Go.ChangeSpec) : _root_.Go.OpenSpec := { _root_.Go.OpenSpec.ofChange s with cond := some uptoSmall }

/-- 'laws.FnExactPulled', WHERE WHAT IT READS IS OF BULK AT MOST 1048576: true; the input reads as it did. -/
def fnExactPulledUptoRow : OpenClaim := { program := "ytfhkpneffmcdbaa", sum := "a4d35b5fb42f994e6b25bfed4a76fd818435e38b7b635e29fb9c4e34cee638f6", func := "loop.example/g00215/laws.FnExactPulled", spec := "fnExactPulled", apart := false, narrowed := true }
def FnExactPulledUptoSaid : Prop := fnExactPulledUptoRow.holds Try.pinned (OpenSpec.upto fnExactPulledSpec)

/-- 'laws.FnExactPushed', WHERE WHAT IT READS IS OF BULK AT MOST 1048576: true; the input reads as it did. -/
def fnExactPushedUptoRow : OpenClaim := { program := "ytfhkpneffmcdbaa", sum := "a4d35b5fb42f994e6b25bfed4a76fd818435e38b7b635e29fb9c4e34cee638f6", func := "loop.example/g00215/laws.FnExactPushed", spec := "fnExactPushed", inPlace := ["slices.overlaps[loop.example/g00215/impl.Cell]"], apart := false, narrowed := true }
def FnExactPushedUptoSaid : Prop := fnExactPushedUptoRow.holds Try.pinned (OpenSpec.upto fnExactPushedSpec)

/-- 'laws.FnMoved', WHERE WHAT IT READS IS OF BULK AT MOST 1048576: true; the input reads as it did. -/
def fnMovedUptoRow : OpenClaim := { program := "ytfhkpneffmcdbaa", sum := "a4d35b5fb42f994e6b25bfed4a76fd818435e38b7b635e29fb9c4e34cee638f6", func := "loop.example/g00215/laws.FnMoved", spec := "fnMoved", inPlace := ["slices.overlaps[loop.example/g00215/impl.Cell]"], apart := false, narrowed := true }
def FnMovedUptoSaid : Prop := fnMovedUptoRow.holds Try.pinned (OpenSpec.upto fnMovedSpec)

/-- 'laws.FnExactNewGrid', WHERE WHAT IT READS IS OF BULK AT MOST 1048576: true; the input reads as it did. -/
def fnExactNewGridUptoRow : OpenClaim := { program := "ytfhkpneffmcdbaa", sum := "a4d35b5fb42f994e6b25bfed4a76fd818435e38b7b635e29fb9c4e34cee638f6", func := "loop.example/g00215/laws.FnExactNewGrid", spec := "fnExactNewGrid", apart := false, narrowed := true }
def FnExactNewGridUptoSaid : Prop := fnExactNewGridUptoRow.holds Try.pinned (OpenSpec.upto fnExactNewGridSpec)

/-- 'laws.FnExactResized', WHERE WHAT IT READS IS OF BULK AT MOST 1048576: true; the input reads as it did. -/
def fnExactResizedUptoRow : OpenClaim := { program := "ytfhkpneffmcdbaa", sum := "a4d35b5fb42f994e6b25bfed4a76fd818435e38b7b635e29fb9c4e34cee638f6", func := "loop.example/g00215/laws.FnExactResized", spec := "fnExactResized", unfollowed := true, recurses := true, apart := false, narrowed := true }
def FnExactResizedUptoSaid : Prop := fnExactResizedUptoRow.holds Try.pinned (OpenSpec.upto fnExactResizedSpec)

end Rows
end Go.Proofs.Ytfhkpneffmcdbaa
