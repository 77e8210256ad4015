/-
  No cell of these rows narrows 'for every input' (looked for: loops, veiled, ifaces, maps, wideKeys, modest, calm, conditions, laid).
  DERIVED. THE GIVEN ROWS OF THIS SEAT. 6 by the template 'for every input the law returns true; each argument reads behind the call as it read before'; 0 by the template 'total and deterministic' (their statements: YtkljnfinjacejaaTotals.lean).
  GIVEN WITH THE SEED: the statements are not yours to turn. If you find one false, say at which input.
  Laid BY PROGRAM, IN A SANDBOX (cutbox-rows.mjs): the forced cells as the released guide's own fill.sh prints them over the translation 3dcb30bcdfc3b794… (all of the seat's roots in one cut). By AI agents, Wed Nov 11 2026. No macro, syntax, notation, axiom, sorry.
-/
import Derived.Test.YtkljnfinjacejaaChecked
import GoSem.Claim
import GoSem.ClaimJoined
import GoSem.ClaimMapViews
import Derived.JoinedTies
import Derived.KernelRfl
namespace Go.Proofs.Ytkljnfinjacejaa
/- THE CELL 'sum', in the pinned program and in every row, IS THE sha256 OF THE DUMP (.gsa) THAT YtkljnfinjacejaaProg.lean LOADS. Nothing in Lean hashes anything: it is a label: what it is worth is what the hold of that sum in a sandbox is worth. -/
noncomputable def Try.pinned : Pinned := { name := "ytkljnfinjacejaa", sum := "3dcb30bcdfc3b794d352236fa05c167e2b7ad7cc80c884b2d43d93dcb57fe24b", checked := Try.checked }
namespace Rows
def none {H : Type} : Left H := { results := [], args := [] }

/-- 'laws.FnExactKeep': WHATEVER THE INPUT: true; the input reads as it did. -/
def fnExactKeepSpec : ChangeSpec := { name := "fnExactKeep", fn := fun _ => fun
  | [d1, d2] => { results := [.lit (.bool true)], args := [d1, d2] }
  | _ => none }
def fnExactKeepRow : OpenClaim := { program := "ytkljnfinjacejaa", sum := "3dcb30bcdfc3b794d352236fa05c167e2b7ad7cc80c884b2d43d93dcb57fe24b", func := "loop.example/g00215/laws.FnExactKeep", spec := "fnExactKeep", unfollowed := true, recurses := true, apart := false }
def FnExactKeepSaid : Prop := fnExactKeepRow.holds Try.pinned (OpenSpec.ofChange fnExactKeepSpec)

/-- ITS FALSE NEIGHBOUR: 'it returns false'. Refute it at one input. -/
def fnExactKeepWrong : ChangeSpec := { name := "fnExactKeep", fn := fun _ => fun
  | [d1, d2] => { results := [.lit (.bool false)], args := [d1, d2] }
  | _ => none }
def FnExactKeepWrongFalsely : Prop := fnExactKeepRow.holds Try.pinned (OpenSpec.ofChange fnExactKeepWrong)

/-- 'laws.FnExactGridOk': WHATEVER THE INPUT: true; the input reads as it did. -/
def fnExactGridOkSpec : ChangeSpec := { name := "fnExactGridOk", fn := fun _ => fun
  | [d] => { results := [.lit (.bool true)], args := [d] }
  | _ => none }
def fnExactGridOkRow : OpenClaim := { program := "ytkljnfinjacejaa", sum := "3dcb30bcdfc3b794d352236fa05c167e2b7ad7cc80c884b2d43d93dcb57fe24b", func := "loop.example/g00215/laws.FnExactGridOk", spec := "fnExactGridOk", unfollowed := true, recurses := true, apart := false }
def FnExactGridOkSaid : Prop := fnExactGridOkRow.holds Try.pinned (OpenSpec.ofChange fnExactGridOkSpec)

/-- ITS FALSE NEIGHBOUR: 'it returns false'. Refute it at one input. -/
def fnExactGridOkWrong : ChangeSpec := { name := "fnExactGridOk", fn := fun _ => fun
  | [d] => { results := [.lit (.bool false)], args := [d] }
  | _ => none }
def FnExactGridOkWrongFalsely : Prop := fnExactGridOkRow.holds Try.pinned (OpenSpec.ofChange fnExactGridOkWrong)

/-- 'laws.FnExactNewGrid': WHATEVER THE INPUT: true; the input reads as it did. -/
def fnExactNewGridSpec : ChangeSpec := { name := "fnExactNewGrid", fn := fun _ => fun
  | [d1, d2] => { results := [.lit (.bool true)], args := [d1, d2] }
  | _ => none }
def fnExactNewGridRow : OpenClaim := { program := "ytkljnfinjacejaa", sum := "3dcb30bcdfc3b794d352236fa05c167e2b7ad7cc80c884b2d43d93dcb57fe24b", func := "loop.example/g00215/laws.FnExactNewGrid", spec := "fnExactNewGrid", apart := false }
def FnExactNewGridSaid : Prop := fnExactNewGridRow.holds Try.pinned (OpenSpec.ofChange fnExactNewGridSpec)

/-- ITS FALSE NEIGHBOUR: 'it returns false'. Refute it at one input. -/
def fnExactNewGridWrong : ChangeSpec := { name := "fnExactNewGrid", fn := fun _ => fun
  | [d1, d2] => { results := [.lit (.bool false)], args := [d1, d2] }
  | _ => none }
def FnExactNewGridWrongFalsely : Prop := fnExactNewGridRow.holds Try.pinned (OpenSpec.ofChange fnExactNewGridWrong)

/-- 'laws.FnExactCleared': WHATEVER THE INPUT: true; the input reads as it did. -/
def fnExactClearedSpec : ChangeSpec := { name := "fnExactCleared", fn := fun _ => fun
  | [d1, d2, d3, d4] => { results := [.lit (.bool true)], args := [d1, d2, d3, d4] }
  | _ => none }
def fnExactClearedRow : OpenClaim := { program := "ytkljnfinjacejaa", sum := "3dcb30bcdfc3b794d352236fa05c167e2b7ad7cc80c884b2d43d93dcb57fe24b", func := "loop.example/g00215/laws.FnExactCleared", spec := "fnExactCleared", apart := false }
def FnExactClearedSaid : Prop := fnExactClearedRow.holds Try.pinned (OpenSpec.ofChange fnExactClearedSpec)

/-- ITS FALSE NEIGHBOUR: 'it returns false'. Refute it at one input. -/
def fnExactClearedWrong : ChangeSpec := { name := "fnExactCleared", fn := fun _ => fun
  | [d1, d2, d3, d4] => { results := [.lit (.bool false)], args := [d1, d2, d3, d4] }
  | _ => none }
def FnExactClearedWrongFalsely : Prop := fnExactClearedRow.holds Try.pinned (OpenSpec.ofChange fnExactClearedWrong)

/-- 'laws.FnExactWritten': WHATEVER THE INPUT: true; the input reads as it did. -/
def fnExactWrittenSpec : ChangeSpec := { name := "fnExactWritten", fn := fun _ => fun
  | [d1, d2, d3, d4] => { results := [.lit (.bool true)], args := [d1, d2, d3, d4] }
  | _ => none }
def fnExactWrittenRow : OpenClaim := { program := "ytkljnfinjacejaa", sum := "3dcb30bcdfc3b794d352236fa05c167e2b7ad7cc80c884b2d43d93dcb57fe24b", func := "loop.example/g00215/laws.FnExactWritten", spec := "fnExactWritten", apart := false }
def FnExactWrittenSaid : Prop := fnExactWrittenRow.holds Try.pinned (OpenSpec.ofChange fnExactWrittenSpec)

/-- ITS FALSE NEIGHBOUR: 'it returns false'. Refute it at one input. -/
def fnExactWrittenWrong : ChangeSpec := { name := "fnExactWritten", fn := fun _ => fun
  | [d1, d2, d3, d4] => { results := [.lit (.bool false)], args := [d1, d2, d3, d4] }
  | _ => none }
def FnExactWrittenWrongFalsely : Prop := fnExactWrittenRow.holds Try.pinned (OpenSpec.ofChange fnExactWrittenWrong)

/-- 'laws.FnExactLooked': WHATEVER THE INPUT: true; the input reads as it did. -/
def fnExactLookedSpec : ChangeSpec := { name := "fnExactLooked", fn := fun _ => fun
  | [d1, d2] => { results := [.lit (.bool true)], args := [d1, d2] }
  | _ => none }
def fnExactLookedRow : OpenClaim := { program := "ytkljnfinjacejaa", sum := "3dcb30bcdfc3b794d352236fa05c167e2b7ad7cc80c884b2d43d93dcb57fe24b", func := "loop.example/g00215/laws.FnExactLooked", spec := "fnExactLooked", inPlace := ["internal/bytealg.IndexByteString", "internal/bytealg.IndexString"], unfollowed := true, recurses := true, named := ["internal/bytealg.MaxLen"], apart := false }
def FnExactLookedSaid : Prop := fnExactLookedRow.holds Try.pinned (OpenSpec.ofChange fnExactLookedSpec)

/-- ITS FALSE NEIGHBOUR: 'it returns false'. Refute it at one input. -/
def fnExactLookedWrong : ChangeSpec := { name := "fnExactLooked", fn := fun _ => fun
  | [d1, d2] => { results := [.lit (.bool false)], args := [d1, d2] }
  | _ => none }
def FnExactLookedWrongFalsely : Prop := fnExactLookedRow.holds Try.pinned (OpenSpec.ofChange fnExactLookedWrong)

/- THE SECOND FORM. 'bulk': how many values and letters a reading holds, each counted each time it is reached (what is shared counts as often as it is met; a slice's spare places count too). A statement '..UptoSaid' is the law's where the arguments, and the package variables that the reading takes, are together of bulk at most 1048576: NARROWER than '..Said'. Prove '..Said' where nothing that the law and all that it calls make is longer than what came in: it says more and counts as full. Else prove '..UptoSaid'. A law counts once. -/
mutual
def uptoBulk {H : Type} : DataW H → Nat
  | .lit (.string bytes) => bytes.length + 1
  | .lit _ => 1
  | .nil => 1
  | .ptr d => uptoBulk d + 1
  | .slice elems spare => uptoBulkAll elems + uptoBulkAll spare + 1
  | .agg parts => uptoBulkAll parts + 1
  | .iface _ d => uptoBulk d + 1
  | .map entries => uptoBulkEntries entries + 1
  | .held _ => 1
def uptoBulkAll {H : Type} : List (DataW H) → Nat
  | [] => 0
  | d :: r => uptoBulk d + uptoBulkAll r
def uptoBulkEntries {H : Type} : List (Lit × DataW H) → Nat
  | [] => 0
  | x :: r => uptoBulkEntry x + uptoBulkEntries r
def uptoBulkEntry {H : Type} : Lit × DataW H → Nat
  | (.string bytes, d) => bytes.length + uptoBulk d + 1
  | (_, d) => uptoBulk d + 1
 end
def uptoSmall : (H : Type) → List (DataW H) → Bool := fun _ ds => decide (uptoBulkAll ds ≤ 1048576)
def OpenSpec.upto (s : _root_.Go.ChangeSpec) : _root_.Go.OpenSpec := { _root_.Go.OpenSpec.ofChange s with cond := some uptoSmall }

/-- 'laws.FnExactKeep', WHERE WHAT IT READS IS OF BULK AT MOST 1048576: true; the input reads as it did. -/
def fnExactKeepUptoRow : OpenClaim := { program := "ytkljnfinjacejaa", sum := "3dcb30bcdfc3b794d352236fa05c167e2b7ad7cc80c884b2d43d93dcb57fe24b", func := "loop.example/g00215/laws.FnExactKeep", spec := "fnExactKeep", unfollowed := true, recurses := true, apart := false, narrowed := true }
def FnExactKeepUptoSaid : Prop := fnExactKeepUptoRow.holds Try.pinned (OpenSpec.upto fnExactKeepSpec)

/-- 'laws.FnExactGridOk', WHERE WHAT IT READS IS OF BULK AT MOST 1048576: true; the input reads as it did. -/
def fnExactGridOkUptoRow : OpenClaim := { program := "ytkljnfinjacejaa", sum := "3dcb30bcdfc3b794d352236fa05c167e2b7ad7cc80c884b2d43d93dcb57fe24b", func := "loop.example/g00215/laws.FnExactGridOk", spec := "fnExactGridOk", unfollowed := true, recurses := true, apart := false, narrowed := true }
def FnExactGridOkUptoSaid : Prop := fnExactGridOkUptoRow.holds Try.pinned (OpenSpec.upto fnExactGridOkSpec)

/-- 'laws.FnExactNewGrid', WHERE WHAT IT READS IS OF BULK AT MOST 1048576: true; the input reads as it did. -/
def fnExactNewGridUptoRow : OpenClaim := { program := "ytkljnfinjacejaa", sum := "3dcb30bcdfc3b794d352236fa05c167e2b7ad7cc80c884b2d43d93dcb57fe24b", func := "loop.example/g00215/laws.FnExactNewGrid", spec := "fnExactNewGrid", apart := false, narrowed := true }
def FnExactNewGridUptoSaid : Prop := fnExactNewGridUptoRow.holds Try.pinned (OpenSpec.upto fnExactNewGridSpec)

/-- 'laws.FnExactCleared', WHERE WHAT IT READS IS OF BULK AT MOST 1048576: true; the input reads as it did. -/
def fnExactClearedUptoRow : OpenClaim := { program := "ytkljnfinjacejaa", sum := "3dcb30bcdfc3b794d352236fa05c167e2b7ad7cc80c884b2d43d93dcb57fe24b", func := "loop.example/g00215/laws.FnExactCleared", spec := "fnExactCleared", apart := false, narrowed := true }
def FnExactClearedUptoSaid : Prop := fnExactClearedUptoRow.holds Try.pinned (OpenSpec.upto fnExactClearedSpec)

/-- 'laws.FnExactWritten', WHERE WHAT IT READS IS OF BULK AT MOST 1048576: true; the input reads as it did. -/
def fnExactWrittenUptoRow : OpenClaim := { program := "ytkljnfinjacejaa", sum := "3dcb30bcdfc3b794d352236fa05c167e2b7ad7cc80c884b2d43d93dcb57fe24b", func := "loop.example/g00215/laws.FnExactWritten", spec := "fnExactWritten", apart := false, narrowed := true }
def FnExactWrittenUptoSaid : Prop := fnExactWrittenUptoRow.holds Try.pinned (OpenSpec.upto fnExactWrittenSpec)

/-- 'laws.FnExactLooked', WHERE WHAT IT READS IS OF BULK AT MOST 1048576: true; the input reads as it did. -/
def fnExactLookedUptoRow : OpenClaim := { program := "ytkljnfinjacejaa", sum := "3dcb30bcdfc3b794d352236fa05c167e2b7ad7cc80c884b2d43d93dcb57fe24b", func := "loop.example/g00215/laws.FnExactLooked", spec := "fnExactLooked", inPlace := ["internal/bytealg.IndexByteString", "internal/bytealg.IndexString"], unfollowed := true, recurses := true, named := ["internal/bytealg.MaxLen"], apart := false, narrowed := true }
def FnExactLookedUptoSaid : Prop := fnExactLookedUptoRow.holds Try.pinned (OpenSpec.upto fnExactLookedSpec)

end Rows
end Go.Proofs.Ytkljnfinjacejaa
