/-
  No cell of these rows narrows 'for every input' (looked for: loops, veiled, ifaces, maps, wideKeys, modest, calm, conditions, laid).
  DERIVED. THE GIVEN ROWS OF THIS SEAT. 6 by the template 'for every input the law returns true; each argument reads behind the call as it read before'; 0 by the template 'total and deterministic' (their statements: YtlbdegpjgonnnabTotals.lean).
  GIVEN WITH THE SEED: the statements are not yours to turn. If you find one false, say at which input.
  Laid BY PROGRAM, IN A SANDBOX (cutbox-rows.mjs): the forced cells as the released guide's own fill.sh prints them over the translation 5ac6b91c41f5c00a… (all of the seat's roots in one cut). By AI agents, Wed Nov 11 2026. No macro, syntax, notation, axiom, sorry.
-/
import Derived.Test.YtlbdegpjgonnnabChecked
import GoSem.Claim
import GoSem.ClaimJoined
import GoSem.ClaimMapViews
import Derived.JoinedTies
import Derived.KernelRfl
namespace Go.Proofs.Ytlbdegpjgonnnab
/- THE CELL 'sum', in the pinned program and in every row, IS THE sha256 OF THE DUMP (.gsa) THAT YtlbdegpjgonnnabProg.lean LOADS. Nothing in Lean hashes anything: it is a label: what it is worth is what the hold of that sum in a sandbox is worth. -/
noncomputable def Try.pinned : Pinned := { name := "ytlbdegpjgonnnab", sum := "5ac6b91c41f5c00ae284598f08cbbc642282de636bf80c44777c32eaed663546", checked := Try.checked }
namespace Rows
def none {H : Type} : Left H := { results := [], args := [] }

/-- 'laws.FnExactParserOk': WHATEVER THE INPUT: true; the input reads as it did. -/
def fnExactParserOkSpec : ChangeSpec := { name := "fnExactParserOk", fn := fun _ => fun
  | [d] => { results := [.lit (.bool true)], args := [d] }
  | _ => none }
def fnExactParserOkRow : OpenClaim := { program := "ytlbdegpjgonnnab", sum := "5ac6b91c41f5c00ae284598f08cbbc642282de636bf80c44777c32eaed663546", func := "loop.example/g00215/laws.FnExactParserOk", spec := "fnExactParserOk", unfollowed := true, recurses := true, apart := false }
def FnExactParserOkSaid : Prop := fnExactParserOkRow.holds Try.pinned (OpenSpec.ofChange fnExactParserOkSpec)

/-- ITS FALSE NEIGHBOUR: 'it returns false'. Refute it at one input. -/
def fnExactParserOkWrong : ChangeSpec := { name := "fnExactParserOk", fn := fun _ => fun
  | [d] => { results := [.lit (.bool false)], args := [d] }
  | _ => none }
def FnExactParserOkWrongFalsely : Prop := fnExactParserOkRow.holds Try.pinned (OpenSpec.ofChange fnExactParserOkWrong)

/-- 'laws.FnExactParams': WHATEVER THE INPUT: true; the input reads as it did. -/
def fnExactParamsSpec : ChangeSpec := { name := "fnExactParams", fn := fun _ => fun
  | [d1, d2] => { results := [.lit (.bool true)], args := [d1, d2] }
  | _ => none }
def fnExactParamsRow : OpenClaim := { program := "ytlbdegpjgonnnab", sum := "5ac6b91c41f5c00ae284598f08cbbc642282de636bf80c44777c32eaed663546", func := "loop.example/g00215/laws.FnExactParams", spec := "fnExactParams", apart := false }
def FnExactParamsSaid : Prop := fnExactParamsRow.holds Try.pinned (OpenSpec.ofChange fnExactParamsSpec)

/-- ITS FALSE NEIGHBOUR: 'it returns false'. Refute it at one input. -/
def fnExactParamsWrong : ChangeSpec := { name := "fnExactParams", fn := fun _ => fun
  | [d1, d2] => { results := [.lit (.bool false)], args := [d1, d2] }
  | _ => none }
def FnExactParamsWrongFalsely : Prop := fnExactParamsRow.holds Try.pinned (OpenSpec.ofChange fnExactParamsWrong)

/-- 'laws.FnExactStyled': WHATEVER THE INPUT: true; the input reads as it did. -/
def fnExactStyledSpec : ChangeSpec := { name := "fnExactStyled", fn := fun _ => fun
  | [d1, d2] => { results := [.lit (.bool true)], args := [d1, d2] }
  | _ => none }
def fnExactStyledRow : OpenClaim := { program := "ytlbdegpjgonnnab", sum := "5ac6b91c41f5c00ae284598f08cbbc642282de636bf80c44777c32eaed663546", func := "loop.example/g00215/laws.FnExactStyled", spec := "fnExactStyled", apart := false }
def FnExactStyledSaid : Prop := fnExactStyledRow.holds Try.pinned (OpenSpec.ofChange fnExactStyledSpec)

/-- ITS FALSE NEIGHBOUR: 'it returns false'. Refute it at one input. -/
def fnExactStyledWrong : ChangeSpec := { name := "fnExactStyled", fn := fun _ => fun
  | [d1, d2] => { results := [.lit (.bool false)], args := [d1, d2] }
  | _ => none }
def FnExactStyledWrongFalsely : Prop := fnExactStyledRow.holds Try.pinned (OpenSpec.ofChange fnExactStyledWrong)

/-- 'laws.FnExactRowOk': WHATEVER THE INPUT: true; the input reads as it did. -/
def fnExactRowOkSpec : ChangeSpec := { name := "fnExactRowOk", fn := fun _ => fun
  | [d] => { results := [.lit (.bool true)], args := [d] }
  | _ => none }
def fnExactRowOkRow : OpenClaim := { program := "ytlbdegpjgonnnab", sum := "5ac6b91c41f5c00ae284598f08cbbc642282de636bf80c44777c32eaed663546", func := "loop.example/g00215/laws.FnExactRowOk", spec := "fnExactRowOk", apart := false }
def FnExactRowOkSaid : Prop := fnExactRowOkRow.holds Try.pinned (OpenSpec.ofChange fnExactRowOkSpec)

/-- ITS FALSE NEIGHBOUR: 'it returns false'. Refute it at one input. -/
def fnExactRowOkWrong : ChangeSpec := { name := "fnExactRowOk", fn := fun _ => fun
  | [d] => { results := [.lit (.bool false)], args := [d] }
  | _ => none }
def FnExactRowOkWrongFalsely : Prop := fnExactRowOkRow.holds Try.pinned (OpenSpec.ofChange fnExactRowOkWrong)

/-- 'laws.FnExactKeep': WHATEVER THE INPUT: true; the input reads as it did. -/
def fnExactKeepSpec : ChangeSpec := { name := "fnExactKeep", fn := fun _ => fun
  | [d1, d2] => { results := [.lit (.bool true)], args := [d1, d2] }
  | _ => none }
def fnExactKeepRow : OpenClaim := { program := "ytlbdegpjgonnnab", sum := "5ac6b91c41f5c00ae284598f08cbbc642282de636bf80c44777c32eaed663546", func := "loop.example/g00215/laws.FnExactKeep", spec := "fnExactKeep", unfollowed := true, recurses := true, apart := false }
def FnExactKeepSaid : Prop := fnExactKeepRow.holds Try.pinned (OpenSpec.ofChange fnExactKeepSpec)

/-- ITS FALSE NEIGHBOUR: 'it returns false'. Refute it at one input. -/
def fnExactKeepWrong : ChangeSpec := { name := "fnExactKeep", fn := fun _ => fun
  | [d1, d2] => { results := [.lit (.bool false)], args := [d1, d2] }
  | _ => none }
def FnExactKeepWrongFalsely : Prop := fnExactKeepRow.holds Try.pinned (OpenSpec.ofChange fnExactKeepWrong)

/-- 'laws.FnPlaces': WHATEVER THE INPUT: true; the input reads as it did. -/
def fnPlacesSpec : ChangeSpec := { name := "fnPlaces", fn := fun _ => fun
  | [d] => { results := [.lit (.bool true)], args := [d] }
  | _ => none }
def fnPlacesRow : OpenClaim := { program := "ytlbdegpjgonnnab", sum := "5ac6b91c41f5c00ae284598f08cbbc642282de636bf80c44777c32eaed663546", func := "loop.example/g00215/laws.FnPlaces", spec := "fnPlaces", apart := false }
def FnPlacesSaid : Prop := fnPlacesRow.holds Try.pinned (OpenSpec.ofChange fnPlacesSpec)

/-- ITS FALSE NEIGHBOUR: 'it returns false'. Refute it at one input. -/
def fnPlacesWrong : ChangeSpec := { name := "fnPlaces", fn := fun _ => fun
  | [d] => { results := [.lit (.bool false)], args := [d] }
  | _ => none }
def FnPlacesWrongFalsely : Prop := fnPlacesRow.holds Try.pinned (OpenSpec.ofChange fnPlacesWrong)

/- THE SECOND FORM. 'bulk': how many values and letters a reading holds, each counted each time it is reached (what is shared counts as often as it is met; a slice's spare places count too). A statement '..UptoSaid' is the law's where the arguments, and the package variables that the reading takes, are together of bulk at most 1048576: NARROWER than '..Said'. Prove '..Said' where nothing that the law and all that it calls make is longer than what came in: it says more and counts as full. Else prove '..UptoSaid'. A law counts once. -/
mutual
def uptoBulk {H : Type} : DataW H → Nat
  | .lit (.string bytes) => bytes.length + 1
  | .lit _ => 1
  | .nil => 1
  | .ptr d => uptoBulk d + 1
  | .slice elems spare => uptoBulkAll elems + uptoBulkAll spare + 1
  | .agg parts => uptoBulkAll parts + 1
  | .iface _ d => uptoBulk d + 1
  | .map entries => uptoBulkEntries entries + 1
  | .held _ => 1
def uptoBulkAll {H : Type} : List (DataW H) → Nat
  | [] => 0
  | d :: r => uptoBulk d + uptoBulkAll r
def uptoBulkEntries {H : Type} : List (Lit × DataW H) → Nat
  | [] => 0
  | x :: r => uptoBulkEntry x + uptoBulkEntries r
def uptoBulkEntry {H : Type} : Lit × DataW H → Nat
  | (.string bytes, d) => bytes.length + uptoBulk d + 1
  | (_, d) => uptoBulk d + 1
 end
def uptoSmall : (H : Type) → List (DataW H) → Bool := fun _ ds => decide (uptoBulkAll ds ≤ 1048576)
def OpenSpec.upto (s : _root_.Go.ChangeSpec) : _root_.Go.OpenSpec := { _root_.Go.OpenSpec.ofChange s with cond := some uptoSmall }

/-- 'laws.FnExactParserOk', WHERE WHAT IT READS IS OF BULK AT MOST 1048576: true; the input reads as it did. -/
def fnExactParserOkUptoRow : OpenClaim := { program := "ytlbdegpjgonnnab", sum := "5ac6b91c41f5c00ae284598f08cbbc642282de636bf80c44777c32eaed663546", func := "loop.example/g00215/laws.FnExactParserOk", spec := "fnExactParserOk", unfollowed := true, recurses := true, apart := false, narrowed := true }
def FnExactParserOkUptoSaid : Prop := fnExactParserOkUptoRow.holds Try.pinned (OpenSpec.upto fnExactParserOkSpec)

/-- 'laws.FnExactParams', WHERE WHAT IT READS IS OF BULK AT MOST 1048576: true; the input reads as it did. -/
def fnExactParamsUptoRow : OpenClaim := { program := "ytlbdegpjgonnnab", sum := "5ac6b91c41f5c00ae284598f08cbbc642282de636bf80c44777c32eaed663546", func := "loop.example/g00215/laws.FnExactParams", spec := "fnExactParams", apart := false, narrowed := true }
def FnExactParamsUptoSaid : Prop := fnExactParamsUptoRow.holds Try.pinned (OpenSpec.upto fnExactParamsSpec)

/-- 'laws.FnExactStyled', WHERE WHAT IT READS IS OF BULK AT MOST 1048576: true; the input reads as it did. -/
def fnExactStyledUptoRow : OpenClaim := { program := "ytlbdegpjgonnnab", sum := "5ac6b91c41f5c00ae284598f08cbbc642282de636bf80c44777c32eaed663546", func := "loop.example/g00215/laws.FnExactStyled", spec := "fnExactStyled", apart := false, narrowed := true }
def FnExactStyledUptoSaid : Prop := fnExactStyledUptoRow.holds Try.pinned (OpenSpec.upto fnExactStyledSpec)

/-- 'laws.FnExactRowOk', WHERE WHAT IT READS IS OF BULK AT MOST 1048576: true; the input reads as it did. -/
def fnExactRowOkUptoRow : OpenClaim := { program := "ytlbdegpjgonnnab", sum := "5ac6b91c41f5c00ae284598f08cbbc642282de636bf80c44777c32eaed663546", func := "loop.example/g00215/laws.FnExactRowOk", spec := "fnExactRowOk", apart := false, narrowed := true }
def FnExactRowOkUptoSaid : Prop := fnExactRowOkUptoRow.holds Try.pinned (OpenSpec.upto fnExactRowOkSpec)

/-- 'laws.FnExactKeep', WHERE WHAT IT READS IS OF BULK AT MOST 1048576: true; the input reads as it did. -/
def fnExactKeepUptoRow : OpenClaim := { program := "ytlbdegpjgonnnab", sum := "5ac6b91c41f5c00ae284598f08cbbc642282de636bf80c44777c32eaed663546", func := "loop.example/g00215/laws.FnExactKeep", spec := "fnExactKeep", unfollowed := true, recurses := true, apart := false, narrowed := true }
def FnExactKeepUptoSaid : Prop := fnExactKeepUptoRow.holds Try.pinned (OpenSpec.upto fnExactKeepSpec)

/-- 'laws.FnPlaces', WHERE WHAT IT READS IS OF BULK AT MOST 1048576: true; the input reads as it did. -/
def fnPlacesUptoRow : OpenClaim := { program := "ytlbdegpjgonnnab", sum := "5ac6b91c41f5c00ae284598f08cbbc642282de636bf80c44777c32eaed663546", func := "loop.example/g00215/laws.FnPlaces", spec := "fnPlaces", apart := false, narrowed := true }
def FnPlacesUptoSaid : Prop := fnPlacesUptoRow.holds Try.pinned (OpenSpec.upto fnPlacesSpec)

end Rows
end Go.Proofs.Ytlbdegpjgonnnab
