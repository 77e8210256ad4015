/- Contracts of Go functions that a law reaches: each Lean function answers as its Go function does. No condition. Written by wip/tools/inj.py, over the kit's print. -/
import Derived.Test.YtnkoppgbbmeknaaProg
import Derived.Below
import Derived.Deep.Draws
import Derived.Deep.AppendLies
import Derived.Maps.AppendAt
import Derived.OwnWalk
import Derived.Laws.BytesArg
import Derived.Laws.MakeOwn
import Derived.Laws.OwnMore
import Derived.Deep.OwnRows
import Derived.Tactics
import Derived.Lib.ConvBytes
import Derived.Laws.Slices
import Derived.WalkKit
import Derived.KernelRfl
import Derived.RowKit3
import Derived.Deep.LoopGhost
import Derived.Deep.QuietTactic
import Derived.BigQuiet
import Derived.WideLaws
import Derived.Deep.DeepCutAuto
import Derived.Deep.CutBlock
import Derived.Deep.RegionHeld3
import Derived.Laws.Rows
import Derived.Lib.AppendStr
import Derived.ArgAppend
import Derived.Laws.IdiomCopy
import Derived.OrdersHeld
import Derived.Laws.BitsLemmas
import Derived.RowKit
import Derived.Test.YtnkoppgbbmeknaaWWords
import Derived.Test.YtnkoppgbbmeknaaWLast
import Derived.Test.YtnkoppgbbmeknaaWTab
import Derived.Test.YtnkoppgbbmeknaaWFour
import Derived.Test.YtnkoppgbbmeknaaWQPut
import Derived.Test.YtnkoppgbbmeknaaWApart
import Derived.Test.YtnkoppgbbmeknaaWArr
import Derived.Test.YtnkoppgbbmeknaaWZeros
import Derived.Test.YtnkoppgbbmeknaaWFoot
import Derived.Test.YtnkoppgbbmeknaaWKept
import Derived.Test.YtnkoppgbbmeknaaWShare
import Derived.Test.YtnkoppgbbmeknaaWN
import Derived.Test.YtnkoppgbbmeknaaWFootNe
import Derived.Test.YtnkoppgbbmeknaaWAt
import Derived.Test.YtnkoppgbbmeknaaWEqStruct
import Derived.Test.YtnkoppgbbmeknaaWRepsOne
import Derived.Test.YtnkoppgbbmeknaaWInv
import Derived.Test.YtnkoppgbbmeknaaWInvWords
import Derived.Test.YtnkoppgbbmeknaaWGuard
import Derived.Test.YtnkoppgbbmeknaaWNEv
import Derived.Test.YtnkoppgbbmeknaaWMore
namespace Go.Proofs.Ytnkoppgbbmeknaa.PFnExactStyled
open Go.RowKit Go.Proofs.YtnkoppgbbmeknaaW.PrintWords Go.Proofs.YtnkoppgbbmeknaaW.PrintLast Go.Proofs.YtnkoppgbbmeknaaW.PrintMore
attribute [local go_sem] max2_int min2_int max_two min_two max_three min_three max_four min_four   -- for this text's walks alone
set_option linter.unusedVariables false
set_option linter.unusedSimpArgs false



def errW : Option Int → Value
  | none => .nilIface
  | some c => .iface 0 (.int .i64 c)
theorem errW_none : errW none = .nilIface := rfl
theorem errW_some (c : Int) : errW (some c) = .iface 0 (.int .i64 c) := rfl

theorem info2 : (Try.prog.info? 2).map (fun i => (i.zero, i.size, i.bytes)) = some (some (.int .i64 0), 1, 8) := by kernel_rfl
-- the values' own types

end Go.Proofs.Ytnkoppgbbmeknaa.PFnExactStyled
