/- Contracts of Go functions that a law reaches: each Lean function answers as its Go function does. No condition. Written by wip/tools/inj.py, over the kit's print. -/
import Derived.Test.YtmbnbpjjgohbeaaDoorProg
import Derived.Below
import Derived.Deep.Draws
import Derived.Deep.AppendLies
import Derived.Maps.AppendAt
import Derived.OwnWalk
import Derived.Laws.BytesArg
import Derived.Laws.MakeOwn
import Derived.Laws.OwnMore
import Derived.Deep.OwnRows
import Derived.Tactics
import Derived.Lib.ConvBytes
import Derived.Laws.Slices
import Derived.WalkKit
import Derived.KernelRfl
import Derived.RowKit3
import Derived.Deep.LoopGhost
import Derived.Deep.QuietTactic
import Derived.BigQuiet
import Derived.WideLaws
import Derived.Deep.DeepCutAuto
import Derived.Deep.CutBlock
import Derived.Deep.RegionHeld3
import Derived.Laws.Rows
import Derived.Lib.AppendStr
import Derived.ArgAppend
import Derived.Laws.IdiomCopy
import Derived.OrdersHeld
import Derived.Laws.BitsLemmas
import Derived.RowKit
import Derived.Test.YtmbnbpjjgohbeaaDoorShelf
import Derived.Test.YtmbnbpjjgohbeaaDoorWWords
import Derived.Test.YtmbnbpjjgohbeaaDoorWLast
import Derived.Test.YtmbnbpjjgohbeaaDoorWTab
import Derived.Test.YtmbnbpjjgohbeaaDoorWFour
import Derived.Test.YtmbnbpjjgohbeaaDoorWQPut
import Derived.Test.YtmbnbpjjgohbeaaDoorWApart
import Derived.Test.YtmbnbpjjgohbeaaDoorWArr
import Derived.Test.YtmbnbpjjgohbeaaDoorWZeros
import Derived.Test.YtmbnbpjjgohbeaaDoorWFoot
import Derived.Test.YtmbnbpjjgohbeaaDoorWKept
import Derived.Test.YtmbnbpjjgohbeaaDoorWShare
import Derived.Test.YtmbnbpjjgohbeaaDoorWN
import Derived.Test.YtmbnbpjjgohbeaaDoorWFootNe
import Derived.Test.YtmbnbpjjgohbeaaDoorWAt
import Derived.Test.YtmbnbpjjgohbeaaDoorWEqStruct
import Derived.Test.YtmbnbpjjgohbeaaDoorWRepsOne
import Derived.Test.YtmbnbpjjgohbeaaDoorWInv
import Derived.Test.YtmbnbpjjgohbeaaDoorWInvWords
import Derived.Test.YtmbnbpjjgohbeaaDoorWGuard
import Derived.Test.YtmbnbpjjgohbeaaDoorWNEv
import Derived.Test.YtmbnbpjjgohbeaaDoorWMore
namespace Go.Proofs.YtmbnbpjjgohbeaaDoor.PFnCut
open Go.RowKit Go.Proofs.YtmbnbpjjgohbeaaDoorW.PrintWords Go.Proofs.YtmbnbpjjgohbeaaDoorW.PrintLast Go.Proofs.YtmbnbpjjgohbeaaDoorW.PrintMore
attribute [local go_sem] max2_int min2_int max_two min_two max_three min_three max_four min_four   -- for this text's walks alone
set_option linter.unusedVariables false
set_option linter.unusedSimpArgs false



def errW : Option Int → Value
  | none => .nilIface
  | some c => .iface 0 (.int .i64 c)
theorem errW_none : errW none = .nilIface := rfl
theorem errW_some (c : Int) : errW (some c) = .iface 0 (.int .i64 c) := rfl

theorem info2 : (Tryd.prog.info? 2).map (fun i => (i.zero, i.size, i.bytes)) = some (some (.int .i64 0), 1, 8) := by kernel_rfl
theorem info5 : (Tryd.prog.info? 5).map (fun i => (i.zero, i.size, i.bytes)) = some (some (.int .u8 0), 1, 1) := by kernel_rfl
-- the values' own types

end Go.Proofs.YtmbnbpjjgohbeaaDoor.PFnCut
