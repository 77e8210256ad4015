/- Contracts of Go functions that laws of this seat reach: each Lean function answers as its Go function does. No condition. Written by wip/tools/inj.py, over the kit's print. -/
import Derived.Test.YtbgekmchjdkjiaaDoorProg
import Derived.Below
import Derived.Deep.Draws
import Derived.Deep.AppendLies
import Derived.Maps.AppendAt
import Derived.OwnWalk
import Derived.Laws.BytesArg
import Derived.Laws.MakeOwn
import Derived.Laws.OwnMore
import Derived.Deep.OwnRows
import Derived.Tactics
import Derived.Lib.ConvBytes
import Derived.Laws.Slices
import Derived.WalkKit
import Derived.KernelRfl
import Derived.RowKit3
import Derived.Deep.LoopGhost
import Derived.Deep.QuietTactic
import Derived.BigQuiet
import Derived.WideLaws
import Derived.Deep.DeepCutAuto
import Derived.Deep.CutBlock
import Derived.Deep.RegionHeld3
import Derived.Laws.Rows
import Derived.Lib.AppendStr
import Derived.ArgAppend
import Derived.Laws.IdiomCopy
import Derived.OrdersHeld
import Derived.Laws.BitsLemmas
import Derived.RowKit
import Derived.Test.YtbgekmchjdkjiaaDoorShelf
import Derived.Test.YtbgekmchjdkjiaaDoorWWords
import Derived.Test.YtbgekmchjdkjiaaDoorWLast
import Derived.Test.YtbgekmchjdkjiaaDoorWTab
import Derived.Test.YtbgekmchjdkjiaaDoorWFour
import Derived.Test.YtbgekmchjdkjiaaDoorWQPut
import Derived.Test.YtbgekmchjdkjiaaDoorWApart
import Derived.Test.YtbgekmchjdkjiaaDoorWArr
import Derived.Test.YtbgekmchjdkjiaaDoorWZeros
import Derived.Test.YtbgekmchjdkjiaaDoorWFoot
import Derived.Test.YtbgekmchjdkjiaaDoorWKept
import Derived.Test.YtbgekmchjdkjiaaDoorWShare
import Derived.Test.YtbgekmchjdkjiaaDoorWN
import Derived.Test.YtbgekmchjdkjiaaDoorWFootNe
import Derived.Test.YtbgekmchjdkjiaaDoorWAt
import Derived.Test.YtbgekmchjdkjiaaDoorWEqStruct
import Derived.Test.YtbgekmchjdkjiaaDoorWRepsOne
import Derived.Test.YtbgekmchjdkjiaaDoorWInv
import Derived.Test.YtbgekmchjdkjiaaDoorWInvWords
import Derived.Test.YtbgekmchjdkjiaaDoorWGuard
import Derived.Test.YtbgekmchjdkjiaaDoorWNEv
import Derived.Test.YtbgekmchjdkjiaaDoorWMore
namespace Go.Proofs.YtbgekmchjdkjiaaDoor.PA
open Go.RowKit Go.Proofs.YtbgekmchjdkjiaaDoorW.PrintWords Go.Proofs.YtbgekmchjdkjiaaDoorW.PrintLast Go.Proofs.YtbgekmchjdkjiaaDoorW.PrintMore
attribute [local go_sem] max2_int min2_int max_two min_two max_three min_three max_four min_four   -- for this text's walks alone
set_option linter.unusedVariables false
set_option linter.unusedSimpArgs false



def errW : Option Int → Value
  | none => .nilIface
  | some c => .iface 0 (.int .i64 c)
theorem errW_none : errW none = .nilIface := rfl
theorem errW_some (c : Int) : errW (some c) = .iface 0 (.int .i64 c) := rfl

theorem info2 : (Tryd.prog.info? 2).map (fun i => (i.zero, i.size, i.bytes)) = some (some (.int .i64 0), 1, 8) := by kernel_rfl
theorem info5 : (Tryd.prog.info? 5).map (fun i => (i.zero, i.size, i.bytes)) = some (some (.int .u8 0), 1, 1) := by kernel_rfl
theorem info9 : (Tryd.prog.info? 9).map (fun i => (i.zero, i.size, i.bytes)) = some (some (.string ⟨#[]⟩), 1, 16) := by kernel_rfl
-- the values' own types

end Go.Proofs.YtbgekmchjdkjiaaDoor.PA
