/- The plain statement of the law FnExactKeyOk: what is to be proved of its Lean function; and how its arguments are read. No condition. Made by wip/tools/row.py. -/
import Derived.Test.YtfkhllmokmjdaaaPFnExactKeyOkx1
import Derived.Test.YtfkhllmokmjdaaaOpens
namespace Go.Proofs.Ytfkhllmokmjdaaa.PFnExactKeyOk
open Go.RowKit Go.Proofs.YtfkhllmokmjdaaaW.PrintWords Go.Proofs.YtfkhllmokmjdaaaW.PrintLast Go.Proofs.Ytfkhllmokmjdaaa.Opens

def laws_FnExactKeyOk.Aim : Prop := ∀ (a0_0 : Int) (a0_1 : Int) (a0_2 : Bool), ((Lit.int .i64 a0_0).wf = true) → ((Lit.int .i64 a0_1).wf = true) → laws_FnExactKeyOk.f a0_0 a0_1 a0_2 = some true
end Go.Proofs.Ytfkhllmokmjdaaa.PFnExactKeyOk
