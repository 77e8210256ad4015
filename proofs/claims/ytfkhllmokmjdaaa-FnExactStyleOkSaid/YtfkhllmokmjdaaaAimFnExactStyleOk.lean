/- The plain statement of the law FnExactStyleOk: what is to be proved of its Lean function; and how its arguments are read. No condition. Made by wip/tools/row.py. -/
import Derived.Test.YtfkhllmokmjdaaaPFnExactStyleOkx1
import Derived.Test.YtfkhllmokmjdaaaOpens
namespace Go.Proofs.Ytfkhllmokmjdaaa.PFnExactStyleOk
open Go.RowKit Go.Proofs.YtfkhllmokmjdaaaW.PrintWords Go.Proofs.YtfkhllmokmjdaaaW.PrintLast Go.Proofs.Ytfkhllmokmjdaaa.Opens

def laws_FnExactStyleOk.Aim : Prop := ∀ (a0_0 : Int) (a0_1 : Int) (a0_2 : Bool) (a0_3 : Bool) (a0_4 : Bool), ((Lit.int .i64 a0_0).wf = true) → ((Lit.int .i64 a0_1).wf = true) → laws_FnExactStyleOk.f a0_0 a0_1 a0_2 a0_3 a0_4 = some true
end Go.Proofs.Ytfkhllmokmjdaaa.PFnExactStyleOk
