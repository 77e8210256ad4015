/- The plain statement of the law FnExactSent: what is to be proved of its Lean function; and how its arguments are read. No condition. Made by wip/tools/row.py. -/
import Derived.Test.YtnkoppgbbmeknaaMFnExactSentx2
import Derived.Test.YtnkoppgbbmeknaaOpens
namespace Go.Proofs.Ytnkoppgbbmeknaa.PFnExactSent
open Go.RowKit Go.Proofs.YtnkoppgbbmeknaaW.PrintWords Go.Proofs.YtnkoppgbbmeknaaW.PrintLast Go.Proofs.Ytnkoppgbbmeknaa.Opens

def laws_FnExactSent.Aim : Prop := ∀ (a0_0 : Int) (a0_1 : Int) (a0_2 : Bool), ((Lit.int .i64 a0_0).wf = true) → ((Lit.int .i64 a0_1).wf = true) → ∃ k, laws_FnExactSent.f k a0_0 a0_1 a0_2 = some true
end Go.Proofs.Ytnkoppgbbmeknaa.PFnExactSent
