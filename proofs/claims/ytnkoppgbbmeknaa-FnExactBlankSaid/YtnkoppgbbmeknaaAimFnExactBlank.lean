/- The plain statement of the law FnExactBlank: what is to be proved of its Lean function; and how its arguments are read. No condition. Made by wip/tools/row.py. -/
import Derived.Test.YtnkoppgbbmeknaaMFnExactBlankx3
import Derived.Test.YtnkoppgbbmeknaaOpens
namespace Go.Proofs.Ytnkoppgbbmeknaa.PFnExactBlank
open Go.RowKit Go.Proofs.YtnkoppgbbmeknaaW.PrintWords Go.Proofs.YtnkoppgbbmeknaaW.PrintLast Go.Proofs.Ytnkoppgbbmeknaa.Opens

def laws_FnExactBlank.Aim : Prop := ∀ (a0 : Int) (a1_0 : Int) (a1_1 : Int) (a1_2 : Bool) (a1_3 : Bool) (a1_4 : Bool), (Lit.int .i64 a0).wf = true → ((Lit.int .i64 a1_0).wf = true) → ((Lit.int .i64 a1_1).wf = true) → ∃ k, laws_FnExactBlank.f k a0 a1_0 a1_1 a1_2 a1_3 a1_4 = some true
end Go.Proofs.Ytnkoppgbbmeknaa.PFnExactBlank
