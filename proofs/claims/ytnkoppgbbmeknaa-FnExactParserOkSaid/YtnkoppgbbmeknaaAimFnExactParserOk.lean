/- The plain statement of the law FnExactParserOk: what is to be proved of its Lean function; and how its arguments are read. No condition. Made by wip/tools/row.py. -/
import Derived.Test.YtnkoppgbbmeknaaPFnExactParserOkx3
import Derived.Test.YtnkoppgbbmeknaaOpens
namespace Go.Proofs.Ytnkoppgbbmeknaa.PFnExactParserOk
open Go.RowKit Go.Proofs.YtnkoppgbbmeknaaW.PrintWords Go.Proofs.YtnkoppgbbmeknaaW.PrintLast Go.Proofs.Ytnkoppgbbmeknaa.Opens

def laws_FnExactParserOk.Aim : Prop := ∀ (a0_0 : Int) (l0_1 : (List Int)) (a0_2 : Int) (l0_3 : (List Int)), ((Lit.int .i64 a0_0).wf = true) → (l0_1.length ≤ maxLen ∧ ∀ a_ ∈ l0_1, ((Lit.int .i64 a_).wf = true)) → ((Lit.int .i64 a0_2).wf = true) → (l0_3.length ≤ maxLen ∧ ∀ a_ ∈ l0_3, ((Lit.int .i64 a_).wf = true)) → ∃ k, laws_FnExactParserOk.f k a0_0 l0_1 a0_2 l0_3 = some true
end Go.Proofs.Ytnkoppgbbmeknaa.PFnExactParserOk
