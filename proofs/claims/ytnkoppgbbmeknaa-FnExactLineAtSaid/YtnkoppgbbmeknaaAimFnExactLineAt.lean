/- The plain statement of the law FnExactLineAt: what is to be proved of its Lean function; and how its arguments are read. No condition. Made by wip/tools/row.py. -/
import Derived.Test.YtnkoppgbbmeknaaPFnExactLineAtx3
import Derived.Test.YtnkoppgbbmeknaaOpens
namespace Go.Proofs.Ytnkoppgbbmeknaa.PFnExactLineAt
open Go.RowKit Go.Proofs.YtnkoppgbbmeknaaW.PrintWords Go.Proofs.YtnkoppgbbmeknaaW.PrintLast Go.Proofs.Ytnkoppgbbmeknaa.Opens

def laws_FnExactLineAt.Aim : Prop := ∀ (a0_0 : Int) (l0_1 : (List ByteArray)) (a0_2 : Int) (a1 : Int), ((Lit.int .i64 a0_0).wf = true) → (l0_1.length ≤ maxLen ∧ ∀ a_ ∈ l0_1, (a_.size ≤ maxLen)) → ((Lit.int .i64 a0_2).wf = true) → (Lit.int .i64 a1).wf = true → ∃ k, laws_FnExactLineAt.f k a0_0 l0_1 a0_2 a1 = some true
end Go.Proofs.Ytnkoppgbbmeknaa.PFnExactLineAt
