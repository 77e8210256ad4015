/- The plain statement of the law FnExactKeep: what is to be proved of its Lean function; and how its arguments are read. No condition. Made by wip/tools/row.py. -/
import Derived.Test.YtalopdcephohgaaRAx23
import Derived.Test.YtalopdcephohgaaOpensRA
namespace Go.Proofs.Ytalopdcephohgaa.RA
open Go.RowKit Go.Proofs.YtalopdcephohgaaW.PrintWords Go.Proofs.YtalopdcephohgaaW.PrintLast Go.Proofs.Ytalopdcephohgaa.Opens

def laws_FnExactKeep.Aim : Prop := ∀ (a0_0 : Int) (l0_1 : (List ByteArray)) (a0_2 : Int) (a1 : ByteArray), ((Lit.int .i64 a0_0).wf = true) → (l0_1.length ≤ maxLen ∧ ∀ a_ ∈ l0_1, (a_.size ≤ maxLen)) → ((Lit.int .i64 a0_2).wf = true) → a1.size ≤ 140737488351232 → ∃ k, laws_FnExactKeep.f k a0_0 l0_1 a0_2 a1 = some true
end Go.Proofs.Ytalopdcephohgaa.RA
