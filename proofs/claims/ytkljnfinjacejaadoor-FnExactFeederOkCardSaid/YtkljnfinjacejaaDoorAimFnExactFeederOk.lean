/- The plain statement of the law FnExactFeederOk: what is to be proved of its Lean function; and how its arguments are read. No condition. Made by wip/tools/row.py. -/
import Derived.Test.YtkljnfinjacejaaDoorPAx5
import Derived.Test.YtkljnfinjacejaaDoorOpens
namespace Go.Proofs.YtkljnfinjacejaaDoor.PA
open Go.RowKit Go.Proofs.YtkljnfinjacejaaDoorW.PrintWords Go.Proofs.YtkljnfinjacejaaDoorW.PrintLast Go.Proofs.YtkljnfinjacejaaDoor.Opens

def laws_FnExactFeederOk.Aim : Prop := ∀ (a0_0 : ByteArray), (a0_0.size ≤ maxLen) → ∃ k, laws_FnExactFeederOk.f k a0_0 = some true
end Go.Proofs.YtkljnfinjacejaaDoor.PA
