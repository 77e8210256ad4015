/- The plain statement of the law FnExactFeed: what is to be proved of its Lean function; and how its arguments are read. No condition. Made by wip/tools/row.py. -/
import Derived.Test.YtkljnfinjacejaaDoorPBx9
import Derived.Test.YtkljnfinjacejaaDoorOpens
namespace Go.Proofs.YtkljnfinjacejaaDoor.PB
open Go.RowKit Go.Proofs.YtkljnfinjacejaaDoorW.PrintWords Go.Proofs.YtkljnfinjacejaaDoorW.PrintLast Go.Proofs.YtkljnfinjacejaaDoor.Opens

def laws_FnExactFeed.Aim : Prop := ∀ (a0_0 : ByteArray) (a1 : Int), (a0_0.size ≤ maxLen) → (Lit.int .u8 a1).wf = true → ∃ k, laws_FnExactFeed.f k a0_0 a1 = some true
end Go.Proofs.YtkljnfinjacejaaDoor.PB
