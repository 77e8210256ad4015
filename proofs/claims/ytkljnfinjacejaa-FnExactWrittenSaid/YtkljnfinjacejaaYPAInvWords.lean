/- Of the words that the kit's print lays (WInvWords): what the law PA names. Cut by wip/tools/slim.py. No condition. -/
import Derived.Test.YtkljnfinjacejaaYPAInv
import Derived.Test.YtkljnfinjacejaaYPAFootNe
namespace Go.Proofs.YtkljnfinjacejaaW.PrintWords
open Go.RowKit
end Go.Proofs.YtkljnfinjacejaaW.PrintWords
namespace Go.Proofs.YtkljnfinjacejaaW.PrintLast
section
variable {ops : Array Oper} {a : Act} {o og : Oper} {g : Nat} {t : Tmp} {u : Bool}
end
end Go.Proofs.YtkljnfinjacejaaW.PrintLast

