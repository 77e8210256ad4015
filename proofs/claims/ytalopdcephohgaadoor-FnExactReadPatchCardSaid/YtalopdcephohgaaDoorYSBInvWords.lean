/- Of the words that the kit's print lays (WInvWords): what the law SB names. Cut by wip/tools/slim.py. No condition. -/
import Derived.Test.YtalopdcephohgaaDoorYSBInv
import Derived.Test.YtalopdcephohgaaDoorYSBFootNe
namespace Go.Proofs.YtalopdcephohgaaDoorW.PrintWords
open Go.RowKit
end Go.Proofs.YtalopdcephohgaaDoorW.PrintWords
namespace Go.Proofs.YtalopdcephohgaaDoorW.PrintLast
section
variable {ops : Array Oper} {a : Act} {o og : Oper} {g : Nat} {t : Tmp} {u : Bool}
end
end Go.Proofs.YtalopdcephohgaaDoorW.PrintLast

