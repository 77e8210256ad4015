/- Of the words that the kit's print lays (WInvWords): what the law SA names. Cut by wip/tools/slim.py. No condition. -/
import Derived.Test.YtalopdcephohgaaDoorYSAInv
import Derived.Test.YtalopdcephohgaaDoorYSAFootNe
namespace Go.Proofs.YtalopdcephohgaaDoorW.PrintWords
open Go.RowKit
end Go.Proofs.YtalopdcephohgaaDoorW.PrintWords
namespace Go.Proofs.YtalopdcephohgaaDoorW.PrintLast
section
variable {ops : Array Oper} {a : Act} {o og : Oper} {g : Nat} {t : Tmp} {u : Bool}
end
end Go.Proofs.YtalopdcephohgaaDoorW.PrintLast

