/- Of the words that the kit's print lays (WInvWords): what the law PB names. Cut by wip/tools/slim.py. No condition. -/
import Derived.Test.YtepeanpoicefdaaDoorYPBInv
import Derived.Test.YtepeanpoicefdaaDoorYPBFootNe
namespace Go.Proofs.YtepeanpoicefdaaDoorW.PrintWords
open Go.RowKit
end Go.Proofs.YtepeanpoicefdaaDoorW.PrintWords
namespace Go.Proofs.YtepeanpoicefdaaDoorW.PrintLast
section
variable {ops : Array Oper} {a : Act} {o og : Oper} {g : Nat} {t : Tmp} {u : Bool}
end
end Go.Proofs.YtepeanpoicefdaaDoorW.PrintLast

