/- Of the words that the kit's print lays (WInvWords): what the law PC names. Cut by wip/tools/slim.py. No condition. -/
import Derived.Test.YtbgekmchjdkjiaaDoorYPCInv
import Derived.Test.YtbgekmchjdkjiaaDoorYPCFootNe
namespace Go.Proofs.YtbgekmchjdkjiaaDoorW.PrintWords
open Go.RowKit
end Go.Proofs.YtbgekmchjdkjiaaDoorW.PrintWords
namespace Go.Proofs.YtbgekmchjdkjiaaDoorW.PrintLast
section
variable {ops : Array Oper} {a : Act} {o og : Oper} {g : Nat} {t : Tmp} {u : Bool}
end
end Go.Proofs.YtbgekmchjdkjiaaDoorW.PrintLast

