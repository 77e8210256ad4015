/- Of the words that the kit's print lays (WInvWords): what the law QC names. Cut by wip/tools/slim.py. No condition. -/
import Derived.Test.YtfhkpneffmcdbaaDoorYQCInv
import Derived.Test.YtfhkpneffmcdbaaDoorYQCFootNe
namespace Go.Proofs.YtfhkpneffmcdbaaDoorW.PrintWords
open Go.RowKit
end Go.Proofs.YtfhkpneffmcdbaaDoorW.PrintWords
namespace Go.Proofs.YtfhkpneffmcdbaaDoorW.PrintLast
section
variable {ops : Array Oper} {a : Act} {o og : Oper} {g : Nat} {t : Tmp} {u : Bool}
end
end Go.Proofs.YtfhkpneffmcdbaaDoorW.PrintLast

