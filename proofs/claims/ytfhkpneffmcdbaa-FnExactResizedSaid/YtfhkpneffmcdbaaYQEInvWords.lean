/- Of the words that the kit's print lays (WInvWords): what the law QE names. Cut by wip/tools/slim.py. No condition. -/
import Derived.Test.YtfhkpneffmcdbaaYQEInv
import Derived.Test.YtfhkpneffmcdbaaYQEFootNe
namespace Go.Proofs.YtfhkpneffmcdbaaW.PrintWords
open Go.RowKit
end Go.Proofs.YtfhkpneffmcdbaaW.PrintWords
namespace Go.Proofs.YtfhkpneffmcdbaaW.PrintLast
section
variable {ops : Array Oper} {a : Act} {o og : Oper} {g : Nat} {t : Tmp} {u : Bool}
end
end Go.Proofs.YtfhkpneffmcdbaaW.PrintLast

