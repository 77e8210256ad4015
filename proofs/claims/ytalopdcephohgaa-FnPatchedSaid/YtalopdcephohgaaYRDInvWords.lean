/- Of the words that the kit's print lays (WInvWords): what the law RD names. Cut by wip/tools/slim.py. No condition. -/
import Derived.Test.YtalopdcephohgaaYRDInv
import Derived.Test.YtalopdcephohgaaYRDFootNe
namespace Go.Proofs.YtalopdcephohgaaW.PrintWords
open Go.RowKit
end Go.Proofs.YtalopdcephohgaaW.PrintWords
namespace Go.Proofs.YtalopdcephohgaaW.PrintLast
section
variable {ops : Array Oper} {a : Act} {o og : Oper} {g : Nat} {t : Tmp} {u : Bool}
end
end Go.Proofs.YtalopdcephohgaaW.PrintLast

