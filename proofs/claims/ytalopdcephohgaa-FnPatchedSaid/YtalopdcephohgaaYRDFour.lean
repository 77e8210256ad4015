/- Of the words that the kit's print lays (WFour): what the law RD names. Cut by wip/tools/slim.py. No condition. -/
import Derived.Test.YtalopdcephohgaaYRDTab
/-! ### 56. Four, five, six operations that may come up next, in any order -/
namespace Go.Proofs.YtalopdcephohgaaW.PrintLast
section
variable {P : Program} {ops : Array Oper} {Q : Exit → Act → World → Prop} {md : Region.Mode} {S : World → Prop} {ds : List Nat} {T : Bool × List (List Nat × List Nat)}
end
end Go.Proofs.YtalopdcephohgaaW.PrintLast

