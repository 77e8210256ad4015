/- Of the words that the kit's print lays (WEqStruct): what the law SB names. Cut by wip/tools/slim.py. No condition. -/
import Derived.Test.YtalopdcephohgaaDoorYSBWords
import Derived.Laws.StructEq
/-! ### 53. '==' of structs as_ one Bool -/
namespace Go.Proofs.YtalopdcephohgaaDoorW.PrintWords
open Go.RowKit
section
variable {P : Program} {d : Nat} {xs ys : Array Value} {f : Field} {fs : List Field} {a b : Value} {r s : Bool} {w : World}
end
end Go.Proofs.YtalopdcephohgaaDoorW.PrintWords

