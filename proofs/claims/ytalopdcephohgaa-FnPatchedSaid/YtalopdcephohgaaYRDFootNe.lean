/- Of the words that the kit's print lays (WFootNe): what the law RD names. Cut by wip/tools/slim.py. No condition. -/
import Derived.Test.YtalopdcephohgaaYRDN
/-! ### 52. A row that stays read whatever happens to a block (a set of blocks) doesn't lie there -/
namespace Go.Proofs.YtalopdcephohgaaW.PrintWords
open Go.RowKit
namespace Kd
section
variable {α : Type} {d : Kd α} {W : World} {g n : Nat} {S ok : Nat → Prop} {A : Option Addr} {ad : Addr} {xs : List α}
end
end Kd
end Go.Proofs.YtalopdcephohgaaW.PrintWords

