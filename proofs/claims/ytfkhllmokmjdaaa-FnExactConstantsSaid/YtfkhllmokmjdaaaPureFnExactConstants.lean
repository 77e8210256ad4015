/- The law FnExactConstants answers true; it has no argument and no condition. -/
import Derived.Test.YtfkhllmokmjdaaaPFnExactConstantsx1
namespace Go.Proofs.Ytfkhllmokmjdaaa.Pure
open Go.RowKit Go.Proofs.Ytfkhllmokmjdaaa.PFnExactConstants Go.Proofs.YtfkhllmokmjdaaaW.PrintWords Go.Proofs.YtfkhllmokmjdaaaW.PrintLast
set_option linter.unusedVariables false
set_option linter.unusedSimpArgs false



theorem FnExactConstants : laws_FnExactConstants.Pure := rfl

end Go.Proofs.Ytfkhllmokmjdaaa.Pure
