/- The constants of the program are those that the law names; no condition. -/
import Derived.Test.YtgpphkghgdcamaaPFnExactConstantsx1
namespace Go.Proofs.Ytgpphkghgdcamaa.Pure
open Go.RowKit Go.Proofs.Ytgpphkghgdcamaa.PFnExactConstants Go.Proofs.YtgpphkghgdcamaaW.PrintWords Go.Proofs.YtgpphkghgdcamaaW.PrintLast Go.Proofs.YtgpphkghgdcamaaW.PrintMore
set_option linter.unusedVariables false
set_option linter.unusedSimpArgs false

theorem FnExactConstants : laws_FnExactConstants.Pure := rfl

end Go.Proofs.Ytgpphkghgdcamaa.Pure
