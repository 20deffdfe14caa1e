/- What the law FnExactConstants of this seat says holds for every input that its row speaks of; no further condition. -/
import Derived.Test.YtgofhofcicgibaaPFnExactConstantsx1
set_option linter.unusedVariables false
set_option linter.unusedSimpArgs false
namespace Go.Proofs.Ytgofhofcicgibaa.Pure
open Go.RowKit Go.Proofs.Ytgofhofcicgibaa.PFnExactConstants Go.Proofs.YtgofhofcicgibaaW.PrintWords Go.Proofs.YtgofhofcicgibaaW.PrintLast Go.Proofs.YtgofhofcicgibaaW.PrintMore

theorem FnExactConstants : laws_FnExactConstants.Pure := rfl

end Go.Proofs.Ytgofhofcicgibaa.Pure
