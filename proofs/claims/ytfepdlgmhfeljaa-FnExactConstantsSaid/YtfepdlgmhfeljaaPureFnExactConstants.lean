/- The constants of the program are those of the reference. -/
import Derived.Test.YtfepdlgmhfeljaaPFnExactConstantsx1
import Derived.Laws.BitsLemmas
set_option linter.unusedVariables false
set_option linter.unusedSimpArgs false
namespace Go.Proofs.Ytfepdlgmhfeljaa.Pure
open Go.RowKit Go.Proofs.Ytfepdlgmhfeljaa.PFnExactConstants Go.Proofs.YtfepdlgmhfeljaaW.PrintWords Go.Proofs.YtfepdlgmhfeljaaW.PrintLast Go.Proofs.YtfepdlgmhfeljaaW.PrintMore

theorem FnExactConstants : laws_FnExactConstants.Pure := by
  unfold laws_FnExactConstants.Pure laws_FnExactConstants.f
  rfl

end Go.Proofs.Ytfepdlgmhfeljaa.Pure
