/- BelowU of the program is BelowU of the reference, for all numbers. -/
import Derived.Test.YtfepdlgmhfeljaaPFnExactBelowUx1
import Derived.Laws.BitsLemmas
set_option linter.unusedVariables false
set_option linter.unusedSimpArgs false
namespace Go.Proofs.Ytfepdlgmhfeljaa.Pure
open Go.RowKit Go.Proofs.Ytfepdlgmhfeljaa.PFnExactBelowU Go.Proofs.YtfepdlgmhfeljaaW.PrintWords Go.Proofs.YtfepdlgmhfeljaaW.PrintLast Go.Proofs.YtfepdlgmhfeljaaW.PrintMore

theorem FnExactBelowU : laws_FnExactBelowU.Pure := by
  intro a0 a1 w0 w1
  unfold laws_FnExactBelowU.f spec_BelowU.f impl_BelowU.f
  simp

end Go.Proofs.Ytfepdlgmhfeljaa.Pure
