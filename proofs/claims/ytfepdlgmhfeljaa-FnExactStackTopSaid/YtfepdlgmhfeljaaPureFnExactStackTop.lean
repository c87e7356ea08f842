/- StackTop of the program is StackTop of the reference, for all numbers. -/
import Derived.Test.YtfepdlgmhfeljaaPFnExactStackTopx1
import Derived.Laws.BitsLemmas
set_option linter.unusedVariables false
set_option linter.unusedSimpArgs false
namespace Go.Proofs.Ytfepdlgmhfeljaa.Pure
open Go.RowKit Go.Proofs.Ytfepdlgmhfeljaa.PFnExactStackTop Go.Proofs.YtfepdlgmhfeljaaW.PrintWords Go.Proofs.YtfepdlgmhfeljaaW.PrintLast Go.Proofs.YtfepdlgmhfeljaaW.PrintMore

theorem FnExactStackTop : laws_FnExactStackTop.Pure := by
  intro a0 w0
  unfold laws_FnExactStackTop.f spec_StackTop.f impl_StackTop.f spec_l01In.f impl_within.f spec_l07Top.f impl_stackTop.f
  by_cases h : 0 ≤ a0 <;> simp [h]
  by_cases h2 : a0 ≤ 3 <;> simp [h2]

end Go.Proofs.Ytfepdlgmhfeljaa.Pure
