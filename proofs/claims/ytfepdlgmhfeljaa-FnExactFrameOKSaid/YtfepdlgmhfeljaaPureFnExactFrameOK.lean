/- FrameOK of the program is FrameOK of the reference, for all numbers. -/
import Derived.Test.YtfepdlgmhfeljaaPFnExactFrameOKx1
import Derived.Laws.BitsLemmas
set_option linter.unusedVariables false
set_option linter.unusedSimpArgs false
namespace Go.Proofs.Ytfepdlgmhfeljaa.Pure
open Go.RowKit Go.Proofs.Ytfepdlgmhfeljaa.PFnExactFrameOK Go.Proofs.YtfepdlgmhfeljaaW.PrintWords Go.Proofs.YtfepdlgmhfeljaaW.PrintLast Go.Proofs.YtfepdlgmhfeljaaW.PrintMore

theorem FnExactFrameOK : laws_FnExactFrameOK.Pure := by
  intro a0 w0
  unfold laws_FnExactFrameOK.f spec_FrameOK.f impl_FrameOK.f spec_l01In.f impl_within.f
  by_cases h : 16 ≤ a0 <;> simp [h]
  by_cases h2 : a0 ≤ 128 <;> simp [h2]

end Go.Proofs.Ytfepdlgmhfeljaa.Pure
