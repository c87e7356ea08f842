/- The walk of FnExactConstants: each Go function that the law reaches as a plain Lean function, with the proof that a call does what it says; no conditions. Written by a program for this claim. -/
import Derived.Test.YtfepdlgmhfeljaaProg
import Derived.Below
import Derived.Deep.Draws
import Derived.Deep.AppendLies
import Derived.Maps.AppendAt
import Derived.OwnWalk
import Derived.Laws.BytesArg
import Derived.Laws.MakeOwn
import Derived.Laws.OwnMore
import Derived.Deep.OwnRows
import Derived.Tactics
import Derived.Lib.ConvBytes
import Derived.Laws.Slices
import Derived.WalkKit
import Derived.KernelRfl
import Derived.RowKit3
import Derived.Deep.LoopGhost
import Derived.Deep.QuietTactic
import Derived.BigQuiet
import Derived.WideLaws
import Derived.Deep.DeepCutAuto
import Derived.Deep.CutBlock
import Derived.Deep.RegionHeld3
import Derived.Laws.Rows
import Derived.Lib.AppendStr
import Derived.ArgAppend
import Derived.Laws.IdiomCopy
import Derived.OrdersHeld
import Derived.Laws.BitsLemmas
import Derived.StillTailTactics
import Derived.RowKit
import Derived.Test.YtfepdlgmhfeljaaWWords
import Derived.Test.YtfepdlgmhfeljaaWLast
import Derived.Test.YtfepdlgmhfeljaaWTab
import Derived.Test.YtfepdlgmhfeljaaWFour
import Derived.Test.YtfepdlgmhfeljaaWQPut
import Derived.Test.YtfepdlgmhfeljaaWApart
import Derived.Test.YtfepdlgmhfeljaaWArr
import Derived.Test.YtfepdlgmhfeljaaWZeros
import Derived.Test.YtfepdlgmhfeljaaWFoot
import Derived.Test.YtfepdlgmhfeljaaWKept
import Derived.Test.YtfepdlgmhfeljaaWShare
import Derived.Test.YtfepdlgmhfeljaaWN
import Derived.Test.YtfepdlgmhfeljaaWFootNe
import Derived.Test.YtfepdlgmhfeljaaWAt
import Derived.Test.YtfepdlgmhfeljaaWEqStruct
import Derived.Test.YtfepdlgmhfeljaaWRepsOne
import Derived.Test.YtfepdlgmhfeljaaWInv
import Derived.Test.YtfepdlgmhfeljaaWInvWords
import Derived.Test.YtfepdlgmhfeljaaWGuard
import Derived.Test.YtfepdlgmhfeljaaWNEv
import Derived.Test.YtfepdlgmhfeljaaWMore
namespace Go.Proofs.Ytfepdlgmhfeljaa.PFnExactConstants
open Go.RowKit Go.Proofs.YtfepdlgmhfeljaaW.PrintWords Go.Proofs.YtfepdlgmhfeljaaW.PrintLast Go.Proofs.YtfepdlgmhfeljaaW.PrintMore
attribute [local go_sem] max2_int min2_int max_two min_two max_three min_three max_four min_four   -- for this text's walks alone
set_option linter.unusedVariables false
set_option linter.unusedSimpArgs false



def errW : Option Int → Value
  | none => .nilIface
  | some c => .iface 0 (.int .i64 c)
theorem errW_none : errW none = .nilIface := rfl
theorem errW_some (c : Int) : errW (some c) = .iface 0 (.int .i64 c) := rfl

-- the values' own types

end Go.Proofs.Ytfepdlgmhfeljaa.PFnExactConstants
