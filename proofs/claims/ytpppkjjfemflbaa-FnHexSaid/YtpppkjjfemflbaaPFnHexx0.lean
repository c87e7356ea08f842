/- The walk of FnHex: each Go function that the law reaches as a plain Lean function, with the proof that a call does what it says; no conditions. Written by a program for this claim. -/
import Derived.Test.YtpppkjjfemflbaaProg
import Derived.Below
import Derived.Deep.Draws
import Derived.Deep.AppendLies
import Derived.Maps.AppendAt
import Derived.OwnWalk
import Derived.Laws.BytesArg
import Derived.Laws.MakeOwn
import Derived.Laws.OwnMore
import Derived.Deep.OwnRows
import Derived.Tactics
import Derived.Lib.ConvBytes
import Derived.Laws.Slices
import Derived.WalkKit
import Derived.KernelRfl
import Derived.RowKit3
import Derived.Deep.LoopGhost
import Derived.Deep.QuietTactic
import Derived.BigQuiet
import Derived.WideLaws
import Derived.Deep.DeepCutAuto
import Derived.Deep.CutBlock
import Derived.Deep.RegionHeld3
import Derived.Laws.Rows
import Derived.Lib.AppendStr
import Derived.ArgAppend
import Derived.Laws.IdiomCopy
import Derived.OrdersHeld
import Derived.Laws.BitsLemmas
import Derived.StillTailTactics
import Derived.RowKit
import Derived.Test.YtpppkjjfemflbaaWWords
import Derived.Test.YtpppkjjfemflbaaWLast
import Derived.Test.YtpppkjjfemflbaaWTab
import Derived.Test.YtpppkjjfemflbaaWFour
import Derived.Test.YtpppkjjfemflbaaWQPut
import Derived.Test.YtpppkjjfemflbaaWApart
import Derived.Test.YtpppkjjfemflbaaWArr
import Derived.Test.YtpppkjjfemflbaaWZeros
import Derived.Test.YtpppkjjfemflbaaWFoot
import Derived.Test.YtpppkjjfemflbaaWKept
import Derived.Test.YtpppkjjfemflbaaWShare
import Derived.Test.YtpppkjjfemflbaaWN
import Derived.Test.YtpppkjjfemflbaaWFootNe
import Derived.Test.YtpppkjjfemflbaaWAt
import Derived.Test.YtpppkjjfemflbaaWEqStruct
import Derived.Test.YtpppkjjfemflbaaWRepsOne
import Derived.Test.YtpppkjjfemflbaaWInv
import Derived.Test.YtpppkjjfemflbaaWInvWords
import Derived.Test.YtpppkjjfemflbaaWGuard
import Derived.Test.YtpppkjjfemflbaaWNEv
import Derived.Test.YtpppkjjfemflbaaWMore
namespace Go.Proofs.Ytpppkjjfemflbaa.PFnHex
open Go.RowKit Go.Proofs.YtpppkjjfemflbaaW.PrintWords Go.Proofs.YtpppkjjfemflbaaW.PrintLast Go.Proofs.YtpppkjjfemflbaaW.PrintMore
attribute [local go_sem] max2_int min2_int max_two min_two max_three min_three max_four min_four   -- for this text's walks alone
set_option linter.unusedVariables false
set_option linter.unusedSimpArgs false



def errW : Option Int → Value
  | none => .nilIface
  | some c => .iface 0 (.int .i64 c)
theorem errW_none : errW none = .nilIface := rfl
theorem errW_some (c : Int) : errW (some c) = .iface 0 (.int .i64 c) := rfl

theorem info5 : (Try.prog.info? 5).map (fun i => (i.zero, i.size, i.bytes)) = some (some (.int .u8 0), 1, 1) := by kernel_rfl
-- the values' own types

end Go.Proofs.Ytpppkjjfemflbaa.PFnHex
