/- The walk of FnLittle: each Go function that the law reaches as a plain Lean function, with the proof that a call does what it says; no conditions. Written by a program for this claim. -/
import Derived.Test.YtoaonegjefbipaaProg
import Derived.Below
import Derived.Deep.Draws
import Derived.Deep.AppendLies
import Derived.Maps.AppendAt
import Derived.OwnWalk
import Derived.Laws.BytesArg
import Derived.Laws.MakeOwn
import Derived.Laws.OwnMore
import Derived.Deep.OwnRows
import Derived.Tactics
import Derived.Lib.ConvBytes
import Derived.Laws.Slices
import Derived.WalkKit
import Derived.KernelRfl
import Derived.RowKit3
import Derived.Deep.LoopGhost
import Derived.Deep.QuietTactic
import Derived.BigQuiet
import Derived.WideLaws
import Derived.Deep.DeepCutAuto
import Derived.Deep.CutBlock
import Derived.Deep.RegionHeld3
import Derived.Laws.Rows
import Derived.Lib.AppendStr
import Derived.ArgAppend
import Derived.Laws.IdiomCopy
import Derived.OrdersHeld
import Derived.Laws.BitsLemmas
import Derived.StillTailTactics
import Derived.RowKit
import Derived.Test.YtoaonegjefbipaaWWords
import Derived.Test.YtoaonegjefbipaaWLast
import Derived.Test.YtoaonegjefbipaaWTab
import Derived.Test.YtoaonegjefbipaaWFour
import Derived.Test.YtoaonegjefbipaaWQPut
import Derived.Test.YtoaonegjefbipaaWApart
import Derived.Test.YtoaonegjefbipaaWArr
import Derived.Test.YtoaonegjefbipaaWZeros
import Derived.Test.YtoaonegjefbipaaWFoot
import Derived.Test.YtoaonegjefbipaaWKept
import Derived.Test.YtoaonegjefbipaaWShare
import Derived.Test.YtoaonegjefbipaaWN
import Derived.Test.YtoaonegjefbipaaWFootNe
import Derived.Test.YtoaonegjefbipaaWAt
import Derived.Test.YtoaonegjefbipaaWEqStruct
import Derived.Test.YtoaonegjefbipaaWRepsOne
import Derived.Test.YtoaonegjefbipaaWInv
import Derived.Test.YtoaonegjefbipaaWInvWords
import Derived.Test.YtoaonegjefbipaaWGuard
import Derived.Test.YtoaonegjefbipaaWNEv
import Derived.Test.YtoaonegjefbipaaWMore
namespace Go.Proofs.Ytoaonegjefbipaa.PFnLittle
open Go.RowKit Go.Proofs.YtoaonegjefbipaaW.PrintWords Go.Proofs.YtoaonegjefbipaaW.PrintLast Go.Proofs.YtoaonegjefbipaaW.PrintMore
attribute [local go_sem] max2_int min2_int max_two min_two max_three min_three max_four min_four   -- for this text's walks alone
set_option linter.unusedVariables false
set_option linter.unusedSimpArgs false



def errW : Option Int → Value
  | none => .nilIface
  | some c => .iface 0 (.int .i64 c)
theorem errW_none : errW none = .nilIface := rfl
theorem errW_some (c : Int) : errW (some c) = .iface 0 (.int .i64 c) := rfl

theorem info3 : (Try.prog.info? 3).map (fun i => (i.zero, i.size, i.bytes)) = some (some (.int .i64 0), 1, 8) := by kernel_rfl
theorem info5 : (Try.prog.info? 5).map (fun i => (i.zero, i.size, i.bytes)) = some (some (.int .u8 0), 1, 1) := by kernel_rfl
-- the values' own types

end Go.Proofs.Ytoaonegjefbipaa.PFnLittle
