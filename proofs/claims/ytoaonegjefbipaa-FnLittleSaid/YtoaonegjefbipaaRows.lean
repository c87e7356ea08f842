/-
  No cell of these rows narrows 'for every input' (looked for: loops, veiled, ifaces, maps, wideKeys, modest, calm, conditions, laid).
  DERIVED. THE GIVEN ROWS OF THIS SEAT. 12 by the template 'for every input the law returns true; each argument reads behind the call as it read before'; 0 by the template 'total and deterministic' (their statements: YtoaonegjefbipaaTotals.lean).
  GIVEN WITH THE SEED: the statements are not yours to turn. If you find one false, say at which input.
  Laid BY PROGRAM, IN A SANDBOX (cutbox-rows.mjs): the forced cells as the released guide's own fill.sh prints them over the translation 8f2695726d499807… (all of the seat's roots in one cut). By AI agents, Wed Nov 11 2026. No macro, syntax, notation, axiom, sorry.
-/
import Derived.Test.YtoaonegjefbipaaChecked
import GoSem.Claim
import GoSem.ClaimJoined
import GoSem.ClaimMapViews
import Derived.JoinedTies
import Derived.KernelRfl
namespace Go.Proofs.Ytoaonegjefbipaa
/- THE CELL 'sum', in the pinned program and in every row, IS THE sha256 OF THE DUMP (.gsa) THAT YtoaonegjefbipaaProg.lean LOADS. Nothing in Lean hashes anything: it is a label: what it is worth is what the hold of that sum in a sandbox is worth. -/
noncomputable def Try.pinned : Pinned := { name := "ytoaonegjefbipaa", sum := "8f2695726d4998070af74ee8bb9c5c1005402fb3c82397a0eabadc995d709b7e", checked := Try.checked }
namespace Rows
def none {H : Type} : Left H := { results := [], args := [] }

/-- 'laws.FnSplit': WHATEVER THE INPUT: true; the input reads as it did. -/
def fnSplitSpec : ChangeSpec := { name := "fnSplit", fn := fun _ => fun
  | [d1, d2] => { results := [.lit (.bool true)], args := [d1, d2] }
  | _ => none }
def fnSplitRow : OpenClaim := { program := "ytoaonegjefbipaa", sum := "8f2695726d4998070af74ee8bb9c5c1005402fb3c82397a0eabadc995d709b7e", func := "loop.example/g00654/laws.FnSplit", spec := "fnSplit", apart := false }
def FnSplitSaid : Prop := fnSplitRow.holds Try.pinned (OpenSpec.ofChange fnSplitSpec)

/-- ITS FALSE NEIGHBOUR: 'it returns false'. Refute it at one input. -/
def fnSplitWrong : ChangeSpec := { name := "fnSplit", fn := fun _ => fun
  | [d1, d2] => { results := [.lit (.bool false)], args := [d1, d2] }
  | _ => none }
def FnSplitWrongFalsely : Prop := fnSplitRow.holds Try.pinned (OpenSpec.ofChange fnSplitWrong)

/-- 'laws.FnLittle': WHATEVER THE INPUT: true; the input reads as it did. -/
def fnLittleSpec : ChangeSpec := { name := "fnLittle", fn := fun _ => fun
  | [d1, d2] => { results := [.lit (.bool true)], args := [d1, d2] }
  | _ => none }
def fnLittleRow : OpenClaim := { program := "ytoaonegjefbipaa", sum := "8f2695726d4998070af74ee8bb9c5c1005402fb3c82397a0eabadc995d709b7e", func := "loop.example/g00654/laws.FnLittle", spec := "fnLittle", apart := false }
def FnLittleSaid : Prop := fnLittleRow.holds Try.pinned (OpenSpec.ofChange fnLittleSpec)

/-- ITS FALSE NEIGHBOUR: 'it returns false'. Refute it at one input. -/
def fnLittleWrong : ChangeSpec := { name := "fnLittle", fn := fun _ => fun
  | [d1, d2] => { results := [.lit (.bool false)], args := [d1, d2] }
  | _ => none }
def FnLittleWrongFalsely : Prop := fnLittleRow.holds Try.pinned (OpenSpec.ofChange fnLittleWrong)

/-- 'laws.FnExactGetBytes': WHATEVER THE INPUT: true; the input reads as it did. -/
def fnExactGetBytesSpec : ChangeSpec := { name := "fnExactGetBytes", fn := fun _ => fun
  | [d1, d2, d3] => { results := [.lit (.bool true)], args := [d1, d2, d3] }
  | _ => none }
def fnExactGetBytesRow : OpenClaim := { program := "ytoaonegjefbipaa", sum := "8f2695726d4998070af74ee8bb9c5c1005402fb3c82397a0eabadc995d709b7e", func := "loop.example/g00654/laws.FnExactGetBytes", spec := "fnExactGetBytes", unfollowed := true, recurses := true, apart := false }
def FnExactGetBytesSaid : Prop := fnExactGetBytesRow.holds Try.pinned (OpenSpec.ofChange fnExactGetBytesSpec)

/-- ITS FALSE NEIGHBOUR: 'it returns false'. Refute it at one input. -/
def fnExactGetBytesWrong : ChangeSpec := { name := "fnExactGetBytes", fn := fun _ => fun
  | [d1, d2, d3] => { results := [.lit (.bool false)], args := [d1, d2, d3] }
  | _ => none }
def FnExactGetBytesWrongFalsely : Prop := fnExactGetBytesRow.holds Try.pinned (OpenSpec.ofChange fnExactGetBytesWrong)

/-- 'laws.FnExactFetchAt': WHATEVER THE INPUT: true; the input reads as it did. -/
def fnExactFetchAtSpec : ChangeSpec := { name := "fnExactFetchAt", fn := fun _ => fun
  | [d1, d2] => { results := [.lit (.bool true)], args := [d1, d2] }
  | _ => none }
def fnExactFetchAtRow : OpenClaim := { program := "ytoaonegjefbipaa", sum := "8f2695726d4998070af74ee8bb9c5c1005402fb3c82397a0eabadc995d709b7e", func := "loop.example/g00654/laws.FnExactFetchAt", spec := "fnExactFetchAt", unfollowed := true, recurses := true, apart := false }
def FnExactFetchAtSaid : Prop := fnExactFetchAtRow.holds Try.pinned (OpenSpec.ofChange fnExactFetchAtSpec)

/-- ITS FALSE NEIGHBOUR: 'it returns false'. Refute it at one input. -/
def fnExactFetchAtWrong : ChangeSpec := { name := "fnExactFetchAt", fn := fun _ => fun
  | [d1, d2] => { results := [.lit (.bool false)], args := [d1, d2] }
  | _ => none }
def FnExactFetchAtWrongFalsely : Prop := fnExactFetchAtRow.holds Try.pinned (OpenSpec.ofChange fnExactFetchAtWrong)

/-- 'laws.FnExactShapeOf': WHATEVER THE INPUT: true; the input reads as it did. -/
def fnExactShapeOfSpec : ChangeSpec := { name := "fnExactShapeOf", fn := fun _ => fun
  | [d] => { results := [.lit (.bool true)], args := [d] }
  | _ => none }
def fnExactShapeOfRow : OpenClaim := { program := "ytoaonegjefbipaa", sum := "8f2695726d4998070af74ee8bb9c5c1005402fb3c82397a0eabadc995d709b7e", func := "loop.example/g00654/laws.FnExactShapeOf", spec := "fnExactShapeOf", apart := false }
def FnExactShapeOfSaid : Prop := fnExactShapeOfRow.holds Try.pinned (OpenSpec.ofChange fnExactShapeOfSpec)

/-- ITS FALSE NEIGHBOUR: 'it returns false'. Refute it at one input. -/
def fnExactShapeOfWrong : ChangeSpec := { name := "fnExactShapeOf", fn := fun _ => fun
  | [d] => { results := [.lit (.bool false)], args := [d] }
  | _ => none }
def FnExactShapeOfWrongFalsely : Prop := fnExactShapeOfRow.holds Try.pinned (OpenSpec.ofChange fnExactShapeOfWrong)

/-- 'laws.FnExactTaken': WHATEVER THE INPUT: true; the input reads as it did. -/
def fnExactTakenSpec : ChangeSpec := { name := "fnExactTaken", fn := fun _ => fun
  | [d1, d2, d3] => { results := [.lit (.bool true)], args := [d1, d2, d3] }
  | _ => none }
def fnExactTakenRow : OpenClaim := { program := "ytoaonegjefbipaa", sum := "8f2695726d4998070af74ee8bb9c5c1005402fb3c82397a0eabadc995d709b7e", func := "loop.example/g00654/laws.FnExactTaken", spec := "fnExactTaken", apart := false }
def FnExactTakenSaid : Prop := fnExactTakenRow.holds Try.pinned (OpenSpec.ofChange fnExactTakenSpec)

/-- ITS FALSE NEIGHBOUR: 'it returns false'. Refute it at one input. -/
def fnExactTakenWrong : ChangeSpec := { name := "fnExactTaken", fn := fun _ => fun
  | [d1, d2, d3] => { results := [.lit (.bool false)], args := [d1, d2, d3] }
  | _ => none }
def FnExactTakenWrongFalsely : Prop := fnExactTakenRow.holds Try.pinned (OpenSpec.ofChange fnExactTakenWrong)

/-- 'laws.FnExactLoadAt': WHATEVER THE INPUT: true; the input reads as it did. -/
def fnExactLoadAtSpec : ChangeSpec := { name := "fnExactLoadAt", fn := fun _ => fun
  | [d1, d2, d3, d4] => { results := [.lit (.bool true)], args := [d1, d2, d3, d4] }
  | _ => none }
def fnExactLoadAtRow : OpenClaim := { program := "ytoaonegjefbipaa", sum := "8f2695726d4998070af74ee8bb9c5c1005402fb3c82397a0eabadc995d709b7e", func := "loop.example/g00654/laws.FnExactLoadAt", spec := "fnExactLoadAt", unfollowed := true, recurses := true, apart := false }
def FnExactLoadAtSaid : Prop := fnExactLoadAtRow.holds Try.pinned (OpenSpec.ofChange fnExactLoadAtSpec)

/-- ITS FALSE NEIGHBOUR: 'it returns false'. Refute it at one input. -/
def fnExactLoadAtWrong : ChangeSpec := { name := "fnExactLoadAt", fn := fun _ => fun
  | [d1, d2, d3, d4] => { results := [.lit (.bool false)], args := [d1, d2, d3, d4] }
  | _ => none }
def FnExactLoadAtWrongFalsely : Prop := fnExactLoadAtRow.holds Try.pinned (OpenSpec.ofChange fnExactLoadAtWrong)

/-- 'laws.FnWide': WHATEVER THE INPUT: true; the input reads as it did. -/
def fnWideSpec : ChangeSpec := { name := "fnWide", fn := fun _ => fun
  | [d1, d2] => { results := [.lit (.bool true)], args := [d1, d2] }
  | _ => none }
def fnWideRow : OpenClaim := { program := "ytoaonegjefbipaa", sum := "8f2695726d4998070af74ee8bb9c5c1005402fb3c82397a0eabadc995d709b7e", func := "loop.example/g00654/laws.FnWide", spec := "fnWide", apart := false }
def FnWideSaid : Prop := fnWideRow.holds Try.pinned (OpenSpec.ofChange fnWideSpec)

/-- ITS FALSE NEIGHBOUR: 'it returns false'. Refute it at one input. -/
def fnWideWrong : ChangeSpec := { name := "fnWide", fn := fun _ => fun
  | [d1, d2] => { results := [.lit (.bool false)], args := [d1, d2] }
  | _ => none }
def FnWideWrongFalsely : Prop := fnWideRow.holds Try.pinned (OpenSpec.ofChange fnWideWrong)

/-- 'laws.FnExactInstrOK': WHATEVER THE INPUT: true; the input reads as it did. -/
def fnExactInstrOKSpec : ChangeSpec := { name := "fnExactInstrOK", fn := fun _ => fun
  | [d] => { results := [.lit (.bool true)], args := [d] }
  | _ => none }
def fnExactInstrOKRow : OpenClaim := { program := "ytoaonegjefbipaa", sum := "8f2695726d4998070af74ee8bb9c5c1005402fb3c82397a0eabadc995d709b7e", func := "loop.example/g00654/laws.FnExactInstrOK", spec := "fnExactInstrOK", apart := false }
def FnExactInstrOKSaid : Prop := fnExactInstrOKRow.holds Try.pinned (OpenSpec.ofChange fnExactInstrOKSpec)

/-- ITS FALSE NEIGHBOUR: 'it returns false'. Refute it at one input. -/
def fnExactInstrOKWrong : ChangeSpec := { name := "fnExactInstrOK", fn := fun _ => fun
  | [d] => { results := [.lit (.bool false)], args := [d] }
  | _ => none }
def FnExactInstrOKWrongFalsely : Prop := fnExactInstrOKRow.holds Try.pinned (OpenSpec.ofChange fnExactInstrOKWrong)

/-- 'laws.FnBranches': WHATEVER THE INPUT: true; the input reads as it did. -/
def fnBranchesSpec : ChangeSpec := { name := "fnBranches", fn := fun _ => fun
  | [d1, d2] => { results := [.lit (.bool true)], args := [d1, d2] }
  | _ => none }
def fnBranchesRow : OpenClaim := { program := "ytoaonegjefbipaa", sum := "8f2695726d4998070af74ee8bb9c5c1005402fb3c82397a0eabadc995d709b7e", func := "loop.example/g00654/laws.FnBranches", spec := "fnBranches", apart := false }
def FnBranchesSaid : Prop := fnBranchesRow.holds Try.pinned (OpenSpec.ofChange fnBranchesSpec)

/-- ITS FALSE NEIGHBOUR: 'it returns false'. Refute it at one input. -/
def fnBranchesWrong : ChangeSpec := { name := "fnBranches", fn := fun _ => fun
  | [d1, d2] => { results := [.lit (.bool false)], args := [d1, d2] }
  | _ => none }
def FnBranchesWrongFalsely : Prop := fnBranchesRow.holds Try.pinned (OpenSpec.ofChange fnBranchesWrong)

/-- 'laws.FnPair': WHATEVER THE INPUT: true; the input reads as it did. -/
def fnPairSpec : ChangeSpec := { name := "fnPair", fn := fun _ => fun
  | [d1, d2] => { results := [.lit (.bool true)], args := [d1, d2] }
  | _ => none }
def fnPairRow : OpenClaim := { program := "ytoaonegjefbipaa", sum := "8f2695726d4998070af74ee8bb9c5c1005402fb3c82397a0eabadc995d709b7e", func := "loop.example/g00654/laws.FnPair", spec := "fnPair", apart := false }
def FnPairSaid : Prop := fnPairRow.holds Try.pinned (OpenSpec.ofChange fnPairSpec)

/-- ITS FALSE NEIGHBOUR: 'it returns false'. Refute it at one input. -/
def fnPairWrong : ChangeSpec := { name := "fnPair", fn := fun _ => fun
  | [d1, d2] => { results := [.lit (.bool false)], args := [d1, d2] }
  | _ => none }
def FnPairWrongFalsely : Prop := fnPairRow.holds Try.pinned (OpenSpec.ofChange fnPairWrong)

/-- 'laws.FnExactTrampoline': WHATEVER THE INPUT: true; the input reads as it did. -/
def fnExactTrampolineSpec : ChangeSpec := { name := "fnExactTrampoline", fn := fun _ => fun
  | [d1, d2] => { results := [.lit (.bool true)], args := [d1, d2] }
  | _ => none }
def fnExactTrampolineRow : OpenClaim := { program := "ytoaonegjefbipaa", sum := "8f2695726d4998070af74ee8bb9c5c1005402fb3c82397a0eabadc995d709b7e", func := "loop.example/g00654/laws.FnExactTrampoline", spec := "fnExactTrampoline", apart := false }
def FnExactTrampolineSaid : Prop := fnExactTrampolineRow.holds Try.pinned (OpenSpec.ofChange fnExactTrampolineSpec)

/-- ITS FALSE NEIGHBOUR: 'it returns false'. Refute it at one input. -/
def fnExactTrampolineWrong : ChangeSpec := { name := "fnExactTrampoline", fn := fun _ => fun
  | [d1, d2] => { results := [.lit (.bool false)], args := [d1, d2] }
  | _ => none }
def FnExactTrampolineWrongFalsely : Prop := fnExactTrampolineRow.holds Try.pinned (OpenSpec.ofChange fnExactTrampolineWrong)

/- THE SECOND FORM. 'bulk': how many values and letters a reading holds, each counted each time it is reached (what is shared counts as often as it is met; a slice's spare places count too). A statement '..UptoSaid' is the law's where the arguments, and the package variables that the reading takes, are together of bulk at most 1048576: NARROWER than '..Said'. Prove '..Said' where nothing that the law and all that it calls make is longer than what came in: it says more and counts as full. Else prove '..UptoSaid'. A law counts once. -/
mutual
def uptoBulk {H : Type} : DataW H → Nat
  | .lit (.string bytes) => bytes.length + 1
  | .lit _ => 1
  | .nil => 1
  | .ptr d => uptoBulk d + 1
  | .slice elems spare => uptoBulkAll elems + uptoBulkAll spare + 1
  | .agg parts => uptoBulkAll parts + 1
  | .iface _ d => uptoBulk d + 1
  | .map entries => uptoBulkEntries entries + 1
  | .held _ => 1
def uptoBulkAll {H : Type} : List (DataW H) → Nat
  | [] => 0
  | d :: r => uptoBulk d + uptoBulkAll r
def uptoBulkEntries {H : Type} : List (Lit × DataW H) → Nat
  | [] => 0
  | x :: r => uptoBulkEntry x + uptoBulkEntries r
def uptoBulkEntry {H : Type} : Lit × DataW H → Nat
  | (.string bytes, d) => bytes.length + uptoBulk d + 1
  | (_, d) => uptoBulk d + 1
 end
def uptoSmall : (H : Type) → List (DataW H) → Bool := fun _ ds => decide (uptoBulkAll ds ≤ 1048576)
def OpenSpec.upto (s : _root_.Go.ChangeSpec) : _root_.Go.OpenSpec := { _root_.Go.OpenSpec.ofChange s with cond := some uptoSmall }

/-- 'laws.FnSplit', WHERE WHAT IT READS IS OF BULK AT MOST 1048576: true; the input reads as it did. -/
def fnSplitUptoRow : OpenClaim := { program := "ytoaonegjefbipaa", sum := "8f2695726d4998070af74ee8bb9c5c1005402fb3c82397a0eabadc995d709b7e", func := "loop.example/g00654/laws.FnSplit", spec := "fnSplit", apart := false, narrowed := true }
def FnSplitUptoSaid : Prop := fnSplitUptoRow.holds Try.pinned (OpenSpec.upto fnSplitSpec)

/-- 'laws.FnLittle', WHERE WHAT IT READS IS OF BULK AT MOST 1048576: true; the input reads as it did. -/
def fnLittleUptoRow : OpenClaim := { program := "ytoaonegjefbipaa", sum := "8f2695726d4998070af74ee8bb9c5c1005402fb3c82397a0eabadc995d709b7e", func := "loop.example/g00654/laws.FnLittle", spec := "fnLittle", apart := false, narrowed := true }
def FnLittleUptoSaid : Prop := fnLittleUptoRow.holds Try.pinned (OpenSpec.upto fnLittleSpec)

/-- 'laws.FnExactGetBytes', WHERE WHAT IT READS IS OF BULK AT MOST 1048576: true; the input reads as it did. -/
def fnExactGetBytesUptoRow : OpenClaim := { program := "ytoaonegjefbipaa", sum := "8f2695726d4998070af74ee8bb9c5c1005402fb3c82397a0eabadc995d709b7e", func := "loop.example/g00654/laws.FnExactGetBytes", spec := "fnExactGetBytes", unfollowed := true, recurses := true, apart := false, narrowed := true }
def FnExactGetBytesUptoSaid : Prop := fnExactGetBytesUptoRow.holds Try.pinned (OpenSpec.upto fnExactGetBytesSpec)

/-- 'laws.FnExactFetchAt', WHERE WHAT IT READS IS OF BULK AT MOST 1048576: true; the input reads as it did. -/
def fnExactFetchAtUptoRow : OpenClaim := { program := "ytoaonegjefbipaa", sum := "8f2695726d4998070af74ee8bb9c5c1005402fb3c82397a0eabadc995d709b7e", func := "loop.example/g00654/laws.FnExactFetchAt", spec := "fnExactFetchAt", unfollowed := true, recurses := true, apart := false, narrowed := true }
def FnExactFetchAtUptoSaid : Prop := fnExactFetchAtUptoRow.holds Try.pinned (OpenSpec.upto fnExactFetchAtSpec)

/-- 'laws.FnExactShapeOf', WHERE WHAT IT READS IS OF BULK AT MOST 1048576: true; the input reads as it did. -/
def fnExactShapeOfUptoRow : OpenClaim := { program := "ytoaonegjefbipaa", sum := "8f2695726d4998070af74ee8bb9c5c1005402fb3c82397a0eabadc995d709b7e", func := "loop.example/g00654/laws.FnExactShapeOf", spec := "fnExactShapeOf", apart := false, narrowed := true }
def FnExactShapeOfUptoSaid : Prop := fnExactShapeOfUptoRow.holds Try.pinned (OpenSpec.upto fnExactShapeOfSpec)

/-- 'laws.FnExactTaken', WHERE WHAT IT READS IS OF BULK AT MOST 1048576: true; the input reads as it did. -/
def fnExactTakenUptoRow : OpenClaim := { program := "ytoaonegjefbipaa", sum := "8f2695726d4998070af74ee8bb9c5c1005402fb3c82397a0eabadc995d709b7e", func := "loop.example/g00654/laws.FnExactTaken", spec := "fnExactTaken", apart := false, narrowed := true }
def FnExactTakenUptoSaid : Prop := fnExactTakenUptoRow.holds Try.pinned (OpenSpec.upto fnExactTakenSpec)

/-- 'laws.FnExactLoadAt', WHERE WHAT IT READS IS OF BULK AT MOST 1048576: true; the input reads as it did. -/
def fnExactLoadAtUptoRow : OpenClaim := { program := "ytoaonegjefbipaa", sum := "8f2695726d4998070af74ee8bb9c5c1005402fb3c82397a0eabadc995d709b7e", func := "loop.example/g00654/laws.FnExactLoadAt", spec := "fnExactLoadAt", unfollowed := true, recurses := true, apart := false, narrowed := true }
def FnExactLoadAtUptoSaid : Prop := fnExactLoadAtUptoRow.holds Try.pinned (OpenSpec.upto fnExactLoadAtSpec)

/-- 'laws.FnWide', WHERE WHAT IT READS IS OF BULK AT MOST 1048576: true; the input reads as it did. -/
def fnWideUptoRow : OpenClaim := { program := "ytoaonegjefbipaa", sum := "8f2695726d4998070af74ee8bb9c5c1005402fb3c82397a0eabadc995d709b7e", func := "loop.example/g00654/laws.FnWide", spec := "fnWide", apart := false, narrowed := true }
def FnWideUptoSaid : Prop := fnWideUptoRow.holds Try.pinned (OpenSpec.upto fnWideSpec)

/-- 'laws.FnExactInstrOK', WHERE WHAT IT READS IS OF BULK AT MOST 1048576: true; the input reads as it did. -/
def fnExactInstrOKUptoRow : OpenClaim := { program := "ytoaonegjefbipaa", sum := "8f2695726d4998070af74ee8bb9c5c1005402fb3c82397a0eabadc995d709b7e", func := "loop.example/g00654/laws.FnExactInstrOK", spec := "fnExactInstrOK", apart := false, narrowed := true }
def FnExactInstrOKUptoSaid : Prop := fnExactInstrOKUptoRow.holds Try.pinned (OpenSpec.upto fnExactInstrOKSpec)

/-- 'laws.FnBranches', WHERE WHAT IT READS IS OF BULK AT MOST 1048576: true; the input reads as it did. -/
def fnBranchesUptoRow : OpenClaim := { program := "ytoaonegjefbipaa", sum := "8f2695726d4998070af74ee8bb9c5c1005402fb3c82397a0eabadc995d709b7e", func := "loop.example/g00654/laws.FnBranches", spec := "fnBranches", apart := false, narrowed := true }
def FnBranchesUptoSaid : Prop := fnBranchesUptoRow.holds Try.pinned (OpenSpec.upto fnBranchesSpec)

/-- 'laws.FnPair', WHERE WHAT IT READS IS OF BULK AT MOST 1048576: true; the input reads as it did. -/
def fnPairUptoRow : OpenClaim := { program := "ytoaonegjefbipaa", sum := "8f2695726d4998070af74ee8bb9c5c1005402fb3c82397a0eabadc995d709b7e", func := "loop.example/g00654/laws.FnPair", spec := "fnPair", apart := false, narrowed := true }
def FnPairUptoSaid : Prop := fnPairUptoRow.holds Try.pinned (OpenSpec.upto fnPairSpec)

/-- 'laws.FnExactTrampoline', WHERE WHAT IT READS IS OF BULK AT MOST 1048576: true; the input reads as it did. -/
def fnExactTrampolineUptoRow : OpenClaim := { program := "ytoaonegjefbipaa", sum := "8f2695726d4998070af74ee8bb9c5c1005402fb3c82397a0eabadc995d709b7e", func := "loop.example/g00654/laws.FnExactTrampoline", spec := "fnExactTrampoline", apart := false, narrowed := true }
def FnExactTrampolineUptoSaid : Prop := fnExactTrampolineUptoRow.holds Try.pinned (OpenSpec.upto fnExactTrampolineSpec)

end Rows
end Go.Proofs.Ytoaonegjefbipaa
