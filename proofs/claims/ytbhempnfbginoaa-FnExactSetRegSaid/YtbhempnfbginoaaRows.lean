/-
  No cell of these rows narrows 'for every input' (looked for: loops, veiled, ifaces, maps, wideKeys, modest, calm, conditions, laid).
  DERIVED. THE GIVEN ROWS OF THIS SEAT. 9 by the template 'for every input the law returns true; each argument reads behind the call as it read before'; 0 by the template 'total and deterministic' (their statements: YtbhempnfbginoaaTotals.lean).
  GIVEN WITH THE SEED: the statements are not yours to turn. If you find one false, say at which input.
  Laid BY PROGRAM, IN A SANDBOX (cutbox-rows.mjs): the forced cells as the released guide's own fill.sh prints them over the translation b324a0ba36316364… (all of the seat's roots in one cut). By AI agents, Wed Nov 11 2026. No macro, syntax, notation, axiom, sorry.
-/
import Derived.Test.YtbhempnfbginoaaChecked
import GoSem.Claim
import GoSem.ClaimJoined
import GoSem.ClaimMapViews
import Derived.JoinedTies
import Derived.KernelRfl
namespace Go.Proofs.Ytbhempnfbginoaa
/- THE CELL 'sum', in the pinned program and in every row, IS THE sha256 OF THE DUMP (.gsa) THAT YtbhempnfbginoaaProg.lean LOADS. Nothing in Lean hashes anything: it is a label: what it is worth is what the hold of that sum in a sandbox is worth. -/
noncomputable def Try.pinned : Pinned := { name := "ytbhempnfbginoaa", sum := "b324a0ba363163647fd1d2f03e4e4210660da07318d2da2897c94667fb7dc51c", checked := Try.checked }
namespace Rows
def none {H : Type} : Left H := { results := [], args := [] }

/-- 'laws.FnExactHartOK': WHATEVER THE INPUT: true; the input reads as it did. -/
def fnExactHartOKSpec : ChangeSpec := { name := "fnExactHartOK", fn := fun _ => fun
  | [d] => { results := [.lit (.bool true)], args := [d] }
  | _ => none }
def fnExactHartOKRow : OpenClaim := { program := "ytbhempnfbginoaa", sum := "b324a0ba363163647fd1d2f03e4e4210660da07318d2da2897c94667fb7dc51c", func := "loop.example/g00654/laws.FnExactHartOK", spec := "fnExactHartOK", apart := false }
def FnExactHartOKSaid : Prop := fnExactHartOKRow.holds Try.pinned (OpenSpec.ofChange fnExactHartOKSpec)

/-- ITS FALSE NEIGHBOUR: 'it returns false'. Refute it at one input. -/
def fnExactHartOKWrong : ChangeSpec := { name := "fnExactHartOK", fn := fun _ => fun
  | [d] => { results := [.lit (.bool false)], args := [d] }
  | _ => none }
def FnExactHartOKWrongFalsely : Prop := fnExactHartOKRow.holds Try.pinned (OpenSpec.ofChange fnExactHartOKWrong)

/-- 'laws.FnExactNewHart': WHATEVER THE INPUT: true; the input reads as it did. -/
def fnExactNewHartSpec : ChangeSpec := { name := "fnExactNewHart", fn := fun _ => fun
  | [d1, d2] => { results := [.lit (.bool true)], args := [d1, d2] }
  | _ => none }
def fnExactNewHartRow : OpenClaim := { program := "ytbhempnfbginoaa", sum := "b324a0ba363163647fd1d2f03e4e4210660da07318d2da2897c94667fb7dc51c", func := "loop.example/g00654/laws.FnExactNewHart", spec := "fnExactNewHart", apart := false }
def FnExactNewHartSaid : Prop := fnExactNewHartRow.holds Try.pinned (OpenSpec.ofChange fnExactNewHartSpec)

/-- ITS FALSE NEIGHBOUR: 'it returns false'. Refute it at one input. -/
def fnExactNewHartWrong : ChangeSpec := { name := "fnExactNewHart", fn := fun _ => fun
  | [d1, d2] => { results := [.lit (.bool false)], args := [d1, d2] }
  | _ => none }
def FnExactNewHartWrongFalsely : Prop := fnExactNewHartRow.holds Try.pinned (OpenSpec.ofChange fnExactNewHartWrong)

/-- 'laws.FnExactSetReg': WHATEVER THE INPUT: true; the input reads as it did. -/
def fnExactSetRegSpec : ChangeSpec := { name := "fnExactSetReg", fn := fun _ => fun
  | [d1, d2, d3] => { results := [.lit (.bool true)], args := [d1, d2, d3] }
  | _ => none }
def fnExactSetRegRow : OpenClaim := { program := "ytbhempnfbginoaa", sum := "b324a0ba363163647fd1d2f03e4e4210660da07318d2da2897c94667fb7dc51c", func := "loop.example/g00654/laws.FnExactSetReg", spec := "fnExactSetReg", apart := false }
def FnExactSetRegSaid : Prop := fnExactSetRegRow.holds Try.pinned (OpenSpec.ofChange fnExactSetRegSpec)

/-- ITS FALSE NEIGHBOUR: 'it returns false'. Refute it at one input. -/
def fnExactSetRegWrong : ChangeSpec := { name := "fnExactSetReg", fn := fun _ => fun
  | [d1, d2, d3] => { results := [.lit (.bool false)], args := [d1, d2, d3] }
  | _ => none }
def FnExactSetRegWrongFalsely : Prop := fnExactSetRegRow.holds Try.pinned (OpenSpec.ofChange fnExactSetRegWrong)

/-- 'laws.FnExactOpOf': WHATEVER THE INPUT: true; the input reads as it did. -/
def fnExactOpOfSpec : ChangeSpec := { name := "fnExactOpOf", fn := fun _ => fun
  | [d] => { results := [.lit (.bool true)], args := [d] }
  | _ => none }
def fnExactOpOfRow : OpenClaim := { program := "ytbhempnfbginoaa", sum := "b324a0ba363163647fd1d2f03e4e4210660da07318d2da2897c94667fb7dc51c", func := "loop.example/g00654/laws.FnExactOpOf", spec := "fnExactOpOf", unfollowed := true, recurses := true, apart := false }
def FnExactOpOfSaid : Prop := fnExactOpOfRow.holds Try.pinned (OpenSpec.ofChange fnExactOpOfSpec)

/-- ITS FALSE NEIGHBOUR: 'it returns false'. Refute it at one input. -/
def fnExactOpOfWrong : ChangeSpec := { name := "fnExactOpOf", fn := fun _ => fun
  | [d] => { results := [.lit (.bool false)], args := [d] }
  | _ => none }
def FnExactOpOfWrongFalsely : Prop := fnExactOpOfRow.holds Try.pinned (OpenSpec.ofChange fnExactOpOfWrong)

/-- 'laws.FnExactMemoryOK': WHATEVER THE INPUT: true; the input reads as it did. -/
def fnExactMemoryOKSpec : ChangeSpec := { name := "fnExactMemoryOK", fn := fun _ => fun
  | [d] => { results := [.lit (.bool true)], args := [d] }
  | _ => none }
def fnExactMemoryOKRow : OpenClaim := { program := "ytbhempnfbginoaa", sum := "b324a0ba363163647fd1d2f03e4e4210660da07318d2da2897c94667fb7dc51c", func := "loop.example/g00654/laws.FnExactMemoryOK", spec := "fnExactMemoryOK", apart := false }
def FnExactMemoryOKSaid : Prop := fnExactMemoryOKRow.holds Try.pinned (OpenSpec.ofChange fnExactMemoryOKSpec)

/-- ITS FALSE NEIGHBOUR: 'it returns false'. Refute it at one input. -/
def fnExactMemoryOKWrong : ChangeSpec := { name := "fnExactMemoryOK", fn := fun _ => fun
  | [d] => { results := [.lit (.bool false)], args := [d] }
  | _ => none }
def FnExactMemoryOKWrongFalsely : Prop := fnExactMemoryOKRow.holds Try.pinned (OpenSpec.ofChange fnExactMemoryOKWrong)

/-- 'laws.FnExactGetBytes': WHATEVER THE INPUT: true; the input reads as it did. -/
def fnExactGetBytesSpec : ChangeSpec := { name := "fnExactGetBytes", fn := fun _ => fun
  | [d1, d2, d3] => { results := [.lit (.bool true)], args := [d1, d2, d3] }
  | _ => none }
def fnExactGetBytesRow : OpenClaim := { program := "ytbhempnfbginoaa", sum := "b324a0ba363163647fd1d2f03e4e4210660da07318d2da2897c94667fb7dc51c", func := "loop.example/g00654/laws.FnExactGetBytes", spec := "fnExactGetBytes", unfollowed := true, recurses := true, apart := false }
def FnExactGetBytesSaid : Prop := fnExactGetBytesRow.holds Try.pinned (OpenSpec.ofChange fnExactGetBytesSpec)

/-- ITS FALSE NEIGHBOUR: 'it returns false'. Refute it at one input. -/
def fnExactGetBytesWrong : ChangeSpec := { name := "fnExactGetBytes", fn := fun _ => fun
  | [d1, d2, d3] => { results := [.lit (.bool false)], args := [d1, d2, d3] }
  | _ => none }
def FnExactGetBytesWrongFalsely : Prop := fnExactGetBytesRow.holds Try.pinned (OpenSpec.ofChange fnExactGetBytesWrong)

/-- 'laws.FnExactFetchAt': WHATEVER THE INPUT: true; the input reads as it did. -/
def fnExactFetchAtSpec : ChangeSpec := { name := "fnExactFetchAt", fn := fun _ => fun
  | [d1, d2] => { results := [.lit (.bool true)], args := [d1, d2] }
  | _ => none }
def fnExactFetchAtRow : OpenClaim := { program := "ytbhempnfbginoaa", sum := "b324a0ba363163647fd1d2f03e4e4210660da07318d2da2897c94667fb7dc51c", func := "loop.example/g00654/laws.FnExactFetchAt", spec := "fnExactFetchAt", unfollowed := true, recurses := true, apart := false }
def FnExactFetchAtSaid : Prop := fnExactFetchAtRow.holds Try.pinned (OpenSpec.ofChange fnExactFetchAtSpec)

/-- ITS FALSE NEIGHBOUR: 'it returns false'. Refute it at one input. -/
def fnExactFetchAtWrong : ChangeSpec := { name := "fnExactFetchAt", fn := fun _ => fun
  | [d1, d2] => { results := [.lit (.bool false)], args := [d1, d2] }
  | _ => none }
def FnExactFetchAtWrongFalsely : Prop := fnExactFetchAtRow.holds Try.pinned (OpenSpec.ofChange fnExactFetchAtWrong)

/-- 'laws.FnExactLoadAt': WHATEVER THE INPUT: true; the input reads as it did. -/
def fnExactLoadAtSpec : ChangeSpec := { name := "fnExactLoadAt", fn := fun _ => fun
  | [d1, d2, d3, d4] => { results := [.lit (.bool true)], args := [d1, d2, d3, d4] }
  | _ => none }
def fnExactLoadAtRow : OpenClaim := { program := "ytbhempnfbginoaa", sum := "b324a0ba363163647fd1d2f03e4e4210660da07318d2da2897c94667fb7dc51c", func := "loop.example/g00654/laws.FnExactLoadAt", spec := "fnExactLoadAt", unfollowed := true, recurses := true, apart := false }
def FnExactLoadAtSaid : Prop := fnExactLoadAtRow.holds Try.pinned (OpenSpec.ofChange fnExactLoadAtSpec)

/-- ITS FALSE NEIGHBOUR: 'it returns false'. Refute it at one input. -/
def fnExactLoadAtWrong : ChangeSpec := { name := "fnExactLoadAt", fn := fun _ => fun
  | [d1, d2, d3, d4] => { results := [.lit (.bool false)], args := [d1, d2, d3, d4] }
  | _ => none }
def FnExactLoadAtWrongFalsely : Prop := fnExactLoadAtRow.holds Try.pinned (OpenSpec.ofChange fnExactLoadAtWrong)

/-- 'laws.FnWide': WHATEVER THE INPUT: true; the input reads as it did. -/
def fnWideSpec : ChangeSpec := { name := "fnWide", fn := fun _ => fun
  | [d1, d2] => { results := [.lit (.bool true)], args := [d1, d2] }
  | _ => none }
def fnWideRow : OpenClaim := { program := "ytbhempnfbginoaa", sum := "b324a0ba363163647fd1d2f03e4e4210660da07318d2da2897c94667fb7dc51c", func := "loop.example/g00654/laws.FnWide", spec := "fnWide", apart := false }
def FnWideSaid : Prop := fnWideRow.holds Try.pinned (OpenSpec.ofChange fnWideSpec)

/-- ITS FALSE NEIGHBOUR: 'it returns false'. Refute it at one input. -/
def fnWideWrong : ChangeSpec := { name := "fnWide", fn := fun _ => fun
  | [d1, d2] => { results := [.lit (.bool false)], args := [d1, d2] }
  | _ => none }
def FnWideWrongFalsely : Prop := fnWideRow.holds Try.pinned (OpenSpec.ofChange fnWideWrong)

/- THE SECOND FORM. 'bulk': how many values and letters a reading holds, each counted each time it is reached (what is shared counts as often as it is met; a slice's spare places count too). A statement '..UptoSaid' is the law's where the arguments, and the package variables that the reading takes, are together of bulk at most 1048576: NARROWER than '..Said'. Prove '..Said' where nothing that the law and all that it calls make is longer than what came in: it says more and counts as full. Else prove '..UptoSaid'. A law counts once. -/
mutual
def uptoBulk {H : Type} : DataW H → Nat
  | .lit (.string bytes) => bytes.length + 1
  | .lit _ => 1
  | .nil => 1
  | .ptr d => uptoBulk d + 1
  | .slice elems spare => uptoBulkAll elems + uptoBulkAll spare + 1
  | .agg parts => uptoBulkAll parts + 1
  | .iface _ d => uptoBulk d + 1
  | .map entries => uptoBulkEntries entries + 1
  | .held _ => 1
def uptoBulkAll {H : Type} : List (DataW H) → Nat
  | [] => 0
  | d :: r => uptoBulk d + uptoBulkAll r
def uptoBulkEntries {H : Type} : List (Lit × DataW H) → Nat
  | [] => 0
  | x :: r => uptoBulkEntry x + uptoBulkEntries r
def uptoBulkEntry {H : Type} : Lit × DataW H → Nat
  | (.string bytes, d) => bytes.length + uptoBulk d + 1
  | (_, d) => uptoBulk d + 1
 end
def uptoSmall : (H : Type) → List (DataW H) → Bool := fun _ ds => decide (uptoBulkAll ds ≤ 1048576)
def OpenSpec.upto (s : _root_.Go.ChangeSpec) : _root_.Go.OpenSpec := { _root_.Go.OpenSpec.ofChange s with cond := some uptoSmall }

/-- 'laws.FnExactHartOK', WHERE WHAT IT READS IS OF BULK AT MOST 1048576: true; the input reads as it did. -/
def fnExactHartOKUptoRow : OpenClaim := { program := "ytbhempnfbginoaa", sum := "b324a0ba363163647fd1d2f03e4e4210660da07318d2da2897c94667fb7dc51c", func := "loop.example/g00654/laws.FnExactHartOK", spec := "fnExactHartOK", apart := false, narrowed := true }
def FnExactHartOKUptoSaid : Prop := fnExactHartOKUptoRow.holds Try.pinned (OpenSpec.upto fnExactHartOKSpec)

/-- 'laws.FnExactNewHart', WHERE WHAT IT READS IS OF BULK AT MOST 1048576: true; the input reads as it did. -/
def fnExactNewHartUptoRow : OpenClaim := { program := "ytbhempnfbginoaa", sum := "b324a0ba363163647fd1d2f03e4e4210660da07318d2da2897c94667fb7dc51c", func := "loop.example/g00654/laws.FnExactNewHart", spec := "fnExactNewHart", apart := false, narrowed := true }
def FnExactNewHartUptoSaid : Prop := fnExactNewHartUptoRow.holds Try.pinned (OpenSpec.upto fnExactNewHartSpec)

/-- 'laws.FnExactSetReg', WHERE WHAT IT READS IS OF BULK AT MOST 1048576: true; the input reads as it did. -/
def fnExactSetRegUptoRow : OpenClaim := { program := "ytbhempnfbginoaa", sum := "b324a0ba363163647fd1d2f03e4e4210660da07318d2da2897c94667fb7dc51c", func := "loop.example/g00654/laws.FnExactSetReg", spec := "fnExactSetReg", apart := false, narrowed := true }
def FnExactSetRegUptoSaid : Prop := fnExactSetRegUptoRow.holds Try.pinned (OpenSpec.upto fnExactSetRegSpec)

/-- 'laws.FnExactOpOf', WHERE WHAT IT READS IS OF BULK AT MOST 1048576: true; the input reads as it did. -/
def fnExactOpOfUptoRow : OpenClaim := { program := "ytbhempnfbginoaa", sum := "b324a0ba363163647fd1d2f03e4e4210660da07318d2da2897c94667fb7dc51c", func := "loop.example/g00654/laws.FnExactOpOf", spec := "fnExactOpOf", unfollowed := true, recurses := true, apart := false, narrowed := true }
def FnExactOpOfUptoSaid : Prop := fnExactOpOfUptoRow.holds Try.pinned (OpenSpec.upto fnExactOpOfSpec)

/-- 'laws.FnExactMemoryOK', WHERE WHAT IT READS IS OF BULK AT MOST 1048576: true; the input reads as it did. -/
def fnExactMemoryOKUptoRow : OpenClaim := { program := "ytbhempnfbginoaa", sum := "b324a0ba363163647fd1d2f03e4e4210660da07318d2da2897c94667fb7dc51c", func := "loop.example/g00654/laws.FnExactMemoryOK", spec := "fnExactMemoryOK", apart := false, narrowed := true }
def FnExactMemoryOKUptoSaid : Prop := fnExactMemoryOKUptoRow.holds Try.pinned (OpenSpec.upto fnExactMemoryOKSpec)

/-- 'laws.FnExactGetBytes', WHERE WHAT IT READS IS OF BULK AT MOST 1048576: true; the input reads as it did. -/
def fnExactGetBytesUptoRow : OpenClaim := { program := "ytbhempnfbginoaa", sum := "b324a0ba363163647fd1d2f03e4e4210660da07318d2da2897c94667fb7dc51c", func := "loop.example/g00654/laws.FnExactGetBytes", spec := "fnExactGetBytes", unfollowed := true, recurses := true, apart := false, narrowed := true }
def FnExactGetBytesUptoSaid : Prop := fnExactGetBytesUptoRow.holds Try.pinned (OpenSpec.upto fnExactGetBytesSpec)

/-- 'laws.FnExactFetchAt', WHERE WHAT IT READS IS OF BULK AT MOST 1048576: true; the input reads as it did. -/
def fnExactFetchAtUptoRow : OpenClaim := { program := "ytbhempnfbginoaa", sum := "b324a0ba363163647fd1d2f03e4e4210660da07318d2da2897c94667fb7dc51c", func := "loop.example/g00654/laws.FnExactFetchAt", spec := "fnExactFetchAt", unfollowed := true, recurses := true, apart := false, narrowed := true }
def FnExactFetchAtUptoSaid : Prop := fnExactFetchAtUptoRow.holds Try.pinned (OpenSpec.upto fnExactFetchAtSpec)

/-- 'laws.FnExactLoadAt', WHERE WHAT IT READS IS OF BULK AT MOST 1048576: true; the input reads as it did. -/
def fnExactLoadAtUptoRow : OpenClaim := { program := "ytbhempnfbginoaa", sum := "b324a0ba363163647fd1d2f03e4e4210660da07318d2da2897c94667fb7dc51c", func := "loop.example/g00654/laws.FnExactLoadAt", spec := "fnExactLoadAt", unfollowed := true, recurses := true, apart := false, narrowed := true }
def FnExactLoadAtUptoSaid : Prop := fnExactLoadAtUptoRow.holds Try.pinned (OpenSpec.upto fnExactLoadAtSpec)

/-- 'laws.FnWide', WHERE WHAT IT READS IS OF BULK AT MOST 1048576: true; the input reads as it did. -/
def fnWideUptoRow : OpenClaim := { program := "ytbhempnfbginoaa", sum := "b324a0ba363163647fd1d2f03e4e4210660da07318d2da2897c94667fb7dc51c", func := "loop.example/g00654/laws.FnWide", spec := "fnWide", apart := false, narrowed := true }
def FnWideUptoSaid : Prop := fnWideUptoRow.holds Try.pinned (OpenSpec.upto fnWideSpec)

end Rows
end Go.Proofs.Ytbhempnfbginoaa
