/-
  No cell of these rows narrows 'for every input' (looked for: loops, veiled, ifaces, maps, wideKeys, modest, calm, conditions, laid).
  DERIVED. THE GIVEN ROWS OF THIS SEAT. 12 by the template 'for every input the law returns true; each argument reads behind the call as it read before'; 0 by the template 'total and deterministic' (their statements: YtfepdlgmhfeljaaTotals.lean).
  GIVEN WITH THE SEED: the statements are not yours to turn. If you find one false, say at which input.
  Laid BY PROGRAM, IN A SANDBOX (cutbox-rows.mjs): the forced cells as the released guide's own fill.sh prints them over the translation c8863d16be2be80f… (all of the seat's roots in one cut). By AI agents, Wed Nov 11 2026. No macro, syntax, notation, axiom, sorry.
-/
import Derived.Test.YtfepdlgmhfeljaaChecked
import GoSem.Claim
import GoSem.ClaimJoined
import GoSem.ClaimMapViews
import Derived.JoinedTies
import Derived.KernelRfl
namespace Go.Proofs.Ytfepdlgmhfeljaa
/- THE CELL 'sum', in the pinned program and in every row, IS THE sha256 OF THE DUMP (.gsa) THAT YtfepdlgmhfeljaaProg.lean LOADS. Nothing in Lean hashes anything: it is a label: what it is worth is what the hold of that sum in a sandbox is worth. -/
noncomputable def Try.pinned : Pinned := { name := "ytfepdlgmhfeljaa", sum := "c8863d16be2be80fc9201255fc165e433e3ef1819ac1772684a25768672b4c5a", checked := Try.checked }
namespace Rows
def none {H : Type} : Left H := { results := [], args := [] }

/-- 'laws.FnExactConstants': WHATEVER THE INPUT: true; the input reads as it did. -/
def fnExactConstantsSpec : ChangeSpec := { name := "fnExactConstants", fn := fun _ => fun
  | [] => { results := [.lit (.bool true)], args := [] }
  | _ => none }
def fnExactConstantsRow : OpenClaim := { program := "ytfepdlgmhfeljaa", sum := "c8863d16be2be80fc9201255fc165e433e3ef1819ac1772684a25768672b4c5a", func := "loop.example/g00654/laws.FnExactConstants", spec := "fnExactConstants", apart := false }
def FnExactConstantsSaid : Prop := fnExactConstantsRow.holds Try.pinned (OpenSpec.ofChange fnExactConstantsSpec)

/-- ITS FALSE NEIGHBOUR: 'it returns false'. Refute it at one input. -/
def fnExactConstantsWrong : ChangeSpec := { name := "fnExactConstants", fn := fun _ => fun
  | [] => { results := [.lit (.bool false)], args := [] }
  | _ => none }
def FnExactConstantsWrongFalsely : Prop := fnExactConstantsRow.holds Try.pinned (OpenSpec.ofChange fnExactConstantsWrong)

/-- 'laws.FnExactBelowU': WHATEVER THE INPUT: true; the input reads as it did. -/
def fnExactBelowUSpec : ChangeSpec := { name := "fnExactBelowU", fn := fun _ => fun
  | [d1, d2] => { results := [.lit (.bool true)], args := [d1, d2] }
  | _ => none }
def fnExactBelowURow : OpenClaim := { program := "ytfepdlgmhfeljaa", sum := "c8863d16be2be80fc9201255fc165e433e3ef1819ac1772684a25768672b4c5a", func := "loop.example/g00654/laws.FnExactBelowU", spec := "fnExactBelowU", apart := false }
def FnExactBelowUSaid : Prop := fnExactBelowURow.holds Try.pinned (OpenSpec.ofChange fnExactBelowUSpec)

/-- ITS FALSE NEIGHBOUR: 'it returns false'. Refute it at one input. -/
def fnExactBelowUWrong : ChangeSpec := { name := "fnExactBelowU", fn := fun _ => fun
  | [d1, d2] => { results := [.lit (.bool false)], args := [d1, d2] }
  | _ => none }
def FnExactBelowUWrongFalsely : Prop := fnExactBelowURow.holds Try.pinned (OpenSpec.ofChange fnExactBelowUWrong)

/-- 'laws.FnExactFrameOK': WHATEVER THE INPUT: true; the input reads as it did. -/
def fnExactFrameOKSpec : ChangeSpec := { name := "fnExactFrameOK", fn := fun _ => fun
  | [d] => { results := [.lit (.bool true)], args := [d] }
  | _ => none }
def fnExactFrameOKRow : OpenClaim := { program := "ytfepdlgmhfeljaa", sum := "c8863d16be2be80fc9201255fc165e433e3ef1819ac1772684a25768672b4c5a", func := "loop.example/g00654/laws.FnExactFrameOK", spec := "fnExactFrameOK", apart := false }
def FnExactFrameOKSaid : Prop := fnExactFrameOKRow.holds Try.pinned (OpenSpec.ofChange fnExactFrameOKSpec)

/-- ITS FALSE NEIGHBOUR: 'it returns false'. Refute it at one input. -/
def fnExactFrameOKWrong : ChangeSpec := { name := "fnExactFrameOK", fn := fun _ => fun
  | [d] => { results := [.lit (.bool false)], args := [d] }
  | _ => none }
def FnExactFrameOKWrongFalsely : Prop := fnExactFrameOKRow.holds Try.pinned (OpenSpec.ofChange fnExactFrameOKWrong)

/-- 'laws.FnExactHartOK': WHATEVER THE INPUT: true; the input reads as it did. -/
def fnExactHartOKSpec : ChangeSpec := { name := "fnExactHartOK", fn := fun _ => fun
  | [d] => { results := [.lit (.bool true)], args := [d] }
  | _ => none }
def fnExactHartOKRow : OpenClaim := { program := "ytfepdlgmhfeljaa", sum := "c8863d16be2be80fc9201255fc165e433e3ef1819ac1772684a25768672b4c5a", func := "loop.example/g00654/laws.FnExactHartOK", spec := "fnExactHartOK", apart := false }
def FnExactHartOKSaid : Prop := fnExactHartOKRow.holds Try.pinned (OpenSpec.ofChange fnExactHartOKSpec)

/-- ITS FALSE NEIGHBOUR: 'it returns false'. Refute it at one input. -/
def fnExactHartOKWrong : ChangeSpec := { name := "fnExactHartOK", fn := fun _ => fun
  | [d] => { results := [.lit (.bool false)], args := [d] }
  | _ => none }
def FnExactHartOKWrongFalsely : Prop := fnExactHartOKRow.holds Try.pinned (OpenSpec.ofChange fnExactHartOKWrong)

/-- 'laws.FnExactWordOf': WHATEVER THE INPUT: true; the input reads as it did. -/
def fnExactWordOfSpec : ChangeSpec := { name := "fnExactWordOf", fn := fun _ => fun
  | [d] => { results := [.lit (.bool true)], args := [d] }
  | _ => none }
def fnExactWordOfRow : OpenClaim := { program := "ytfepdlgmhfeljaa", sum := "c8863d16be2be80fc9201255fc165e433e3ef1819ac1772684a25768672b4c5a", func := "loop.example/g00654/laws.FnExactWordOf", spec := "fnExactWordOf", apart := false }
def FnExactWordOfSaid : Prop := fnExactWordOfRow.holds Try.pinned (OpenSpec.ofChange fnExactWordOfSpec)

/-- ITS FALSE NEIGHBOUR: 'it returns false'. Refute it at one input. -/
def fnExactWordOfWrong : ChangeSpec := { name := "fnExactWordOf", fn := fun _ => fun
  | [d] => { results := [.lit (.bool false)], args := [d] }
  | _ => none }
def FnExactWordOfWrongFalsely : Prop := fnExactWordOfRow.holds Try.pinned (OpenSpec.ofChange fnExactWordOfWrong)

/-- 'laws.FnExactStackTop': WHATEVER THE INPUT: true; the input reads as it did. -/
def fnExactStackTopSpec : ChangeSpec := { name := "fnExactStackTop", fn := fun _ => fun
  | [d] => { results := [.lit (.bool true)], args := [d] }
  | _ => none }
def fnExactStackTopRow : OpenClaim := { program := "ytfepdlgmhfeljaa", sum := "c8863d16be2be80fc9201255fc165e433e3ef1819ac1772684a25768672b4c5a", func := "loop.example/g00654/laws.FnExactStackTop", spec := "fnExactStackTop", apart := false }
def FnExactStackTopSaid : Prop := fnExactStackTopRow.holds Try.pinned (OpenSpec.ofChange fnExactStackTopSpec)

/-- ITS FALSE NEIGHBOUR: 'it returns false'. Refute it at one input. -/
def fnExactStackTopWrong : ChangeSpec := { name := "fnExactStackTop", fn := fun _ => fun
  | [d] => { results := [.lit (.bool false)], args := [d] }
  | _ => none }
def FnExactStackTopWrongFalsely : Prop := fnExactStackTopRow.holds Try.pinned (OpenSpec.ofChange fnExactStackTopWrong)

/-- 'laws.FnExactCodeWord': WHATEVER THE INPUT: true; the input reads as it did. -/
def fnExactCodeWordSpec : ChangeSpec := { name := "fnExactCodeWord", fn := fun _ => fun
  | [d] => { results := [.lit (.bool true)], args := [d] }
  | _ => none }
def fnExactCodeWordRow : OpenClaim := { program := "ytfepdlgmhfeljaa", sum := "c8863d16be2be80fc9201255fc165e433e3ef1819ac1772684a25768672b4c5a", func := "loop.example/g00654/laws.FnExactCodeWord", spec := "fnExactCodeWord", apart := false }
def FnExactCodeWordSaid : Prop := fnExactCodeWordRow.holds Try.pinned (OpenSpec.ofChange fnExactCodeWordSpec)

/-- ITS FALSE NEIGHBOUR: 'it returns false'. Refute it at one input. -/
def fnExactCodeWordWrong : ChangeSpec := { name := "fnExactCodeWord", fn := fun _ => fun
  | [d] => { results := [.lit (.bool false)], args := [d] }
  | _ => none }
def FnExactCodeWordWrongFalsely : Prop := fnExactCodeWordRow.holds Try.pinned (OpenSpec.ofChange fnExactCodeWordWrong)

/-- 'laws.FnExactSymbolNamed': WHATEVER THE INPUT: true; the input reads as it did. -/
def fnExactSymbolNamedSpec : ChangeSpec := { name := "fnExactSymbolNamed", fn := fun _ => fun
  | [d1, d2] => { results := [.lit (.bool true)], args := [d1, d2] }
  | _ => none }
def fnExactSymbolNamedRow : OpenClaim := { program := "ytfepdlgmhfeljaa", sum := "c8863d16be2be80fc9201255fc165e433e3ef1819ac1772684a25768672b4c5a", func := "loop.example/g00654/laws.FnExactSymbolNamed", spec := "fnExactSymbolNamed", unfollowed := true, recurses := true, apart := false }
def FnExactSymbolNamedSaid : Prop := fnExactSymbolNamedRow.holds Try.pinned (OpenSpec.ofChange fnExactSymbolNamedSpec)

/-- ITS FALSE NEIGHBOUR: 'it returns false'. Refute it at one input. -/
def fnExactSymbolNamedWrong : ChangeSpec := { name := "fnExactSymbolNamed", fn := fun _ => fun
  | [d1, d2] => { results := [.lit (.bool false)], args := [d1, d2] }
  | _ => none }
def FnExactSymbolNamedWrongFalsely : Prop := fnExactSymbolNamedRow.holds Try.pinned (OpenSpec.ofChange fnExactSymbolNamedWrong)

/-- 'laws.FnExactRelocName': WHATEVER THE INPUT: true; the input reads as it did. -/
def fnExactRelocNameSpec : ChangeSpec := { name := "fnExactRelocName", fn := fun _ => fun
  | [d] => { results := [.lit (.bool true)], args := [d] }
  | _ => none }
def fnExactRelocNameRow : OpenClaim := { program := "ytfepdlgmhfeljaa", sum := "c8863d16be2be80fc9201255fc165e433e3ef1819ac1772684a25768672b4c5a", func := "loop.example/g00654/laws.FnExactRelocName", spec := "fnExactRelocName", apart := false }
def FnExactRelocNameSaid : Prop := fnExactRelocNameRow.holds Try.pinned (OpenSpec.ofChange fnExactRelocNameSpec)

/-- ITS FALSE NEIGHBOUR: 'it returns false'. Refute it at one input. -/
def fnExactRelocNameWrong : ChangeSpec := { name := "fnExactRelocName", fn := fun _ => fun
  | [d] => { results := [.lit (.bool false)], args := [d] }
  | _ => none }
def FnExactRelocNameWrongFalsely : Prop := fnExactRelocNameRow.holds Try.pinned (OpenSpec.ofChange fnExactRelocNameWrong)

/-- 'laws.FnExactHexOf': WHATEVER THE INPUT: true; the input reads as it did. -/
def fnExactHexOfSpec : ChangeSpec := { name := "fnExactHexOf", fn := fun _ => fun
  | [d] => { results := [.lit (.bool true)], args := [d] }
  | _ => none }
def fnExactHexOfRow : OpenClaim := { program := "ytfepdlgmhfeljaa", sum := "c8863d16be2be80fc9201255fc165e433e3ef1819ac1772684a25768672b4c5a", func := "loop.example/g00654/laws.FnExactHexOf", spec := "fnExactHexOf", apart := false }
def FnExactHexOfSaid : Prop := fnExactHexOfRow.holds Try.pinned (OpenSpec.ofChange fnExactHexOfSpec)

/-- ITS FALSE NEIGHBOUR: 'it returns false'. Refute it at one input. -/
def fnExactHexOfWrong : ChangeSpec := { name := "fnExactHexOf", fn := fun _ => fun
  | [d] => { results := [.lit (.bool false)], args := [d] }
  | _ => none }
def FnExactHexOfWrongFalsely : Prop := fnExactHexOfRow.holds Try.pinned (OpenSpec.ofChange fnExactHexOfWrong)

/-- 'laws.FnExactDivideU': WHATEVER THE INPUT: true; the input reads as it did. -/
def fnExactDivideUSpec : ChangeSpec := { name := "fnExactDivideU", fn := fun _ => fun
  | [d1, d2] => { results := [.lit (.bool true)], args := [d1, d2] }
  | _ => none }
def fnExactDivideURow : OpenClaim := { program := "ytfepdlgmhfeljaa", sum := "c8863d16be2be80fc9201255fc165e433e3ef1819ac1772684a25768672b4c5a", func := "loop.example/g00654/laws.FnExactDivideU", spec := "fnExactDivideU", apart := false }
def FnExactDivideUSaid : Prop := fnExactDivideURow.holds Try.pinned (OpenSpec.ofChange fnExactDivideUSpec)

/-- ITS FALSE NEIGHBOUR: 'it returns false'. Refute it at one input. -/
def fnExactDivideUWrong : ChangeSpec := { name := "fnExactDivideU", fn := fun _ => fun
  | [d1, d2] => { results := [.lit (.bool false)], args := [d1, d2] }
  | _ => none }
def FnExactDivideUWrongFalsely : Prop := fnExactDivideURow.holds Try.pinned (OpenSpec.ofChange fnExactDivideUWrong)

/-- 'laws.FnExactNewHart': WHATEVER THE INPUT: true; the input reads as it did. -/
def fnExactNewHartSpec : ChangeSpec := { name := "fnExactNewHart", fn := fun _ => fun
  | [d1, d2] => { results := [.lit (.bool true)], args := [d1, d2] }
  | _ => none }
def fnExactNewHartRow : OpenClaim := { program := "ytfepdlgmhfeljaa", sum := "c8863d16be2be80fc9201255fc165e433e3ef1819ac1772684a25768672b4c5a", func := "loop.example/g00654/laws.FnExactNewHart", spec := "fnExactNewHart", apart := false }
def FnExactNewHartSaid : Prop := fnExactNewHartRow.holds Try.pinned (OpenSpec.ofChange fnExactNewHartSpec)

/-- ITS FALSE NEIGHBOUR: 'it returns false'. Refute it at one input. -/
def fnExactNewHartWrong : ChangeSpec := { name := "fnExactNewHart", fn := fun _ => fun
  | [d1, d2] => { results := [.lit (.bool false)], args := [d1, d2] }
  | _ => none }
def FnExactNewHartWrongFalsely : Prop := fnExactNewHartRow.holds Try.pinned (OpenSpec.ofChange fnExactNewHartWrong)

/- THE SECOND FORM. 'bulk': how many values and letters a reading holds, each counted each time it is reached (what is shared counts as often as it is met; a slice's spare places count too). A statement '..UptoSaid' is the law's where the arguments, and the package variables that the reading takes, are together of bulk at most 1048576: NARROWER than '..Said'. Prove '..Said' where nothing that the law and all that it calls make is longer than what came in: it says more and counts as full. Else prove '..UptoSaid'. A law counts once. -/
mutual
def uptoBulk {H : Type} : DataW H → Nat
  | .lit (.string bytes) => bytes.length + 1
  | .lit _ => 1
  | .nil => 1
  | .ptr d => uptoBulk d + 1
  | .slice elems spare => uptoBulkAll elems + uptoBulkAll spare + 1
  | .agg parts => uptoBulkAll parts + 1
  | .iface _ d => uptoBulk d + 1
  | .map entries => uptoBulkEntries entries + 1
  | .held _ => 1
def uptoBulkAll {H : Type} : List (DataW H) → Nat
  | [] => 0
  | d :: r => uptoBulk d + uptoBulkAll r
def uptoBulkEntries {H : Type} : List (Lit × DataW H) → Nat
  | [] => 0
  | x :: r => uptoBulkEntry x + uptoBulkEntries r
def uptoBulkEntry {H : Type} : Lit × DataW H → Nat
  | (.string bytes, d) => bytes.length + uptoBulk d + 1
  | (_, d) => uptoBulk d + 1
 end
def uptoSmall : (H : Type) → List (DataW H) → Bool := fun _ ds => decide (uptoBulkAll ds ≤ 1048576)
def OpenSpec.upto (s : _root_.Go.ChangeSpec) : _root_.Go.OpenSpec := { _root_.Go.OpenSpec.ofChange s with cond := some uptoSmall }

/-- 'laws.FnExactConstants', WHERE WHAT IT READS IS OF BULK AT MOST 1048576: true; the input reads as it did. -/
def fnExactConstantsUptoRow : OpenClaim := { program := "ytfepdlgmhfeljaa", sum := "c8863d16be2be80fc9201255fc165e433e3ef1819ac1772684a25768672b4c5a", func := "loop.example/g00654/laws.FnExactConstants", spec := "fnExactConstants", apart := false, narrowed := true }
def FnExactConstantsUptoSaid : Prop := fnExactConstantsUptoRow.holds Try.pinned (OpenSpec.upto fnExactConstantsSpec)

/-- 'laws.FnExactBelowU', WHERE WHAT IT READS IS OF BULK AT MOST 1048576: true; the input reads as it did. -/
def fnExactBelowUUptoRow : OpenClaim := { program := "ytfepdlgmhfeljaa", sum := "c8863d16be2be80fc9201255fc165e433e3ef1819ac1772684a25768672b4c5a", func := "loop.example/g00654/laws.FnExactBelowU", spec := "fnExactBelowU", apart := false, narrowed := true }
def FnExactBelowUUptoSaid : Prop := fnExactBelowUUptoRow.holds Try.pinned (OpenSpec.upto fnExactBelowUSpec)

/-- 'laws.FnExactFrameOK', WHERE WHAT IT READS IS OF BULK AT MOST 1048576: true; the input reads as it did. -/
def fnExactFrameOKUptoRow : OpenClaim := { program := "ytfepdlgmhfeljaa", sum := "c8863d16be2be80fc9201255fc165e433e3ef1819ac1772684a25768672b4c5a", func := "loop.example/g00654/laws.FnExactFrameOK", spec := "fnExactFrameOK", apart := false, narrowed := true }
def FnExactFrameOKUptoSaid : Prop := fnExactFrameOKUptoRow.holds Try.pinned (OpenSpec.upto fnExactFrameOKSpec)

/-- 'laws.FnExactHartOK', WHERE WHAT IT READS IS OF BULK AT MOST 1048576: true; the input reads as it did. -/
def fnExactHartOKUptoRow : OpenClaim := { program := "ytfepdlgmhfeljaa", sum := "c8863d16be2be80fc9201255fc165e433e3ef1819ac1772684a25768672b4c5a", func := "loop.example/g00654/laws.FnExactHartOK", spec := "fnExactHartOK", apart := false, narrowed := true }
def FnExactHartOKUptoSaid : Prop := fnExactHartOKUptoRow.holds Try.pinned (OpenSpec.upto fnExactHartOKSpec)

/-- 'laws.FnExactWordOf', WHERE WHAT IT READS IS OF BULK AT MOST 1048576: true; the input reads as it did. -/
def fnExactWordOfUptoRow : OpenClaim := { program := "ytfepdlgmhfeljaa", sum := "c8863d16be2be80fc9201255fc165e433e3ef1819ac1772684a25768672b4c5a", func := "loop.example/g00654/laws.FnExactWordOf", spec := "fnExactWordOf", apart := false, narrowed := true }
def FnExactWordOfUptoSaid : Prop := fnExactWordOfUptoRow.holds Try.pinned (OpenSpec.upto fnExactWordOfSpec)

/-- 'laws.FnExactStackTop', WHERE WHAT IT READS IS OF BULK AT MOST 1048576: true; the input reads as it did. -/
def fnExactStackTopUptoRow : OpenClaim := { program := "ytfepdlgmhfeljaa", sum := "c8863d16be2be80fc9201255fc165e433e3ef1819ac1772684a25768672b4c5a", func := "loop.example/g00654/laws.FnExactStackTop", spec := "fnExactStackTop", apart := false, narrowed := true }
def FnExactStackTopUptoSaid : Prop := fnExactStackTopUptoRow.holds Try.pinned (OpenSpec.upto fnExactStackTopSpec)

/-- 'laws.FnExactCodeWord', WHERE WHAT IT READS IS OF BULK AT MOST 1048576: true; the input reads as it did. -/
def fnExactCodeWordUptoRow : OpenClaim := { program := "ytfepdlgmhfeljaa", sum := "c8863d16be2be80fc9201255fc165e433e3ef1819ac1772684a25768672b4c5a", func := "loop.example/g00654/laws.FnExactCodeWord", spec := "fnExactCodeWord", apart := false, narrowed := true }
def FnExactCodeWordUptoSaid : Prop := fnExactCodeWordUptoRow.holds Try.pinned (OpenSpec.upto fnExactCodeWordSpec)

/-- 'laws.FnExactSymbolNamed', WHERE WHAT IT READS IS OF BULK AT MOST 1048576: true; the input reads as it did. -/
def fnExactSymbolNamedUptoRow : OpenClaim := { program := "ytfepdlgmhfeljaa", sum := "c8863d16be2be80fc9201255fc165e433e3ef1819ac1772684a25768672b4c5a", func := "loop.example/g00654/laws.FnExactSymbolNamed", spec := "fnExactSymbolNamed", unfollowed := true, recurses := true, apart := false, narrowed := true }
def FnExactSymbolNamedUptoSaid : Prop := fnExactSymbolNamedUptoRow.holds Try.pinned (OpenSpec.upto fnExactSymbolNamedSpec)

/-- 'laws.FnExactRelocName', WHERE WHAT IT READS IS OF BULK AT MOST 1048576: true; the input reads as it did. -/
def fnExactRelocNameUptoRow : OpenClaim := { program := "ytfepdlgmhfeljaa", sum := "c8863d16be2be80fc9201255fc165e433e3ef1819ac1772684a25768672b4c5a", func := "loop.example/g00654/laws.FnExactRelocName", spec := "fnExactRelocName", apart := false, narrowed := true }
def FnExactRelocNameUptoSaid : Prop := fnExactRelocNameUptoRow.holds Try.pinned (OpenSpec.upto fnExactRelocNameSpec)

/-- 'laws.FnExactHexOf', WHERE WHAT IT READS IS OF BULK AT MOST 1048576: true; the input reads as it did. -/
def fnExactHexOfUptoRow : OpenClaim := { program := "ytfepdlgmhfeljaa", sum := "c8863d16be2be80fc9201255fc165e433e3ef1819ac1772684a25768672b4c5a", func := "loop.example/g00654/laws.FnExactHexOf", spec := "fnExactHexOf", apart := false, narrowed := true }
def FnExactHexOfUptoSaid : Prop := fnExactHexOfUptoRow.holds Try.pinned (OpenSpec.upto fnExactHexOfSpec)

/-- 'laws.FnExactDivideU', WHERE WHAT IT READS IS OF BULK AT MOST 1048576: true; the input reads as it did. -/
def fnExactDivideUUptoRow : OpenClaim := { program := "ytfepdlgmhfeljaa", sum := "c8863d16be2be80fc9201255fc165e433e3ef1819ac1772684a25768672b4c5a", func := "loop.example/g00654/laws.FnExactDivideU", spec := "fnExactDivideU", apart := false, narrowed := true }
def FnExactDivideUUptoSaid : Prop := fnExactDivideUUptoRow.holds Try.pinned (OpenSpec.upto fnExactDivideUSpec)

/-- 'laws.FnExactNewHart', WHERE WHAT IT READS IS OF BULK AT MOST 1048576: true; the input reads as it did. -/
def fnExactNewHartUptoRow : OpenClaim := { program := "ytfepdlgmhfeljaa", sum := "c8863d16be2be80fc9201255fc165e433e3ef1819ac1772684a25768672b4c5a", func := "loop.example/g00654/laws.FnExactNewHart", spec := "fnExactNewHart", apart := false, narrowed := true }
def FnExactNewHartUptoSaid : Prop := fnExactNewHartUptoRow.holds Try.pinned (OpenSpec.upto fnExactNewHartSpec)

end Rows
end Go.Proofs.Ytfepdlgmhfeljaa
