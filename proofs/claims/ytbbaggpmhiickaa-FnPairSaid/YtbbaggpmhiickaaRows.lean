/-
  No cell of these rows narrows 'for every input' (looked for: loops, veiled, ifaces, maps, wideKeys, modest, calm, conditions, laid).
  DERIVED. THE GIVEN ROWS OF THIS SEAT. 12 by the template 'for every input the law returns true; each argument reads behind the call as it read before'; 0 by the template 'total and deterministic' (their statements: YtbbaggpmhiickaaTotals.lean).
  GIVEN WITH THE SEED: the statements are not yours to turn. If you find one false, say at which input.
  Laid BY PROGRAM, IN A SANDBOX (cutbox-rows.mjs): the forced cells as the released guide's own fill.sh prints them over the translation cd57df48fba8ce4f… (all of the seat's roots in one cut). By AI agents, Wed Nov 11 2026. No macro, syntax, notation, axiom, sorry.
-/
import Derived.Test.YtbbaggpmhiickaaChecked
import GoSem.Claim
import GoSem.ClaimJoined
import GoSem.ClaimMapViews
import Derived.JoinedTies
import Derived.KernelRfl
namespace Go.Proofs.Ytbbaggpmhiickaa
/- THE CELL 'sum', in the pinned program and in every row, IS THE sha256 OF THE DUMP (.gsa) THAT YtbbaggpmhiickaaProg.lean LOADS. Nothing in Lean hashes anything: it is a label: what it is worth is what the hold of that sum in a sandbox is worth. -/
noncomputable def Try.pinned : Pinned := { name := "ytbbaggpmhiickaa", sum := "cd57df48fba8ce4fc8439927cf3da6b9d6bb88d7dd285c4ab1c5a324f2ec40ea", checked := Try.checked }
namespace Rows
def none {H : Type} : Left H := { results := [], args := [] }

/-- 'laws.FnFields': WHATEVER THE INPUT: true; the input reads as it did. -/
def fnFieldsSpec : ChangeSpec := { name := "fnFields", fn := fun _ => fun
  | [d1, d2] => { results := [.lit (.bool true)], args := [d1, d2] }
  | _ => none }
def fnFieldsRow : OpenClaim := { program := "ytbbaggpmhiickaa", sum := "cd57df48fba8ce4fc8439927cf3da6b9d6bb88d7dd285c4ab1c5a324f2ec40ea", func := "loop.example/g00654/laws.FnFields", spec := "fnFields", apart := false }
def FnFieldsSaid : Prop := fnFieldsRow.holds Try.pinned (OpenSpec.ofChange fnFieldsSpec)

/-- ITS FALSE NEIGHBOUR: 'it returns false'. Refute it at one input. -/
def fnFieldsWrong : ChangeSpec := { name := "fnFields", fn := fun _ => fun
  | [d1, d2] => { results := [.lit (.bool false)], args := [d1, d2] }
  | _ => none }
def FnFieldsWrongFalsely : Prop := fnFieldsRow.holds Try.pinned (OpenSpec.ofChange fnFieldsWrong)

/-- 'laws.FnPair': WHATEVER THE INPUT: true; the input reads as it did. -/
def fnPairSpec : ChangeSpec := { name := "fnPair", fn := fun _ => fun
  | [d1, d2] => { results := [.lit (.bool true)], args := [d1, d2] }
  | _ => none }
def fnPairRow : OpenClaim := { program := "ytbbaggpmhiickaa", sum := "cd57df48fba8ce4fc8439927cf3da6b9d6bb88d7dd285c4ab1c5a324f2ec40ea", func := "loop.example/g00654/laws.FnPair", spec := "fnPair", apart := false }
def FnPairSaid : Prop := fnPairRow.holds Try.pinned (OpenSpec.ofChange fnPairSpec)

/-- ITS FALSE NEIGHBOUR: 'it returns false'. Refute it at one input. -/
def fnPairWrong : ChangeSpec := { name := "fnPair", fn := fun _ => fun
  | [d1, d2] => { results := [.lit (.bool false)], args := [d1, d2] }
  | _ => none }
def FnPairWrongFalsely : Prop := fnPairRow.holds Try.pinned (OpenSpec.ofChange fnPairWrong)

/-- 'laws.FnExactTrampoline': WHATEVER THE INPUT: true; the input reads as it did. -/
def fnExactTrampolineSpec : ChangeSpec := { name := "fnExactTrampoline", fn := fun _ => fun
  | [d1, d2] => { results := [.lit (.bool true)], args := [d1, d2] }
  | _ => none }
def fnExactTrampolineRow : OpenClaim := { program := "ytbbaggpmhiickaa", sum := "cd57df48fba8ce4fc8439927cf3da6b9d6bb88d7dd285c4ab1c5a324f2ec40ea", func := "loop.example/g00654/laws.FnExactTrampoline", spec := "fnExactTrampoline", apart := false }
def FnExactTrampolineSaid : Prop := fnExactTrampolineRow.holds Try.pinned (OpenSpec.ofChange fnExactTrampolineSpec)

/-- ITS FALSE NEIGHBOUR: 'it returns false'. Refute it at one input. -/
def fnExactTrampolineWrong : ChangeSpec := { name := "fnExactTrampoline", fn := fun _ => fun
  | [d1, d2] => { results := [.lit (.bool false)], args := [d1, d2] }
  | _ => none }
def FnExactTrampolineWrongFalsely : Prop := fnExactTrampolineRow.holds Try.pinned (OpenSpec.ofChange fnExactTrampolineWrong)

/-- 'laws.FnExactCompute': WHATEVER THE INPUT: true; the input reads as it did. -/
def fnExactComputeSpec : ChangeSpec := { name := "fnExactCompute", fn := fun _ => fun
  | [d1, d2, d3] => { results := [.lit (.bool true)], args := [d1, d2, d3] }
  | _ => none }
def fnExactComputeRow : OpenClaim := { program := "ytbbaggpmhiickaa", sum := "cd57df48fba8ce4fc8439927cf3da6b9d6bb88d7dd285c4ab1c5a324f2ec40ea", func := "loop.example/g00654/laws.FnExactCompute", spec := "fnExactCompute", apart := false }
def FnExactComputeSaid : Prop := fnExactComputeRow.holds Try.pinned (OpenSpec.ofChange fnExactComputeSpec)

/-- ITS FALSE NEIGHBOUR: 'it returns false'. Refute it at one input. -/
def fnExactComputeWrong : ChangeSpec := { name := "fnExactCompute", fn := fun _ => fun
  | [d1, d2, d3] => { results := [.lit (.bool false)], args := [d1, d2, d3] }
  | _ => none }
def FnExactComputeWrongFalsely : Prop := fnExactComputeRow.holds Try.pinned (OpenSpec.ofChange fnExactComputeWrong)

/-- 'laws.FnDivide': WHATEVER THE INPUT: true; the input reads as it did. -/
def fnDivideSpec : ChangeSpec := { name := "fnDivide", fn := fun _ => fun
  | [d1, d2] => { results := [.lit (.bool true)], args := [d1, d2] }
  | _ => none }
def fnDivideRow : OpenClaim := { program := "ytbbaggpmhiickaa", sum := "cd57df48fba8ce4fc8439927cf3da6b9d6bb88d7dd285c4ab1c5a324f2ec40ea", func := "loop.example/g00654/laws.FnDivide", spec := "fnDivide", apart := false }
def FnDivideSaid : Prop := fnDivideRow.holds Try.pinned (OpenSpec.ofChange fnDivideSpec)

/-- ITS FALSE NEIGHBOUR: 'it returns false'. Refute it at one input. -/
def fnDivideWrong : ChangeSpec := { name := "fnDivide", fn := fun _ => fun
  | [d1, d2] => { results := [.lit (.bool false)], args := [d1, d2] }
  | _ => none }
def FnDivideWrongFalsely : Prop := fnDivideRow.holds Try.pinned (OpenSpec.ofChange fnDivideWrong)

/-- 'laws.FnCompute': WHATEVER THE INPUT: true; the input reads as it did. -/
def fnComputeSpec : ChangeSpec := { name := "fnCompute", fn := fun _ => fun
  | [d1, d2] => { results := [.lit (.bool true)], args := [d1, d2] }
  | _ => none }
def fnComputeRow : OpenClaim := { program := "ytbbaggpmhiickaa", sum := "cd57df48fba8ce4fc8439927cf3da6b9d6bb88d7dd285c4ab1c5a324f2ec40ea", func := "loop.example/g00654/laws.FnCompute", spec := "fnCompute", apart := false }
def FnComputeSaid : Prop := fnComputeRow.holds Try.pinned (OpenSpec.ofChange fnComputeSpec)

/-- ITS FALSE NEIGHBOUR: 'it returns false'. Refute it at one input. -/
def fnComputeWrong : ChangeSpec := { name := "fnCompute", fn := fun _ => fun
  | [d1, d2] => { results := [.lit (.bool false)], args := [d1, d2] }
  | _ => none }
def FnComputeWrongFalsely : Prop := fnComputeRow.holds Try.pinned (OpenSpec.ofChange fnComputeWrong)

/-- 'laws.FnExactDecode': WHATEVER THE INPUT: true; the input reads as it did. -/
def fnExactDecodeSpec : ChangeSpec := { name := "fnExactDecode", fn := fun _ => fun
  | [d] => { results := [.lit (.bool true)], args := [d] }
  | _ => none }
def fnExactDecodeRow : OpenClaim := { program := "ytbbaggpmhiickaa", sum := "cd57df48fba8ce4fc8439927cf3da6b9d6bb88d7dd285c4ab1c5a324f2ec40ea", func := "loop.example/g00654/laws.FnExactDecode", spec := "fnExactDecode", apart := false }
def FnExactDecodeSaid : Prop := fnExactDecodeRow.holds Try.pinned (OpenSpec.ofChange fnExactDecodeSpec)

/-- ITS FALSE NEIGHBOUR: 'it returns false'. Refute it at one input. -/
def fnExactDecodeWrong : ChangeSpec := { name := "fnExactDecode", fn := fun _ => fun
  | [d] => { results := [.lit (.bool false)], args := [d] }
  | _ => none }
def FnExactDecodeWrongFalsely : Prop := fnExactDecodeRow.holds Try.pinned (OpenSpec.ofChange fnExactDecodeWrong)

/-- 'laws.FnExactPhaseOf': WHATEVER THE INPUT: true; the input reads as it did. -/
def fnExactPhaseOfSpec : ChangeSpec := { name := "fnExactPhaseOf", fn := fun _ => fun
  | [d1, d2] => { results := [.lit (.bool true)], args := [d1, d2] }
  | _ => none }
def fnExactPhaseOfRow : OpenClaim := { program := "ytbbaggpmhiickaa", sum := "cd57df48fba8ce4fc8439927cf3da6b9d6bb88d7dd285c4ab1c5a324f2ec40ea", func := "loop.example/g00654/laws.FnExactPhaseOf", spec := "fnExactPhaseOf", apart := false }
def FnExactPhaseOfSaid : Prop := fnExactPhaseOfRow.holds Try.pinned (OpenSpec.ofChange fnExactPhaseOfSpec)

/-- ITS FALSE NEIGHBOUR: 'it returns false'. Refute it at one input. -/
def fnExactPhaseOfWrong : ChangeSpec := { name := "fnExactPhaseOf", fn := fun _ => fun
  | [d1, d2] => { results := [.lit (.bool false)], args := [d1, d2] }
  | _ => none }
def FnExactPhaseOfWrongFalsely : Prop := fnExactPhaseOfRow.holds Try.pinned (OpenSpec.ofChange fnExactPhaseOfWrong)

/-- 'laws.FnExactInstrsOf': WHATEVER THE INPUT: true; the input reads as it did. -/
def fnExactInstrsOfSpec : ChangeSpec := { name := "fnExactInstrsOf", fn := fun _ => fun
  | [d] => { results := [.lit (.bool true)], args := [d] }
  | _ => none }
def fnExactInstrsOfRow : OpenClaim := { program := "ytbbaggpmhiickaa", sum := "cd57df48fba8ce4fc8439927cf3da6b9d6bb88d7dd285c4ab1c5a324f2ec40ea", func := "loop.example/g00654/laws.FnExactInstrsOf", spec := "fnExactInstrsOf", apart := false }
def FnExactInstrsOfSaid : Prop := fnExactInstrsOfRow.holds Try.pinned (OpenSpec.ofChange fnExactInstrsOfSpec)

/-- ITS FALSE NEIGHBOUR: 'it returns false'. Refute it at one input. -/
def fnExactInstrsOfWrong : ChangeSpec := { name := "fnExactInstrsOf", fn := fun _ => fun
  | [d] => { results := [.lit (.bool false)], args := [d] }
  | _ => none }
def FnExactInstrsOfWrongFalsely : Prop := fnExactInstrsOfRow.holds Try.pinned (OpenSpec.ofChange fnExactInstrsOfWrong)

/-- 'laws.FnExactInstrOK': WHATEVER THE INPUT: true; the input reads as it did. -/
def fnExactInstrOKSpec : ChangeSpec := { name := "fnExactInstrOK", fn := fun _ => fun
  | [d] => { results := [.lit (.bool true)], args := [d] }
  | _ => none }
def fnExactInstrOKRow : OpenClaim := { program := "ytbbaggpmhiickaa", sum := "cd57df48fba8ce4fc8439927cf3da6b9d6bb88d7dd285c4ab1c5a324f2ec40ea", func := "loop.example/g00654/laws.FnExactInstrOK", spec := "fnExactInstrOK", apart := false }
def FnExactInstrOKSaid : Prop := fnExactInstrOKRow.holds Try.pinned (OpenSpec.ofChange fnExactInstrOKSpec)

/-- ITS FALSE NEIGHBOUR: 'it returns false'. Refute it at one input. -/
def fnExactInstrOKWrong : ChangeSpec := { name := "fnExactInstrOK", fn := fun _ => fun
  | [d] => { results := [.lit (.bool false)], args := [d] }
  | _ => none }
def FnExactInstrOKWrongFalsely : Prop := fnExactInstrOKRow.holds Try.pinned (OpenSpec.ofChange fnExactInstrOKWrong)

/-- 'laws.FnExactEncode': WHATEVER THE INPUT: true; the input reads as it did. -/
def fnExactEncodeSpec : ChangeSpec := { name := "fnExactEncode", fn := fun _ => fun
  | [d] => { results := [.lit (.bool true)], args := [d] }
  | _ => none }
def fnExactEncodeRow : OpenClaim := { program := "ytbbaggpmhiickaa", sum := "cd57df48fba8ce4fc8439927cf3da6b9d6bb88d7dd285c4ab1c5a324f2ec40ea", func := "loop.example/g00654/laws.FnExactEncode", spec := "fnExactEncode", apart := false }
def FnExactEncodeSaid : Prop := fnExactEncodeRow.holds Try.pinned (OpenSpec.ofChange fnExactEncodeSpec)

/-- ITS FALSE NEIGHBOUR: 'it returns false'. Refute it at one input. -/
def fnExactEncodeWrong : ChangeSpec := { name := "fnExactEncode", fn := fun _ => fun
  | [d] => { results := [.lit (.bool false)], args := [d] }
  | _ => none }
def FnExactEncodeWrongFalsely : Prop := fnExactEncodeRow.holds Try.pinned (OpenSpec.ofChange fnExactEncodeWrong)

/-- 'laws.FnExactWordsOf': WHATEVER THE INPUT: true; the input reads as it did. -/
def fnExactWordsOfSpec : ChangeSpec := { name := "fnExactWordsOf", fn := fun _ => fun
  | [d] => { results := [.lit (.bool true)], args := [d] }
  | _ => none }
def fnExactWordsOfRow : OpenClaim := { program := "ytbbaggpmhiickaa", sum := "cd57df48fba8ce4fc8439927cf3da6b9d6bb88d7dd285c4ab1c5a324f2ec40ea", func := "loop.example/g00654/laws.FnExactWordsOf", spec := "fnExactWordsOf", apart := false }
def FnExactWordsOfSaid : Prop := fnExactWordsOfRow.holds Try.pinned (OpenSpec.ofChange fnExactWordsOfSpec)

/-- ITS FALSE NEIGHBOUR: 'it returns false'. Refute it at one input. -/
def fnExactWordsOfWrong : ChangeSpec := { name := "fnExactWordsOf", fn := fun _ => fun
  | [d] => { results := [.lit (.bool false)], args := [d] }
  | _ => none }
def FnExactWordsOfWrongFalsely : Prop := fnExactWordsOfRow.holds Try.pinned (OpenSpec.ofChange fnExactWordsOfWrong)

/- THE SECOND FORM. 'bulk': how many values and letters a reading holds, each counted each time it is reached (what is shared counts as often as it is met; a slice's spare places count too). A statement '..UptoSaid' is the law's where the arguments, and the package variables that the reading takes, are together of bulk at most 1048576: NARROWER than '..Said'. Prove '..Said' where nothing that the law and all that it calls make is longer than what came in: it says more and counts as full. Else prove '..UptoSaid'. A law counts once. -/
mutual
def uptoBulk {H : Type} : DataW H → Nat
  | .lit (.string bytes) => bytes.length + 1
  | .lit _ => 1
  | .nil => 1
  | .ptr d => uptoBulk d + 1
  | .slice elems spare => uptoBulkAll elems + uptoBulkAll spare + 1
  | .agg parts => uptoBulkAll parts + 1
  | .iface _ d => uptoBulk d + 1
  | .map entries => uptoBulkEntries entries + 1
  | .held _ => 1
def uptoBulkAll {H : Type} : List (DataW H) → Nat
  | [] => 0
  | d :: r => uptoBulk d + uptoBulkAll r
def uptoBulkEntries {H : Type} : List (Lit × DataW H) → Nat
  | [] => 0
  | x :: r => uptoBulkEntry x + uptoBulkEntries r
def uptoBulkEntry {H : Type} : Lit × DataW H → Nat
  | (.string bytes, d) => bytes.length + uptoBulk d + 1
  | (_, d) => uptoBulk d + 1
 end
def uptoSmall : (H : Type) → List (DataW H) → Bool := fun _ ds => decide (uptoBulkAll ds ≤ 1048576)
def OpenSpec.upto (s : _root_.Go.ChangeSpec) : _root_.Go.OpenSpec := { _root_.Go.OpenSpec.ofChange s with cond := some uptoSmall }

/-- 'laws.FnFields', WHERE WHAT IT READS IS OF BULK AT MOST 1048576: true; the input reads as it did. -/
def fnFieldsUptoRow : OpenClaim := { program := "ytbbaggpmhiickaa", sum := "cd57df48fba8ce4fc8439927cf3da6b9d6bb88d7dd285c4ab1c5a324f2ec40ea", func := "loop.example/g00654/laws.FnFields", spec := "fnFields", apart := false, narrowed := true }
def FnFieldsUptoSaid : Prop := fnFieldsUptoRow.holds Try.pinned (OpenSpec.upto fnFieldsSpec)

/-- 'laws.FnPair', WHERE WHAT IT READS IS OF BULK AT MOST 1048576: true; the input reads as it did. -/
def fnPairUptoRow : OpenClaim := { program := "ytbbaggpmhiickaa", sum := "cd57df48fba8ce4fc8439927cf3da6b9d6bb88d7dd285c4ab1c5a324f2ec40ea", func := "loop.example/g00654/laws.FnPair", spec := "fnPair", apart := false, narrowed := true }
def FnPairUptoSaid : Prop := fnPairUptoRow.holds Try.pinned (OpenSpec.upto fnPairSpec)

/-- 'laws.FnExactTrampoline', WHERE WHAT IT READS IS OF BULK AT MOST 1048576: true; the input reads as it did. -/
def fnExactTrampolineUptoRow : OpenClaim := { program := "ytbbaggpmhiickaa", sum := "cd57df48fba8ce4fc8439927cf3da6b9d6bb88d7dd285c4ab1c5a324f2ec40ea", func := "loop.example/g00654/laws.FnExactTrampoline", spec := "fnExactTrampoline", apart := false, narrowed := true }
def FnExactTrampolineUptoSaid : Prop := fnExactTrampolineUptoRow.holds Try.pinned (OpenSpec.upto fnExactTrampolineSpec)

/-- 'laws.FnExactCompute', WHERE WHAT IT READS IS OF BULK AT MOST 1048576: true; the input reads as it did. -/
def fnExactComputeUptoRow : OpenClaim := { program := "ytbbaggpmhiickaa", sum := "cd57df48fba8ce4fc8439927cf3da6b9d6bb88d7dd285c4ab1c5a324f2ec40ea", func := "loop.example/g00654/laws.FnExactCompute", spec := "fnExactCompute", apart := false, narrowed := true }
def FnExactComputeUptoSaid : Prop := fnExactComputeUptoRow.holds Try.pinned (OpenSpec.upto fnExactComputeSpec)

/-- 'laws.FnDivide', WHERE WHAT IT READS IS OF BULK AT MOST 1048576: true; the input reads as it did. -/
def fnDivideUptoRow : OpenClaim := { program := "ytbbaggpmhiickaa", sum := "cd57df48fba8ce4fc8439927cf3da6b9d6bb88d7dd285c4ab1c5a324f2ec40ea", func := "loop.example/g00654/laws.FnDivide", spec := "fnDivide", apart := false, narrowed := true }
def FnDivideUptoSaid : Prop := fnDivideUptoRow.holds Try.pinned (OpenSpec.upto fnDivideSpec)

/-- 'laws.FnCompute', WHERE WHAT IT READS IS OF BULK AT MOST 1048576: true; the input reads as it did. -/
def fnComputeUptoRow : OpenClaim := { program := "ytbbaggpmhiickaa", sum := "cd57df48fba8ce4fc8439927cf3da6b9d6bb88d7dd285c4ab1c5a324f2ec40ea", func := "loop.example/g00654/laws.FnCompute", spec := "fnCompute", apart := false, narrowed := true }
def FnComputeUptoSaid : Prop := fnComputeUptoRow.holds Try.pinned (OpenSpec.upto fnComputeSpec)

/-- 'laws.FnExactDecode', WHERE WHAT IT READS IS OF BULK AT MOST 1048576: true; the input reads as it did. -/
def fnExactDecodeUptoRow : OpenClaim := { program := "ytbbaggpmhiickaa", sum := "cd57df48fba8ce4fc8439927cf3da6b9d6bb88d7dd285c4ab1c5a324f2ec40ea", func := "loop.example/g00654/laws.FnExactDecode", spec := "fnExactDecode", apart := false, narrowed := true }
def FnExactDecodeUptoSaid : Prop := fnExactDecodeUptoRow.holds Try.pinned (OpenSpec.upto fnExactDecodeSpec)

/-- 'laws.FnExactPhaseOf', WHERE WHAT IT READS IS OF BULK AT MOST 1048576: true; the input reads as it did. -/
def fnExactPhaseOfUptoRow : OpenClaim := { program := "ytbbaggpmhiickaa", sum := "cd57df48fba8ce4fc8439927cf3da6b9d6bb88d7dd285c4ab1c5a324f2ec40ea", func := "loop.example/g00654/laws.FnExactPhaseOf", spec := "fnExactPhaseOf", apart := false, narrowed := true }
def FnExactPhaseOfUptoSaid : Prop := fnExactPhaseOfUptoRow.holds Try.pinned (OpenSpec.upto fnExactPhaseOfSpec)

/-- 'laws.FnExactInstrsOf', WHERE WHAT IT READS IS OF BULK AT MOST 1048576: true; the input reads as it did. -/
def fnExactInstrsOfUptoRow : OpenClaim := { program := "ytbbaggpmhiickaa", sum := "cd57df48fba8ce4fc8439927cf3da6b9d6bb88d7dd285c4ab1c5a324f2ec40ea", func := "loop.example/g00654/laws.FnExactInstrsOf", spec := "fnExactInstrsOf", apart := false, narrowed := true }
def FnExactInstrsOfUptoSaid : Prop := fnExactInstrsOfUptoRow.holds Try.pinned (OpenSpec.upto fnExactInstrsOfSpec)

/-- 'laws.FnExactInstrOK', WHERE WHAT IT READS IS OF BULK AT MOST 1048576: true; the input reads as it did. -/
def fnExactInstrOKUptoRow : OpenClaim := { program := "ytbbaggpmhiickaa", sum := "cd57df48fba8ce4fc8439927cf3da6b9d6bb88d7dd285c4ab1c5a324f2ec40ea", func := "loop.example/g00654/laws.FnExactInstrOK", spec := "fnExactInstrOK", apart := false, narrowed := true }
def FnExactInstrOKUptoSaid : Prop := fnExactInstrOKUptoRow.holds Try.pinned (OpenSpec.upto fnExactInstrOKSpec)

/-- 'laws.FnExactEncode', WHERE WHAT IT READS IS OF BULK AT MOST 1048576: true; the input reads as it did. -/
def fnExactEncodeUptoRow : OpenClaim := { program := "ytbbaggpmhiickaa", sum := "cd57df48fba8ce4fc8439927cf3da6b9d6bb88d7dd285c4ab1c5a324f2ec40ea", func := "loop.example/g00654/laws.FnExactEncode", spec := "fnExactEncode", apart := false, narrowed := true }
def FnExactEncodeUptoSaid : Prop := fnExactEncodeUptoRow.holds Try.pinned (OpenSpec.upto fnExactEncodeSpec)

/-- 'laws.FnExactWordsOf', WHERE WHAT IT READS IS OF BULK AT MOST 1048576: true; the input reads as it did. -/
def fnExactWordsOfUptoRow : OpenClaim := { program := "ytbbaggpmhiickaa", sum := "cd57df48fba8ce4fc8439927cf3da6b9d6bb88d7dd285c4ab1c5a324f2ec40ea", func := "loop.example/g00654/laws.FnExactWordsOf", spec := "fnExactWordsOf", apart := false, narrowed := true }
def FnExactWordsOfUptoSaid : Prop := fnExactWordsOfUptoRow.holds Try.pinned (OpenSpec.upto fnExactWordsOfSpec)

end Rows
end Go.Proofs.Ytbbaggpmhiickaa
