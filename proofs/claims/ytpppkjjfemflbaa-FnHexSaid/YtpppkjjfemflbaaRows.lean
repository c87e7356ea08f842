/-
  No cell of these rows narrows 'for every input' (looked for: loops, veiled, ifaces, maps, wideKeys, modest, calm, conditions, laid).
  DERIVED. THE GIVEN ROWS OF THIS SEAT. 12 by the template 'for every input the law returns true; each argument reads behind the call as it read before'; 0 by the template 'total and deterministic' (their statements: YtpppkjjfemflbaaTotals.lean).
  GIVEN WITH THE SEED: the statements are not yours to turn. If you find one false, say at which input.
  Laid BY PROGRAM, IN A SANDBOX (cutbox-rows.mjs): the forced cells as the released guide's own fill.sh prints them over the translation faeee9b08f185bc4… (all of the seat's roots in one cut). By AI agents, Wed Nov 11 2026. No macro, syntax, notation, axiom, sorry.
-/
import Derived.Test.YtpppkjjfemflbaaChecked
import GoSem.Claim
import GoSem.ClaimJoined
import GoSem.ClaimMapViews
import Derived.JoinedTies
import Derived.KernelRfl
namespace Go.Proofs.Ytpppkjjfemflbaa
/- THE CELL 'sum', in the pinned program and in every row, IS THE sha256 OF THE DUMP (.gsa) THAT YtpppkjjfemflbaaProg.lean LOADS. Nothing in Lean hashes anything: it is a label: what it is worth is what the hold of that sum in a sandbox is worth. -/
noncomputable def Try.pinned : Pinned := { name := "ytpppkjjfemflbaa", sum := "faeee9b08f185bc47e88ca561a2b22075acfc79d4e5e045c66141e8c26dade63", checked := Try.checked }
namespace Rows
def none {H : Type} : Left H := { results := [], args := [] }

/-- 'laws.FnExactOpName': WHATEVER THE INPUT: true; the input reads as it did. -/
def fnExactOpNameSpec : ChangeSpec := { name := "fnExactOpName", fn := fun _ => fun
  | [d] => { results := [.lit (.bool true)], args := [d] }
  | _ => none }
def fnExactOpNameRow : OpenClaim := { program := "ytpppkjjfemflbaa", sum := "faeee9b08f185bc47e88ca561a2b22075acfc79d4e5e045c66141e8c26dade63", func := "loop.example/g00654/laws.FnExactOpName", spec := "fnExactOpName", apart := false }
def FnExactOpNameSaid : Prop := fnExactOpNameRow.holds Try.pinned (OpenSpec.ofChange fnExactOpNameSpec)

/-- ITS FALSE NEIGHBOUR: 'it returns false'. Refute it at one input. -/
def fnExactOpNameWrong : ChangeSpec := { name := "fnExactOpName", fn := fun _ => fun
  | [d] => { results := [.lit (.bool false)], args := [d] }
  | _ => none }
def FnExactOpNameWrongFalsely : Prop := fnExactOpNameRow.holds Try.pinned (OpenSpec.ofChange fnExactOpNameWrong)

/-- 'laws.FnExactOpOf': WHATEVER THE INPUT: true; the input reads as it did. -/
def fnExactOpOfSpec : ChangeSpec := { name := "fnExactOpOf", fn := fun _ => fun
  | [d] => { results := [.lit (.bool true)], args := [d] }
  | _ => none }
def fnExactOpOfRow : OpenClaim := { program := "ytpppkjjfemflbaa", sum := "faeee9b08f185bc47e88ca561a2b22075acfc79d4e5e045c66141e8c26dade63", func := "loop.example/g00654/laws.FnExactOpOf", spec := "fnExactOpOf", unfollowed := true, recurses := true, apart := false }
def FnExactOpOfSaid : Prop := fnExactOpOfRow.holds Try.pinned (OpenSpec.ofChange fnExactOpOfSpec)

/-- ITS FALSE NEIGHBOUR: 'it returns false'. Refute it at one input. -/
def fnExactOpOfWrong : ChangeSpec := { name := "fnExactOpOf", fn := fun _ => fun
  | [d] => { results := [.lit (.bool false)], args := [d] }
  | _ => none }
def FnExactOpOfWrongFalsely : Prop := fnExactOpOfRow.holds Try.pinned (OpenSpec.ofChange fnExactOpOfWrong)

/-- 'laws.FnExactWidthOf': WHATEVER THE INPUT: true; the input reads as it did. -/
def fnExactWidthOfSpec : ChangeSpec := { name := "fnExactWidthOf", fn := fun _ => fun
  | [d] => { results := [.lit (.bool true)], args := [d] }
  | _ => none }
def fnExactWidthOfRow : OpenClaim := { program := "ytpppkjjfemflbaa", sum := "faeee9b08f185bc47e88ca561a2b22075acfc79d4e5e045c66141e8c26dade63", func := "loop.example/g00654/laws.FnExactWidthOf", spec := "fnExactWidthOf", apart := false }
def FnExactWidthOfSaid : Prop := fnExactWidthOfRow.holds Try.pinned (OpenSpec.ofChange fnExactWidthOfSpec)

/-- ITS FALSE NEIGHBOUR: 'it returns false'. Refute it at one input. -/
def fnExactWidthOfWrong : ChangeSpec := { name := "fnExactWidthOf", fn := fun _ => fun
  | [d] => { results := [.lit (.bool false)], args := [d] }
  | _ => none }
def FnExactWidthOfWrongFalsely : Prop := fnExactWidthOfRow.holds Try.pinned (OpenSpec.ofChange fnExactWidthOfWrong)

/-- 'laws.FnSums': WHATEVER THE INPUT: true; the input reads as it did. -/
def fnSumsSpec : ChangeSpec := { name := "fnSums", fn := fun _ => fun
  | [d1, d2] => { results := [.lit (.bool true)], args := [d1, d2] }
  | _ => none }
def fnSumsRow : OpenClaim := { program := "ytpppkjjfemflbaa", sum := "faeee9b08f185bc47e88ca561a2b22075acfc79d4e5e045c66141e8c26dade63", func := "loop.example/g00654/laws.FnSums", spec := "fnSums", apart := false }
def FnSumsSaid : Prop := fnSumsRow.holds Try.pinned (OpenSpec.ofChange fnSumsSpec)

/-- ITS FALSE NEIGHBOUR: 'it returns false'. Refute it at one input. -/
def fnSumsWrong : ChangeSpec := { name := "fnSums", fn := fun _ => fun
  | [d1, d2] => { results := [.lit (.bool false)], args := [d1, d2] }
  | _ => none }
def FnSumsWrongFalsely : Prop := fnSumsRow.holds Try.pinned (OpenSpec.ofChange fnSumsWrong)

/-- 'laws.FnExactSplitAddress': WHATEVER THE INPUT: true; the input reads as it did. -/
def fnExactSplitAddressSpec : ChangeSpec := { name := "fnExactSplitAddress", fn := fun _ => fun
  | [d] => { results := [.lit (.bool true)], args := [d] }
  | _ => none }
def fnExactSplitAddressRow : OpenClaim := { program := "ytpppkjjfemflbaa", sum := "faeee9b08f185bc47e88ca561a2b22075acfc79d4e5e045c66141e8c26dade63", func := "loop.example/g00654/laws.FnExactSplitAddress", spec := "fnExactSplitAddress", apart := false }
def FnExactSplitAddressSaid : Prop := fnExactSplitAddressRow.holds Try.pinned (OpenSpec.ofChange fnExactSplitAddressSpec)

/-- ITS FALSE NEIGHBOUR: 'it returns false'. Refute it at one input. -/
def fnExactSplitAddressWrong : ChangeSpec := { name := "fnExactSplitAddress", fn := fun _ => fun
  | [d] => { results := [.lit (.bool false)], args := [d] }
  | _ => none }
def FnExactSplitAddressWrongFalsely : Prop := fnExactSplitAddressRow.holds Try.pinned (OpenSpec.ofChange fnExactSplitAddressWrong)

/-- 'laws.FnExactBytesOf': WHATEVER THE INPUT: true; the input reads as it did. -/
def fnExactBytesOfSpec : ChangeSpec := { name := "fnExactBytesOf", fn := fun _ => fun
  | [d] => { results := [.lit (.bool true)], args := [d] }
  | _ => none }
def fnExactBytesOfRow : OpenClaim := { program := "ytpppkjjfemflbaa", sum := "faeee9b08f185bc47e88ca561a2b22075acfc79d4e5e045c66141e8c26dade63", func := "loop.example/g00654/laws.FnExactBytesOf", spec := "fnExactBytesOf", inPlace := ["internal/bytealg.IndexByteString"], apart := false }
def FnExactBytesOfSaid : Prop := fnExactBytesOfRow.holds Try.pinned (OpenSpec.ofChange fnExactBytesOfSpec)

/-- ITS FALSE NEIGHBOUR: 'it returns false'. Refute it at one input. -/
def fnExactBytesOfWrong : ChangeSpec := { name := "fnExactBytesOf", fn := fun _ => fun
  | [d] => { results := [.lit (.bool false)], args := [d] }
  | _ => none }
def FnExactBytesOfWrongFalsely : Prop := fnExactBytesOfRow.holds Try.pinned (OpenSpec.ofChange fnExactBytesOfWrong)

/-- 'laws.FnExactSetReg': WHATEVER THE INPUT: true; the input reads as it did. -/
def fnExactSetRegSpec : ChangeSpec := { name := "fnExactSetReg", fn := fun _ => fun
  | [d1, d2, d3] => { results := [.lit (.bool true)], args := [d1, d2, d3] }
  | _ => none }
def fnExactSetRegRow : OpenClaim := { program := "ytpppkjjfemflbaa", sum := "faeee9b08f185bc47e88ca561a2b22075acfc79d4e5e045c66141e8c26dade63", func := "loop.example/g00654/laws.FnExactSetReg", spec := "fnExactSetReg", apart := false }
def FnExactSetRegSaid : Prop := fnExactSetRegRow.holds Try.pinned (OpenSpec.ofChange fnExactSetRegSpec)

/-- ITS FALSE NEIGHBOUR: 'it returns false'. Refute it at one input. -/
def fnExactSetRegWrong : ChangeSpec := { name := "fnExactSetReg", fn := fun _ => fun
  | [d1, d2, d3] => { results := [.lit (.bool false)], args := [d1, d2, d3] }
  | _ => none }
def FnExactSetRegWrongFalsely : Prop := fnExactSetRegRow.holds Try.pinned (OpenSpec.ofChange fnExactSetRegWrong)

/-- 'laws.FnFields': WHATEVER THE INPUT: true; the input reads as it did. -/
def fnFieldsSpec : ChangeSpec := { name := "fnFields", fn := fun _ => fun
  | [d1, d2] => { results := [.lit (.bool true)], args := [d1, d2] }
  | _ => none }
def fnFieldsRow : OpenClaim := { program := "ytpppkjjfemflbaa", sum := "faeee9b08f185bc47e88ca561a2b22075acfc79d4e5e045c66141e8c26dade63", func := "loop.example/g00654/laws.FnFields", spec := "fnFields", apart := false }
def FnFieldsSaid : Prop := fnFieldsRow.holds Try.pinned (OpenSpec.ofChange fnFieldsSpec)

/-- ITS FALSE NEIGHBOUR: 'it returns false'. Refute it at one input. -/
def fnFieldsWrong : ChangeSpec := { name := "fnFields", fn := fun _ => fun
  | [d1, d2] => { results := [.lit (.bool false)], args := [d1, d2] }
  | _ => none }
def FnFieldsWrongFalsely : Prop := fnFieldsRow.holds Try.pinned (OpenSpec.ofChange fnFieldsWrong)

/-- 'laws.FnHex': WHATEVER THE INPUT: true; the input reads as it did. -/
def fnHexSpec : ChangeSpec := { name := "fnHex", fn := fun _ => fun
  | [d1, d2] => { results := [.lit (.bool true)], args := [d1, d2] }
  | _ => none }
def fnHexRow : OpenClaim := { program := "ytpppkjjfemflbaa", sum := "faeee9b08f185bc47e88ca561a2b22075acfc79d4e5e045c66141e8c26dade63", func := "loop.example/g00654/laws.FnHex", spec := "fnHex", inPlace := ["internal/bytealg.IndexByteString"], apart := false }
def FnHexSaid : Prop := fnHexRow.holds Try.pinned (OpenSpec.ofChange fnHexSpec)

/-- ITS FALSE NEIGHBOUR: 'it returns false'. Refute it at one input. -/
def fnHexWrong : ChangeSpec := { name := "fnHex", fn := fun _ => fun
  | [d1, d2] => { results := [.lit (.bool false)], args := [d1, d2] }
  | _ => none }
def FnHexWrongFalsely : Prop := fnHexRow.holds Try.pinned (OpenSpec.ofChange fnHexWrong)

/-- 'laws.FnExactEpilogue': WHATEVER THE INPUT: true; the input reads as it did. -/
def fnExactEpilogueSpec : ChangeSpec := { name := "fnExactEpilogue", fn := fun _ => fun
  | [d] => { results := [.lit (.bool true)], args := [d] }
  | _ => none }
def fnExactEpilogueRow : OpenClaim := { program := "ytpppkjjfemflbaa", sum := "faeee9b08f185bc47e88ca561a2b22075acfc79d4e5e045c66141e8c26dade63", func := "loop.example/g00654/laws.FnExactEpilogue", spec := "fnExactEpilogue", apart := false }
def FnExactEpilogueSaid : Prop := fnExactEpilogueRow.holds Try.pinned (OpenSpec.ofChange fnExactEpilogueSpec)

/-- ITS FALSE NEIGHBOUR: 'it returns false'. Refute it at one input. -/
def fnExactEpilogueWrong : ChangeSpec := { name := "fnExactEpilogue", fn := fun _ => fun
  | [d] => { results := [.lit (.bool false)], args := [d] }
  | _ => none }
def FnExactEpilogueWrongFalsely : Prop := fnExactEpilogueRow.holds Try.pinned (OpenSpec.ofChange fnExactEpilogueWrong)

/-- 'laws.FnExactPrologue': WHATEVER THE INPUT: true; the input reads as it did. -/
def fnExactPrologueSpec : ChangeSpec := { name := "fnExactPrologue", fn := fun _ => fun
  | [d] => { results := [.lit (.bool true)], args := [d] }
  | _ => none }
def fnExactPrologueRow : OpenClaim := { program := "ytpppkjjfemflbaa", sum := "faeee9b08f185bc47e88ca561a2b22075acfc79d4e5e045c66141e8c26dade63", func := "loop.example/g00654/laws.FnExactPrologue", spec := "fnExactPrologue", apart := false }
def FnExactPrologueSaid : Prop := fnExactPrologueRow.holds Try.pinned (OpenSpec.ofChange fnExactPrologueSpec)

/-- ITS FALSE NEIGHBOUR: 'it returns false'. Refute it at one input. -/
def fnExactPrologueWrong : ChangeSpec := { name := "fnExactPrologue", fn := fun _ => fun
  | [d] => { results := [.lit (.bool false)], args := [d] }
  | _ => none }
def FnExactPrologueWrongFalsely : Prop := fnExactPrologueRow.holds Try.pinned (OpenSpec.ofChange fnExactPrologueWrong)

/-- 'laws.FnExactMemoryOK': WHATEVER THE INPUT: true; the input reads as it did. -/
def fnExactMemoryOKSpec : ChangeSpec := { name := "fnExactMemoryOK", fn := fun _ => fun
  | [d] => { results := [.lit (.bool true)], args := [d] }
  | _ => none }
def fnExactMemoryOKRow : OpenClaim := { program := "ytpppkjjfemflbaa", sum := "faeee9b08f185bc47e88ca561a2b22075acfc79d4e5e045c66141e8c26dade63", func := "loop.example/g00654/laws.FnExactMemoryOK", spec := "fnExactMemoryOK", apart := false }
def FnExactMemoryOKSaid : Prop := fnExactMemoryOKRow.holds Try.pinned (OpenSpec.ofChange fnExactMemoryOKSpec)

/-- ITS FALSE NEIGHBOUR: 'it returns false'. Refute it at one input. -/
def fnExactMemoryOKWrong : ChangeSpec := { name := "fnExactMemoryOK", fn := fun _ => fun
  | [d] => { results := [.lit (.bool false)], args := [d] }
  | _ => none }
def FnExactMemoryOKWrongFalsely : Prop := fnExactMemoryOKRow.holds Try.pinned (OpenSpec.ofChange fnExactMemoryOKWrong)

/- THE SECOND FORM. 'bulk': how many values and letters a reading holds, each counted each time it is reached (what is shared counts as often as it is met; a slice's spare places count too). A statement '..UptoSaid' is the law's where the arguments, and the package variables that the reading takes, are together of bulk at most 1048576: NARROWER than '..Said'. Prove '..Said' where nothing that the law and all that it calls make is longer than what came in: it says more and counts as full. Else prove '..UptoSaid'. A law counts once. -/
mutual
def uptoBulk {H : Type} : DataW H → Nat
  | .lit (.string bytes) => bytes.length + 1
  | .lit _ => 1
  | .nil => 1
  | .ptr d => uptoBulk d + 1
  | .slice elems spare => uptoBulkAll elems + uptoBulkAll spare + 1
  | .agg parts => uptoBulkAll parts + 1
  | .iface _ d => uptoBulk d + 1
  | .map entries => uptoBulkEntries entries + 1
  | .held _ => 1
def uptoBulkAll {H : Type} : List (DataW H) → Nat
  | [] => 0
  | d :: r => uptoBulk d + uptoBulkAll r
def uptoBulkEntries {H : Type} : List (Lit × DataW H) → Nat
  | [] => 0
  | x :: r => uptoBulkEntry x + uptoBulkEntries r
def uptoBulkEntry {H : Type} : Lit × DataW H → Nat
  | (.string bytes, d) => bytes.length + uptoBulk d + 1
  | (_, d) => uptoBulk d + 1
 end
def uptoSmall : (H : Type) → List (DataW H) → Bool := fun _ ds => decide (uptoBulkAll ds ≤ 1048576)
def OpenSpec.upto (s : _root_.Go.ChangeSpec) : _root_.Go.OpenSpec := { _root_.Go.OpenSpec.ofChange s with cond := some uptoSmall }

/-- 'laws.FnExactOpName', WHERE WHAT IT READS IS OF BULK AT MOST 1048576: true; the input reads as it did. -/
def fnExactOpNameUptoRow : OpenClaim := { program := "ytpppkjjfemflbaa", sum := "faeee9b08f185bc47e88ca561a2b22075acfc79d4e5e045c66141e8c26dade63", func := "loop.example/g00654/laws.FnExactOpName", spec := "fnExactOpName", apart := false, narrowed := true }
def FnExactOpNameUptoSaid : Prop := fnExactOpNameUptoRow.holds Try.pinned (OpenSpec.upto fnExactOpNameSpec)

/-- 'laws.FnExactOpOf', WHERE WHAT IT READS IS OF BULK AT MOST 1048576: true; the input reads as it did. -/
def fnExactOpOfUptoRow : OpenClaim := { program := "ytpppkjjfemflbaa", sum := "faeee9b08f185bc47e88ca561a2b22075acfc79d4e5e045c66141e8c26dade63", func := "loop.example/g00654/laws.FnExactOpOf", spec := "fnExactOpOf", unfollowed := true, recurses := true, apart := false, narrowed := true }
def FnExactOpOfUptoSaid : Prop := fnExactOpOfUptoRow.holds Try.pinned (OpenSpec.upto fnExactOpOfSpec)

/-- 'laws.FnExactWidthOf', WHERE WHAT IT READS IS OF BULK AT MOST 1048576: true; the input reads as it did. -/
def fnExactWidthOfUptoRow : OpenClaim := { program := "ytpppkjjfemflbaa", sum := "faeee9b08f185bc47e88ca561a2b22075acfc79d4e5e045c66141e8c26dade63", func := "loop.example/g00654/laws.FnExactWidthOf", spec := "fnExactWidthOf", apart := false, narrowed := true }
def FnExactWidthOfUptoSaid : Prop := fnExactWidthOfUptoRow.holds Try.pinned (OpenSpec.upto fnExactWidthOfSpec)

/-- 'laws.FnSums', WHERE WHAT IT READS IS OF BULK AT MOST 1048576: true; the input reads as it did. -/
def fnSumsUptoRow : OpenClaim := { program := "ytpppkjjfemflbaa", sum := "faeee9b08f185bc47e88ca561a2b22075acfc79d4e5e045c66141e8c26dade63", func := "loop.example/g00654/laws.FnSums", spec := "fnSums", apart := false, narrowed := true }
def FnSumsUptoSaid : Prop := fnSumsUptoRow.holds Try.pinned (OpenSpec.upto fnSumsSpec)

/-- 'laws.FnExactSplitAddress', WHERE WHAT IT READS IS OF BULK AT MOST 1048576: true; the input reads as it did. -/
def fnExactSplitAddressUptoRow : OpenClaim := { program := "ytpppkjjfemflbaa", sum := "faeee9b08f185bc47e88ca561a2b22075acfc79d4e5e045c66141e8c26dade63", func := "loop.example/g00654/laws.FnExactSplitAddress", spec := "fnExactSplitAddress", apart := false, narrowed := true }
def FnExactSplitAddressUptoSaid : Prop := fnExactSplitAddressUptoRow.holds Try.pinned (OpenSpec.upto fnExactSplitAddressSpec)

/-- 'laws.FnExactBytesOf', WHERE WHAT IT READS IS OF BULK AT MOST 1048576: true; the input reads as it did. -/
def fnExactBytesOfUptoRow : OpenClaim := { program := "ytpppkjjfemflbaa", sum := "faeee9b08f185bc47e88ca561a2b22075acfc79d4e5e045c66141e8c26dade63", func := "loop.example/g00654/laws.FnExactBytesOf", spec := "fnExactBytesOf", inPlace := ["internal/bytealg.IndexByteString"], apart := false, narrowed := true }
def FnExactBytesOfUptoSaid : Prop := fnExactBytesOfUptoRow.holds Try.pinned (OpenSpec.upto fnExactBytesOfSpec)

/-- 'laws.FnExactSetReg', WHERE WHAT IT READS IS OF BULK AT MOST 1048576: true; the input reads as it did. -/
def fnExactSetRegUptoRow : OpenClaim := { program := "ytpppkjjfemflbaa", sum := "faeee9b08f185bc47e88ca561a2b22075acfc79d4e5e045c66141e8c26dade63", func := "loop.example/g00654/laws.FnExactSetReg", spec := "fnExactSetReg", apart := false, narrowed := true }
def FnExactSetRegUptoSaid : Prop := fnExactSetRegUptoRow.holds Try.pinned (OpenSpec.upto fnExactSetRegSpec)

/-- 'laws.FnFields', WHERE WHAT IT READS IS OF BULK AT MOST 1048576: true; the input reads as it did. -/
def fnFieldsUptoRow : OpenClaim := { program := "ytpppkjjfemflbaa", sum := "faeee9b08f185bc47e88ca561a2b22075acfc79d4e5e045c66141e8c26dade63", func := "loop.example/g00654/laws.FnFields", spec := "fnFields", apart := false, narrowed := true }
def FnFieldsUptoSaid : Prop := fnFieldsUptoRow.holds Try.pinned (OpenSpec.upto fnFieldsSpec)

/-- 'laws.FnHex', WHERE WHAT IT READS IS OF BULK AT MOST 1048576: true; the input reads as it did. -/
def fnHexUptoRow : OpenClaim := { program := "ytpppkjjfemflbaa", sum := "faeee9b08f185bc47e88ca561a2b22075acfc79d4e5e045c66141e8c26dade63", func := "loop.example/g00654/laws.FnHex", spec := "fnHex", inPlace := ["internal/bytealg.IndexByteString"], apart := false, narrowed := true }
def FnHexUptoSaid : Prop := fnHexUptoRow.holds Try.pinned (OpenSpec.upto fnHexSpec)

/-- 'laws.FnExactEpilogue', WHERE WHAT IT READS IS OF BULK AT MOST 1048576: true; the input reads as it did. -/
def fnExactEpilogueUptoRow : OpenClaim := { program := "ytpppkjjfemflbaa", sum := "faeee9b08f185bc47e88ca561a2b22075acfc79d4e5e045c66141e8c26dade63", func := "loop.example/g00654/laws.FnExactEpilogue", spec := "fnExactEpilogue", apart := false, narrowed := true }
def FnExactEpilogueUptoSaid : Prop := fnExactEpilogueUptoRow.holds Try.pinned (OpenSpec.upto fnExactEpilogueSpec)

/-- 'laws.FnExactPrologue', WHERE WHAT IT READS IS OF BULK AT MOST 1048576: true; the input reads as it did. -/
def fnExactPrologueUptoRow : OpenClaim := { program := "ytpppkjjfemflbaa", sum := "faeee9b08f185bc47e88ca561a2b22075acfc79d4e5e045c66141e8c26dade63", func := "loop.example/g00654/laws.FnExactPrologue", spec := "fnExactPrologue", apart := false, narrowed := true }
def FnExactPrologueUptoSaid : Prop := fnExactPrologueUptoRow.holds Try.pinned (OpenSpec.upto fnExactPrologueSpec)

/-- 'laws.FnExactMemoryOK', WHERE WHAT IT READS IS OF BULK AT MOST 1048576: true; the input reads as it did. -/
def fnExactMemoryOKUptoRow : OpenClaim := { program := "ytpppkjjfemflbaa", sum := "faeee9b08f185bc47e88ca561a2b22075acfc79d4e5e045c66141e8c26dade63", func := "loop.example/g00654/laws.FnExactMemoryOK", spec := "fnExactMemoryOK", apart := false, narrowed := true }
def FnExactMemoryOKUptoSaid : Prop := fnExactMemoryOKUptoRow.holds Try.pinned (OpenSpec.upto fnExactMemoryOKSpec)

end Rows
end Go.Proofs.Ytpppkjjfemflbaa
