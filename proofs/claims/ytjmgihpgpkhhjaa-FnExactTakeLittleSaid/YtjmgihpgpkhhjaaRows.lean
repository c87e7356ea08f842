/-
  No cell of these rows narrows 'for every input' (looked for: loops, veiled, ifaces, maps, wideKeys, modest, calm, conditions, laid).
  DERIVED. THE GIVEN ROWS OF THIS SEAT. 11 by the template 'for every input the law returns true; each argument reads behind the call as it read before'; 0 by the template 'total and deterministic' (their statements: YtjmgihpgpkhhjaaTotals.lean).
  GIVEN WITH THE SEED: the statements are not yours to turn. If you find one false, say at which input.
  Laid BY PROGRAM, IN A SANDBOX (cutbox-rows.mjs): the forced cells as the released guide's own fill.sh prints them over the translation 44c1014f619f7c1d… (all of the seat's roots in one cut). By AI agents, Wed Nov 11 2026. No macro, syntax, notation, axiom, sorry.
-/
import Derived.Test.YtjmgihpgpkhhjaaChecked
import GoSem.Claim
import GoSem.ClaimJoined
import GoSem.ClaimMapViews
import Derived.JoinedTies
import Derived.KernelRfl
namespace Go.Proofs.Ytjmgihpgpkhhjaa
/- THE CELL 'sum', in the pinned program and in every row, IS THE sha256 OF THE DUMP (.gsa) THAT YtjmgihpgpkhhjaaProg.lean LOADS. Nothing in Lean hashes anything: it is a label: what it is worth is what the hold of that sum in a sandbox is worth. -/
noncomputable def Try.pinned : Pinned := { name := "ytjmgihpgpkhhjaa", sum := "44c1014f619f7c1d3caf4ae104b6c06d9f05446944b877f983599976c49c3893", checked := Try.checked }
namespace Rows
def none {H : Type} : Left H := { results := [], args := [] }

/-- 'laws.FnExactCodeOf': WHATEVER THE INPUT: true; the input reads as it did. -/
def fnExactCodeOfSpec : ChangeSpec := { name := "fnExactCodeOf", fn := fun _ => fun
  | [d] => { results := [.lit (.bool true)], args := [d] }
  | _ => none }
def fnExactCodeOfRow : OpenClaim := { program := "ytjmgihpgpkhhjaa", sum := "44c1014f619f7c1d3caf4ae104b6c06d9f05446944b877f983599976c49c3893", func := "loop.example/g00654/laws.FnExactCodeOf", spec := "fnExactCodeOf", apart := false }
def FnExactCodeOfSaid : Prop := fnExactCodeOfRow.holds Try.pinned (OpenSpec.ofChange fnExactCodeOfSpec)

/-- ITS FALSE NEIGHBOUR: 'it returns false'. Refute it at one input. -/
def fnExactCodeOfWrong : ChangeSpec := { name := "fnExactCodeOf", fn := fun _ => fun
  | [d] => { results := [.lit (.bool false)], args := [d] }
  | _ => none }
def FnExactCodeOfWrongFalsely : Prop := fnExactCodeOfRow.holds Try.pinned (OpenSpec.ofChange fnExactCodeOfWrong)

/-- 'laws.FnExactRelocOf': WHATEVER THE INPUT: true; the input reads as it did. -/
def fnExactRelocOfSpec : ChangeSpec := { name := "fnExactRelocOf", fn := fun _ => fun
  | [d] => { results := [.lit (.bool true)], args := [d] }
  | _ => none }
def fnExactRelocOfRow : OpenClaim := { program := "ytjmgihpgpkhhjaa", sum := "44c1014f619f7c1d3caf4ae104b6c06d9f05446944b877f983599976c49c3893", func := "loop.example/g00654/laws.FnExactRelocOf", spec := "fnExactRelocOf", apart := false }
def FnExactRelocOfSaid : Prop := fnExactRelocOfRow.holds Try.pinned (OpenSpec.ofChange fnExactRelocOfSpec)

/-- ITS FALSE NEIGHBOUR: 'it returns false'. Refute it at one input. -/
def fnExactRelocOfWrong : ChangeSpec := { name := "fnExactRelocOf", fn := fun _ => fun
  | [d] => { results := [.lit (.bool false)], args := [d] }
  | _ => none }
def FnExactRelocOfWrongFalsely : Prop := fnExactRelocOfRow.holds Try.pinned (OpenSpec.ofChange fnExactRelocOfWrong)

/-- 'laws.FnExactSumOf': WHATEVER THE INPUT: true; the input reads as it did. -/
def fnExactSumOfSpec : ChangeSpec := { name := "fnExactSumOf", fn := fun _ => fun
  | [d] => { results := [.lit (.bool true)], args := [d] }
  | _ => none }
def fnExactSumOfRow : OpenClaim := { program := "ytjmgihpgpkhhjaa", sum := "44c1014f619f7c1d3caf4ae104b6c06d9f05446944b877f983599976c49c3893", func := "loop.example/g00654/laws.FnExactSumOf", spec := "fnExactSumOf", apart := false }
def FnExactSumOfSaid : Prop := fnExactSumOfRow.holds Try.pinned (OpenSpec.ofChange fnExactSumOfSpec)

/-- ITS FALSE NEIGHBOUR: 'it returns false'. Refute it at one input. -/
def fnExactSumOfWrong : ChangeSpec := { name := "fnExactSumOf", fn := fun _ => fun
  | [d] => { results := [.lit (.bool false)], args := [d] }
  | _ => none }
def FnExactSumOfWrongFalsely : Prop := fnExactSumOfRow.holds Try.pinned (OpenSpec.ofChange fnExactSumOfWrong)

/-- 'laws.FnExactImageText': WHATEVER THE INPUT: true; the input reads as it did. -/
def fnExactImageTextSpec : ChangeSpec := { name := "fnExactImageText", fn := fun _ => fun
  | [d] => { results := [.lit (.bool true)], args := [d] }
  | _ => none }
def fnExactImageTextRow : OpenClaim := { program := "ytjmgihpgpkhhjaa", sum := "44c1014f619f7c1d3caf4ae104b6c06d9f05446944b877f983599976c49c3893", func := "loop.example/g00654/laws.FnExactImageText", spec := "fnExactImageText", apart := false }
def FnExactImageTextSaid : Prop := fnExactImageTextRow.holds Try.pinned (OpenSpec.ofChange fnExactImageTextSpec)

/-- ITS FALSE NEIGHBOUR: 'it returns false'. Refute it at one input. -/
def fnExactImageTextWrong : ChangeSpec := { name := "fnExactImageText", fn := fun _ => fun
  | [d] => { results := [.lit (.bool false)], args := [d] }
  | _ => none }
def FnExactImageTextWrongFalsely : Prop := fnExactImageTextRow.holds Try.pinned (OpenSpec.ofChange fnExactImageTextWrong)

/-- 'laws.FnExactSignOf': WHATEVER THE INPUT: true; the input reads as it did. -/
def fnExactSignOfSpec : ChangeSpec := { name := "fnExactSignOf", fn := fun _ => fun
  | [d1, d2] => { results := [.lit (.bool true)], args := [d1, d2] }
  | _ => none }
def fnExactSignOfRow : OpenClaim := { program := "ytjmgihpgpkhhjaa", sum := "44c1014f619f7c1d3caf4ae104b6c06d9f05446944b877f983599976c49c3893", func := "loop.example/g00654/laws.FnExactSignOf", spec := "fnExactSignOf", apart := false }
def FnExactSignOfSaid : Prop := fnExactSignOfRow.holds Try.pinned (OpenSpec.ofChange fnExactSignOfSpec)

/-- ITS FALSE NEIGHBOUR: 'it returns false'. Refute it at one input. -/
def fnExactSignOfWrong : ChangeSpec := { name := "fnExactSignOf", fn := fun _ => fun
  | [d1, d2] => { results := [.lit (.bool false)], args := [d1, d2] }
  | _ => none }
def FnExactSignOfWrongFalsely : Prop := fnExactSignOfRow.holds Try.pinned (OpenSpec.ofChange fnExactSignOfWrong)

/-- 'laws.FnExactPutLittle': WHATEVER THE INPUT: true; the input reads as it did. -/
def fnExactPutLittleSpec : ChangeSpec := { name := "fnExactPutLittle", fn := fun _ => fun
  | [d1, d2] => { results := [.lit (.bool true)], args := [d1, d2] }
  | _ => none }
def fnExactPutLittleRow : OpenClaim := { program := "ytjmgihpgpkhhjaa", sum := "44c1014f619f7c1d3caf4ae104b6c06d9f05446944b877f983599976c49c3893", func := "loop.example/g00654/laws.FnExactPutLittle", spec := "fnExactPutLittle", apart := false }
def FnExactPutLittleSaid : Prop := fnExactPutLittleRow.holds Try.pinned (OpenSpec.ofChange fnExactPutLittleSpec)

/-- ITS FALSE NEIGHBOUR: 'it returns false'. Refute it at one input. -/
def fnExactPutLittleWrong : ChangeSpec := { name := "fnExactPutLittle", fn := fun _ => fun
  | [d1, d2] => { results := [.lit (.bool false)], args := [d1, d2] }
  | _ => none }
def FnExactPutLittleWrongFalsely : Prop := fnExactPutLittleRow.holds Try.pinned (OpenSpec.ofChange fnExactPutLittleWrong)

/-- 'laws.FnExactNameOK': WHATEVER THE INPUT: true; the input reads as it did. -/
def fnExactNameOKSpec : ChangeSpec := { name := "fnExactNameOK", fn := fun _ => fun
  | [d] => { results := [.lit (.bool true)], args := [d] }
  | _ => none }
def fnExactNameOKRow : OpenClaim := { program := "ytjmgihpgpkhhjaa", sum := "44c1014f619f7c1d3caf4ae104b6c06d9f05446944b877f983599976c49c3893", func := "loop.example/g00654/laws.FnExactNameOK", spec := "fnExactNameOK", apart := false }
def FnExactNameOKSaid : Prop := fnExactNameOKRow.holds Try.pinned (OpenSpec.ofChange fnExactNameOKSpec)

/-- ITS FALSE NEIGHBOUR: 'it returns false'. Refute it at one input. -/
def fnExactNameOKWrong : ChangeSpec := { name := "fnExactNameOK", fn := fun _ => fun
  | [d] => { results := [.lit (.bool false)], args := [d] }
  | _ => none }
def FnExactNameOKWrongFalsely : Prop := fnExactNameOKRow.holds Try.pinned (OpenSpec.ofChange fnExactNameOKWrong)

/-- 'laws.FnExactFieldOf': WHATEVER THE INPUT: true; the input reads as it did. -/
def fnExactFieldOfSpec : ChangeSpec := { name := "fnExactFieldOf", fn := fun _ => fun
  | [d1, d2, d3] => { results := [.lit (.bool true)], args := [d1, d2, d3] }
  | _ => none }
def fnExactFieldOfRow : OpenClaim := { program := "ytjmgihpgpkhhjaa", sum := "44c1014f619f7c1d3caf4ae104b6c06d9f05446944b877f983599976c49c3893", func := "loop.example/g00654/laws.FnExactFieldOf", spec := "fnExactFieldOf", apart := false }
def FnExactFieldOfSaid : Prop := fnExactFieldOfRow.holds Try.pinned (OpenSpec.ofChange fnExactFieldOfSpec)

/-- ITS FALSE NEIGHBOUR: 'it returns false'. Refute it at one input. -/
def fnExactFieldOfWrong : ChangeSpec := { name := "fnExactFieldOf", fn := fun _ => fun
  | [d1, d2, d3] => { results := [.lit (.bool false)], args := [d1, d2, d3] }
  | _ => none }
def FnExactFieldOfWrongFalsely : Prop := fnExactFieldOfRow.holds Try.pinned (OpenSpec.ofChange fnExactFieldOfWrong)

/-- 'laws.FnExactMulWide': WHATEVER THE INPUT: true; the input reads as it did. -/
def fnExactMulWideSpec : ChangeSpec := { name := "fnExactMulWide", fn := fun _ => fun
  | [d1, d2] => { results := [.lit (.bool true)], args := [d1, d2] }
  | _ => none }
def fnExactMulWideRow : OpenClaim := { program := "ytjmgihpgpkhhjaa", sum := "44c1014f619f7c1d3caf4ae104b6c06d9f05446944b877f983599976c49c3893", func := "loop.example/g00654/laws.FnExactMulWide", spec := "fnExactMulWide", apart := false }
def FnExactMulWideSaid : Prop := fnExactMulWideRow.holds Try.pinned (OpenSpec.ofChange fnExactMulWideSpec)

/-- ITS FALSE NEIGHBOUR: 'it returns false'. Refute it at one input. -/
def fnExactMulWideWrong : ChangeSpec := { name := "fnExactMulWide", fn := fun _ => fun
  | [d1, d2] => { results := [.lit (.bool false)], args := [d1, d2] }
  | _ => none }
def FnExactMulWideWrongFalsely : Prop := fnExactMulWideRow.holds Try.pinned (OpenSpec.ofChange fnExactMulWideWrong)

/-- 'laws.FnExactPutField': WHATEVER THE INPUT: true; the input reads as it did. -/
def fnExactPutFieldSpec : ChangeSpec := { name := "fnExactPutField", fn := fun _ => fun
  | [d1, d2, d3, d4] => { results := [.lit (.bool true)], args := [d1, d2, d3, d4] }
  | _ => none }
def fnExactPutFieldRow : OpenClaim := { program := "ytjmgihpgpkhhjaa", sum := "44c1014f619f7c1d3caf4ae104b6c06d9f05446944b877f983599976c49c3893", func := "loop.example/g00654/laws.FnExactPutField", spec := "fnExactPutField", apart := false }
def FnExactPutFieldSaid : Prop := fnExactPutFieldRow.holds Try.pinned (OpenSpec.ofChange fnExactPutFieldSpec)

/-- ITS FALSE NEIGHBOUR: 'it returns false'. Refute it at one input. -/
def fnExactPutFieldWrong : ChangeSpec := { name := "fnExactPutField", fn := fun _ => fun
  | [d1, d2, d3, d4] => { results := [.lit (.bool false)], args := [d1, d2, d3, d4] }
  | _ => none }
def FnExactPutFieldWrongFalsely : Prop := fnExactPutFieldRow.holds Try.pinned (OpenSpec.ofChange fnExactPutFieldWrong)

/-- 'laws.FnExactTakeLittle': WHATEVER THE INPUT: true; the input reads as it did. -/
def fnExactTakeLittleSpec : ChangeSpec := { name := "fnExactTakeLittle", fn := fun _ => fun
  | [d1, d2, d3] => { results := [.lit (.bool true)], args := [d1, d2, d3] }
  | _ => none }
def fnExactTakeLittleRow : OpenClaim := { program := "ytjmgihpgpkhhjaa", sum := "44c1014f619f7c1d3caf4ae104b6c06d9f05446944b877f983599976c49c3893", func := "loop.example/g00654/laws.FnExactTakeLittle", spec := "fnExactTakeLittle", apart := false }
def FnExactTakeLittleSaid : Prop := fnExactTakeLittleRow.holds Try.pinned (OpenSpec.ofChange fnExactTakeLittleSpec)

/-- ITS FALSE NEIGHBOUR: 'it returns false'. Refute it at one input. -/
def fnExactTakeLittleWrong : ChangeSpec := { name := "fnExactTakeLittle", fn := fun _ => fun
  | [d1, d2, d3] => { results := [.lit (.bool false)], args := [d1, d2, d3] }
  | _ => none }
def FnExactTakeLittleWrongFalsely : Prop := fnExactTakeLittleRow.holds Try.pinned (OpenSpec.ofChange fnExactTakeLittleWrong)

/- THE SECOND FORM. 'bulk': how many values and letters a reading holds, each counted each time it is reached (what is shared counts as often as it is met; a slice's spare places count too). A statement '..UptoSaid' is the law's where the arguments, and the package variables that the reading takes, are together of bulk at most 1048576: NARROWER than '..Said'. Prove '..Said' where nothing that the law and all that it calls make is longer than what came in: it says more and counts as full. Else prove '..UptoSaid'. A law counts once. -/
mutual
def uptoBulk {H : Type} : DataW H → Nat
  | .lit (.string bytes) => bytes.length + 1
  | .lit _ => 1
  | .nil => 1
  | .ptr d => uptoBulk d + 1
  | .slice elems spare => uptoBulkAll elems + uptoBulkAll spare + 1
  | .agg parts => uptoBulkAll parts + 1
  | .iface _ d => uptoBulk d + 1
  | .map entries => uptoBulkEntries entries + 1
  | .held _ => 1
def uptoBulkAll {H : Type} : List (DataW H) → Nat
  | [] => 0
  | d :: r => uptoBulk d + uptoBulkAll r
def uptoBulkEntries {H : Type} : List (Lit × DataW H) → Nat
  | [] => 0
  | x :: r => uptoBulkEntry x + uptoBulkEntries r
def uptoBulkEntry {H : Type} : Lit × DataW H → Nat
  | (.string bytes, d) => bytes.length + uptoBulk d + 1
  | (_, d) => uptoBulk d + 1
 end
def uptoSmall : (H : Type) → List (DataW H) → Bool := fun _ ds => decide (uptoBulkAll ds ≤ 1048576)
def OpenSpec.upto (s : _root_.Go.ChangeSpec) : _root_.Go.OpenSpec := { _root_.Go.OpenSpec.ofChange s with cond := some uptoSmall }

/-- 'laws.FnExactCodeOf', WHERE WHAT IT READS IS OF BULK AT MOST 1048576: true; the input reads as it did. -/
def fnExactCodeOfUptoRow : OpenClaim := { program := "ytjmgihpgpkhhjaa", sum := "44c1014f619f7c1d3caf4ae104b6c06d9f05446944b877f983599976c49c3893", func := "loop.example/g00654/laws.FnExactCodeOf", spec := "fnExactCodeOf", apart := false, narrowed := true }
def FnExactCodeOfUptoSaid : Prop := fnExactCodeOfUptoRow.holds Try.pinned (OpenSpec.upto fnExactCodeOfSpec)

/-- 'laws.FnExactRelocOf', WHERE WHAT IT READS IS OF BULK AT MOST 1048576: true; the input reads as it did. -/
def fnExactRelocOfUptoRow : OpenClaim := { program := "ytjmgihpgpkhhjaa", sum := "44c1014f619f7c1d3caf4ae104b6c06d9f05446944b877f983599976c49c3893", func := "loop.example/g00654/laws.FnExactRelocOf", spec := "fnExactRelocOf", apart := false, narrowed := true }
def FnExactRelocOfUptoSaid : Prop := fnExactRelocOfUptoRow.holds Try.pinned (OpenSpec.upto fnExactRelocOfSpec)

/-- 'laws.FnExactSumOf', WHERE WHAT IT READS IS OF BULK AT MOST 1048576: true; the input reads as it did. -/
def fnExactSumOfUptoRow : OpenClaim := { program := "ytjmgihpgpkhhjaa", sum := "44c1014f619f7c1d3caf4ae104b6c06d9f05446944b877f983599976c49c3893", func := "loop.example/g00654/laws.FnExactSumOf", spec := "fnExactSumOf", apart := false, narrowed := true }
def FnExactSumOfUptoSaid : Prop := fnExactSumOfUptoRow.holds Try.pinned (OpenSpec.upto fnExactSumOfSpec)

/-- 'laws.FnExactImageText', WHERE WHAT IT READS IS OF BULK AT MOST 1048576: true; the input reads as it did. -/
def fnExactImageTextUptoRow : OpenClaim := { program := "ytjmgihpgpkhhjaa", sum := "44c1014f619f7c1d3caf4ae104b6c06d9f05446944b877f983599976c49c3893", func := "loop.example/g00654/laws.FnExactImageText", spec := "fnExactImageText", apart := false, narrowed := true }
def FnExactImageTextUptoSaid : Prop := fnExactImageTextUptoRow.holds Try.pinned (OpenSpec.upto fnExactImageTextSpec)

/-- 'laws.FnExactSignOf', WHERE WHAT IT READS IS OF BULK AT MOST 1048576: true; the input reads as it did. -/
def fnExactSignOfUptoRow : OpenClaim := { program := "ytjmgihpgpkhhjaa", sum := "44c1014f619f7c1d3caf4ae104b6c06d9f05446944b877f983599976c49c3893", func := "loop.example/g00654/laws.FnExactSignOf", spec := "fnExactSignOf", apart := false, narrowed := true }
def FnExactSignOfUptoSaid : Prop := fnExactSignOfUptoRow.holds Try.pinned (OpenSpec.upto fnExactSignOfSpec)

/-- 'laws.FnExactPutLittle', WHERE WHAT IT READS IS OF BULK AT MOST 1048576: true; the input reads as it did. -/
def fnExactPutLittleUptoRow : OpenClaim := { program := "ytjmgihpgpkhhjaa", sum := "44c1014f619f7c1d3caf4ae104b6c06d9f05446944b877f983599976c49c3893", func := "loop.example/g00654/laws.FnExactPutLittle", spec := "fnExactPutLittle", apart := false, narrowed := true }
def FnExactPutLittleUptoSaid : Prop := fnExactPutLittleUptoRow.holds Try.pinned (OpenSpec.upto fnExactPutLittleSpec)

/-- 'laws.FnExactNameOK', WHERE WHAT IT READS IS OF BULK AT MOST 1048576: true; the input reads as it did. -/
def fnExactNameOKUptoRow : OpenClaim := { program := "ytjmgihpgpkhhjaa", sum := "44c1014f619f7c1d3caf4ae104b6c06d9f05446944b877f983599976c49c3893", func := "loop.example/g00654/laws.FnExactNameOK", spec := "fnExactNameOK", apart := false, narrowed := true }
def FnExactNameOKUptoSaid : Prop := fnExactNameOKUptoRow.holds Try.pinned (OpenSpec.upto fnExactNameOKSpec)

/-- 'laws.FnExactFieldOf', WHERE WHAT IT READS IS OF BULK AT MOST 1048576: true; the input reads as it did. -/
def fnExactFieldOfUptoRow : OpenClaim := { program := "ytjmgihpgpkhhjaa", sum := "44c1014f619f7c1d3caf4ae104b6c06d9f05446944b877f983599976c49c3893", func := "loop.example/g00654/laws.FnExactFieldOf", spec := "fnExactFieldOf", apart := false, narrowed := true }
def FnExactFieldOfUptoSaid : Prop := fnExactFieldOfUptoRow.holds Try.pinned (OpenSpec.upto fnExactFieldOfSpec)

/-- 'laws.FnExactMulWide', WHERE WHAT IT READS IS OF BULK AT MOST 1048576: true; the input reads as it did. -/
def fnExactMulWideUptoRow : OpenClaim := { program := "ytjmgihpgpkhhjaa", sum := "44c1014f619f7c1d3caf4ae104b6c06d9f05446944b877f983599976c49c3893", func := "loop.example/g00654/laws.FnExactMulWide", spec := "fnExactMulWide", apart := false, narrowed := true }
def FnExactMulWideUptoSaid : Prop := fnExactMulWideUptoRow.holds Try.pinned (OpenSpec.upto fnExactMulWideSpec)

/-- 'laws.FnExactPutField', WHERE WHAT IT READS IS OF BULK AT MOST 1048576: true; the input reads as it did. -/
def fnExactPutFieldUptoRow : OpenClaim := { program := "ytjmgihpgpkhhjaa", sum := "44c1014f619f7c1d3caf4ae104b6c06d9f05446944b877f983599976c49c3893", func := "loop.example/g00654/laws.FnExactPutField", spec := "fnExactPutField", apart := false, narrowed := true }
def FnExactPutFieldUptoSaid : Prop := fnExactPutFieldUptoRow.holds Try.pinned (OpenSpec.upto fnExactPutFieldSpec)

/-- 'laws.FnExactTakeLittle', WHERE WHAT IT READS IS OF BULK AT MOST 1048576: true; the input reads as it did. -/
def fnExactTakeLittleUptoRow : OpenClaim := { program := "ytjmgihpgpkhhjaa", sum := "44c1014f619f7c1d3caf4ae104b6c06d9f05446944b877f983599976c49c3893", func := "loop.example/g00654/laws.FnExactTakeLittle", spec := "fnExactTakeLittle", apart := false, narrowed := true }
def FnExactTakeLittleUptoSaid : Prop := fnExactTakeLittleUptoRow.holds Try.pinned (OpenSpec.upto fnExactTakeLittleSpec)

end Rows
end Go.Proofs.Ytjmgihpgpkhhjaa
