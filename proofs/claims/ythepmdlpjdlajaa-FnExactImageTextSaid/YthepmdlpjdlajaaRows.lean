/-
  No cell of these rows narrows 'for every input' (looked for: loops, veiled, ifaces, maps, wideKeys, modest, calm, conditions, laid).
  DERIVED. THE GIVEN ROWS OF THIS SEAT. 8 by the template 'for every input the law returns true; each argument reads behind the call as it read before'; 0 by the template 'total and deterministic' (their statements: YthepmdlpjdlajaaTotals.lean).
  GIVEN WITH THE SEED: the statements are not yours to turn. If you find one false, say at which input.
  Laid BY PROGRAM, IN A SANDBOX (cutbox-rows.mjs): the forced cells as the released guide's own fill.sh prints them over the translation ee11e00ca4594600… (all of the seat's roots in one cut). By AI agents, Wed Nov 11 2026. No macro, syntax, notation, axiom, sorry.
-/
import Derived.Test.YthepmdlpjdlajaaChecked
import GoSem.Claim
import GoSem.ClaimJoined
import GoSem.ClaimMapViews
import Derived.JoinedTies
import Derived.KernelRfl
namespace Go.Proofs.Ythepmdlpjdlajaa
/- THE CELL 'sum', in the pinned program and in every row, IS THE sha256 OF THE DUMP (.gsa) THAT YthepmdlpjdlajaaProg.lean LOADS. Nothing in Lean hashes anything: it is a label: what it is worth is what the hold of that sum in a sandbox is worth. -/
noncomputable def Try.pinned : Pinned := { name := "ythepmdlpjdlajaa", sum := "ee11e00ca4594600a50ff2cbdf3f82f7bf7f0871d49980db10cc75dc06801d4d", checked := Try.checked }
namespace Rows
def none {H : Type} : Left H := { results := [], args := [] }

/-- 'laws.FnExactSymbolNamed': WHATEVER THE INPUT: true; the input reads as it did. -/
def fnExactSymbolNamedSpec : ChangeSpec := { name := "fnExactSymbolNamed", fn := fun _ => fun
  | [d1, d2] => { results := [.lit (.bool true)], args := [d1, d2] }
  | _ => none }
def fnExactSymbolNamedRow : OpenClaim := { program := "ythepmdlpjdlajaa", sum := "ee11e00ca4594600a50ff2cbdf3f82f7bf7f0871d49980db10cc75dc06801d4d", func := "loop.example/g00654/laws.FnExactSymbolNamed", spec := "fnExactSymbolNamed", unfollowed := true, recurses := true, apart := false }
def FnExactSymbolNamedSaid : Prop := fnExactSymbolNamedRow.holds Try.pinned (OpenSpec.ofChange fnExactSymbolNamedSpec)

/-- ITS FALSE NEIGHBOUR: 'it returns false'. Refute it at one input. -/
def fnExactSymbolNamedWrong : ChangeSpec := { name := "fnExactSymbolNamed", fn := fun _ => fun
  | [d1, d2] => { results := [.lit (.bool false)], args := [d1, d2] }
  | _ => none }
def FnExactSymbolNamedWrongFalsely : Prop := fnExactSymbolNamedRow.holds Try.pinned (OpenSpec.ofChange fnExactSymbolNamedWrong)

/-- 'laws.FnExactImageText': WHATEVER THE INPUT: true; the input reads as it did. -/
def fnExactImageTextSpec : ChangeSpec := { name := "fnExactImageText", fn := fun _ => fun
  | [d] => { results := [.lit (.bool true)], args := [d] }
  | _ => none }
def fnExactImageTextRow : OpenClaim := { program := "ythepmdlpjdlajaa", sum := "ee11e00ca4594600a50ff2cbdf3f82f7bf7f0871d49980db10cc75dc06801d4d", func := "loop.example/g00654/laws.FnExactImageText", spec := "fnExactImageText", apart := false }
def FnExactImageTextSaid : Prop := fnExactImageTextRow.holds Try.pinned (OpenSpec.ofChange fnExactImageTextSpec)

/-- ITS FALSE NEIGHBOUR: 'it returns false'. Refute it at one input. -/
def fnExactImageTextWrong : ChangeSpec := { name := "fnExactImageText", fn := fun _ => fun
  | [d] => { results := [.lit (.bool false)], args := [d] }
  | _ => none }
def FnExactImageTextWrongFalsely : Prop := fnExactImageTextRow.holds Try.pinned (OpenSpec.ofChange fnExactImageTextWrong)

/-- 'laws.FnExactLintFunction': WHATEVER THE INPUT: true; the input reads as it did. -/
def fnExactLintFunctionSpec : ChangeSpec := { name := "fnExactLintFunction", fn := fun _ => fun
  | [d1, d2, d3, d4] => { results := [.lit (.bool true)], args := [d1, d2, d3, d4] }
  | _ => none }
def fnExactLintFunctionRow : OpenClaim := { program := "ythepmdlpjdlajaa", sum := "ee11e00ca4594600a50ff2cbdf3f82f7bf7f0871d49980db10cc75dc06801d4d", func := "loop.example/g00654/laws.FnExactLintFunction", spec := "fnExactLintFunction", apart := false }
def FnExactLintFunctionSaid : Prop := fnExactLintFunctionRow.holds Try.pinned (OpenSpec.ofChange fnExactLintFunctionSpec)

/-- ITS FALSE NEIGHBOUR: 'it returns false'. Refute it at one input. -/
def fnExactLintFunctionWrong : ChangeSpec := { name := "fnExactLintFunction", fn := fun _ => fun
  | [d1, d2, d3, d4] => { results := [.lit (.bool false)], args := [d1, d2, d3, d4] }
  | _ => none }
def FnExactLintFunctionWrongFalsely : Prop := fnExactLintFunctionRow.holds Try.pinned (OpenSpec.ofChange fnExactLintFunctionWrong)

/-- 'laws.FnExactCallsOf': WHATEVER THE INPUT: true; the input reads as it did. -/
def fnExactCallsOfSpec : ChangeSpec := { name := "fnExactCallsOf", fn := fun _ => fun
  | [d1, d2] => { results := [.lit (.bool true)], args := [d1, d2] }
  | _ => none }
def fnExactCallsOfRow : OpenClaim := { program := "ythepmdlpjdlajaa", sum := "ee11e00ca4594600a50ff2cbdf3f82f7bf7f0871d49980db10cc75dc06801d4d", func := "loop.example/g00654/laws.FnExactCallsOf", spec := "fnExactCallsOf", recurses := true, apart := false }
def FnExactCallsOfSaid : Prop := fnExactCallsOfRow.holds Try.pinned (OpenSpec.ofChange fnExactCallsOfSpec)

/-- ITS FALSE NEIGHBOUR: 'it returns false'. Refute it at one input. -/
def fnExactCallsOfWrong : ChangeSpec := { name := "fnExactCallsOf", fn := fun _ => fun
  | [d1, d2] => { results := [.lit (.bool false)], args := [d1, d2] }
  | _ => none }
def FnExactCallsOfWrongFalsely : Prop := fnExactCallsOfRow.holds Try.pinned (OpenSpec.ofChange fnExactCallsOfWrong)

/-- 'laws.FnExactLintImage': WHATEVER THE INPUT: true; the input reads as it did. -/
def fnExactLintImageSpec : ChangeSpec := { name := "fnExactLintImage", fn := fun _ => fun
  | [d] => { results := [.lit (.bool true)], args := [d] }
  | _ => none }
def fnExactLintImageRow : OpenClaim := { program := "ythepmdlpjdlajaa", sum := "ee11e00ca4594600a50ff2cbdf3f82f7bf7f0871d49980db10cc75dc06801d4d", func := "loop.example/g00654/laws.FnExactLintImage", spec := "fnExactLintImage", apart := false }
def FnExactLintImageSaid : Prop := fnExactLintImageRow.holds Try.pinned (OpenSpec.ofChange fnExactLintImageSpec)

/-- ITS FALSE NEIGHBOUR: 'it returns false'. Refute it at one input. -/
def fnExactLintImageWrong : ChangeSpec := { name := "fnExactLintImage", fn := fun _ => fun
  | [d] => { results := [.lit (.bool false)], args := [d] }
  | _ => none }
def FnExactLintImageWrongFalsely : Prop := fnExactLintImageRow.holds Try.pinned (OpenSpec.ofChange fnExactLintImageWrong)

/-- 'laws.FnExactImageOK': WHATEVER THE INPUT: true; the input reads as it did. -/
def fnExactImageOKSpec : ChangeSpec := { name := "fnExactImageOK", fn := fun _ => fun
  | [d] => { results := [.lit (.bool true)], args := [d] }
  | _ => none }
def fnExactImageOKRow : OpenClaim := { program := "ythepmdlpjdlajaa", sum := "ee11e00ca4594600a50ff2cbdf3f82f7bf7f0871d49980db10cc75dc06801d4d", func := "loop.example/g00654/laws.FnExactImageOK", spec := "fnExactImageOK", apart := false }
def FnExactImageOKSaid : Prop := fnExactImageOKRow.holds Try.pinned (OpenSpec.ofChange fnExactImageOKSpec)

/-- ITS FALSE NEIGHBOUR: 'it returns false'. Refute it at one input. -/
def fnExactImageOKWrong : ChangeSpec := { name := "fnExactImageOK", fn := fun _ => fun
  | [d] => { results := [.lit (.bool false)], args := [d] }
  | _ => none }
def FnExactImageOKWrongFalsely : Prop := fnExactImageOKRow.holds Try.pinned (OpenSpec.ofChange fnExactImageOKWrong)

/-- 'laws.FnExactAddressOf': WHATEVER THE INPUT: true; the input reads as it did. -/
def fnExactAddressOfSpec : ChangeSpec := { name := "fnExactAddressOf", fn := fun _ => fun
  | [d1, d2] => { results := [.lit (.bool true)], args := [d1, d2] }
  | _ => none }
def fnExactAddressOfRow : OpenClaim := { program := "ythepmdlpjdlajaa", sum := "ee11e00ca4594600a50ff2cbdf3f82f7bf7f0871d49980db10cc75dc06801d4d", func := "loop.example/g00654/laws.FnExactAddressOf", spec := "fnExactAddressOf", apart := false }
def FnExactAddressOfSaid : Prop := fnExactAddressOfRow.holds Try.pinned (OpenSpec.ofChange fnExactAddressOfSpec)

/-- ITS FALSE NEIGHBOUR: 'it returns false'. Refute it at one input. -/
def fnExactAddressOfWrong : ChangeSpec := { name := "fnExactAddressOf", fn := fun _ => fun
  | [d1, d2] => { results := [.lit (.bool false)], args := [d1, d2] }
  | _ => none }
def FnExactAddressOfWrongFalsely : Prop := fnExactAddressOfRow.holds Try.pinned (OpenSpec.ofChange fnExactAddressOfWrong)

/-- 'laws.FnExactSymbolAt': WHATEVER THE INPUT: true; the input reads as it did. -/
def fnExactSymbolAtSpec : ChangeSpec := { name := "fnExactSymbolAt", fn := fun _ => fun
  | [d1, d2] => { results := [.lit (.bool true)], args := [d1, d2] }
  | _ => none }
def fnExactSymbolAtRow : OpenClaim := { program := "ythepmdlpjdlajaa", sum := "ee11e00ca4594600a50ff2cbdf3f82f7bf7f0871d49980db10cc75dc06801d4d", func := "loop.example/g00654/laws.FnExactSymbolAt", spec := "fnExactSymbolAt", apart := false }
def FnExactSymbolAtSaid : Prop := fnExactSymbolAtRow.holds Try.pinned (OpenSpec.ofChange fnExactSymbolAtSpec)

/-- ITS FALSE NEIGHBOUR: 'it returns false'. Refute it at one input. -/
def fnExactSymbolAtWrong : ChangeSpec := { name := "fnExactSymbolAt", fn := fun _ => fun
  | [d1, d2] => { results := [.lit (.bool false)], args := [d1, d2] }
  | _ => none }
def FnExactSymbolAtWrongFalsely : Prop := fnExactSymbolAtRow.holds Try.pinned (OpenSpec.ofChange fnExactSymbolAtWrong)

/- THE SECOND FORM. 'bulk': how many values and letters a reading holds, each counted each time it is reached (what is shared counts as often as it is met; a slice's spare places count too). A statement '..UptoSaid' is the law's where the arguments, and the package variables that the reading takes, are together of bulk at most 1048576: NARROWER than '..Said'. Prove '..Said' where nothing that the law and all that it calls make is longer than what came in: it says more and counts as full. Else prove '..UptoSaid'. A law counts once. -/
mutual
def uptoBulk {H : Type} : DataW H → Nat
  | .lit (.string bytes) => bytes.length + 1
  | .lit _ => 1
  | .nil => 1
  | .ptr d => uptoBulk d + 1
  | .slice elems spare => uptoBulkAll elems + uptoBulkAll spare + 1
  | .agg parts => uptoBulkAll parts + 1
  | .iface _ d => uptoBulk d + 1
  | .map entries => uptoBulkEntries entries + 1
  | .held _ => 1
def uptoBulkAll {H : Type} : List (DataW H) → Nat
  | [] => 0
  | d :: r => uptoBulk d + uptoBulkAll r
def uptoBulkEntries {H : Type} : List (Lit × DataW H) → Nat
  | [] => 0
  | x :: r => uptoBulkEntry x + uptoBulkEntries r
def uptoBulkEntry {H : Type} : Lit × DataW H → Nat
  | (.string bytes, d) => bytes.length + uptoBulk d + 1
  | (_, d) => uptoBulk d + 1
 end
def uptoSmall : (H : Type) → List (DataW H) → Bool := fun _ ds => decide (uptoBulkAll ds ≤ 1048576)
def OpenSpec.upto (s : _root_.Go.ChangeSpec) : _root_.Go.OpenSpec := { _root_.Go.OpenSpec.ofChange s with cond := some uptoSmall }

/-- 'laws.FnExactSymbolNamed', WHERE WHAT IT READS IS OF BULK AT MOST 1048576: true; the input reads as it did. -/
def fnExactSymbolNamedUptoRow : OpenClaim := { program := "ythepmdlpjdlajaa", sum := "ee11e00ca4594600a50ff2cbdf3f82f7bf7f0871d49980db10cc75dc06801d4d", func := "loop.example/g00654/laws.FnExactSymbolNamed", spec := "fnExactSymbolNamed", unfollowed := true, recurses := true, apart := false, narrowed := true }
def FnExactSymbolNamedUptoSaid : Prop := fnExactSymbolNamedUptoRow.holds Try.pinned (OpenSpec.upto fnExactSymbolNamedSpec)

/-- 'laws.FnExactImageText', WHERE WHAT IT READS IS OF BULK AT MOST 1048576: true; the input reads as it did. -/
def fnExactImageTextUptoRow : OpenClaim := { program := "ythepmdlpjdlajaa", sum := "ee11e00ca4594600a50ff2cbdf3f82f7bf7f0871d49980db10cc75dc06801d4d", func := "loop.example/g00654/laws.FnExactImageText", spec := "fnExactImageText", apart := false, narrowed := true }
def FnExactImageTextUptoSaid : Prop := fnExactImageTextUptoRow.holds Try.pinned (OpenSpec.upto fnExactImageTextSpec)

/-- 'laws.FnExactLintFunction', WHERE WHAT IT READS IS OF BULK AT MOST 1048576: true; the input reads as it did. -/
def fnExactLintFunctionUptoRow : OpenClaim := { program := "ythepmdlpjdlajaa", sum := "ee11e00ca4594600a50ff2cbdf3f82f7bf7f0871d49980db10cc75dc06801d4d", func := "loop.example/g00654/laws.FnExactLintFunction", spec := "fnExactLintFunction", apart := false, narrowed := true }
def FnExactLintFunctionUptoSaid : Prop := fnExactLintFunctionUptoRow.holds Try.pinned (OpenSpec.upto fnExactLintFunctionSpec)

/-- 'laws.FnExactCallsOf', WHERE WHAT IT READS IS OF BULK AT MOST 1048576: true; the input reads as it did. -/
def fnExactCallsOfUptoRow : OpenClaim := { program := "ythepmdlpjdlajaa", sum := "ee11e00ca4594600a50ff2cbdf3f82f7bf7f0871d49980db10cc75dc06801d4d", func := "loop.example/g00654/laws.FnExactCallsOf", spec := "fnExactCallsOf", recurses := true, apart := false, narrowed := true }
def FnExactCallsOfUptoSaid : Prop := fnExactCallsOfUptoRow.holds Try.pinned (OpenSpec.upto fnExactCallsOfSpec)

/-- 'laws.FnExactLintImage', WHERE WHAT IT READS IS OF BULK AT MOST 1048576: true; the input reads as it did. -/
def fnExactLintImageUptoRow : OpenClaim := { program := "ythepmdlpjdlajaa", sum := "ee11e00ca4594600a50ff2cbdf3f82f7bf7f0871d49980db10cc75dc06801d4d", func := "loop.example/g00654/laws.FnExactLintImage", spec := "fnExactLintImage", apart := false, narrowed := true }
def FnExactLintImageUptoSaid : Prop := fnExactLintImageUptoRow.holds Try.pinned (OpenSpec.upto fnExactLintImageSpec)

/-- 'laws.FnExactImageOK', WHERE WHAT IT READS IS OF BULK AT MOST 1048576: true; the input reads as it did. -/
def fnExactImageOKUptoRow : OpenClaim := { program := "ythepmdlpjdlajaa", sum := "ee11e00ca4594600a50ff2cbdf3f82f7bf7f0871d49980db10cc75dc06801d4d", func := "loop.example/g00654/laws.FnExactImageOK", spec := "fnExactImageOK", apart := false, narrowed := true }
def FnExactImageOKUptoSaid : Prop := fnExactImageOKUptoRow.holds Try.pinned (OpenSpec.upto fnExactImageOKSpec)

/-- 'laws.FnExactAddressOf', WHERE WHAT IT READS IS OF BULK AT MOST 1048576: true; the input reads as it did. -/
def fnExactAddressOfUptoRow : OpenClaim := { program := "ythepmdlpjdlajaa", sum := "ee11e00ca4594600a50ff2cbdf3f82f7bf7f0871d49980db10cc75dc06801d4d", func := "loop.example/g00654/laws.FnExactAddressOf", spec := "fnExactAddressOf", apart := false, narrowed := true }
def FnExactAddressOfUptoSaid : Prop := fnExactAddressOfUptoRow.holds Try.pinned (OpenSpec.upto fnExactAddressOfSpec)

/-- 'laws.FnExactSymbolAt', WHERE WHAT IT READS IS OF BULK AT MOST 1048576: true; the input reads as it did. -/
def fnExactSymbolAtUptoRow : OpenClaim := { program := "ythepmdlpjdlajaa", sum := "ee11e00ca4594600a50ff2cbdf3f82f7bf7f0871d49980db10cc75dc06801d4d", func := "loop.example/g00654/laws.FnExactSymbolAt", spec := "fnExactSymbolAt", apart := false, narrowed := true }
def FnExactSymbolAtUptoSaid : Prop := fnExactSymbolAtUptoRow.holds Try.pinned (OpenSpec.upto fnExactSymbolAtSpec)

end Rows
end Go.Proofs.Ythepmdlpjdlajaa
