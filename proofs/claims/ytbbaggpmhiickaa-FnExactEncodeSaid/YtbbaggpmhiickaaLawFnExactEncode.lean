/- The walk of FnExactEncode: each Go function that the law reaches as a plain Lean function, with the proof that a call does what it says; no conditions. Written by a program for this claim. -/
import Derived.Test.YtbbaggpmhiickaaRows
import Derived.Test.YtbbaggpmhiickaaPFnExactEncodex8
import Derived.Test.YtbbaggpmhiickaaPureFnExactEncode
import Derived.WalkKit
import Derived.ProofKit
import Derived.OpenShut
import Derived.ShutString
import Derived.ChangeOld
import Derived.Below
import Derived.SizedLaws
import Derived.Test.YtbbaggpmhiickaaWSized
import Derived.Deep.Fields
namespace Go.Proofs.Ytbbaggpmhiickaa.fnExactEncode
open Go.ChangeShapes Go.WideShapes Go.ChangeAt Go.RowKit Go.Deep
open Go.ChangeMaps (open_string shut_string)
set_option linter.unusedVariables false
theorem own : ownKnob Try.prog.godebug = none := by kernel_rfl
theorem laidOut : laidOutB Try.prog = true := by kernel_rfl
def IsRow (k : IntKind) (w : World) (a : Option Addr) (len cap : Nat) (zs : List Int) : Prop :=
  (a = none ∧ len = 0 ∧ cap = 0 ∧ zs = []) ∨
  ∃ x, a = some x ∧ len ≤ cap ∧ cap ≤ maxLen ∧ zs.length = cap ∧ (∀ i, i < zs.length → w.cell? (x.add i) = some (.int k (zs.getD i 0))) ∧ ∀ n ∈ zs, (Lit.int k n).wf = true
section
variable {H : Type} {enc : TypeId × Value → H} {P : Program} {w : World} {base : Nat} {spare : Nat → Bool} {held : Bool}
theorem open_whole5 {r : Reach} {b0 : Nat} {t : TypeId} {f0 f1 f2 f3 f4 : Field} {k0 k1 k2 k3 k4 : IntKind} {v : Value} {d : DataW H} {p : List MemPlace} (hs : P.underlying t = some (.struct #[f0, f1, f2, f3, f4])) (hone : oneCellFields P #[f0, f1, f2, f3, f4] = true) (hC : P.cellsOf t = 5)
    (i0 : P.underlying f0.type = some (.int k0)) (i1 : P.underlying f1.type = some (.int k1)) (i2 : P.underlying f2.type = some (.int k2)) (i3 : P.underlying f3.type = some (.int k3)) (i4 : P.underlying f4.type = some (.int k4)) (hv : Value.okWide P w r b0 t v) (h : DataW.Trod enc P w base spare held t v d p) :
    ∃ z0 z1 z2 z3 z4 : Int, v = .agg #[.int k0 z0, .int k1 z1, .int k2 z2, .int k3 z3, .int k4 z4] ∧ (Lit.int k0 z0).wf = true ∧ (Lit.int k1 z1).wf = true ∧ (Lit.int k2 z2).wf = true ∧ (Lit.int k3 z3).wf = true ∧ (Lit.int k4 z4).wf = true := by
  obtain ⟨⟨cs⟩, rfl, hsz⟩ := okWide_struct hs hv
  obtain ⟨fuel, hf⟩ := h
  obtain ⟨xs, n, _, _, _, hlen, hg⟩ := DataW.trod_struct hs hf
  match cs, xs, hsz.trans hC, hlen with
  | [c0, c1, c2, c3, c4], [y0, y1, y2, y3, y4], _, _ =>
    obtain ⟨o0, q0⟩ := hone_of hone 0 f0 rfl
    have g0 : DataW.trod enc P w base spare held n f0.type [c0] = some y0 := by simpa [Value.cells, o0, q0] using hg 0 f0 rfl
    obtain ⟨z0, e0, _, w0⟩ := DataW.trod_int i0 g0
    obtain rfl : c0 = .int k0 z0 := by simpa using e0
    obtain ⟨o1, q1⟩ := hone_of hone 1 f1 rfl
    have g1 : DataW.trod enc P w base spare held n f1.type [c1] = some y1 := by simpa [Value.cells, o1, q1] using hg 1 f1 rfl
    obtain ⟨z1, e1, _, w1⟩ := DataW.trod_int i1 g1
    obtain rfl : c1 = .int k1 z1 := by simpa using e1
    obtain ⟨o2, q2⟩ := hone_of hone 2 f2 rfl
    have g2 : DataW.trod enc P w base spare held n f2.type [c2] = some y2 := by simpa [Value.cells, o2, q2] using hg 2 f2 rfl
    obtain ⟨z2, e2, _, w2⟩ := DataW.trod_int i2 g2
    obtain rfl : c2 = .int k2 z2 := by simpa using e2
    obtain ⟨o3, q3⟩ := hone_of hone 3 f3 rfl
    have g3 : DataW.trod enc P w base spare held n f3.type [c3] = some y3 := by simpa [Value.cells, o3, q3] using hg 3 f3 rfl
    obtain ⟨z3, e3, _, w3⟩ := DataW.trod_int i3 g3
    obtain rfl : c3 = .int k3 z3 := by simpa using e3
    obtain ⟨o4, q4⟩ := hone_of hone 4 f4 rfl
    have g4 : DataW.trod enc P w base spare held n f4.type [c4] = some y4 := by simpa [Value.cells, o4, q4] using hg 4 f4 rfl
    obtain ⟨z4, e4, _, w4⟩ := DataW.trod_int i4 g4
    obtain rfl : c4 = .int k4 z4 := by simpa using e4
    exact ⟨z0, z1, z2, z3, z4, rfl, w0, w1, w2, w3, w4⟩
end
set_option maxRecDepth 100000 in
theorem lifted (os : Os) (started : os.Started) (H : Type) (enc : TypeId × Value → H) :
    ReturnsInHanded {} Try.checked os 13 .any (Rows.fnExactEncodeSpec.pre6 enc Try.prog Try.f13 Rows.fnExactEncodeRow.domain false) (Rows.fnExactEncodeSpec.post enc Try.prog Try.f13 false true false false) := by
  refine returnsInHanded_of_change_sized (C := Try.checked) own started (by kernel_rfl) Try.func13
    (ChangeSpec.witness6 (enc := enc) (C := Try.checked) false ⟨#[], #[.agg #[.int .i64 0, .int .i64 0, .int .i64 0, .int .i64 0, .int .i64 0]], []⟩ 8 (by kernel_rfl) (by kernel_rfl) (by kernel_rfl) (by kernel_rfl)) ?_
  intro W base args ds gs before hval0 hW hcnd hsz0 _
  have hsz : (DataW.weightsEach Try.prog (Try.f13.params.toList ++ Rows.fnExactEncodeSpec.plain.varTypes Try.prog) (ds ++ gs)).all (· ≤ reachBytes) = true := hsz0
  have hval : ∀ (j : Nat) t v, Try.f13.params[j]? = some t → args[j]? = some v → Value.okWide Try.prog W .any base t v := hval0
  have hW' := hW
  obtain ⟨p, q, hA0, hV, rfl, hfz, hnd⟩ := hW
  have hA : DataW.TrodAll enc Try.prog W 0 (fun _ => true) true Try.f13.params.toList args.toList ds p := hA0
  rw [Try.params13] at hA hval hsz
  obtain ⟨v0, vs0, d0, ds0, p0, q0, hargs, rfl, rfl, h0, r0⟩ := trodAll_cons hA
  obtain ⟨rfl, rfl, rfl⟩ := trodAll_nil r0
  obtain rfl : args = #[v0] := by cases args; simp_all
  obtain ⟨rfl, rfl⟩ := trodVars_none hV
  have k0 := h0
  have lt0 : ∀ x ∈ p0, x.block < W.heap.size := by obtain ⟨m, hm⟩ := k0; exact DataW.trod_lt m _ _ _ hm
  obtain ⟨a0_0, a0_1, a0_2, a0_3, a0_4, rfl, w0_0, w0_1, w0_2, w0_3, w0_4⟩ := open_whole5 Try.underlying54 (by kernel_rfl) (by kernel_rfl) Try.underlying3 Try.underlying3 Try.underlying3 Try.underlying3 Try.underlying3 (hval 0 54 v0 rfl rfl) h0
  clear hA0 hval0 hsz0 hsz
  refine (PFnExactEncode.laws_FnExactEncode.walk Pure.FnExactEncode a0_0 a0_1 a0_2 a0_3 a0_4 W w0_0 w0_1 w0_2 w0_3 w0_4).mono fun e W' ⟨he, bel⟩ => ?_
  subst he
  exact ⟨_, rfl, _, _, _, [], _, [], hW', trodAll_mk1 (shut_bool Try.underlying4 _), (trodAll_cons_mk (Below.trod laidOut (by kernel_rfl) (of_decide_eq_true (by kernel_rfl)) k0 bel lt0) trodAll_mk0), rfl, bel.frame _, fun h => by cases h⟩
theorem over : Rows.fnExactEncodeRow.holds Try.pinned (OpenSpec.ofChange Rows.fnExactEncodeSpec) :=
  OpenClaim.holds_of_wide 13 Try.f13 rfl rfl rfl rfl rfl rfl rfl ⟨rfl, rfl, rfl, rfl, rfl⟩ rfl rfl rfl rfl rfl (by kernel_rfl) Try.func13 (by kernel_rfl)
    (of_decide_eq_true (by kernel_rfl)) (by unfold Func.isWrapper; first | (rw [if_pos (by decide +kernel)]; kernel_rfl) | (rw [if_neg (by decide +kernel)]; exact ⟨rfl, rfl⟩))
    (fun os started H enc _ => lifted os started H enc)
theorem proved : Rows.FnExactEncodeSaid := over
#print axioms proved
end Go.Proofs.Ytbbaggpmhiickaa.fnExactEncode
namespace Go.Proofs.Ytbbaggpmhiickaa
/-- The row, under a short name, for the claim. -/
theorem fnExactEncode_holds : Rows.FnExactEncodeSaid := fnExactEncode.proved
end Go.Proofs.Ytbbaggpmhiickaa
