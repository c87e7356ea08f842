/- The walk of FnExactOpOf: each Go function that the law reaches as a plain Lean function, with the proof that a call does what it says; no conditions. Written by a program for this claim. -/
import Derived.Test.YtbhempnfbginoaaPFnExactOpOfx0
namespace Go.Proofs.Ytbhempnfbginoaa.PFnExactOpOf
open Go.RowKit Go.Proofs.YtbhempnfbginoaaW.PrintWords Go.Proofs.YtbhempnfbginoaaW.PrintLast Go.Proofs.YtbhempnfbginoaaW.PrintMore
attribute [local go_sem] max2_int min2_int max_two min_two max_three min_three max_four min_four   -- for this text's walks alone
set_option linter.unusedVariables false
set_option linter.unusedSimpArgs false

/-! ### spec_l02Names: function 72 -/
def spec_l02Names.f  : Option (List ByteArray) := some (([(⟨#[108, 117, 105]⟩ : ByteArray), (⟨#[97, 117, 105, 112, 99]⟩ : ByteArray), (⟨#[106, 97, 108]⟩ : ByteArray), (⟨#[106, 97, 108, 114]⟩ : ByteArray), (⟨#[98, 101, 113]⟩ : ByteArray), (⟨#[98, 110, 101]⟩ : ByteArray), (⟨#[98, 108, 116]⟩ : ByteArray), (⟨#[98, 103, 101]⟩ : ByteArray), (⟨#[98, 108, 116, 117]⟩ : ByteArray), (⟨#[98, 103, 101, 117]⟩ : ByteArray), (⟨#[108, 98]⟩ : ByteArray), (⟨#[108, 104]⟩ : ByteArray), (⟨#[108, 119]⟩ : ByteArray), (⟨#[108, 100]⟩ : ByteArray), (⟨#[108, 98, 117]⟩ : ByteArray), (⟨#[108, 104, 117]⟩ : ByteArray), (⟨#[108, 119, 117]⟩ : ByteArray), (⟨#[115, 98]⟩ : ByteArray), (⟨#[115, 104]⟩ : ByteArray), (⟨#[115, 119]⟩ : ByteArray), (⟨#[115, 100]⟩ : ByteArray), (⟨#[97, 100, 100, 105]⟩ : ByteArray), (⟨#[115, 108, 116, 105]⟩ : ByteArray), (⟨#[115, 108, 116, 105, 117]⟩ : ByteArray), (⟨#[120, 111, 114, 105]⟩ : ByteArray), (⟨#[111, 114, 105]⟩ : ByteArray), (⟨#[97, 110, 100, 105]⟩ : ByteArray), (⟨#[115, 108, 108, 105]⟩ : ByteArray), (⟨#[115, 114, 108, 105]⟩ : ByteArray), (⟨#[115, 114, 97, 105]⟩ : ByteArray), (⟨#[97, 100, 100]⟩ : ByteArray), (⟨#[115, 117, 98]⟩ : ByteArray), (⟨#[115, 108, 108]⟩ : ByteArray), (⟨#[115, 108, 116]⟩ : ByteArray), (⟨#[115, 108, 116, 117]⟩ : ByteArray), (⟨#[120, 111, 114]⟩ : ByteArray), (⟨#[115, 114, 108]⟩ : ByteArray), (⟨#[115, 114, 97]⟩ : ByteArray), (⟨#[111, 114]⟩ : ByteArray), (⟨#[97, 110, 100]⟩ : ByteArray), (⟨#[97, 100, 100, 105, 119]⟩ : ByteArray), (⟨#[115, 108, 108, 105, 119]⟩ : ByteArray), (⟨#[115, 114, 108, 105, 119]⟩ : ByteArray), (⟨#[115, 114, 97, 105, 119]⟩ : ByteArray), (⟨#[97, 100, 100, 119]⟩ : ByteArray), (⟨#[115, 117, 98, 119]⟩ : ByteArray), (⟨#[115, 108, 108, 119]⟩ : ByteArray), (⟨#[115, 114, 108, 119]⟩ : ByteArray), (⟨#[115, 114, 97, 119]⟩ : ByteArray), (⟨#[109, 117, 108]⟩ : ByteArray), (⟨#[109, 117, 108, 104]⟩ : ByteArray), (⟨#[109, 117, 108, 104, 115, 117]⟩ : ByteArray), (⟨#[109, 117, 108, 104, 117]⟩ : ByteArray), (⟨#[100, 105, 118]⟩ : ByteArray), (⟨#[100, 105, 118, 117]⟩ : ByteArray), (⟨#[114, 101, 109]⟩ : ByteArray), (⟨#[114, 101, 109, 117]⟩ : ByteArray), (⟨#[109, 117, 108, 119]⟩ : ByteArray), (⟨#[100, 105, 118, 119]⟩ : ByteArray), (⟨#[100, 105, 118, 117, 119]⟩ : ByteArray), (⟨#[114, 101, 109, 119]⟩ : ByteArray), (⟨#[114, 101, 109, 117, 119]⟩ : ByteArray), (⟨#[101, 99, 97, 108, 108]⟩ : ByteArray), (⟨#[101, 98, 114, 101, 97, 107]⟩ : ByteArray)] : List ByteArray))
set_option maxHeartbeats 8000000 in
set_option maxRecDepth 100000 in
theorem spec_l02Names.calls  (r : List ByteArray) (w : World) (h : spec_l02Names.f  = some r) :
    Calls Try.prog 72 #[] w fun e w' => ∃ v0_ : Value, e = .returned (v0_) ∧ Kd.R Kd.string 9 w' w.heap.size (fun _ => True) v0_ r ∧ Below w.heap.size w w' := by
  have HB := Aside0.mk (Below.refl w.heap.size w)
  have H : (some (([(⟨#[108, 117, 105]⟩ : ByteArray), (⟨#[97, 117, 105, 112, 99]⟩ : ByteArray), (⟨#[106, 97, 108]⟩ : ByteArray), (⟨#[106, 97, 108, 114]⟩ : ByteArray), (⟨#[98, 101, 113]⟩ : ByteArray), (⟨#[98, 110, 101]⟩ : ByteArray), (⟨#[98, 108, 116]⟩ : ByteArray), (⟨#[98, 103, 101]⟩ : ByteArray), (⟨#[98, 108, 116, 117]⟩ : ByteArray), (⟨#[98, 103, 101, 117]⟩ : ByteArray), (⟨#[108, 98]⟩ : ByteArray), (⟨#[108, 104]⟩ : ByteArray), (⟨#[108, 119]⟩ : ByteArray), (⟨#[108, 100]⟩ : ByteArray), (⟨#[108, 98, 117]⟩ : ByteArray), (⟨#[108, 104, 117]⟩ : ByteArray), (⟨#[108, 119, 117]⟩ : ByteArray), (⟨#[115, 98]⟩ : ByteArray), (⟨#[115, 104]⟩ : ByteArray), (⟨#[115, 119]⟩ : ByteArray), (⟨#[115, 100]⟩ : ByteArray), (⟨#[97, 100, 100, 105]⟩ : ByteArray), (⟨#[115, 108, 116, 105]⟩ : ByteArray), (⟨#[115, 108, 116, 105, 117]⟩ : ByteArray), (⟨#[120, 111, 114, 105]⟩ : ByteArray), (⟨#[111, 114, 105]⟩ : ByteArray), (⟨#[97, 110, 100, 105]⟩ : ByteArray), (⟨#[115, 108, 108, 105]⟩ : ByteArray), (⟨#[115, 114, 108, 105]⟩ : ByteArray), (⟨#[115, 114, 97, 105]⟩ : ByteArray), (⟨#[97, 100, 100]⟩ : ByteArray), (⟨#[115, 117, 98]⟩ : ByteArray), (⟨#[115, 108, 108]⟩ : ByteArray), (⟨#[115, 108, 116]⟩ : ByteArray), (⟨#[115, 108, 116, 117]⟩ : ByteArray), (⟨#[120, 111, 114]⟩ : ByteArray), (⟨#[115, 114, 108]⟩ : ByteArray), (⟨#[115, 114, 97]⟩ : ByteArray), (⟨#[111, 114]⟩ : ByteArray), (⟨#[97, 110, 100]⟩ : ByteArray), (⟨#[97, 100, 100, 105, 119]⟩ : ByteArray), (⟨#[115, 108, 108, 105, 119]⟩ : ByteArray), (⟨#[115, 114, 108, 105, 119]⟩ : ByteArray), (⟨#[115, 114, 97, 105, 119]⟩ : ByteArray), (⟨#[97, 100, 100, 119]⟩ : ByteArray), (⟨#[115, 117, 98, 119]⟩ : ByteArray), (⟨#[115, 108, 108, 119]⟩ : ByteArray), (⟨#[115, 114, 108, 119]⟩ : ByteArray), (⟨#[115, 114, 97, 119]⟩ : ByteArray), (⟨#[109, 117, 108]⟩ : ByteArray), (⟨#[109, 117, 108, 104]⟩ : ByteArray), (⟨#[109, 117, 108, 104, 115, 117]⟩ : ByteArray), (⟨#[109, 117, 108, 104, 117]⟩ : ByteArray), (⟨#[100, 105, 118]⟩ : ByteArray), (⟨#[100, 105, 118, 117]⟩ : ByteArray), (⟨#[114, 101, 109]⟩ : ByteArray), (⟨#[114, 101, 109, 117]⟩ : ByteArray), (⟨#[109, 117, 108, 119]⟩ : ByteArray), (⟨#[100, 105, 118, 119]⟩ : ByteArray), (⟨#[100, 105, 118, 117, 119]⟩ : ByteArray), (⟨#[114, 101, 109, 119]⟩ : ByteArray), (⟨#[114, 101, 109, 117, 119]⟩ : ByteArray), (⟨#[101, 99, 97, 108, 108]⟩ : ByteArray), (⟨#[101, 98, 114, 101, 97, 107]⟩ : ByteArray)] : List ByteArray))) = some r := h
  clear h
  obtain ⟨y101, hy101⟩ : ∃ y_ : List ByteArray, y_ = (([(⟨#[108, 117, 105]⟩ : ByteArray), (⟨#[97, 117, 105, 112, 99]⟩ : ByteArray), (⟨#[106, 97, 108]⟩ : ByteArray), (⟨#[106, 97, 108, 114]⟩ : ByteArray), (⟨#[98, 101, 113]⟩ : ByteArray), (⟨#[98, 110, 101]⟩ : ByteArray), (⟨#[98, 108, 116]⟩ : ByteArray), (⟨#[98, 103, 101]⟩ : ByteArray), (⟨#[98, 108, 116, 117]⟩ : ByteArray), (⟨#[98, 103, 101, 117]⟩ : ByteArray), (⟨#[108, 98]⟩ : ByteArray), (⟨#[108, 104]⟩ : ByteArray), (⟨#[108, 119]⟩ : ByteArray), (⟨#[108, 100]⟩ : ByteArray), (⟨#[108, 98, 117]⟩ : ByteArray), (⟨#[108, 104, 117]⟩ : ByteArray), (⟨#[108, 119, 117]⟩ : ByteArray), (⟨#[115, 98]⟩ : ByteArray), (⟨#[115, 104]⟩ : ByteArray), (⟨#[115, 119]⟩ : ByteArray), (⟨#[115, 100]⟩ : ByteArray), (⟨#[97, 100, 100, 105]⟩ : ByteArray), (⟨#[115, 108, 116, 105]⟩ : ByteArray), (⟨#[115, 108, 116, 105, 117]⟩ : ByteArray), (⟨#[120, 111, 114, 105]⟩ : ByteArray), (⟨#[111, 114, 105]⟩ : ByteArray), (⟨#[97, 110, 100, 105]⟩ : ByteArray), (⟨#[115, 108, 108, 105]⟩ : ByteArray), (⟨#[115, 114, 108, 105]⟩ : ByteArray), (⟨#[115, 114, 97, 105]⟩ : ByteArray), (⟨#[97, 100, 100]⟩ : ByteArray), (⟨#[115, 117, 98]⟩ : ByteArray), (⟨#[115, 108, 108]⟩ : ByteArray), (⟨#[115, 108, 116]⟩ : ByteArray), (⟨#[115, 108, 116, 117]⟩ : ByteArray), (⟨#[120, 111, 114]⟩ : ByteArray), (⟨#[115, 114, 108]⟩ : ByteArray), (⟨#[115, 114, 97]⟩ : ByteArray), (⟨#[111, 114]⟩ : ByteArray), (⟨#[97, 110, 100]⟩ : ByteArray), (⟨#[97, 100, 100, 105, 119]⟩ : ByteArray), (⟨#[115, 108, 108, 105, 119]⟩ : ByteArray), (⟨#[115, 114, 108, 105, 119]⟩ : ByteArray), (⟨#[115, 114, 97, 105, 119]⟩ : ByteArray), (⟨#[97, 100, 100, 119]⟩ : ByteArray), (⟨#[115, 117, 98, 119]⟩ : ByteArray), (⟨#[115, 108, 108, 119]⟩ : ByteArray), (⟨#[115, 114, 108, 119]⟩ : ByteArray), (⟨#[115, 114, 97, 119]⟩ : ByteArray), (⟨#[109, 117, 108]⟩ : ByteArray), (⟨#[109, 117, 108, 104]⟩ : ByteArray), (⟨#[109, 117, 108, 104, 115, 117]⟩ : ByteArray), (⟨#[109, 117, 108, 104, 117]⟩ : ByteArray), (⟨#[100, 105, 118]⟩ : ByteArray), (⟨#[100, 105, 118, 117]⟩ : ByteArray), (⟨#[114, 101, 109]⟩ : ByteArray), (⟨#[114, 101, 109, 117]⟩ : ByteArray), (⟨#[109, 117, 108, 119]⟩ : ByteArray), (⟨#[100, 105, 118, 119]⟩ : ByteArray), (⟨#[100, 105, 118, 117, 119]⟩ : ByteArray), (⟨#[114, 101, 109, 119]⟩ : ByteArray), (⟨#[114, 101, 109, 117, 119]⟩ : ByteArray), (⟨#[101, 99, 97, 108, 108]⟩ : ByteArray), (⟨#[101, 98, 114, 101, 97, 107]⟩ : ByteArray)] : List ByteArray)) := ⟨_, rfl⟩
  replace H : (some y101) = some r := by first | (rw [hy101]; with_reducible exact H) | (have H2_ := (Option.bind_some _ _).symm.trans H; rw [hy101]; with_reducible exact H2_) | (have H2_ := (Option.bind_some _ _).symm.trans H; with_reducible exact H2_) | with_reducible exact H | (rw [hy101]; exact H) | exact H
  have Ny101 := Aside0.mk hy101
  clear hy101
  obtain rfl := Option.some.inj H
  go_enter Try.func72, Try.ntmps72
  go_wp2_with (first | ((with_reducible refine gate_dst (N := 1) rfl ?_); refine Kd.R_lit Kd.string _ 9 ?hg (N := 1) ?hd (xs := ([(⟨#[108, 117, 105]⟩ : ByteArray), (⟨#[97, 117, 105, 112, 99]⟩ : ByteArray), (⟨#[106, 97, 108]⟩ : ByteArray), (⟨#[106, 97, 108, 114]⟩ : ByteArray), (⟨#[98, 101, 113]⟩ : ByteArray), (⟨#[98, 110, 101]⟩ : ByteArray), (⟨#[98, 108, 116]⟩ : ByteArray), (⟨#[98, 103, 101]⟩ : ByteArray), (⟨#[98, 108, 116, 117]⟩ : ByteArray), (⟨#[98, 103, 101, 117]⟩ : ByteArray), (⟨#[108, 98]⟩ : ByteArray), (⟨#[108, 104]⟩ : ByteArray), (⟨#[108, 119]⟩ : ByteArray), (⟨#[108, 100]⟩ : ByteArray), (⟨#[108, 98, 117]⟩ : ByteArray), (⟨#[108, 104, 117]⟩ : ByteArray), (⟨#[108, 119, 117]⟩ : ByteArray), (⟨#[115, 98]⟩ : ByteArray), (⟨#[115, 104]⟩ : ByteArray), (⟨#[115, 119]⟩ : ByteArray), (⟨#[115, 100]⟩ : ByteArray), (⟨#[97, 100, 100, 105]⟩ : ByteArray), (⟨#[115, 108, 116, 105]⟩ : ByteArray), (⟨#[115, 108, 116, 105, 117]⟩ : ByteArray), (⟨#[120, 111, 114, 105]⟩ : ByteArray), (⟨#[111, 114, 105]⟩ : ByteArray), (⟨#[97, 110, 100, 105]⟩ : ByteArray), (⟨#[115, 108, 108, 105]⟩ : ByteArray), (⟨#[115, 114, 108, 105]⟩ : ByteArray), (⟨#[115, 114, 97, 105]⟩ : ByteArray), (⟨#[97, 100, 100]⟩ : ByteArray), (⟨#[115, 117, 98]⟩ : ByteArray), (⟨#[115, 108, 108]⟩ : ByteArray), (⟨#[115, 108, 116]⟩ : ByteArray), (⟨#[115, 108, 116, 117]⟩ : ByteArray), (⟨#[120, 111, 114]⟩ : ByteArray), (⟨#[115, 114, 108]⟩ : ByteArray), (⟨#[115, 114, 97]⟩ : ByteArray), (⟨#[111, 114]⟩ : ByteArray), (⟨#[97, 110, 100]⟩ : ByteArray), (⟨#[97, 100, 100, 105, 119]⟩ : ByteArray), (⟨#[115, 108, 108, 105, 119]⟩ : ByteArray), (⟨#[115, 114, 108, 105, 119]⟩ : ByteArray), (⟨#[115, 114, 97, 105, 119]⟩ : ByteArray), (⟨#[97, 100, 100, 119]⟩ : ByteArray), (⟨#[115, 117, 98, 119]⟩ : ByteArray), (⟨#[115, 108, 108, 119]⟩ : ByteArray), (⟨#[115, 114, 108, 119]⟩ : ByteArray), (⟨#[115, 114, 97, 119]⟩ : ByteArray), (⟨#[109, 117, 108]⟩ : ByteArray), (⟨#[109, 117, 108, 104]⟩ : ByteArray), (⟨#[109, 117, 108, 104, 115, 117]⟩ : ByteArray), (⟨#[109, 117, 108, 104, 117]⟩ : ByteArray), (⟨#[100, 105, 118]⟩ : ByteArray), (⟨#[100, 105, 118, 117]⟩ : ByteArray), (⟨#[114, 101, 109]⟩ : ByteArray), (⟨#[114, 101, 109, 117]⟩ : ByteArray), (⟨#[109, 117, 108, 119]⟩ : ByteArray), (⟨#[100, 105, 118, 119]⟩ : ByteArray), (⟨#[100, 105, 118, 117, 119]⟩ : ByteArray), (⟨#[114, 101, 109, 119]⟩ : ByteArray), (⟨#[114, 101, 109, 117, 119]⟩ : ByteArray), (⟨#[101, 99, 97, 108, 108]⟩ : ByteArray), (⟨#[101, 98, 114, 101, 97, 107]⟩ : ByteArray)] : List ByteArray)) (inner := [.string (⟨#[108, 117, 105]⟩ : ByteArray), .string (⟨#[97, 117, 105, 112, 99]⟩ : ByteArray), .string (⟨#[106, 97, 108]⟩ : ByteArray), .string (⟨#[106, 97, 108, 114]⟩ : ByteArray), .string (⟨#[98, 101, 113]⟩ : ByteArray), .string (⟨#[98, 110, 101]⟩ : ByteArray), .string (⟨#[98, 108, 116]⟩ : ByteArray), .string (⟨#[98, 103, 101]⟩ : ByteArray), .string (⟨#[98, 108, 116, 117]⟩ : ByteArray), .string (⟨#[98, 103, 101, 117]⟩ : ByteArray), .string (⟨#[108, 98]⟩ : ByteArray), .string (⟨#[108, 104]⟩ : ByteArray), .string (⟨#[108, 119]⟩ : ByteArray), .string (⟨#[108, 100]⟩ : ByteArray), .string (⟨#[108, 98, 117]⟩ : ByteArray), .string (⟨#[108, 104, 117]⟩ : ByteArray), .string (⟨#[108, 119, 117]⟩ : ByteArray), .string (⟨#[115, 98]⟩ : ByteArray), .string (⟨#[115, 104]⟩ : ByteArray), .string (⟨#[115, 119]⟩ : ByteArray), .string (⟨#[115, 100]⟩ : ByteArray), .string (⟨#[97, 100, 100, 105]⟩ : ByteArray), .string (⟨#[115, 108, 116, 105]⟩ : ByteArray), .string (⟨#[115, 108, 116, 105, 117]⟩ : ByteArray), .string (⟨#[120, 111, 114, 105]⟩ : ByteArray), .string (⟨#[111, 114, 105]⟩ : ByteArray), .string (⟨#[97, 110, 100, 105]⟩ : ByteArray), .string (⟨#[115, 108, 108, 105]⟩ : ByteArray), .string (⟨#[115, 114, 108, 105]⟩ : ByteArray), .string (⟨#[115, 114, 97, 105]⟩ : ByteArray), .string (⟨#[97, 100, 100]⟩ : ByteArray), .string (⟨#[115, 117, 98]⟩ : ByteArray), .string (⟨#[115, 108, 108]⟩ : ByteArray), .string (⟨#[115, 108, 116]⟩ : ByteArray), .string (⟨#[115, 108, 116, 117]⟩ : ByteArray), .string (⟨#[120, 111, 114]⟩ : ByteArray), .string (⟨#[115, 114, 108]⟩ : ByteArray), .string (⟨#[115, 114, 97]⟩ : ByteArray), .string (⟨#[111, 114]⟩ : ByteArray), .string (⟨#[97, 110, 100]⟩ : ByteArray), .string (⟨#[97, 100, 100, 105, 119]⟩ : ByteArray), .string (⟨#[115, 108, 108, 105, 119]⟩ : ByteArray), .string (⟨#[115, 114, 108, 105, 119]⟩ : ByteArray), .string (⟨#[115, 114, 97, 105, 119]⟩ : ByteArray), .string (⟨#[97, 100, 100, 119]⟩ : ByteArray), .string (⟨#[115, 117, 98, 119]⟩ : ByteArray), .string (⟨#[115, 108, 108, 119]⟩ : ByteArray), .string (⟨#[115, 114, 108, 119]⟩ : ByteArray), .string (⟨#[115, 114, 97, 119]⟩ : ByteArray), .string (⟨#[109, 117, 108]⟩ : ByteArray), .string (⟨#[109, 117, 108, 104]⟩ : ByteArray), .string (⟨#[109, 117, 108, 104, 115, 117]⟩ : ByteArray), .string (⟨#[109, 117, 108, 104, 117]⟩ : ByteArray), .string (⟨#[100, 105, 118]⟩ : ByteArray), .string (⟨#[100, 105, 118, 117]⟩ : ByteArray), .string (⟨#[114, 101, 109]⟩ : ByteArray), .string (⟨#[114, 101, 109, 117]⟩ : ByteArray), .string (⟨#[109, 117, 108, 119]⟩ : ByteArray), .string (⟨#[100, 105, 118, 119]⟩ : ByteArray), .string (⟨#[100, 105, 118, 117, 119]⟩ : ByteArray), .string (⟨#[114, 101, 109, 119]⟩ : ByteArray), .string (⟨#[114, 101, 109, 117, 119]⟩ : ByteArray), .string (⟨#[101, 99, 97, 108, 108]⟩ : ByteArray), .string (⟨#[101, 98, 114, 101, 97, 107]⟩ : ByteArray)]) (ok := fun _ => True) (okp := fun _ => True) ?hr ?hp (fun _ hk => hk) trivial (Below.refl _ _) (Nat.le_refl _) (by simp) ?_; (case hd => rfl); (case hg => rfl); (case hr => first | (go_simp; done) | (go_simp; rfl)); (case hp => exact (Reps.one (show Kd.M Kd.string _ _ _ (⟨#[108, 117, 105]⟩ : ByteArray) [.string (⟨#[108, 117, 105]⟩ : ByteArray)] from rfl) (Reps.one (show Kd.M Kd.string _ _ _ (⟨#[97, 117, 105, 112, 99]⟩ : ByteArray) [.string (⟨#[97, 117, 105, 112, 99]⟩ : ByteArray)] from rfl) (Reps.one (show Kd.M Kd.string _ _ _ (⟨#[106, 97, 108]⟩ : ByteArray) [.string (⟨#[106, 97, 108]⟩ : ByteArray)] from rfl) (Reps.one (show Kd.M Kd.string _ _ _ (⟨#[106, 97, 108, 114]⟩ : ByteArray) [.string (⟨#[106, 97, 108, 114]⟩ : ByteArray)] from rfl) (Reps.one (show Kd.M Kd.string _ _ _ (⟨#[98, 101, 113]⟩ : ByteArray) [.string (⟨#[98, 101, 113]⟩ : ByteArray)] from rfl) (Reps.one (show Kd.M Kd.string _ _ _ (⟨#[98, 110, 101]⟩ : ByteArray) [.string (⟨#[98, 110, 101]⟩ : ByteArray)] from rfl) (Reps.one (show Kd.M Kd.string _ _ _ (⟨#[98, 108, 116]⟩ : ByteArray) [.string (⟨#[98, 108, 116]⟩ : ByteArray)] from rfl) (Reps.one (show Kd.M Kd.string _ _ _ (⟨#[98, 103, 101]⟩ : ByteArray) [.string (⟨#[98, 103, 101]⟩ : ByteArray)] from rfl) (Reps.one (show Kd.M Kd.string _ _ _ (⟨#[98, 108, 116, 117]⟩ : ByteArray) [.string (⟨#[98, 108, 116, 117]⟩ : ByteArray)] from rfl) (Reps.one (show Kd.M Kd.string _ _ _ (⟨#[98, 103, 101, 117]⟩ : ByteArray) [.string (⟨#[98, 103, 101, 117]⟩ : ByteArray)] from rfl) (Reps.one (show Kd.M Kd.string _ _ _ (⟨#[108, 98]⟩ : ByteArray) [.string (⟨#[108, 98]⟩ : ByteArray)] from rfl) (Reps.one (show Kd.M Kd.string _ _ _ (⟨#[108, 104]⟩ : ByteArray) [.string (⟨#[108, 104]⟩ : ByteArray)] from rfl) (Reps.one (show Kd.M Kd.string _ _ _ (⟨#[108, 119]⟩ : ByteArray) [.string (⟨#[108, 119]⟩ : ByteArray)] from rfl) (Reps.one (show Kd.M Kd.string _ _ _ (⟨#[108, 100]⟩ : ByteArray) [.string (⟨#[108, 100]⟩ : ByteArray)] from rfl) (Reps.one (show Kd.M Kd.string _ _ _ (⟨#[108, 98, 117]⟩ : ByteArray) [.string (⟨#[108, 98, 117]⟩ : ByteArray)] from rfl) (Reps.one (show Kd.M Kd.string _ _ _ (⟨#[108, 104, 117]⟩ : ByteArray) [.string (⟨#[108, 104, 117]⟩ : ByteArray)] from rfl) (Reps.one (show Kd.M Kd.string _ _ _ (⟨#[108, 119, 117]⟩ : ByteArray) [.string (⟨#[108, 119, 117]⟩ : ByteArray)] from rfl) (Reps.one (show Kd.M Kd.string _ _ _ (⟨#[115, 98]⟩ : ByteArray) [.string (⟨#[115, 98]⟩ : ByteArray)] from rfl) (Reps.one (show Kd.M Kd.string _ _ _ (⟨#[115, 104]⟩ : ByteArray) [.string (⟨#[115, 104]⟩ : ByteArray)] from rfl) (Reps.one (show Kd.M Kd.string _ _ _ (⟨#[115, 119]⟩ : ByteArray) [.string (⟨#[115, 119]⟩ : ByteArray)] from rfl) (Reps.one (show Kd.M Kd.string _ _ _ (⟨#[115, 100]⟩ : ByteArray) [.string (⟨#[115, 100]⟩ : ByteArray)] from rfl) (Reps.one (show Kd.M Kd.string _ _ _ (⟨#[97, 100, 100, 105]⟩ : ByteArray) [.string (⟨#[97, 100, 100, 105]⟩ : ByteArray)] from rfl) (Reps.one (show Kd.M Kd.string _ _ _ (⟨#[115, 108, 116, 105]⟩ : ByteArray) [.string (⟨#[115, 108, 116, 105]⟩ : ByteArray)] from rfl) (Reps.one (show Kd.M Kd.string _ _ _ (⟨#[115, 108, 116, 105, 117]⟩ : ByteArray) [.string (⟨#[115, 108, 116, 105, 117]⟩ : ByteArray)] from rfl) (Reps.one (show Kd.M Kd.string _ _ _ (⟨#[120, 111, 114, 105]⟩ : ByteArray) [.string (⟨#[120, 111, 114, 105]⟩ : ByteArray)] from rfl) (Reps.one (show Kd.M Kd.string _ _ _ (⟨#[111, 114, 105]⟩ : ByteArray) [.string (⟨#[111, 114, 105]⟩ : ByteArray)] from rfl) (Reps.one (show Kd.M Kd.string _ _ _ (⟨#[97, 110, 100, 105]⟩ : ByteArray) [.string (⟨#[97, 110, 100, 105]⟩ : ByteArray)] from rfl) (Reps.one (show Kd.M Kd.string _ _ _ (⟨#[115, 108, 108, 105]⟩ : ByteArray) [.string (⟨#[115, 108, 108, 105]⟩ : ByteArray)] from rfl) (Reps.one (show Kd.M Kd.string _ _ _ (⟨#[115, 114, 108, 105]⟩ : ByteArray) [.string (⟨#[115, 114, 108, 105]⟩ : ByteArray)] from rfl) (Reps.one (show Kd.M Kd.string _ _ _ (⟨#[115, 114, 97, 105]⟩ : ByteArray) [.string (⟨#[115, 114, 97, 105]⟩ : ByteArray)] from rfl) (Reps.one (show Kd.M Kd.string _ _ _ (⟨#[97, 100, 100]⟩ : ByteArray) [.string (⟨#[97, 100, 100]⟩ : ByteArray)] from rfl) (Reps.one (show Kd.M Kd.string _ _ _ (⟨#[115, 117, 98]⟩ : ByteArray) [.string (⟨#[115, 117, 98]⟩ : ByteArray)] from rfl) (Reps.one (show Kd.M Kd.string _ _ _ (⟨#[115, 108, 108]⟩ : ByteArray) [.string (⟨#[115, 108, 108]⟩ : ByteArray)] from rfl) (Reps.one (show Kd.M Kd.string _ _ _ (⟨#[115, 108, 116]⟩ : ByteArray) [.string (⟨#[115, 108, 116]⟩ : ByteArray)] from rfl) (Reps.one (show Kd.M Kd.string _ _ _ (⟨#[115, 108, 116, 117]⟩ : ByteArray) [.string (⟨#[115, 108, 116, 117]⟩ : ByteArray)] from rfl) (Reps.one (show Kd.M Kd.string _ _ _ (⟨#[120, 111, 114]⟩ : ByteArray) [.string (⟨#[120, 111, 114]⟩ : ByteArray)] from rfl) (Reps.one (show Kd.M Kd.string _ _ _ (⟨#[115, 114, 108]⟩ : ByteArray) [.string (⟨#[115, 114, 108]⟩ : ByteArray)] from rfl) (Reps.one (show Kd.M Kd.string _ _ _ (⟨#[115, 114, 97]⟩ : ByteArray) [.string (⟨#[115, 114, 97]⟩ : ByteArray)] from rfl) (Reps.one (show Kd.M Kd.string _ _ _ (⟨#[111, 114]⟩ : ByteArray) [.string (⟨#[111, 114]⟩ : ByteArray)] from rfl) (Reps.one (show Kd.M Kd.string _ _ _ (⟨#[97, 110, 100]⟩ : ByteArray) [.string (⟨#[97, 110, 100]⟩ : ByteArray)] from rfl) (Reps.one (show Kd.M Kd.string _ _ _ (⟨#[97, 100, 100, 105, 119]⟩ : ByteArray) [.string (⟨#[97, 100, 100, 105, 119]⟩ : ByteArray)] from rfl) (Reps.one (show Kd.M Kd.string _ _ _ (⟨#[115, 108, 108, 105, 119]⟩ : ByteArray) [.string (⟨#[115, 108, 108, 105, 119]⟩ : ByteArray)] from rfl) (Reps.one (show Kd.M Kd.string _ _ _ (⟨#[115, 114, 108, 105, 119]⟩ : ByteArray) [.string (⟨#[115, 114, 108, 105, 119]⟩ : ByteArray)] from rfl) (Reps.one (show Kd.M Kd.string _ _ _ (⟨#[115, 114, 97, 105, 119]⟩ : ByteArray) [.string (⟨#[115, 114, 97, 105, 119]⟩ : ByteArray)] from rfl) (Reps.one (show Kd.M Kd.string _ _ _ (⟨#[97, 100, 100, 119]⟩ : ByteArray) [.string (⟨#[97, 100, 100, 119]⟩ : ByteArray)] from rfl) (Reps.one (show Kd.M Kd.string _ _ _ (⟨#[115, 117, 98, 119]⟩ : ByteArray) [.string (⟨#[115, 117, 98, 119]⟩ : ByteArray)] from rfl) (Reps.one (show Kd.M Kd.string _ _ _ (⟨#[115, 108, 108, 119]⟩ : ByteArray) [.string (⟨#[115, 108, 108, 119]⟩ : ByteArray)] from rfl) (Reps.one (show Kd.M Kd.string _ _ _ (⟨#[115, 114, 108, 119]⟩ : ByteArray) [.string (⟨#[115, 114, 108, 119]⟩ : ByteArray)] from rfl) (Reps.one (show Kd.M Kd.string _ _ _ (⟨#[115, 114, 97, 119]⟩ : ByteArray) [.string (⟨#[115, 114, 97, 119]⟩ : ByteArray)] from rfl) (Reps.one (show Kd.M Kd.string _ _ _ (⟨#[109, 117, 108]⟩ : ByteArray) [.string (⟨#[109, 117, 108]⟩ : ByteArray)] from rfl) (Reps.one (show Kd.M Kd.string _ _ _ (⟨#[109, 117, 108, 104]⟩ : ByteArray) [.string (⟨#[109, 117, 108, 104]⟩ : ByteArray)] from rfl) (Reps.one (show Kd.M Kd.string _ _ _ (⟨#[109, 117, 108, 104, 115, 117]⟩ : ByteArray) [.string (⟨#[109, 117, 108, 104, 115, 117]⟩ : ByteArray)] from rfl) (Reps.one (show Kd.M Kd.string _ _ _ (⟨#[109, 117, 108, 104, 117]⟩ : ByteArray) [.string (⟨#[109, 117, 108, 104, 117]⟩ : ByteArray)] from rfl) (Reps.one (show Kd.M Kd.string _ _ _ (⟨#[100, 105, 118]⟩ : ByteArray) [.string (⟨#[100, 105, 118]⟩ : ByteArray)] from rfl) (Reps.one (show Kd.M Kd.string _ _ _ (⟨#[100, 105, 118, 117]⟩ : ByteArray) [.string (⟨#[100, 105, 118, 117]⟩ : ByteArray)] from rfl) (Reps.one (show Kd.M Kd.string _ _ _ (⟨#[114, 101, 109]⟩ : ByteArray) [.string (⟨#[114, 101, 109]⟩ : ByteArray)] from rfl) (Reps.one (show Kd.M Kd.string _ _ _ (⟨#[114, 101, 109, 117]⟩ : ByteArray) [.string (⟨#[114, 101, 109, 117]⟩ : ByteArray)] from rfl) (Reps.one (show Kd.M Kd.string _ _ _ (⟨#[109, 117, 108, 119]⟩ : ByteArray) [.string (⟨#[109, 117, 108, 119]⟩ : ByteArray)] from rfl) (Reps.one (show Kd.M Kd.string _ _ _ (⟨#[100, 105, 118, 119]⟩ : ByteArray) [.string (⟨#[100, 105, 118, 119]⟩ : ByteArray)] from rfl) (Reps.one (show Kd.M Kd.string _ _ _ (⟨#[100, 105, 118, 117, 119]⟩ : ByteArray) [.string (⟨#[100, 105, 118, 117, 119]⟩ : ByteArray)] from rfl) (Reps.one (show Kd.M Kd.string _ _ _ (⟨#[114, 101, 109, 119]⟩ : ByteArray) [.string (⟨#[114, 101, 109, 119]⟩ : ByteArray)] from rfl) (Reps.one (show Kd.M Kd.string _ _ _ (⟨#[114, 101, 109, 117, 119]⟩ : ByteArray) [.string (⟨#[114, 101, 109, 117, 119]⟩ : ByteArray)] from rfl) (Reps.one (show Kd.M Kd.string _ _ _ (⟨#[101, 99, 97, 108, 108]⟩ : ByteArray) [.string (⟨#[101, 99, 97, 108, 108]⟩ : ByteArray)] from rfl) (Reps.one (show Kd.M Kd.string _ _ _ (⟨#[101, 98, 114, 101, 97, 107]⟩ : ByteArray) [.string (⟨#[101, 98, 114, 101, 97, 107]⟩ : ByteArray)] from rfl) (Reps.none _ _)))))))))))))))))))))))))))))))))))))))))))))))))))))))))))))))))); intro v102 w1 ho2 hb hg_ hnew_; clear hg_ hnew_; (first | rw [← Ny101.out] at ho2 | (simp only [Int.reduceToNat] at ho2; rw [← Ny101.out] at ho2)); have n0_ := Aside0.mk (Kd.R_lower ho2 (below_size (by repeat (first | (with_reducible first | exact HB.out | apply below_alloc | apply pw_below_drewN | apply below_drew1) | exact HB.out)))); have n1_ := Aside0.mk (below_step (by repeat (first | (with_reducible first | exact HB.out | apply below_alloc | apply pw_below_drewN | apply below_drew1) | exact HB.out)) hb); clear HB; have HO103 := n0_; have HB := n1_; clear n0_ n1_; clear hb ho2))
  go_ret
  exact ⟨_, by first | rfl | (simp [errW_none, errW_some] <;> rfl) | (simp [*, errW_none, errW_some] <;> rfl), by (with_reducible repeat (first | apply Kd.R_alloc | apply Kd.R_drewN | apply Kd.R_drew)); exact HO103.out, by repeat (first | (with_reducible first | exact HB.out | apply below_alloc | apply pw_below_drewN | apply below_drew1) | exact HB.out)⟩

/-! ### spec_l02OpOf: function 44 -/
def spec_l02OpOf.l0 : Nat → ByteArray → List ByteArray → Int → Option (Int)
  | 0, _, _, _ => none
  | k + 1, x0, x3, x4 => if x4 < (x3.length : Int) then (if 0 ≤ x4 then (if (rdOf ByteArray.empty x3 x4).toList = x0.toList then (some (wrap64 (x4 + 1))) else (spec_l02OpOf.l0 k x0 x3 (wrap64 (x4 + 1)))) else (none)) else (some 0)
def spec_l02OpOf.f (k : Nat) (a0 : ByteArray) : Option (Int) := (spec_l02Names.f).bind fun t104 => (spec_l02OpOf.l0 k a0 t104 0)
theorem spec_l02OpOf.mono_l : ∀ k, (∀ y0 y1 y2, LeO (spec_l02OpOf.l0 k y0 y1 y2) (spec_l02OpOf.l0 (k + 1) y0 y1 y2))
  | 0 => fun _ _ _ r h => by simp [spec_l02OpOf.l0] at h
  | k + 1 => by
    have ih0 := spec_l02OpOf.mono_l k
    · intro y0 y1 y2
      unfold spec_l02OpOf.l0
      repeat' first
      | (with_reducible exact ih0 _ _ _)
      | (with_reducible exact LeO.refl _)
      | (with_reducible exact LeO.none _)
      | (with_reducible refine LeO.ite ?_ ?_)
      | (with_reducible refine LeO.bind ?_ (fun _ => ?_))
      | exact ih0 _ _ _
      | exact LeO.none _
      | refine LeO.ite ?_ ?_
      | refine LeO.bind ?_ (fun _ => ?_)
theorem spec_l02OpOf.mono : ∀ a0 k, LeO (spec_l02OpOf.f k a0) (spec_l02OpOf.f (k + 1) a0) := by
  intro a0 k
  have ih0 := spec_l02OpOf.mono_l k
  unfold spec_l02OpOf.f
  repeat' first
      | (with_reducible exact ih0 _ _ _)
      | (with_reducible exact LeO.refl _)
      | (with_reducible exact LeO.none _)
      | (with_reducible refine LeO.ite ?_ ?_)
      | (with_reducible refine LeO.bind ?_ (fun _ => ?_))
      | exact ih0 _ _ _
      | exact LeO.none _
      | refine LeO.ite ?_ ?_
      | refine LeO.bind ?_ (fun _ => ?_)
set_option maxHeartbeats 8000000 in
set_option maxRecDepth 100000 in
theorem spec_l02OpOf.calls (k : Nat) (a0 : ByteArray) (r : Int) (w : World) (h : spec_l02OpOf.f k a0 = some r) :
    Calls Try.prog 44 #[.string a0] w fun e w' => e = .returned (.int .i64 r) ∧ Below w.heap.size w w' := by
  have HB := Aside0.mk (Below.refl w.heap.size w)
  have H : ((spec_l02Names.f).bind fun t104 => (spec_l02OpOf.l0 k a0 t104 0)) = some r := h
  clear h
  replace H := Option.bind_eq_some_iff.mp H
  obtain ⟨t104, A20, H⟩ := H
  try dsimp only at H
  have A2 := Aside0.mk A20
  clear A20
  have H' := Aside0.mk H
  clear H
  go_enter Try.func44, Try.ntmps44
  go_wp2_with (first | ((with_reducible refine gate_callee (f := 72) rfl ?_); refine goesL_ (some 5) rfl rfl Try.func72 (by kernel_rfl) rfl #[] rfl (by (try simp only [List.map_toArray, List.map_cons, List.map_nil]); first | done | rfl | (simp only [List.length_drop, List.length_take]; rfl)) ?_; (with_reducible refine (spec_l02Names.calls  t104 _ A2.out).mono ?_); rintro e w3 ⟨v105, rfl, ho0, hb⟩; refine ⟨_, rfl, ?_⟩; have n0_ := Aside0.mk (Kd.R_lower ho0 (below_size (by repeat (first | (with_reducible first | exact HB.out | apply below_alloc | apply pw_below_drewN | apply below_drew1) | exact HB.out)))); have n1_ := Aside0.mk (below_step (by repeat (first | (with_reducible first | exact HB.out | apply below_alloc | apply pw_below_drewN | apply below_drew1) | exact HB.out)) hb); clear HB; have HO106 := n0_; have HB := n1_; clear n0_ n1_; (try clear hb); (try clear hb2); (try clear hk); (try clear hi); (try clear ho0)))
  go_loopg [4] k (fun kq v4 w' => ∃ (x4_1 : Int), v4 = .int .i64 x4_1 ∧ Aside0 (spec_l02OpOf.l0 kq a0 t104 x4_1 = some r) ∧ Aside0 (kq ≤ k) ∧ Aside0 (Kd.R Kd.string 9 w' w.heap.size (fun _ => True) v105 t104) ∧ Aside0 (Below w.heap.size w w'))
  case atStart => exact ⟨(0), (by first | rfl | (simp; done) | (simp [*]; done)), H', ⟨Nat.le_refl _⟩, ⟨by (with_reducible repeat (first | apply Kd.R_alloc | apply Kd.R_drewN | apply Kd.R_drew)); exact HO106.out⟩, ⟨by repeat (first | (with_reducible first | exact HB.out | apply below_alloc | apply pw_below_drewN | apply below_drew1) | exact HB.out)⟩⟩
  case round =>
    clear H'
    try clear p2
    obtain ⟨x4_1, rfl, HA, HK1, HO_3, HB⟩ := hrel
    cases gk with
    | zero => exact absurd HA.out (by simp [spec_l02OpOf.l0])
    | succ k1 =>
      have H := HA.out
      clear HA
      simp only [spec_l02OpOf.l0] at H
      by_cases c4 : x4_1 < (t104.length : Int)
      · rw [if_pos c4] at H
        have c4b0 : decide (x4_1 < (t104.length : Int)) = true := decide_eq_true c4
        clear c4
        by_cases c5 : 0 ≤ x4_1
        · rw [if_pos c5] at H
          have c5b0 : decide (0 ≤ x4_1) = true := decide_eq_true c5
          clear c5
          by_cases c6 : (rdOf ByteArray.empty t104 x4_1).toList = a0.toList
          · rw [if_pos c6] at H
            have c6b0 : ((rdOf ByteArray.empty t104 x4_1).toList == a0.toList) = true := beq_iff_eq.mpr c6
            have c6b1 : ((rdOf ByteArray.empty t104 x4_1).toList != a0.toList) = false := bne_eq_false_iff_eq.mpr c6
            clear c6
            obtain rfl := Option.some.inj H
            obtain ⟨Ao7, co7, eo7⟩ := Kd.R_slice HO_3.out
            subst eo7
            have p107 : 0 ≤ (x4_1 : Int) := of_decide_eq_true (by first | (with_reducible assumption) | assumption)
            have q107 : x4_1 < (t104.length : Int) := of_decide_eq_true (by first | (with_reducible assumption) | assumption)
            obtain ⟨ad107, e107, hx107_0⟩ := Kd.at_string (Kd.R_reads' HO_3.out).2.2 x4_1 p107 q107
            cases e107
            replace p107 := eq_true p107
            replace q107 := eq_true q107
            go_wp2
            go_ret
            exact ⟨by first | rfl | (simp [errW_none, errW_some] <;> rfl) | (simp [*, errW_none, errW_some] <;> rfl), by repeat (first | (with_reducible first | exact HB.out | apply below_alloc | apply pw_below_drewN | apply below_drew1) | exact HB.out)⟩
          · rw [if_neg c6] at H
            have c6b0 : ((rdOf ByteArray.empty t104 x4_1).toList == a0.toList) = false := beq_eq_false_iff_ne.mpr c6
            have c6b1 : ((rdOf ByteArray.empty t104 x4_1).toList != a0.toList) = true := bne_iff_ne.mpr c6
            have H' := Aside0.mk H
            clear H
            obtain ⟨Ao8, co8, eo8⟩ := Kd.R_slice HO_3.out
            subst eo8
            have p107 : 0 ≤ (x4_1 : Int) := of_decide_eq_true (by first | (with_reducible assumption) | assumption)
            have q107 : x4_1 < (t104.length : Int) := of_decide_eq_true (by first | (with_reducible assumption) | assumption)
            obtain ⟨ad107, e107, hx107_0⟩ := Kd.at_string (Kd.R_reads' HO_3.out).2.2 x4_1 p107 q107
            cases e107
            replace p107 := eq_true p107
            replace q107 := eq_true q107
            go_wp2
            go_roundg k1
            case measure => have := HK1.out; omega
            case rel => exact ⟨(wrap64 (x4_1 + 1)), (by first | rfl | (simp; done) | (simp [*]; done)), H', ⟨by have := HK1.out; omega⟩, ⟨by (with_reducible repeat (first | apply Kd.R_alloc | apply Kd.R_drewN | apply Kd.R_drew)); exact HO_3.out⟩, ⟨by repeat (first | (with_reducible first | exact HB.out | apply below_alloc | apply pw_below_drewN | apply below_drew1) | exact HB.out)⟩⟩
        · rw [if_neg c5] at H
          exact absurd H (by simp)
      · rw [if_neg c4] at H
        have c4b0 : decide (x4_1 < (t104.length : Int)) = false := decide_eq_false c4
        clear c4
        obtain rfl := Option.some.inj H
        obtain ⟨Ao9, co9, eo9⟩ := Kd.R_slice HO_3.out
        subst eo9
        go_wp2
        go_ret
        exact ⟨by first | rfl | (simp [errW_none, errW_some] <;> rfl) | (simp [*, errW_none, errW_some] <;> rfl), by repeat (first | (with_reducible first | exact HB.out | apply below_alloc | apply pw_below_drewN | apply below_drew1) | exact HB.out)⟩

/-! ### spec_OpOf: function 20 -/
def spec_OpOf.f (k : Nat) (a0 : ByteArray) : Option (Int) := if (a0.size : Int) > 65536 then (some 0) else ((spec_l02OpOf.f k a0).bind fun t108 => (some t108))
theorem spec_OpOf.mono : ∀ a0 k, LeO (spec_OpOf.f k a0) (spec_OpOf.f (k + 1) a0) := by
  intro a0 k
  unfold spec_OpOf.f
  repeat' first
      | (with_reducible exact spec_l02OpOf.mono _ _)
      | (with_reducible exact LeO.refl _)
      | (with_reducible exact LeO.none _)
      | (with_reducible refine LeO.ite ?_ ?_)
      | (with_reducible refine LeO.bind ?_ (fun _ => ?_))
      | exact spec_l02OpOf.mono _ _
      | exact LeO.none _
      | refine LeO.ite ?_ ?_
      | refine LeO.bind ?_ (fun _ => ?_)
set_option maxHeartbeats 8000000 in
set_option maxRecDepth 100000 in
theorem spec_OpOf.calls (k : Nat) (a0 : ByteArray) (r : Int) (w : World) (h : spec_OpOf.f k a0 = some r) :
    Calls Try.prog 20 #[.string a0] w fun e w' => e = .returned (.int .i64 r) ∧ Below w.heap.size w w' := by
  have HB := Aside0.mk (Below.refl w.heap.size w)
  have H : (if (a0.size : Int) > 65536 then (some 0) else ((spec_l02OpOf.f k a0).bind fun t108 => (some t108))) = some r := h
  clear h
  by_cases c2 : (a0.size : Int) > 65536
  · rw [if_pos c2] at H
    have c2b0 : decide (65536 < (a0.size : Int)) = true := decide_eq_true c2
    have c2b1 : decide (65536 < a0.size) = true := decide_eq_true (by omega)
    clear c2
    obtain rfl := Option.some.inj H
    go_enter Try.func20, Try.ntmps20
    go_wp2
    go_ret
    exact ⟨by first | rfl | (simp [errW_none, errW_some] <;> rfl) | (simp [*, errW_none, errW_some] <;> rfl), by repeat (first | (with_reducible first | exact HB.out | apply below_alloc | apply pw_below_drewN | apply below_drew1) | exact HB.out)⟩
  · rw [if_neg c2] at H
    have c2b0 : decide (65536 < (a0.size : Int)) = false := decide_eq_false c2
    have c2b1 : decide (65536 < a0.size) = false := decide_eq_false (by omega)
    clear c2
    replace H := Option.bind_eq_some_iff.mp H
    obtain ⟨t108, A30, H⟩ := H
    try dsimp only at H
    have A3 := Aside0.mk A30
    clear A30
    obtain rfl := Option.some.inj H
    go_enter Try.func20, Try.ntmps20
    go_wp2_with (first | ((with_reducible refine gate_callee (f := 44) rfl ?_); refine goesL_ (some 7) rfl rfl Try.func44 (by kernel_rfl) rfl #[.string a0] rfl (by (try simp only [List.map_toArray, List.map_cons, List.map_nil]); first | done | rfl | (simp only [List.length_drop, List.length_take]; rfl)) ?_; (with_reducible refine (spec_l02OpOf.calls k a0 t108 _ A3.out).mono ?_); rintro e w4 ⟨rfl, hb⟩; refine ⟨_, rfl, ?_⟩; have n0_ := Aside0.mk (below_step (by repeat (first | (with_reducible first | exact HB.out | apply below_alloc | apply pw_below_drewN | apply below_drew1) | exact HB.out)) hb); clear HB; have HB := n0_; clear n0_; (try clear hb); (try clear hb2); (try clear hk); (try clear hi)))
    go_ret
    exact ⟨by first | rfl | (simp [errW_none, errW_some] <;> rfl) | (simp [*, errW_none, errW_some] <;> rfl), by repeat (first | (with_reducible first | exact HB.out | apply below_alloc | apply pw_below_drewN | apply below_drew1) | exact HB.out)⟩

-- NOT PRINTED: function 45 (impl_op)

/-! ### impl_ops: function 46 -/
def impl_ops.f  : Option ((List (S72))) := some (([(⟨(⟨#[]⟩ : ByteArray), (⟨0, 0, 0, 0⟩ : S70)⟩ : S72), (⟨(⟨#[108, 117, 105]⟩ : ByteArray), (⟨1, 55, 0, 0⟩ : S70)⟩ : S72), (⟨(⟨#[97, 117, 105, 112, 99]⟩ : ByteArray), (⟨1, 23, 0, 0⟩ : S70)⟩ : S72), (⟨(⟨#[106, 97, 108]⟩ : ByteArray), (⟨2, 111, 0, 0⟩ : S70)⟩ : S72), (⟨(⟨#[106, 97, 108, 114]⟩ : ByteArray), (⟨3, 103, 0, 0⟩ : S70)⟩ : S72), (⟨(⟨#[98, 101, 113]⟩ : ByteArray), (⟨4, 99, 0, 0⟩ : S70)⟩ : S72), (⟨(⟨#[98, 110, 101]⟩ : ByteArray), (⟨4, 99, 1, 0⟩ : S70)⟩ : S72), (⟨(⟨#[98, 108, 116]⟩ : ByteArray), (⟨4, 99, 4, 0⟩ : S70)⟩ : S72), (⟨(⟨#[98, 103, 101]⟩ : ByteArray), (⟨4, 99, 5, 0⟩ : S70)⟩ : S72), (⟨(⟨#[98, 108, 116, 117]⟩ : ByteArray), (⟨4, 99, 6, 0⟩ : S70)⟩ : S72), (⟨(⟨#[98, 103, 101, 117]⟩ : ByteArray), (⟨4, 99, 7, 0⟩ : S70)⟩ : S72), (⟨(⟨#[108, 98]⟩ : ByteArray), (⟨3, 3, 0, 0⟩ : S70)⟩ : S72), (⟨(⟨#[108, 104]⟩ : ByteArray), (⟨3, 3, 1, 0⟩ : S70)⟩ : S72), (⟨(⟨#[108, 119]⟩ : ByteArray), (⟨3, 3, 2, 0⟩ : S70)⟩ : S72), (⟨(⟨#[108, 100]⟩ : ByteArray), (⟨3, 3, 3, 0⟩ : S70)⟩ : S72), (⟨(⟨#[108, 98, 117]⟩ : ByteArray), (⟨3, 3, 4, 0⟩ : S70)⟩ : S72), (⟨(⟨#[108, 104, 117]⟩ : ByteArray), (⟨3, 3, 5, 0⟩ : S70)⟩ : S72), (⟨(⟨#[108, 119, 117]⟩ : ByteArray), (⟨3, 3, 6, 0⟩ : S70)⟩ : S72), (⟨(⟨#[115, 98]⟩ : ByteArray), (⟨5, 35, 0, 0⟩ : S70)⟩ : S72), (⟨(⟨#[115, 104]⟩ : ByteArray), (⟨5, 35, 1, 0⟩ : S70)⟩ : S72), (⟨(⟨#[115, 119]⟩ : ByteArray), (⟨5, 35, 2, 0⟩ : S70)⟩ : S72), (⟨(⟨#[115, 100]⟩ : ByteArray), (⟨5, 35, 3, 0⟩ : S70)⟩ : S72), (⟨(⟨#[97, 100, 100, 105]⟩ : ByteArray), (⟨3, 19, 0, 0⟩ : S70)⟩ : S72), (⟨(⟨#[115, 108, 116, 105]⟩ : ByteArray), (⟨3, 19, 2, 0⟩ : S70)⟩ : S72), (⟨(⟨#[115, 108, 116, 105, 117]⟩ : ByteArray), (⟨3, 19, 3, 0⟩ : S70)⟩ : S72), (⟨(⟨#[120, 111, 114, 105]⟩ : ByteArray), (⟨3, 19, 4, 0⟩ : S70)⟩ : S72), (⟨(⟨#[111, 114, 105]⟩ : ByteArray), (⟨3, 19, 6, 0⟩ : S70)⟩ : S72), (⟨(⟨#[97, 110, 100, 105]⟩ : ByteArray), (⟨3, 19, 7, 0⟩ : S70)⟩ : S72), (⟨(⟨#[115, 108, 108, 105]⟩ : ByteArray), (⟨6, 19, 1, 0⟩ : S70)⟩ : S72), (⟨(⟨#[115, 114, 108, 105]⟩ : ByteArray), (⟨6, 19, 5, 0⟩ : S70)⟩ : S72), (⟨(⟨#[115, 114, 97, 105]⟩ : ByteArray), (⟨6, 19, 5, 32⟩ : S70)⟩ : S72), (⟨(⟨#[97, 100, 100]⟩ : ByteArray), (⟨8, 51, 0, 0⟩ : S70)⟩ : S72), (⟨(⟨#[115, 117, 98]⟩ : ByteArray), (⟨8, 51, 0, 32⟩ : S70)⟩ : S72), (⟨(⟨#[115, 108, 108]⟩ : ByteArray), (⟨8, 51, 1, 0⟩ : S70)⟩ : S72), (⟨(⟨#[115, 108, 116]⟩ : ByteArray), (⟨8, 51, 2, 0⟩ : S70)⟩ : S72), (⟨(⟨#[115, 108, 116, 117]⟩ : ByteArray), (⟨8, 51, 3, 0⟩ : S70)⟩ : S72), (⟨(⟨#[120, 111, 114]⟩ : ByteArray), (⟨8, 51, 4, 0⟩ : S70)⟩ : S72), (⟨(⟨#[115, 114, 108]⟩ : ByteArray), (⟨8, 51, 5, 0⟩ : S70)⟩ : S72), (⟨(⟨#[115, 114, 97]⟩ : ByteArray), (⟨8, 51, 5, 32⟩ : S70)⟩ : S72), (⟨(⟨#[111, 114]⟩ : ByteArray), (⟨8, 51, 6, 0⟩ : S70)⟩ : S72), (⟨(⟨#[97, 110, 100]⟩ : ByteArray), (⟨8, 51, 7, 0⟩ : S70)⟩ : S72), (⟨(⟨#[97, 100, 100, 105, 119]⟩ : ByteArray), (⟨3, 27, 0, 0⟩ : S70)⟩ : S72), (⟨(⟨#[115, 108, 108, 105, 119]⟩ : ByteArray), (⟨7, 27, 1, 0⟩ : S70)⟩ : S72), (⟨(⟨#[115, 114, 108, 105, 119]⟩ : ByteArray), (⟨7, 27, 5, 0⟩ : S70)⟩ : S72), (⟨(⟨#[115, 114, 97, 105, 119]⟩ : ByteArray), (⟨7, 27, 5, 32⟩ : S70)⟩ : S72), (⟨(⟨#[97, 100, 100, 119]⟩ : ByteArray), (⟨8, 59, 0, 0⟩ : S70)⟩ : S72), (⟨(⟨#[115, 117, 98, 119]⟩ : ByteArray), (⟨8, 59, 0, 32⟩ : S70)⟩ : S72), (⟨(⟨#[115, 108, 108, 119]⟩ : ByteArray), (⟨8, 59, 1, 0⟩ : S70)⟩ : S72), (⟨(⟨#[115, 114, 108, 119]⟩ : ByteArray), (⟨8, 59, 5, 0⟩ : S70)⟩ : S72), (⟨(⟨#[115, 114, 97, 119]⟩ : ByteArray), (⟨8, 59, 5, 32⟩ : S70)⟩ : S72), (⟨(⟨#[109, 117, 108]⟩ : ByteArray), (⟨8, 51, 0, 1⟩ : S70)⟩ : S72), (⟨(⟨#[109, 117, 108, 104]⟩ : ByteArray), (⟨8, 51, 1, 1⟩ : S70)⟩ : S72), (⟨(⟨#[109, 117, 108, 104, 115, 117]⟩ : ByteArray), (⟨8, 51, 2, 1⟩ : S70)⟩ : S72), (⟨(⟨#[109, 117, 108, 104, 117]⟩ : ByteArray), (⟨8, 51, 3, 1⟩ : S70)⟩ : S72), (⟨(⟨#[100, 105, 118]⟩ : ByteArray), (⟨8, 51, 4, 1⟩ : S70)⟩ : S72), (⟨(⟨#[100, 105, 118, 117]⟩ : ByteArray), (⟨8, 51, 5, 1⟩ : S70)⟩ : S72), (⟨(⟨#[114, 101, 109]⟩ : ByteArray), (⟨8, 51, 6, 1⟩ : S70)⟩ : S72), (⟨(⟨#[114, 101, 109, 117]⟩ : ByteArray), (⟨8, 51, 7, 1⟩ : S70)⟩ : S72), (⟨(⟨#[109, 117, 108, 119]⟩ : ByteArray), (⟨8, 59, 0, 1⟩ : S70)⟩ : S72), (⟨(⟨#[100, 105, 118, 119]⟩ : ByteArray), (⟨8, 59, 4, 1⟩ : S70)⟩ : S72), (⟨(⟨#[100, 105, 118, 117, 119]⟩ : ByteArray), (⟨8, 59, 5, 1⟩ : S70)⟩ : S72), (⟨(⟨#[114, 101, 109, 119]⟩ : ByteArray), (⟨8, 59, 6, 1⟩ : S70)⟩ : S72), (⟨(⟨#[114, 101, 109, 117, 119]⟩ : ByteArray), (⟨8, 59, 7, 1⟩ : S70)⟩ : S72), (⟨(⟨#[101, 99, 97, 108, 108]⟩ : ByteArray), (⟨9, 115, 0, 0⟩ : S70)⟩ : S72), (⟨(⟨#[101, 98, 114, 101, 97, 107]⟩ : ByteArray), (⟨9, 115, 0, 1⟩ : S70)⟩ : S72)] : List (S72)))
/-! #### the table of operations: 130 literals in one region, reckoned by the kernel -/
def impl_ops.tab : List S72 := (impl_ops.f).getD []
def impl_ops.row (x : S72) : List Value := [.string x.f0, .int .i64 x.f1.f0, .int .i64 x.f1.f1, .int .i64 x.f1.f2, .int .i64 x.f1.f3]
def impl_ops.cells : List Value := impl_ops.tab.flatMap impl_ops.row
def buildsOf (P : Program) : List Oper → Act → Option Act
  | [], a => some a
  | o :: r, a => match o.guard, o.op with
    | none, .build t parts => match P.built t (parts.map fun (i, x) => (i, a.eval x)).toList with
      | some cs => buildsOf P r (a.put o.dst (.agg cs))
      | none => none
    | _, _ => none
theorem wpList_builds {P : Program} {ops : Array Oper} {Q : Exit → Act → World → Prop} {rest : List Oper} {w : World} : ∀ (pre : List Oper) (a a' : Act), buildsOf P pre a = some a' → wpList P ops Q rest a' w → wpList P ops Q (pre ++ rest) a w
  | [], a, a', h, k => by
    obtain rfl := Option.some.inj h
    exact k
  | o :: r, a, a', h, k => by
    unfold buildsOf at h
    split at h
    · rename_i t parts hg ho
      split at h
      · rename_i cs hc
        exact wpList_plain hg fun K hK => wp_build t parts ho (by rw [hc]; rfl) (by rw [hc]; exact hK _ _ (wpList_builds r _ _ h k))
      · cases h
    · cases h
theorem wpList_of_eq {P : Program} {ops : Array Oper} {Q : Exit → Act → World → Prop} {l l' : List Oper} {a : Act} {w : World} (h : l' = l) (k : wpList P ops Q l a w) : wpList P ops Q l' a w := h ▸ k
theorem exec_buildSlice {P : Program} {o : Oper} {a : Act} {W : World} (t e : TypeId) (len size : Nat) (parts : Array (Nat × Operand)) (z : Value) (cells : Array Value) (ho : o.op = .buildSlice t len parts)
    (hu : P.underlying t = some (.slice e)) (hi : (P.info? e).map (fun i => (i.zero, i.size)) = some (some z, size)) (h0 : len * size ≠ 0) (h1 : ¬ len * size > 2 ^ 24)
    (hf : Instr.fill (fun i => some (i * size, size)) ((Array.range (len * size)).map (z.cells[· % z.cells.size]!)) (parts.map fun (i, x) => (i, a.eval x)).toList = some cells) :
    (execOp a.eval o).run P W = .ok (.value (.slice (some ⟨W.heap.size, 0, none⟩) len len)) (W.alloc (.cells cells e)) := by
  obtain ⟨i, hi1, hi2⟩ := Option.map_eq_some_iff.1 hi
  simp only [Prod.mk.injEq] at hi2
  obtain ⟨hz, hs⟩ := hi2
  have h1' : ¬ 16777216 < len * size := by simpa using h1
  subst hs
  have hr : (Instr.buildSlice t len (parts.map fun (i, x) => (i, a.eval x))).run P W = .ok (.slice (some ⟨W.heap.size, 0, none⟩) len len) (W.alloc (.cells cells e)) := by
    simp only [Instr.buildSlice]
    have hf' : Instr.fill (fun i_1 => some (i_1 * i.size, i.size)) (Array.map (fun x => z.cells[x % z.cells.size]!) (Array.range (len * i.size))) (List.map (fun x => (x.fst, a.eval x.snd)) parts.toList) = some cells := by simpa using hf
    simp [run_underlying hu, sizeOf, typeInfo, zeroValue, hi1, hz, h1', newRow]
    rw [if_neg h0, hf']
    simp
  unfold execOp
  simp only [ho, Sem.run_bind, hr, Result.andThen_ok]
  rfl
noncomputable def impl_ops.R : List Oper := (opsOf Try.f46 1).toList
noncomputable def impl_ops.o1 : Oper := impl_ops.R.getD 129 { dst := none, op := .ready 0, type := 0, pos := "", after := #[], guard := none }
noncomputable def impl_ops.o2 : Oper := impl_ops.R.getD 130 { dst := none, op := .ready 0, type := 0, pos := "", after := #[], guard := none }
noncomputable def impl_ops.parts : Array (Nat × Operand) := match impl_ops.o1.op with
  | .buildSlice _ _ p => p
  | _ => #[]
noncomputable def impl_ops.t : TypeId := match impl_ops.o1.op with
  | .buildSlice t _ _ => t
  | _ => 0
noncomputable def impl_ops.a0 : Act := ⟨#[.slice none 0 0] ++ Array.replicate 130 undef, []⟩
noncomputable def impl_ops.a1 : Act := (buildsOf Try.prog (impl_ops.R.take 129) impl_ops.a0).getD impl_ops.a0
theorem impl_ops.built : buildsOf Try.prog (impl_ops.R.take 129) impl_ops.a0 = some impl_ops.a1 := by kernel_rfl
theorem impl_ops.fills : Instr.fill (fun i => some (i * 5, 5)) ((Array.range (65 * 5)).map ((Value.agg #[(.string ⟨#[]⟩), (.int .i64 0), (.int .i64 0), (.int .i64 0), (.int .i64 0)]).cells[· % (Value.agg #[(.string ⟨#[]⟩), (.int .i64 0), (.int .i64 0), (.int .i64 0), (.int .i64 0)]).cells.size]!)) (impl_ops.parts.map fun (i, x) => (i, impl_ops.a1.eval x)).toList = some impl_ops.cells.toArray := by kernel_rfl
theorem impl_ops.reps (W : World) (base : Nat) (ok : Nat → Prop) : ∀ xs : List S72, Reps (k72.M W base ok) 5 xs (xs.flatMap impl_ops.row)
  | [] => Reps.none _ _
  | x :: r => Reps.c5 (k72_mkM W base ok x) (impl_ops.reps W base ok r)

set_option maxHeartbeats 8000000 in
set_option maxRecDepth 100000 in
theorem impl_ops.calls  (r : List (S72)) (w : World) (h : impl_ops.f  = some r) :
    Calls Try.prog 46 #[] w fun e w' => ∃ v0_ : Value, e = .returned (v0_) ∧ Kd.R k72 72 w' w.heap.size (fun _ => True) v0_ r ∧ Below w.heap.size w w' := by
  have hr : r = impl_ops.tab := by
    have h2 : impl_ops.f = some impl_ops.tab := rfl
    exact Option.some.inj (h.symm.trans h2)
  subst hr
  clear h
  go_enter Try.func46, Try.ntmps46
  go_upto_region 1 with (fail)
  rename_i K hK
  refine wp_region_list ?_
  refine wpList_of_eq (l := impl_ops.R.take 129 ++ [impl_ops.o1, impl_ops.o2]) (by kernel_rfl) ?_
  refine wpList_builds (impl_ops.R.take 129) _ impl_ops.a1 (by kernel_rfl) ?_
  refine Kd.R_lit k72 _ 72 (by kernel_rfl) (N := 130) (by kernel_rfl) (xs := impl_ops.tab) (inner := impl_ops.cells) (ok := fun _ => True) (okp := fun _ => True) ?hr (impl_ops.reps _ _ _ _) (fun _ hk => hk) trivial (Below.refl _ _) (Nat.le_refl _) (by rw [show impl_ops.tab.length = 65 from by kernel_rfl]; decide) ?_
  case hr => exact exec_buildSlice impl_ops.t 72 65 5 impl_ops.parts _ impl_ops.cells.toArray (by kernel_rfl) (by kernel_rfl) (by kernel_rfl) (by decide) (by decide) impl_ops.fills
  intro v1 w1 hR hB hg hb
  refine Kd.event_run (v := v1) (w1 := w1) (by kernel_rfl) ?_ ?_
  · have ho : impl_ops.o2.op = .assign (.tmp 130) := by kernel_rfl
    have hd : impl_ops.o1.dst = some 130 := by kernel_rfl
    have hs : impl_ops.a1.tmps.size = 131 := by kernel_rfl
    unfold execOp
    rw [ho, hd]
    simp [Act.eval, Act.put, hs]
  · have hd : impl_ops.o1.dst = some 130 := by kernel_rfl
    have hd2 : impl_ops.o2.dst = some 0 := by kernel_rfl
    have hs : impl_ops.a1.tmps.size = 131 := by kernel_rfl
    have hde : impl_ops.a1.defers = [] := by kernel_rfl
    refine wpList_nil ?_
    refine hK _ _ (wp_ret ?_)
    refine bodyPost_ret (results_tmp rfl _ _ _) (by rw [hd, hd2]; exact hde) ?_
    refine ⟨v1, ?_, hR, hB⟩
    rw [hd, hd2]
    simp [Act.put, hs]


/-! ### impl_OpOf: function 21: slices.IndexFunc with a closure, walked by hand -/
/-- Whether an op has the name. -/
def impl_OpOf.has (nm : ByteArray) (x : S72) : Bool := decide (x.f0.toList = nm.toList) && !nm.toList.isEmpty
/-- The first op that has it. -/
def impl_OpOf.at_ (nm : ByteArray) : List S72 → Nat → Int
  | [], _ => -1
  | x :: r, i => if impl_OpOf.has nm x = true then (i : Int) else impl_OpOf.at_ nm r (i + 1)
def impl_OpOf.f (a0 : ByteArray) : Option Int := (impl_ops.f).bind fun t => some (if 0 < impl_OpOf.at_ a0 t 0 then impl_OpOf.at_ a0 t 0 else 0)
theorem impl_OpOf.at_step (a : ByteArray) : ∀ (l : List S72) (i j : Nat) (h : j < l.length), (∀ q (hq : q < l.length), q < j → impl_OpOf.has a l[q] = false) → impl_OpOf.has a l[j] = true → impl_OpOf.at_ a l i = ((i + j : Nat) : Int)
  | [], _, _, h, _, _ => absurd h (Nat.not_lt_zero _)
  | x :: r, i, 0, _, _, h => by unfold impl_OpOf.at_; rw [if_pos (by simpa using h)]; rfl
  | x :: r, i, j + 1, hj, hn, h => by
    have hx : impl_OpOf.has a x = false := hn 0 (by simp) (by omega)
    unfold impl_OpOf.at_
    rw [if_neg (by simp [hx]), impl_OpOf.at_step a r (i + 1) j (by simpa using hj) (fun q hq hqj => hn (q + 1) (by simpa using hq) (by omega)) (by simpa using h)]
    congr 1
    omega
theorem impl_OpOf.at_none (a : ByteArray) : ∀ (l : List S72) (i : Nat), (∀ q (hq : q < l.length), impl_OpOf.has a l[q] = false) → impl_OpOf.at_ a l i = -1
  | [], _, _ => rfl
  | x :: r, i, hn => by
    have hx : impl_OpOf.has a x = false := hn 0 (by simp)
    unfold impl_OpOf.at_
    rw [if_neg (by simp [hx])]
    exact impl_OpOf.at_none a r (i + 1) (fun q hq => hn (q + 1) (by simpa using hq))
set_option maxHeartbeats 2000000 in
set_option maxRecDepth 100000 in
theorem impl_OpOf.closure (a : ByteArray) (B : Nat) (x : S72) (w0 W : World) (hb : Below w0.heap.size w0 W) (hB : B < w0.heap.size) (hcell : w0.cell? ⟨B, 0, none⟩ = some (.string a)) :
    Calls Try.prog 47 #[.agg #[.string x.f0, .int .i64 x.f1.f0, .int .i64 x.f1.f1, .int .i64 x.f1.f2, .int .i64 x.f1.f3], .pointer (some ⟨B, 0, none⟩)] W fun e w' => e = .returned (.bool (impl_OpOf.has a x)) ∧ Below w0.heap.size w0 w' := by
  have hc : W.cell? ⟨B, 0, none⟩ = some (.string a) := (hb.cell (p := ⟨B, 0, none⟩) hB).trans hcell
  have hBW : B < W.heap.size := Nat.lt_of_lt_of_le hB hb.size
  have hne : B ≠ W.heap.size := by omega
  have hu := Try.underlying72
  have HB := Aside0.mk hb
  clear hb
  by_cases h1 : x.f0.toList = a.toList
  · have b1 : (x.f0.toList == a.toList) = true := beq_iff_eq.mpr h1
    have hz : Aside0 (impl_OpOf.has a x = !a.toList.isEmpty) := ⟨by unfold impl_OpOf.has; simp [h1]⟩
    clear h1
    go_enter Try.func47, Try.ntmps47
    go_wp2
    go_ret
    exact ⟨by rw [hz.out]; rfl, HB.out.alloc HB.out.size _⟩
  · have b1 : (x.f0.toList == a.toList) = false := beq_eq_false_iff_ne.mpr h1
    have hz : Aside0 (impl_OpOf.has a x = false) := ⟨by unfold impl_OpOf.has; simp [h1]⟩
    clear h1
    go_enter Try.func47, Try.ntmps47
    go_wp2
    go_ret
    exact ⟨by rw [hz.out]; rfl, HB.out.alloc HB.out.size _⟩
set_option maxHeartbeats 2000000 in
set_option maxRecDepth 100000 in
theorem impl_OpOf.index (A : Option Addr) (c : Nat) (l : List S72) (a : ByteArray) (B : Nat) (w : World) (hr : Kd.C k72 w A l.length l) (hB : B < w.heap.size) (hcell : w.cell? ⟨B, 0, none⟩ = some (.string a)) :
    Calls Try.prog 45 #[.slice A l.length c, .func (.func 47) #[] #[.pointer (some ⟨B, 0, none⟩)]] w fun e w' => e = .returned (.int .i64 (impl_OpOf.at_ a l 0)) ∧ Below w.heap.size w w' := by
  have hbig : l.length ≤ 9223372036854775807 := hr.2.1
  have HR := Aside0.mk hr
  have HC := Aside0.mk hcell
  have HBB := Aside0.mk hB
  clear hr hcell hB
  go_enter Try.func45, Try.ntmps45
  go_wp2
  go_loopg [5, 8] l.length (fun gg _ s8 wr => ∃ kk : Nat, kk ≤ l.length ∧ l.length - kk ≤ gg ∧ s8 = .int .i64 kk ∧ Aside0 (Below w.heap.size w wr) ∧ Aside0 (∀ j (hj : j < l.length), j < kk → impl_OpOf.has a l[j] = false))
  case atStart => exact ⟨0, Nat.zero_le _, by omega, rfl, ⟨Below.refl _ w⟩, ⟨fun j _ hj => absurd hj (Nat.not_lt_zero _)⟩⟩
  case round =>
    obtain ⟨kk, hkk, hg, rfl, BW, AA⟩ := hrel
    by_cases hlt : kk < l.length
    · have hltz : (kk : Int) < (l.length : Int) := by omega
      obtain ⟨ad, rfl, q0, q1, q2, q3, q4⟩ := at_T72 (Kd.C_below HR.out BW.out) (kk : Int) (by omega) hltz
      have hx : rd_T72 l (kk : Int) = l[kk] := by
        unfold rd_T72
        simp [List.getD_eq_getElem?_getD, List.getElem?_eq_getElem hlt]
      rw [hx] at q0 q1 q2 q3 q4
      simp only [Int.toNat_natCast] at q0 q1 q2 q3 q4
      have hcall := impl_OpOf.closure a B l[kk] w wr BW.out HBB.out HC.out
      clear hx HR HC HBB
      cases hq : impl_OpOf.has a l[kk] with
      | true =>
        rw [hq] at hcall
        have HQ := Aside0.mk hq
        clear hq
        have HX : Aside0 (impl_OpOf.at_ a l 0 = ((kk : Nat) : Int)) := ⟨by rw [impl_OpOf.at_step a l 0 kk hlt AA.out HQ.out, Nat.zero_add]⟩
        clear HQ AA
        generalize l[kk].f0 = x0 at q0 hcall
        generalize l[kk].f1.f0 = x1 at q1 hcall
        generalize l[kk].f1.f1 = x2 at q2 hcall
        generalize l[kk].f1.f2 = x3 at q3 hcall
        generalize l[kk].f1.f3 = x4 at q4 hcall
        go_wp2_with (fail)
        refine hcall.mono ?_
        rintro e w' ⟨rfl, hb'⟩
        go_wp2
        go_ret
        exact ⟨by rw [HX.out]; rfl, hb'⟩
      | false =>
        rw [hq] at hcall
        have HQ := Aside0.mk hq
        clear hq
        have HX : Aside0 (∀ j (hj : j < l.length), j < kk + 1 → impl_OpOf.has a l[j] = false) := ⟨fun j hj hjk => by
          by_cases e : j = kk
          · subst e
            exact HQ.out
          · exact AA.out j hj (by omega)⟩
        clear HQ AA
        generalize l[kk].f0 = x0 at q0 hcall
        generalize l[kk].f1.f0 = x1 at q1 hcall
        generalize l[kk].f1.f1 = x2 at q2 hcall
        generalize l[kk].f1.f2 = x3 at q3 hcall
        generalize l[kk].f1.f3 = x4 at q4 hcall
        go_wp2_with (fail)
        refine hcall.mono ?_
        rintro e w' ⟨rfl, hb'⟩
        go_wp2
        go_roundg (l.length - (kk + 1))
        case measure => omega
        case rel => exact ⟨kk + 1, by omega, by omega, by go_num, ⟨hb'⟩, HX⟩
    · obtain rfl : kk = l.length := by omega
      go_wp2
      go_ret
      refine ⟨?_, BW.out⟩
      rw [impl_OpOf.at_none a l 0 (fun q hq => AA.out q hq (by omega))]
      rfl
set_option maxHeartbeats 2000000 in
set_option maxRecDepth 100000 in
theorem impl_OpOf.calls (a0 : ByteArray) (r : Int) (w : World) (h : impl_OpOf.f a0 = some r) :
    Calls Try.prog 21 #[.string a0] w fun e w' => e = .returned (.int .i64 r) ∧ Below w.heap.size w w' := by
  obtain ⟨t, ht, h⟩ := Option.bind_eq_some_iff.mp h
  obtain rfl := Option.some.inj h
  have HT := Aside0.mk ht
  clear h ht
  have hmf : ∀ (fn : Fn) (first cap : Array Value) (w : World), (Instr.makeFunc fn first cap).run Try.prog w = .ok (.func fn first cap) w := fun _ _ _ _ => rfl
  go_enter Try.func21, Try.ntmps21
  go_wp2_with (first | (go_at_call 46; refine (impl_ops.calls t _ HT.out).mono ?_; rintro e w' ⟨v0, rfl, HO, hb'⟩; obtain ⟨A, c, rfl, hle, hC⟩ := Kd.R_reads HO; have HC2 := Aside0.mk hC; have HCB : Aside0 (w'.cell? ⟨w.heap.size, 0, none⟩ = some (.string a0)) := ⟨(hb'.cell (p := ⟨w.heap.size, 0, none⟩) (by simp)).trans (by simp)⟩; have HSZ : Aside0 (w.heap.size < w'.heap.size) := ⟨by have := hb'.size; simp at this; omega⟩; have HB2 : Aside0 (Below w.heap.size w w') := ⟨((Below.refl _ w).alloc (Nat.le_refl _) _).trans (hb'.mono (by simp))⟩; clear HO hle hC hb') | (go_at_call 45; refine (impl_OpOf.index _ _ t a0 w.heap.size _ HC2.out HSZ.out HCB.out).mono ?_; rintro e w'' ⟨rfl, hb''⟩))
  all_goals go_ret
  all_goals exact ⟨rfl, HB2.out.trans (hb''.mono (by have := HSZ.out; omega))⟩

/-! ### laws_FnExactOpOf: function 6 -/
def laws_FnExactOpOf.f (k : Nat) (a0 : ByteArray) : Option (Bool) := if (a0.size : Int) > 1048576 then (some true) else ((spec_OpOf.f k a0).bind fun t112 => ((impl_OpOf.f a0).bind fun t113 => (if t113 = t112 then (some true) else (some false))))
theorem laws_FnExactOpOf.mono : ∀ a0 k, LeO (laws_FnExactOpOf.f k a0) (laws_FnExactOpOf.f (k + 1) a0) := by
  intro a0 k
  unfold laws_FnExactOpOf.f
  repeat' first
      | (with_reducible exact spec_OpOf.mono _ _)
      | (with_reducible exact LeO.refl _)
      | (with_reducible exact LeO.none _)
      | (with_reducible refine LeO.ite ?_ ?_)
      | (with_reducible refine LeO.bind ?_ (fun _ => ?_))
      | exact spec_OpOf.mono _ _
      | exact LeO.none _
      | refine LeO.ite ?_ ?_
      | refine LeO.bind ?_ (fun _ => ?_)
set_option maxHeartbeats 8000000 in
set_option maxRecDepth 100000 in
theorem laws_FnExactOpOf.calls (k : Nat) (a0 : ByteArray) (r : Bool) (hT : r = true) (w : World) (h : laws_FnExactOpOf.f k a0 = some r) :
    Calls Try.prog 6 #[.string a0] w fun e w' => e = .returned (.bool r) ∧ Below w.heap.size w w' := by
  have HT := Aside0.mk hT
  clear hT
  have HB := Aside0.mk (Below.refl w.heap.size w)
  have H : (if (a0.size : Int) > 1048576 then (some true) else ((spec_OpOf.f k a0).bind fun t112 => ((impl_OpOf.f a0).bind fun t113 => (if t113 = t112 then (some true) else (some false))))) = some r := h
  clear h
  by_cases c2 : (a0.size : Int) > 1048576
  · rw [if_pos c2] at H
    have c2b0 : decide (1048576 < (a0.size : Int)) = true := decide_eq_true c2
    have c2b1 : decide (1048576 < a0.size) = true := decide_eq_true (by omega)
    clear c2
    obtain rfl := Option.some.inj H
    go_enter Try.func6, Try.ntmps6
    go_wp2
    go_ret
    exact ⟨by first | rfl | (simp [errW_none, errW_some] <;> rfl) | (simp [*, errW_none, errW_some] <;> rfl), by repeat (first | (with_reducible first | exact HB.out | apply below_alloc | apply pw_below_drewN | apply below_drew1) | exact HB.out)⟩
  · rw [if_neg c2] at H
    have c2b0 : decide (1048576 < (a0.size : Int)) = false := decide_eq_false c2
    have c2b1 : decide (1048576 < a0.size) = false := decide_eq_false (by omega)
    clear c2
    replace H := Option.bind_eq_some_iff.mp H
    obtain ⟨t112, A30, H⟩ := H
    try dsimp only at H
    have A3 := Aside0.mk A30
    clear A30
    replace H := Option.bind_eq_some_iff.mp H
    obtain ⟨t113, A40, H⟩ := H
    try dsimp only at H
    have A4 := Aside0.mk A40
    clear A40
    by_cases c5 : t113 = t112
    · rw [if_pos c5] at H
      have c5b0 : (t113 == t112) = true := beq_iff_eq.mpr c5
      have c5b1 : (t113 != t112) = false := bne_eq_false_iff_eq.mpr c5
      clear c5
      obtain rfl := Option.some.inj H
      go_enter Try.func6, Try.ntmps6
      go_wp2_with (first | ((with_reducible refine gate_callee (f := 20) rfl ?_); refine goesL_ (some 9) rfl rfl Try.func20 (by kernel_rfl) rfl #[.string a0] rfl (by (try simp only [List.map_toArray, List.map_cons, List.map_nil]); first | done | rfl | (simp only [List.length_drop, List.length_take]; rfl)) ?_; (with_reducible refine (spec_OpOf.calls k a0 t112 _ A3.out).mono ?_); rintro e w6 ⟨rfl, hb⟩; refine ⟨_, rfl, ?_⟩; have n0_ := Aside0.mk (below_step (by repeat (first | (with_reducible first | exact HB.out | apply below_alloc | apply pw_below_drewN | apply below_drew1) | exact HB.out)) hb); clear HB; have HB := n0_; clear n0_; (try clear hb); (try clear hb2); (try clear hk); (try clear hi)) | ((with_reducible refine gate_callee (f := 21) rfl ?_); refine goesL_ (some 11) rfl rfl Try.func21 (by kernel_rfl) rfl #[.string a0] rfl (by (try simp only [List.map_toArray, List.map_cons, List.map_nil]); first | done | rfl | (simp only [List.length_drop, List.length_take]; rfl)) ?_; (with_reducible refine (impl_OpOf.calls a0 t113 _ A4.out).mono ?_); rintro e w7 ⟨rfl, hb⟩; refine ⟨_, rfl, ?_⟩; have n0_ := Aside0.mk (below_step (by repeat (first | (with_reducible first | exact HB.out | apply below_alloc | apply pw_below_drewN | apply below_drew1) | exact HB.out)) hb); clear HB; have HB := n0_; clear n0_; (try clear hb); (try clear hb2); (try clear hk); (try clear hi)))
      go_ret
      exact ⟨by first | rfl | (simp [errW_none, errW_some] <;> rfl) | (simp [*, errW_none, errW_some] <;> rfl), by repeat (first | (with_reducible first | exact HB.out | apply below_alloc | apply pw_below_drewN | apply below_drew1) | exact HB.out)⟩
    · rw [if_neg c5] at H
      have c5b0 : (t113 == t112) = false := beq_eq_false_iff_ne.mpr c5
      have c5b1 : (t113 != t112) = true := bne_iff_ne.mpr c5
      exact absurd ((Option.some.inj H).trans HT.out) (by decide)

/-- THE ONE PURE STATEMENT of laws_FnExactOpOf: yours. -/
def laws_FnExactOpOf.Pure : Prop := ∀ (a0 : ByteArray), a0.size ≤ 140737488351232 → ∃ k, laws_FnExactOpOf.f k a0 = some true
theorem laws_FnExactOpOf.walk (P : laws_FnExactOpOf.Pure) (a0 : ByteArray) (w : World) (w0 : a0.size ≤ 140737488351232) :
    Calls Try.prog 6 #[.string a0] w fun e w' => e = .returned (.bool true) ∧ Below w.heap.size w w' := by
  obtain ⟨k, h⟩ := P a0 w0
  refine (laws_FnExactOpOf.calls k a0 true rfl w h).mono ?_
  rintro e w' ⟨rfl, hd⟩
  exact ⟨rfl, hd⟩

end Go.Proofs.Ytbhempnfbginoaa.PFnExactOpOf
