/- The walk of FnPair: each Go function that the law reaches as a plain Lean function, with the proof that a call does what it says; no conditions. Written by a program for this claim. -/
import Derived.Test.YtbbaggpmhiickaaPFnPairx0
import Derived.Test.YtbbaggpmhiickaaPFnPairx1
import Derived.Test.YtbbaggpmhiickaaPFnPairx2
import Derived.Test.YtbbaggpmhiickaaPFnPairx3
import Derived.Test.YtbbaggpmhiickaaPFnPairx4
namespace Go.Proofs.Ytbbaggpmhiickaa.PFnPair
open Go.RowKit Go.Proofs.YtbbaggpmhiickaaW.PrintWords Go.Proofs.YtbbaggpmhiickaaW.PrintLast Go.Proofs.YtbbaggpmhiickaaW.PrintMore
attribute [local go_sem] max2_int min2_int max_two min_two max_three min_three max_four min_four   -- for this text's walks alone
set_option linter.unusedVariables false
set_option linter.unusedSimpArgs false

/-! ### impl_decode: function 65 -/
mutual
def impl_decode.l0 : Nat → Int → List (S98) → Int → Int → Option (Int × Int × Int × Int × Int × Bool)
  | 0, _, _, _, _ => none
  | k + 1, x0, x14, x15, x16 => if x16 < x15 then (if 0 ≤ x16 then (if x16 < (x14.length : Int) then (if x16 = 0 then (impl_decode.j1 k x0 x16 x14 x15 x16 true ((rd_T98 x14 x16).f1.f0) ((rd_T98 x14 x16).f1.f1) ((rd_T98 x14 x16).f1.f2) ((rd_T98 x14 x16).f1.f3)) else ((impl_bitsOf.f x0 0 7).bind fun t210 => (impl_decode.j1 k x0 x16 x14 x15 x16 (((rd_T98 x14 x16).f1.f1) != t210) ((rd_T98 x14 x16).f1.f0) ((rd_T98 x14 x16).f1.f1) ((rd_T98 x14 x16).f1.f2) ((rd_T98 x14 x16).f1.f3)))) else (none)) else (none)) else (some (0, 0, 0, 0, 0, false))
def impl_decode.j1 : Nat → Int → Int → List (S98) → Int → Int → Bool → Int → Int → Int → Int → Option (Int × Int × Int × Int × Int × Bool)
  | 0, _, _, _, _, _, _, _, _, _, _ => none
  | k + 1, x0, x4, x14, x15, x16, x31, x210000, x210001, x210002, x210003 => if x31 = true then (impl_decode.l0 k x0 x14 x15 (wrap64 (x16 + 1))) else ((impl_pieces.f x210000).bind fun t212 => (impl_decode.l1 k x0 x14 x15 x16 t212 (t212.length : Int) 0 x210000 x210001 x210002 x210003 x4 0 0 0 0))
def impl_decode.l1 : Nat → Int → List (S98) → Int → Int → List (S92) → Int → Int → Int → Int → Int → Int → Int → Int → Int → Int → Int → Option (Int × Int × Int × Int × Int × Bool)
  | 0, _, _, _, _, _, _, _, _, _, _, _, _, _, _, _, _ => none
  | k + 1, x0, x14, x15, x16, x36, x37, x38, x210000, x210001, x210002, x210003, x212000, x212001, x212002, x212003, x212004 => if x38 < x37 then (if 0 ≤ x38 then (if x38 < (x36.length : Int) then ((impl_bitsOf.f x0 ((rd_T92 x36 x38).f2) ((rd_T92 x36 x38).f1)).bind fun t217 => (if 0 ≤ ((rd_T92 x36 x38).f0) then (impl_decode.l1 k x0 x14 x15 x16 x36 x37 (wrap64 (x38 + 1)) x210000 x210001 x210002 x210003 x212000 x212001 x212002 x212003 (Go.bits .or .i64 x212004 (shl .i64 t217 ((rd_T92 x36 x38).f0)))) else (none))) else (none)) else (none)) else ((impl_immBits.f k x210000).bind fun t218 => (if t218 > 0 then ((impl_signOf.f x212004 t218).bind fun t219 => (impl_decode.j3 k x0 x14 x15 x16 x210000 x210001 x210002 x210003 x212000 x212001 x212002 x212003 t219)) else (impl_decode.j3 k x0 x14 x15 x16 x210000 x210001 x210002 x210003 x212000 x212001 x212002 x212003 x212004)))
def impl_decode.j3 : Nat → Int → List (S98) → Int → Int → Int → Int → Int → Int → Int → Int → Int → Int → Int → Option (Int × Int × Int × Int × Int × Bool)
  | 0, _, _, _, _, _, _, _, _, _, _, _, _, _ => none
  | k + 1, x0, x14, x15, x16, x210000, x210001, x210002, x210003, x212000, x212001, x212002, x212003, x212004 => (impl_fields.f k x210000).bind fun bt220 => (if bt220.1 = true then ((impl_bitsOf.f x0 7 5).bind fun t223 => (impl_decode.j4 k x0 bt220.2.1 bt220.2.2 x14 x15 x16 x212000 t223 x212002 x212003 x212004)) else (impl_decode.j4 k x0 bt220.2.1 bt220.2.2 x14 x15 x16 x212000 x212001 x212002 x212003 x212004))
def impl_decode.j4 : Nat → Int → Bool → Bool → List (S98) → Int → Int → Int → Int → Int → Int → Int → Option (Int × Int × Int × Int × Int × Bool)
  | 0, _, _, _, _, _, _, _, _, _, _, _ => none
  | k + 1, x0, x12, x13, x14, x15, x16, x212000, x212001, x212002, x212003, x212004 => if x12 = true then ((impl_bitsOf.f x0 15 5).bind fun t224 => (impl_decode.j5 k x0 x13 x14 x15 x16 x212000 x212001 t224 x212003 x212004)) else (impl_decode.j5 k x0 x13 x14 x15 x16 x212000 x212001 x212002 x212003 x212004)
def impl_decode.j5 : Nat → Int → Bool → List (S98) → Int → Int → Int → Int → Int → Int → Int → Option (Int × Int × Int × Int × Int × Bool)
  | 0, _, _, _, _, _, _, _, _, _, _ => none
  | k + 1, x0, x13, x14, x15, x16, x212000, x212001, x212002, x212003, x212004 => if x13 = true then ((impl_bitsOf.f x0 20 5).bind fun t225 => ((impl_encode.f k x212000 x212001 x212002 t225 x212004).bind fun t226 => (if t226 = x0 then (some (x212000, x212001, x212002, t225, x212004, true)) else (impl_decode.l0 k x0 x14 x15 (wrap64 (x16 + 1)))))) else ((impl_encode.f k x212000 x212001 x212002 x212003 x212004).bind fun t227 => (if t227 = x0 then (some (x212000, x212001, x212002, x212003, x212004, true)) else (impl_decode.l0 k x0 x14 x15 (wrap64 (x16 + 1)))))
end
def impl_decode.f (k : Nat) (a0 : Int) : Option (Int × Int × Int × Int × Int × Bool) := (impl_ops.f).bind fun t204 => (impl_decode.l0 k a0 t204 (t204.length : Int) 0)
theorem impl_decode.mono_l : ∀ k, (∀ y0 y1 y2 y3, LeO (impl_decode.l0 k y0 y1 y2 y3) (impl_decode.l0 (k + 1) y0 y1 y2 y3)) ∧ (∀ y0 y1 y2 y3 y4 y5 y6 y7 y8 y9, LeO (impl_decode.j1 k y0 y1 y2 y3 y4 y5 y6 y7 y8 y9) (impl_decode.j1 (k + 1) y0 y1 y2 y3 y4 y5 y6 y7 y8 y9)) ∧ (∀ y0 y1 y2 y3 y4 y5 y6 y7 y8 y9 y10 y11 y12 y13 y14 y15, LeO (impl_decode.l1 k y0 y1 y2 y3 y4 y5 y6 y7 y8 y9 y10 y11 y12 y13 y14 y15) (impl_decode.l1 (k + 1) y0 y1 y2 y3 y4 y5 y6 y7 y8 y9 y10 y11 y12 y13 y14 y15)) ∧ (∀ y0 y1 y2 y3 y4 y5 y6 y7 y8 y9 y10 y11 y12, LeO (impl_decode.j3 k y0 y1 y2 y3 y4 y5 y6 y7 y8 y9 y10 y11 y12) (impl_decode.j3 (k + 1) y0 y1 y2 y3 y4 y5 y6 y7 y8 y9 y10 y11 y12)) ∧ (∀ y0 y1 y2 y3 y4 y5 y6 y7 y8 y9 y10, LeO (impl_decode.j4 k y0 y1 y2 y3 y4 y5 y6 y7 y8 y9 y10) (impl_decode.j4 (k + 1) y0 y1 y2 y3 y4 y5 y6 y7 y8 y9 y10)) ∧ (∀ y0 y1 y2 y3 y4 y5 y6 y7 y8 y9, LeO (impl_decode.j5 k y0 y1 y2 y3 y4 y5 y6 y7 y8 y9) (impl_decode.j5 (k + 1) y0 y1 y2 y3 y4 y5 y6 y7 y8 y9))
  | 0 => ⟨fun _ _ _ _ r h => by simp [impl_decode.l0] at h, fun _ _ _ _ _ _ _ _ _ _ r h => by simp [impl_decode.j1] at h, fun _ _ _ _ _ _ _ _ _ _ _ _ _ _ _ _ r h => by simp [impl_decode.l1] at h, fun _ _ _ _ _ _ _ _ _ _ _ _ _ r h => by simp [impl_decode.j3] at h, fun _ _ _ _ _ _ _ _ _ _ _ r h => by simp [impl_decode.j4] at h, fun _ _ _ _ _ _ _ _ _ _ r h => by simp [impl_decode.j5] at h⟩
  | k + 1 => by
    obtain ⟨ih0, ih1, ih2, ih3, ih4, ih5⟩ := impl_decode.mono_l k
    refine ⟨?_, ?_, ?_, ?_, ?_, ?_⟩
    · intro y0 y1 y2 y3
      unfold impl_decode.l0
      repeat' first
      | (with_reducible exact ih0 _ _ _ _)
      | (with_reducible exact ih1 _ _ _ _ _ _ _ _ _ _)
      | (with_reducible exact ih2 _ _ _ _ _ _ _ _ _ _ _ _ _ _ _ _)
      | (with_reducible exact ih3 _ _ _ _ _ _ _ _ _ _ _ _ _)
      | (with_reducible exact ih4 _ _ _ _ _ _ _ _ _ _ _)
      | (with_reducible exact ih5 _ _ _ _ _ _ _ _ _ _)
      | (with_reducible exact impl_encode.mono _ _ _ _ _ _)
      | (with_reducible exact impl_fields.mono _ _)
      | (with_reducible exact impl_immBits.mono _ _)
      | (with_reducible exact LeO.refl _)
      | (with_reducible exact LeO.none _)
      | (with_reducible refine LeO.ite ?_ ?_)
      | (with_reducible refine LeO.bind ?_ (fun _ => ?_))
      | exact ih0 _ _ _ _
      | exact ih1 _ _ _ _ _ _ _ _ _ _
      | exact ih2 _ _ _ _ _ _ _ _ _ _ _ _ _ _ _ _
      | exact ih3 _ _ _ _ _ _ _ _ _ _ _ _ _
      | exact ih4 _ _ _ _ _ _ _ _ _ _ _
      | exact ih5 _ _ _ _ _ _ _ _ _ _
      | exact impl_encode.mono _ _ _ _ _ _
      | exact impl_fields.mono _ _
      | exact impl_immBits.mono _ _
      | exact LeO.none _
      | refine LeO.ite ?_ ?_
      | refine LeO.bind ?_ (fun _ => ?_)
    · intro y0 y1 y2 y3 y4 y5 y6 y7 y8 y9
      unfold impl_decode.j1
      repeat' first
      | (with_reducible exact ih0 _ _ _ _)
      | (with_reducible exact ih1 _ _ _ _ _ _ _ _ _ _)
      | (with_reducible exact ih2 _ _ _ _ _ _ _ _ _ _ _ _ _ _ _ _)
      | (with_reducible exact ih3 _ _ _ _ _ _ _ _ _ _ _ _ _)
      | (with_reducible exact ih4 _ _ _ _ _ _ _ _ _ _ _)
      | (with_reducible exact ih5 _ _ _ _ _ _ _ _ _ _)
      | (with_reducible exact impl_encode.mono _ _ _ _ _ _)
      | (with_reducible exact impl_fields.mono _ _)
      | (with_reducible exact impl_immBits.mono _ _)
      | (with_reducible exact LeO.refl _)
      | (with_reducible exact LeO.none _)
      | (with_reducible refine LeO.ite ?_ ?_)
      | (with_reducible refine LeO.bind ?_ (fun _ => ?_))
      | exact ih0 _ _ _ _
      | exact ih1 _ _ _ _ _ _ _ _ _ _
      | exact ih2 _ _ _ _ _ _ _ _ _ _ _ _ _ _ _ _
      | exact ih3 _ _ _ _ _ _ _ _ _ _ _ _ _
      | exact ih4 _ _ _ _ _ _ _ _ _ _ _
      | exact ih5 _ _ _ _ _ _ _ _ _ _
      | exact impl_encode.mono _ _ _ _ _ _
      | exact impl_fields.mono _ _
      | exact impl_immBits.mono _ _
      | exact LeO.none _
      | refine LeO.ite ?_ ?_
      | refine LeO.bind ?_ (fun _ => ?_)
    · intro y0 y1 y2 y3 y4 y5 y6 y7 y8 y9 y10 y11 y12 y13 y14 y15
      unfold impl_decode.l1
      repeat' first
      | (with_reducible exact ih0 _ _ _ _)
      | (with_reducible exact ih1 _ _ _ _ _ _ _ _ _ _)
      | (with_reducible exact ih2 _ _ _ _ _ _ _ _ _ _ _ _ _ _ _ _)
      | (with_reducible exact ih3 _ _ _ _ _ _ _ _ _ _ _ _ _)
      | (with_reducible exact ih4 _ _ _ _ _ _ _ _ _ _ _)
      | (with_reducible exact ih5 _ _ _ _ _ _ _ _ _ _)
      | (with_reducible exact impl_encode.mono _ _ _ _ _ _)
      | (with_reducible exact impl_fields.mono _ _)
      | (with_reducible exact impl_immBits.mono _ _)
      | (with_reducible exact LeO.refl _)
      | (with_reducible exact LeO.none _)
      | (with_reducible refine LeO.ite ?_ ?_)
      | (with_reducible refine LeO.bind ?_ (fun _ => ?_))
      | exact ih0 _ _ _ _
      | exact ih1 _ _ _ _ _ _ _ _ _ _
      | exact ih2 _ _ _ _ _ _ _ _ _ _ _ _ _ _ _ _
      | exact ih3 _ _ _ _ _ _ _ _ _ _ _ _ _
      | exact ih4 _ _ _ _ _ _ _ _ _ _ _
      | exact ih5 _ _ _ _ _ _ _ _ _ _
      | exact impl_encode.mono _ _ _ _ _ _
      | exact impl_fields.mono _ _
      | exact impl_immBits.mono _ _
      | exact LeO.none _
      | refine LeO.ite ?_ ?_
      | refine LeO.bind ?_ (fun _ => ?_)
    · intro y0 y1 y2 y3 y4 y5 y6 y7 y8 y9 y10 y11 y12
      unfold impl_decode.j3
      repeat' first
      | (with_reducible exact ih0 _ _ _ _)
      | (with_reducible exact ih1 _ _ _ _ _ _ _ _ _ _)
      | (with_reducible exact ih2 _ _ _ _ _ _ _ _ _ _ _ _ _ _ _ _)
      | (with_reducible exact ih3 _ _ _ _ _ _ _ _ _ _ _ _ _)
      | (with_reducible exact ih4 _ _ _ _ _ _ _ _ _ _ _)
      | (with_reducible exact ih5 _ _ _ _ _ _ _ _ _ _)
      | (with_reducible exact impl_encode.mono _ _ _ _ _ _)
      | (with_reducible exact impl_fields.mono _ _)
      | (with_reducible exact impl_immBits.mono _ _)
      | (with_reducible exact LeO.refl _)
      | (with_reducible exact LeO.none _)
      | (with_reducible refine LeO.ite ?_ ?_)
      | (with_reducible refine LeO.bind ?_ (fun _ => ?_))
      | exact ih0 _ _ _ _
      | exact ih1 _ _ _ _ _ _ _ _ _ _
      | exact ih2 _ _ _ _ _ _ _ _ _ _ _ _ _ _ _ _
      | exact ih3 _ _ _ _ _ _ _ _ _ _ _ _ _
      | exact ih4 _ _ _ _ _ _ _ _ _ _ _
      | exact ih5 _ _ _ _ _ _ _ _ _ _
      | exact impl_encode.mono _ _ _ _ _ _
      | exact impl_fields.mono _ _
      | exact impl_immBits.mono _ _
      | exact LeO.none _
      | refine LeO.ite ?_ ?_
      | refine LeO.bind ?_ (fun _ => ?_)
    · intro y0 y1 y2 y3 y4 y5 y6 y7 y8 y9 y10
      unfold impl_decode.j4
      repeat' first
      | (with_reducible exact ih0 _ _ _ _)
      | (with_reducible exact ih1 _ _ _ _ _ _ _ _ _ _)
      | (with_reducible exact ih2 _ _ _ _ _ _ _ _ _ _ _ _ _ _ _ _)
      | (with_reducible exact ih3 _ _ _ _ _ _ _ _ _ _ _ _ _)
      | (with_reducible exact ih4 _ _ _ _ _ _ _ _ _ _ _)
      | (with_reducible exact ih5 _ _ _ _ _ _ _ _ _ _)
      | (with_reducible exact impl_encode.mono _ _ _ _ _ _)
      | (with_reducible exact impl_fields.mono _ _)
      | (with_reducible exact impl_immBits.mono _ _)
      | (with_reducible exact LeO.refl _)
      | (with_reducible exact LeO.none _)
      | (with_reducible refine LeO.ite ?_ ?_)
      | (with_reducible refine LeO.bind ?_ (fun _ => ?_))
      | exact ih0 _ _ _ _
      | exact ih1 _ _ _ _ _ _ _ _ _ _
      | exact ih2 _ _ _ _ _ _ _ _ _ _ _ _ _ _ _ _
      | exact ih3 _ _ _ _ _ _ _ _ _ _ _ _ _
      | exact ih4 _ _ _ _ _ _ _ _ _ _ _
      | exact ih5 _ _ _ _ _ _ _ _ _ _
      | exact impl_encode.mono _ _ _ _ _ _
      | exact impl_fields.mono _ _
      | exact impl_immBits.mono _ _
      | exact LeO.none _
      | refine LeO.ite ?_ ?_
      | refine LeO.bind ?_ (fun _ => ?_)
    · intro y0 y1 y2 y3 y4 y5 y6 y7 y8 y9
      unfold impl_decode.j5
      repeat' first
      | (with_reducible exact ih0 _ _ _ _)
      | (with_reducible exact ih1 _ _ _ _ _ _ _ _ _ _)
      | (with_reducible exact ih2 _ _ _ _ _ _ _ _ _ _ _ _ _ _ _ _)
      | (with_reducible exact ih3 _ _ _ _ _ _ _ _ _ _ _ _ _)
      | (with_reducible exact ih4 _ _ _ _ _ _ _ _ _ _ _)
      | (with_reducible exact ih5 _ _ _ _ _ _ _ _ _ _)
      | (with_reducible exact impl_encode.mono _ _ _ _ _ _)
      | (with_reducible exact impl_fields.mono _ _)
      | (with_reducible exact impl_immBits.mono _ _)
      | (with_reducible exact LeO.refl _)
      | (with_reducible exact LeO.none _)
      | (with_reducible refine LeO.ite ?_ ?_)
      | (with_reducible refine LeO.bind ?_ (fun _ => ?_))
      | exact ih0 _ _ _ _
      | exact ih1 _ _ _ _ _ _ _ _ _ _
      | exact ih2 _ _ _ _ _ _ _ _ _ _ _ _ _ _ _ _
      | exact ih3 _ _ _ _ _ _ _ _ _ _ _ _ _
      | exact ih4 _ _ _ _ _ _ _ _ _ _ _
      | exact ih5 _ _ _ _ _ _ _ _ _ _
      | exact impl_encode.mono _ _ _ _ _ _
      | exact impl_fields.mono _ _
      | exact impl_immBits.mono _ _
      | exact LeO.none _
      | refine LeO.ite ?_ ?_
      | refine LeO.bind ?_ (fun _ => ?_)
theorem impl_decode.mono : ∀ a0 k, LeO (impl_decode.f k a0) (impl_decode.f (k + 1) a0) := by
  intro a0 k
  obtain ⟨ih0, ih1, ih2, ih3, ih4, ih5⟩ := impl_decode.mono_l k
  unfold impl_decode.f
  repeat' first
      | (with_reducible exact ih0 _ _ _ _)
      | (with_reducible exact ih1 _ _ _ _ _ _ _ _ _ _)
      | (with_reducible exact ih2 _ _ _ _ _ _ _ _ _ _ _ _ _ _ _ _)
      | (with_reducible exact ih3 _ _ _ _ _ _ _ _ _ _ _ _ _)
      | (with_reducible exact ih4 _ _ _ _ _ _ _ _ _ _ _)
      | (with_reducible exact ih5 _ _ _ _ _ _ _ _ _ _)
      | (with_reducible exact impl_encode.mono _ _ _ _ _ _)
      | (with_reducible exact impl_fields.mono _ _)
      | (with_reducible exact impl_immBits.mono _ _)
      | (with_reducible exact LeO.refl _)
      | (with_reducible exact LeO.none _)
      | (with_reducible refine LeO.ite ?_ ?_)
      | (with_reducible refine LeO.bind ?_ (fun _ => ?_))
      | exact ih0 _ _ _ _
      | exact ih1 _ _ _ _ _ _ _ _ _ _
      | exact ih2 _ _ _ _ _ _ _ _ _ _ _ _ _ _ _ _
      | exact ih3 _ _ _ _ _ _ _ _ _ _ _ _ _
      | exact ih4 _ _ _ _ _ _ _ _ _ _ _
      | exact ih5 _ _ _ _ _ _ _ _ _ _
      | exact impl_encode.mono _ _ _ _ _ _
      | exact impl_fields.mono _ _
      | exact impl_immBits.mono _ _
      | exact LeO.none _
      | refine LeO.ite ?_ ?_
      | refine LeO.bind ?_ (fun _ => ?_)
def impl_decode.T5 : Bool × List (List Nat × List Nat) := (true, [([], []), ([0], [0]), ([1], [1]), ([2], [2]), ([3, 2], [2, 3]), ([2], [2]), ([5, 2, 2], [2, 5]), ([4, 6, 2], [2, 4, 6]), ([2, 7], [2, 7])])
def impl_decode.B5 : List Nat := [0, 1, 3, 7, 15, 7, 39, 127, 255]
theorem impl_decode.tab5 : rtab .any (opsOf Try.f65 5) = impl_decode.T5 := by kernel_rfl
theorem impl_decode.bits5 : waitsOk impl_decode.T5.2 impl_decode.B5 = true := by kernel_rfl
def impl_decode.T10 : Bool × List (List Nat × List Nat) := (true, [([], []), ([0], [0]), ([], []), ([], []), ([3], [3]), ([], []), ([5], [5]), ([2, 4, 6], [2, 4, 6]), ([], []), ([8], [8]), ([7, 9], [7, 9]), ([1, 10], [1, 10]), ([0, 1, 2, 3, 4, 5, 6, 7, 8, 9, 10, 11], []), ([12, 11, 7, 0, 1, 2, 3, 4, 5, 6, 7, 8, 9, 10, 11], [11, 12])])
def impl_decode.B10 : List Nat := [0, 1, 0, 0, 8, 0, 32, 124, 0, 256, 1020, 2047, 4095, 8191]
theorem impl_decode.tab10 : rtab .any (opsOf Try.f65 10) = impl_decode.T10 := by kernel_rfl
theorem impl_decode.bits10 : waitsOk impl_decode.T10.2 impl_decode.B10 = true := by kernel_rfl
set_option maxHeartbeats 8000000 in
set_option maxRecDepth 100000 in
theorem impl_decode.calls (k : Nat) (a0 : Int) (r1 : Int) (r2 : Int) (r3 : Int) (r4 : Int) (r5 : Int) (r6 : Bool) (w : World) (h : impl_decode.f k a0 = some (r1, r2, r3, r4, r5, r6)) :
    Calls Try.prog 65 #[.int .i64 a0] w fun e w' => e = .returned (.tuple #[.agg #[.int .i64 r1, .int .i64 r2, .int .i64 r3, .int .i64 r4, .int .i64 r5], .bool r6]) ∧ Below w.heap.size w w' := by
  have hu32 := Try.underlying32
  have hu98 := Try.underlying98
  have hu81 := Try.underlying81
  have hu92 := Try.underlying92
  have HB := Aside0.mk (Below.refl w.heap.size w)
  have H : ((impl_ops.f).bind fun t204 => (impl_decode.l0 k a0 t204 (t204.length : Int) 0)) = some (r1, r2, r3, r4, r5, r6) := h
  clear h
  replace H := Option.bind_eq_some_iff.mp H
  obtain ⟨t204, A20, H⟩ := H
  try dsimp only at H
  have A2 := Aside0.mk A20
  clear A20
  have H' := Aside0.mk H
  clear H
  go_enter Try.func65, Try.ntmps65
  go_wp2_with (first | ((with_reducible refine gate_dst (N := 2) rfl ?_); refine box_event ?hg (N := 2) ?hd (cs := #[.int .i64 0, .int .i64 0, .int .i64 0, .int .i64 0, .int .i64 0]) (t := 32) ?hr ?_; (case hd => rfl); (case hg => rfl); (case hr => first | (go_simp; done) | (go_simp; rfl)); intro gb203 hg w3 hbox hb; have n0_ := Aside0.mk (below_step (by repeat (first | (with_reducible first | exact HB.out | apply below_alloc | apply pw_below_drewN | apply below_drew1) | exact HB.out)) hb); have n1_ := Aside0.mk (hbox); have n2_ := Aside0.mk ((by rw [hg]; exact (below_size (by repeat (first | (with_reducible first | exact HB.out | apply below_alloc | apply pw_below_drewN | apply below_drew1) | exact HB.out))) : w.heap.size ≤ gb203)); have n3_ := Aside0.mk ((by rw [hg]; exact (below_size (by repeat (first | (with_reducible first | exact HB.out | apply below_alloc | apply pw_below_drewN | apply below_drew1) | exact HB.out))) : w.heap.size ≤ gb203)); clear HB; have HB := n0_; have BK203 := n1_; have GW203 := n2_; have GE203 := n3_; clear n0_ n1_ n2_ n3_; clear hb hbox hg) | ((with_reducible refine gate_callee (f := 100) rfl ?_); refine goesL_ (some 14) rfl rfl Try.func100 (by kernel_rfl) rfl #[] rfl (by (try simp only [List.map_toArray, List.map_cons, List.map_nil]); first | done | rfl | (simp only [List.length_drop, List.length_take]; rfl)) ?_; (with_reducible refine (impl_ops.calls  t204 _ A2.out).mono ?_); rintro e w4 ⟨v205, rfl, ho0, hb⟩; refine ⟨_, rfl, ?_⟩; have n0_ := Aside0.mk (Kd.R_lower ho0 (below_size (by repeat (first | (with_reducible first | exact HB.out | apply below_alloc | apply pw_below_drewN | apply below_drew1 | refine below_set ?_ GE203.out) | exact HB.out)))); have n1_ := Aside0.mk (blk_below (g := gb203) (o := .cells #[.int .i64 0, .int .i64 0, .int .i64 0, .int .i64 0, .int .i64 0] 32 (0, 0)) (by (with_reducible repeat (first | refine blk_drewN ?_ _ | refine blk_drew ?_ | refine blk_alloc ?_ _)); exact BK203.out) hb); have n2_ := Aside0.mk (below_step (by repeat (first | (with_reducible first | exact HB.out | apply below_alloc | apply pw_below_drewN | apply below_drew1 | refine below_set ?_ GE203.out) | exact HB.out)) hb); clear BK203; clear HB; have HO206 := n0_; have BK203 := n1_; have HB := n2_; clear n0_ n1_ n2_; (try clear hb); (try clear hb2); (try clear hk); (try clear hi); (try clear ho0); obtain ⟨Ao5, co5, eo5⟩ := Kd.R_slice HO206.out; subst eo5))
  go_loopg [16] k (fun kq v16 w' => ∃ (x16_1 : Int) (x204000_1 : Int) (x204001_1 : Int) (x204002_1 : Int) (x204003_1 : Int) (x204004_1 : Int), v16 = .int .i64 x16_1 ∧ Aside0 (impl_decode.l0 kq a0 t204 (t204.length : Int) x16_1 = some (r1, r2, r3, r4, r5, r6)) ∧ Aside0 (kq ≤ k) ∧ Aside0 (Kd.R k98 98 w' w.heap.size (fun _ => True) (.slice Ao5 t204.length co5) t204) ∧ Aside0 (w'.heap[gb203]? = some (.cells #[.int .i64 x204000_1, .int .i64 x204001_1, .int .i64 x204002_1, .int .i64 x204003_1, .int .i64 x204004_1] 32 (0, 0))) ∧ Aside0 (Below w.heap.size w w'))
  case atStart => exact ⟨(0), (0), (0), (0), (0), (0), (by first | rfl | (simp; done) | (simp [*]; done)), H', ⟨Nat.le_refl _⟩, ⟨by (with_reducible repeat (first | apply Kd.R_alloc | apply Kd.R_drewN | apply Kd.R_drew)); exact HO206.out⟩, ⟨by (with_reducible repeat (first | refine blk_drewN ?_ _ | refine blk_drew ?_ | refine blk_alloc ?_ _)); exact BK203.out⟩, ⟨by repeat (first | (with_reducible first | exact HB.out | apply below_alloc | apply pw_below_drewN | apply below_drew1 | refine below_set ?_ GE203.out) | exact HB.out)⟩⟩
  case round =>
    clear H'
    try clear c1
    try clear p2
    obtain ⟨x16_1, x204000_1, x204001_1, x204002_1, x204003_1, x204004_1, rfl, HA, HK1, HO_14, BK203, HB⟩ := hrel
    cases gk with
    | zero => exact absurd HA.out (by simp [impl_decode.l0])
    | succ k1 =>
      have H := HA.out
      clear HA
      simp only [impl_decode.l0] at H
      by_cases c6 : x16_1 < (t204.length : Int)
      · rw [if_pos c6] at H
        have c6b0 : decide (x16_1 < (t204.length : Int)) = true := decide_eq_true c6
        clear c6
        by_cases c7 : 0 ≤ x16_1
        · rw [if_pos c7] at H
          have c7b0 : decide (0 ≤ x16_1) = true := decide_eq_true c7
          clear c7
          by_cases c8 : x16_1 < (t204.length : Int)
          · rw [if_pos c8] at H
            have c8b0 : decide (x16_1 < (t204.length : Int)) = true := decide_eq_true c8
            clear c8
            have HC9 := Aside0.mk H
            clear H
            have p207 : 0 ≤ (x16_1 : Int) := of_decide_eq_true (by first | (with_reducible assumption) | assumption)
            have q207 : x16_1 < (t204.length : Int) := of_decide_eq_true (by first | (with_reducible assumption) | assumption)
            obtain ⟨ad207, e207, hx207_0, hx207_1, hx207_2, hx207_3, hx207_4⟩ := at_T98 (Kd.R_reads' HO_14.out).2.2 x16_1 p207 q207
            cases e207
            replace p207 := eq_true p207
            replace q207 := eq_true q207
            go_upto_region 5 with (first | ((with_reducible refine gate_dst (N := 5) rfl ?_); refine box_event ?hg (N := 5) ?hd (cs := #[.string (⟨#[]⟩ : ByteArray), .int .i64 0, .int .i64 0, .int .i64 0, .int .i64 0]) (t := 98) ?hr ?_; (case hd => rfl); (case hg => rfl); (case hr => first | (go_simp; done) | (go_simp; rfl)); intro gb208 hg w10 hbox hb; have n0_ := Aside0.mk (Kd.R_below (Kd.R_elderB (by (with_reducible repeat (first | apply Kd.R_alloc | apply Kd.R_drewN | apply Kd.R_drew)); exact HO_14.out) gb208 (Nat.le_of_eq hg.symm)) hb); have n1_ := Aside0.mk (blk_below (g := gb203) (o := .cells #[.int .i64 x204000_1, .int .i64 x204001_1, .int .i64 x204002_1, .int .i64 x204003_1, .int .i64 x204004_1] 32 (0, 0)) (by (with_reducible repeat (first | refine blk_drewN ?_ _ | refine blk_drew ?_ | refine blk_alloc ?_ _)); exact BK203.out) hb); have n2_ := Aside0.mk (below_step (by repeat (first | (with_reducible first | exact HB.out | apply below_alloc | apply pw_below_drewN | apply below_drew1 | refine below_set ?_ GE203.out) | exact HB.out)) hb); have n3_ := Aside0.mk (hbox); have n4_ := Aside0.mk ((by rw [hg]; exact (below_size (by repeat (first | (with_reducible first | exact HB.out | apply below_alloc | apply pw_below_drewN | apply below_drew1 | refine below_set ?_ GE203.out) | exact HB.out))) : w.heap.size ≤ gb208)); have n5_ := Aside0.mk ((by rw [hg]; exact (below_size (by repeat (first | (with_reducible first | exact HB.out | apply below_alloc | apply pw_below_drewN | apply below_drew1 | refine below_set ?_ GE203.out) | exact HB.out))) : w.heap.size ≤ gb208)); have n6_ := Aside0.mk ((by rw [hg]; exact Nat.ne_of_lt (blk_lt (g := gb203) (o := .cells #[.int .i64 x204000_1, .int .i64 x204001_1, .int .i64 x204002_1, .int .i64 x204003_1, .int .i64 x204004_1] 32 (0, 0)) (by (with_reducible repeat (first | refine blk_drewN ?_ _ | refine blk_drew ?_ | refine blk_alloc ?_ _)); exact BK203.out)) : gb203 ≠ gb208)); have n7_ := Aside0.mk ((by rw [hg]; exact Nat.ne_of_gt (blk_lt (g := gb203) (o := .cells #[.int .i64 x204000_1, .int .i64 x204001_1, .int .i64 x204002_1, .int .i64 x204003_1, .int .i64 x204004_1] 32 (0, 0)) (by (with_reducible repeat (first | refine blk_drewN ?_ _ | refine blk_drew ?_ | refine blk_alloc ?_ _)); exact BK203.out)) : gb208 ≠ gb203)); clear HO_14; clear BK203; clear HB; have HO_14 := n0_; have BK203 := n1_; have HB := n2_; have BK208 := n3_; have GW208 := n4_; have GE208 := n5_; have NB203_208 := n6_; have NB208_203 := n7_; clear n0_ n1_ n2_ n3_ n4_ n5_ n6_ n7_; clear hb hbox hg; have hnb11 := NB208_203.out; have hnc11 := NB203_208.out; have hcz12_0 : w10.cell? ⟨gb208, 0, none⟩ = some (.string (⟨#[]⟩ : ByteArray)) := (blk_cell BK208.out 0).trans rfl; have hcz12_1 : w10.cell? ⟨gb208, 1, none⟩ = some (.int .i64 0) := (blk_cell BK208.out 1).trans rfl; have hcz12_2 : w10.cell? ⟨gb208, 2, none⟩ = some (.int .i64 0) := (blk_cell BK208.out 2).trans rfl; have hcz12_3 : w10.cell? ⟨gb208, 3, none⟩ = some (.int .i64 0) := (blk_cell BK208.out 3).trans rfl; have hcz12_4 : w10.cell? ⟨gb208, 4, none⟩ = some (.int .i64 0) := (blk_cell BK208.out 4).trans rfl; have hfz12_0 := blk_frozen BK208.out 0; have hfz12_1 := blk_frozen BK208.out 1; have hfz12_2 := blk_frozen BK208.out 2; have hfz12_3 := blk_frozen BK208.out 3; have hfz12_4 := blk_frozen BK208.out 4) | ((with_reducible refine gate_dst (N := 6) rfl ?_); refine box_event ?hg (N := 6) ?hd (cs := #[.int .i64 0, .int .i64 0, .int .i64 0, .int .i64 0]) (t := 81) ?hr ?_; (case hd => rfl); (case hg => rfl); (case hr => first | (go_simp; done) | (go_simp; rfl)); intro gb209 hg w13 hbox hb; have n0_ := Aside0.mk (Kd.R_below (by (with_reducible repeat (first | apply Kd.R_alloc | apply Kd.R_drewN | apply Kd.R_drew)); exact (Kd.R_mono (Kd.R_far (p := ⟨gb208, 4, none⟩) (Kd.R_far (p := ⟨gb208, 3, none⟩) (Kd.R_far (p := ⟨gb208, 2, none⟩) (Kd.R_far (p := ⟨gb208, 1, none⟩) (Kd.R_far (p := ⟨gb208, 0, none⟩) (Kd.R_mono HO_14.out (fun k_ hk => (⟨hk, hk.2⟩ : _ ∧ k_ ≠ gb208))) (fun _ hk => hk.2) (.string ((rd_T98 t204 x16_1).f0))) (fun _ hk => hk.2) (.int .i64 ((rd_T98 t204 x16_1).f1.f0))) (fun _ hk => hk.2) (.int .i64 ((rd_T98 t204 x16_1).f1.f1))) (fun _ hk => hk.2) (.int .i64 ((rd_T98 t204 x16_1).f1.f2))) (fun _ hk => hk.2) (.int .i64 ((rd_T98 t204 x16_1).f1.f3))) (fun _ h_ => h_.1))) hb); have n1_ := Aside0.mk (blk_below (g := gb203) (o := .cells #[.int .i64 x204000_1, .int .i64 x204001_1, .int .i64 x204002_1, .int .i64 x204003_1, .int .i64 x204004_1] 32 (0, 0)) (by (with_reducible repeat (first | refine blk_drewN ?_ _ | refine blk_drew ?_ | refine blk_alloc ?_ _)); refine blk_far ?_ NB203_208.out _; (with_reducible repeat (first | refine blk_drewN ?_ _ | refine blk_drew ?_ | refine blk_alloc ?_ _)); refine blk_far ?_ NB203_208.out _; (with_reducible repeat (first | refine blk_drewN ?_ _ | refine blk_drew ?_ | refine blk_alloc ?_ _)); refine blk_far ?_ NB203_208.out _; (with_reducible repeat (first | refine blk_drewN ?_ _ | refine blk_drew ?_ | refine blk_alloc ?_ _)); refine blk_far ?_ NB203_208.out _; (with_reducible repeat (first | refine blk_drewN ?_ _ | refine blk_drew ?_ | refine blk_alloc ?_ _)); refine blk_far ?_ NB203_208.out _; (with_reducible repeat (first | refine blk_drewN ?_ _ | refine blk_drew ?_ | refine blk_alloc ?_ _)); exact BK203.out) hb); have n2_ := Aside0.mk (blk_below (g := gb208) (o := .cells #[.string ((rd_T98 t204 x16_1).f0), .int .i64 ((rd_T98 t204 x16_1).f1.f0), .int .i64 ((rd_T98 t204 x16_1).f1.f1), .int .i64 ((rd_T98 t204 x16_1).f1.f2), .int .i64 ((rd_T98 t204 x16_1).f1.f3)] 98 (0, 0)) (by (with_reducible repeat (first | refine blk_drewN ?_ _ | refine blk_drew ?_ | refine blk_alloc ?_ _)); refine blk_put (cs := #[.string ((rd_T98 t204 x16_1).f0), .int .i64 ((rd_T98 t204 x16_1).f1.f0), .int .i64 ((rd_T98 t204 x16_1).f1.f1), .int .i64 ((rd_T98 t204 x16_1).f1.f2), .int .i64 0]) ?_ 4 _ rfl; (with_reducible repeat (first | refine blk_drewN ?_ _ | refine blk_drew ?_ | refine blk_alloc ?_ _)); refine blk_put (cs := #[.string ((rd_T98 t204 x16_1).f0), .int .i64 ((rd_T98 t204 x16_1).f1.f0), .int .i64 ((rd_T98 t204 x16_1).f1.f1), .int .i64 0, .int .i64 0]) ?_ 3 _ rfl; (with_reducible repeat (first | refine blk_drewN ?_ _ | refine blk_drew ?_ | refine blk_alloc ?_ _)); refine blk_put (cs := #[.string ((rd_T98 t204 x16_1).f0), .int .i64 ((rd_T98 t204 x16_1).f1.f0), .int .i64 0, .int .i64 0, .int .i64 0]) ?_ 2 _ rfl; (with_reducible repeat (first | refine blk_drewN ?_ _ | refine blk_drew ?_ | refine blk_alloc ?_ _)); refine blk_put (cs := #[.string ((rd_T98 t204 x16_1).f0), .int .i64 0, .int .i64 0, .int .i64 0, .int .i64 0]) ?_ 1 _ rfl; (with_reducible repeat (first | refine blk_drewN ?_ _ | refine blk_drew ?_ | refine blk_alloc ?_ _)); refine blk_put (cs := #[.string (⟨#[]⟩ : ByteArray), .int .i64 0, .int .i64 0, .int .i64 0, .int .i64 0]) ?_ 0 _ rfl; (with_reducible repeat (first | refine blk_drewN ?_ _ | refine blk_drew ?_ | refine blk_alloc ?_ _)); exact BK208.out) hb); have n3_ := Aside0.mk (below_step (by repeat (first | (with_reducible first | exact HB.out | apply below_alloc | apply pw_below_drewN | apply below_drew1 | refine below_set ?_ GE203.out | refine below_set ?_ GE208.out) | exact HB.out)) hb); have n4_ := Aside0.mk (hbox); have n5_ := Aside0.mk ((by rw [hg]; exact (below_size (by repeat (first | (with_reducible first | exact HB.out | apply below_alloc | apply pw_below_drewN | apply below_drew1 | refine below_set ?_ GE203.out | refine below_set ?_ GE208.out) | exact HB.out))) : w.heap.size ≤ gb209)); have n6_ := Aside0.mk ((by rw [hg]; exact (below_size (by repeat (first | (with_reducible first | exact HB.out | apply below_alloc | apply pw_below_drewN | apply below_drew1 | refine below_set ?_ GE203.out | refine below_set ?_ GE208.out) | exact HB.out))) : w.heap.size ≤ gb209)); have n7_ := Aside0.mk ((by rw [hg]; exact Nat.ne_of_lt (blk_lt (g := gb203) (o := .cells #[.int .i64 x204000_1, .int .i64 x204001_1, .int .i64 x204002_1, .int .i64 x204003_1, .int .i64 x204004_1] 32 (0, 0)) (by (with_reducible repeat (first | refine blk_drewN ?_ _ | refine blk_drew ?_ | refine blk_alloc ?_ _)); refine blk_far ?_ NB203_208.out _; (with_reducible repeat (first | refine blk_drewN ?_ _ | refine blk_drew ?_ | refine blk_alloc ?_ _)); refine blk_far ?_ NB203_208.out _; (with_reducible repeat (first | refine blk_drewN ?_ _ | refine blk_drew ?_ | refine blk_alloc ?_ _)); refine blk_far ?_ NB203_208.out _; (with_reducible repeat (first | refine blk_drewN ?_ _ | refine blk_drew ?_ | refine blk_alloc ?_ _)); refine blk_far ?_ NB203_208.out _; (with_reducible repeat (first | refine blk_drewN ?_ _ | refine blk_drew ?_ | refine blk_alloc ?_ _)); refine blk_far ?_ NB203_208.out _; (with_reducible repeat (first | refine blk_drewN ?_ _ | refine blk_drew ?_ | refine blk_alloc ?_ _)); exact BK203.out)) : gb203 ≠ gb209)); have n8_ := Aside0.mk ((by rw [hg]; exact Nat.ne_of_gt (blk_lt (g := gb203) (o := .cells #[.int .i64 x204000_1, .int .i64 x204001_1, .int .i64 x204002_1, .int .i64 x204003_1, .int .i64 x204004_1] 32 (0, 0)) (by (with_reducible repeat (first | refine blk_drewN ?_ _ | refine blk_drew ?_ | refine blk_alloc ?_ _)); refine blk_far ?_ NB203_208.out _; (with_reducible repeat (first | refine blk_drewN ?_ _ | refine blk_drew ?_ | refine blk_alloc ?_ _)); refine blk_far ?_ NB203_208.out _; (with_reducible repeat (first | refine blk_drewN ?_ _ | refine blk_drew ?_ | refine blk_alloc ?_ _)); refine blk_far ?_ NB203_208.out _; (with_reducible repeat (first | refine blk_drewN ?_ _ | refine blk_drew ?_ | refine blk_alloc ?_ _)); refine blk_far ?_ NB203_208.out _; (with_reducible repeat (first | refine blk_drewN ?_ _ | refine blk_drew ?_ | refine blk_alloc ?_ _)); refine blk_far ?_ NB203_208.out _; (with_reducible repeat (first | refine blk_drewN ?_ _ | refine blk_drew ?_ | refine blk_alloc ?_ _)); exact BK203.out)) : gb209 ≠ gb203)); have n9_ := Aside0.mk ((by rw [hg]; exact Nat.ne_of_lt (blk_lt (g := gb208) (o := .cells #[.string ((rd_T98 t204 x16_1).f0), .int .i64 ((rd_T98 t204 x16_1).f1.f0), .int .i64 ((rd_T98 t204 x16_1).f1.f1), .int .i64 ((rd_T98 t204 x16_1).f1.f2), .int .i64 ((rd_T98 t204 x16_1).f1.f3)] 98 (0, 0)) (by (with_reducible repeat (first | refine blk_drewN ?_ _ | refine blk_drew ?_ | refine blk_alloc ?_ _)); refine blk_put (cs := #[.string ((rd_T98 t204 x16_1).f0), .int .i64 ((rd_T98 t204 x16_1).f1.f0), .int .i64 ((rd_T98 t204 x16_1).f1.f1), .int .i64 ((rd_T98 t204 x16_1).f1.f2), .int .i64 0]) ?_ 4 _ rfl; (with_reducible repeat (first | refine blk_drewN ?_ _ | refine blk_drew ?_ | refine blk_alloc ?_ _)); refine blk_put (cs := #[.string ((rd_T98 t204 x16_1).f0), .int .i64 ((rd_T98 t204 x16_1).f1.f0), .int .i64 ((rd_T98 t204 x16_1).f1.f1), .int .i64 0, .int .i64 0]) ?_ 3 _ rfl; (with_reducible repeat (first | refine blk_drewN ?_ _ | refine blk_drew ?_ | refine blk_alloc ?_ _)); refine blk_put (cs := #[.string ((rd_T98 t204 x16_1).f0), .int .i64 ((rd_T98 t204 x16_1).f1.f0), .int .i64 0, .int .i64 0, .int .i64 0]) ?_ 2 _ rfl; (with_reducible repeat (first | refine blk_drewN ?_ _ | refine blk_drew ?_ | refine blk_alloc ?_ _)); refine blk_put (cs := #[.string ((rd_T98 t204 x16_1).f0), .int .i64 0, .int .i64 0, .int .i64 0, .int .i64 0]) ?_ 1 _ rfl; (with_reducible repeat (first | refine blk_drewN ?_ _ | refine blk_drew ?_ | refine blk_alloc ?_ _)); refine blk_put (cs := #[.string (⟨#[]⟩ : ByteArray), .int .i64 0, .int .i64 0, .int .i64 0, .int .i64 0]) ?_ 0 _ rfl; (with_reducible repeat (first | refine blk_drewN ?_ _ | refine blk_drew ?_ | refine blk_alloc ?_ _)); exact BK208.out)) : gb208 ≠ gb209)); have n10_ := Aside0.mk ((by rw [hg]; exact Nat.ne_of_gt (blk_lt (g := gb208) (o := .cells #[.string ((rd_T98 t204 x16_1).f0), .int .i64 ((rd_T98 t204 x16_1).f1.f0), .int .i64 ((rd_T98 t204 x16_1).f1.f1), .int .i64 ((rd_T98 t204 x16_1).f1.f2), .int .i64 ((rd_T98 t204 x16_1).f1.f3)] 98 (0, 0)) (by (with_reducible repeat (first | refine blk_drewN ?_ _ | refine blk_drew ?_ | refine blk_alloc ?_ _)); refine blk_put (cs := #[.string ((rd_T98 t204 x16_1).f0), .int .i64 ((rd_T98 t204 x16_1).f1.f0), .int .i64 ((rd_T98 t204 x16_1).f1.f1), .int .i64 ((rd_T98 t204 x16_1).f1.f2), .int .i64 0]) ?_ 4 _ rfl; (with_reducible repeat (first | refine blk_drewN ?_ _ | refine blk_drew ?_ | refine blk_alloc ?_ _)); refine blk_put (cs := #[.string ((rd_T98 t204 x16_1).f0), .int .i64 ((rd_T98 t204 x16_1).f1.f0), .int .i64 ((rd_T98 t204 x16_1).f1.f1), .int .i64 0, .int .i64 0]) ?_ 3 _ rfl; (with_reducible repeat (first | refine blk_drewN ?_ _ | refine blk_drew ?_ | refine blk_alloc ?_ _)); refine blk_put (cs := #[.string ((rd_T98 t204 x16_1).f0), .int .i64 ((rd_T98 t204 x16_1).f1.f0), .int .i64 0, .int .i64 0, .int .i64 0]) ?_ 2 _ rfl; (with_reducible repeat (first | refine blk_drewN ?_ _ | refine blk_drew ?_ | refine blk_alloc ?_ _)); refine blk_put (cs := #[.string ((rd_T98 t204 x16_1).f0), .int .i64 0, .int .i64 0, .int .i64 0, .int .i64 0]) ?_ 1 _ rfl; (with_reducible repeat (first | refine blk_drewN ?_ _ | refine blk_drew ?_ | refine blk_alloc ?_ _)); refine blk_put (cs := #[.string (⟨#[]⟩ : ByteArray), .int .i64 0, .int .i64 0, .int .i64 0, .int .i64 0]) ?_ 0 _ rfl; (with_reducible repeat (first | refine blk_drewN ?_ _ | refine blk_drew ?_ | refine blk_alloc ?_ _)); exact BK208.out)) : gb209 ≠ gb208)); clear HO_14; clear BK203; clear BK208; clear HB; have HO_14 := n0_; have BK203 := n1_; have BK208 := n2_; have HB := n3_; have BK209 := n4_; have GW209 := n5_; have GE209 := n6_; have NB203_209 := n7_; have NB209_203 := n8_; have NB208_209 := n9_; have NB209_208 := n10_; clear n0_ n1_ n2_ n3_ n4_ n5_ n6_ n7_ n8_ n9_ n10_; clear hb hbox hg; have hnb14 := NB209_203.out; have hnc14 := NB203_209.out; have hnb15 := NB209_208.out; have hnc15 := NB208_209.out; have hcz16_0 : w13.cell? ⟨gb209, 0, none⟩ = some (.int .i64 0) := (blk_cell BK209.out 0).trans rfl; have hcz16_1 : w13.cell? ⟨gb209, 1, none⟩ = some (.int .i64 0) := (blk_cell BK209.out 1).trans rfl; have hcz16_2 : w13.cell? ⟨gb209, 2, none⟩ = some (.int .i64 0) := (blk_cell BK209.out 2).trans rfl; have hcz16_3 : w13.cell? ⟨gb209, 3, none⟩ = some (.int .i64 0) := (blk_cell BK209.out 3).trans rfl; have hfz16_0 := blk_frozen BK209.out 0; have hfz16_1 := blk_frozen BK209.out 1; have hfz16_2 := blk_frozen BK209.out 2; have hfz16_3 := blk_frozen BK209.out 3))
            (try simp only [Act.put, List.setIfInBounds_toArray, List.set_cons_zero, List.set_cons_succ])
            go_cut [31] (fun v31 wc => ∃ (kq : Nat) (x31_8 : Bool), v31 = .bool x31_8 ∧ Aside0 (impl_decode.j1 kq a0 x16_1 t204 (t204.length : Int) x16_1 x31_8 ((rd_T98 t204 x16_1).f1.f0) ((rd_T98 t204 x16_1).f1.f1) ((rd_T98 t204 x16_1).f1.f2) ((rd_T98 t204 x16_1).f1.f3) = some (r1, r2, r3, r4, r5, r6)) ∧ Aside0 (kq ≤ k1) ∧ Aside0 (Kd.R k98 98 wc w.heap.size (fun k_ => k_ ≠ gb208) (.slice (some ad207) t204.length co5) t204) ∧ Aside0 (wc.heap[gb203]? = some (.cells #[.int .i64 x204000_1, .int .i64 x204001_1, .int .i64 x204002_1, .int .i64 x204003_1, .int .i64 x204004_1] 32 (0, 0))) ∧ Aside0 (wc.heap[gb208]? = some (.cells #[.string ((rd_T98 t204 x16_1).f0), .int .i64 ((rd_T98 t204 x16_1).f1.f0), .int .i64 ((rd_T98 t204 x16_1).f1.f1), .int .i64 ((rd_T98 t204 x16_1).f1.f2), .int .i64 ((rd_T98 t204 x16_1).f1.f3)] 98 (0, 0))) ∧ Aside0 (wc.heap[gb209]? = some (.cells #[.int .i64 ((rd_T98 t204 x16_1).f1.f0), .int .i64 ((rd_T98 t204 x16_1).f1.f1), .int .i64 ((rd_T98 t204 x16_1).f1.f2), .int .i64 ((rd_T98 t204 x16_1).f1.f3)] 81 (0, 0))) ∧ Aside0 (Below w.heap.size w wc))
            case first =>
              have H := HC9.out
              clear HC9
              by_cases c17 : x16_1 = 0
              · rw [if_pos c17] at H
                have c17b0 : (x16_1 == 0) = true := beq_iff_eq.mpr c17
                have c17b1 : (x16_1 != 0) = false := bne_eq_false_iff_eq.mpr c17
                clear c17
                (first | rw [c17b0] | (simp only [i64_w, i32_w]; rw [c17b0]) | skip)
                have H' := Aside0.mk H
                clear H
                try go_wp2
                have n0_ : Aside0 (Kd.R k98 98 ((((w13.setCell ⟨gb209, 0, none⟩ (.int .i64 ((rd_T98 t204 x16_1).f1.f0))).setCell ⟨gb209, 1, none⟩ (.int .i64 ((rd_T98 t204 x16_1).f1.f1))).setCell ⟨gb209, 2, none⟩ (.int .i64 ((rd_T98 t204 x16_1).f1.f2))).setCell ⟨gb209, 3, none⟩ (.int .i64 ((rd_T98 t204 x16_1).f1.f3))) w.heap.size (fun k_ => k_ ≠ gb208) (.slice (some ad207) t204.length co5) t204) := ⟨by (with_reducible repeat (first | apply Kd.R_alloc | apply Kd.R_drewN | apply Kd.R_drew)); exact Kd.R_mono (Kd.R_far (p := ⟨gb209, 3, none⟩) (Kd.R_far (p := ⟨gb209, 2, none⟩) (Kd.R_far (p := ⟨gb209, 1, none⟩) (Kd.R_far (p := ⟨gb209, 0, none⟩) (Kd.R_types HO_14.out BK209.out (by decide)) (fun _ hk => hk.2) (.int .i64 ((rd_T98 t204 x16_1).f1.f0))) (fun _ hk => hk.2) (.int .i64 ((rd_T98 t204 x16_1).f1.f1))) (fun _ hk => hk.2) (.int .i64 ((rd_T98 t204 x16_1).f1.f2))) (fun _ hk => hk.2) (.int .i64 ((rd_T98 t204 x16_1).f1.f3))) (fun _ hk => hk.1.2)⟩
                have n1_ : Aside0 (((((w13.setCell ⟨gb209, 0, none⟩ (.int .i64 ((rd_T98 t204 x16_1).f1.f0))).setCell ⟨gb209, 1, none⟩ (.int .i64 ((rd_T98 t204 x16_1).f1.f1))).setCell ⟨gb209, 2, none⟩ (.int .i64 ((rd_T98 t204 x16_1).f1.f2))).setCell ⟨gb209, 3, none⟩ (.int .i64 ((rd_T98 t204 x16_1).f1.f3))).heap[gb203]? = some (.cells #[.int .i64 x204000_1, .int .i64 x204001_1, .int .i64 x204002_1, .int .i64 x204003_1, .int .i64 x204004_1] 32 (0, 0))) := ⟨by (with_reducible repeat (first | refine blk_drewN ?_ _ | refine blk_drew ?_ | refine blk_alloc ?_ _)); refine blk_far ?_ NB203_209.out _; (with_reducible repeat (first | refine blk_drewN ?_ _ | refine blk_drew ?_ | refine blk_alloc ?_ _)); refine blk_far ?_ NB203_209.out _; (with_reducible repeat (first | refine blk_drewN ?_ _ | refine blk_drew ?_ | refine blk_alloc ?_ _)); refine blk_far ?_ NB203_209.out _; (with_reducible repeat (first | refine blk_drewN ?_ _ | refine blk_drew ?_ | refine blk_alloc ?_ _)); refine blk_far ?_ NB203_209.out _; (with_reducible repeat (first | refine blk_drewN ?_ _ | refine blk_drew ?_ | refine blk_alloc ?_ _)); exact BK203.out⟩
                have n2_ : Aside0 (((((w13.setCell ⟨gb209, 0, none⟩ (.int .i64 ((rd_T98 t204 x16_1).f1.f0))).setCell ⟨gb209, 1, none⟩ (.int .i64 ((rd_T98 t204 x16_1).f1.f1))).setCell ⟨gb209, 2, none⟩ (.int .i64 ((rd_T98 t204 x16_1).f1.f2))).setCell ⟨gb209, 3, none⟩ (.int .i64 ((rd_T98 t204 x16_1).f1.f3))).heap[gb208]? = some (.cells #[.string ((rd_T98 t204 x16_1).f0), .int .i64 ((rd_T98 t204 x16_1).f1.f0), .int .i64 ((rd_T98 t204 x16_1).f1.f1), .int .i64 ((rd_T98 t204 x16_1).f1.f2), .int .i64 ((rd_T98 t204 x16_1).f1.f3)] 98 (0, 0))) := ⟨by (with_reducible repeat (first | refine blk_drewN ?_ _ | refine blk_drew ?_ | refine blk_alloc ?_ _)); refine blk_far ?_ NB208_209.out _; (with_reducible repeat (first | refine blk_drewN ?_ _ | refine blk_drew ?_ | refine blk_alloc ?_ _)); refine blk_far ?_ NB208_209.out _; (with_reducible repeat (first | refine blk_drewN ?_ _ | refine blk_drew ?_ | refine blk_alloc ?_ _)); refine blk_far ?_ NB208_209.out _; (with_reducible repeat (first | refine blk_drewN ?_ _ | refine blk_drew ?_ | refine blk_alloc ?_ _)); refine blk_far ?_ NB208_209.out _; (with_reducible repeat (first | refine blk_drewN ?_ _ | refine blk_drew ?_ | refine blk_alloc ?_ _)); exact BK208.out⟩
                have n3_ : Aside0 (((((w13.setCell ⟨gb209, 0, none⟩ (.int .i64 ((rd_T98 t204 x16_1).f1.f0))).setCell ⟨gb209, 1, none⟩ (.int .i64 ((rd_T98 t204 x16_1).f1.f1))).setCell ⟨gb209, 2, none⟩ (.int .i64 ((rd_T98 t204 x16_1).f1.f2))).setCell ⟨gb209, 3, none⟩ (.int .i64 ((rd_T98 t204 x16_1).f1.f3))).heap[gb209]? = some (.cells #[.int .i64 ((rd_T98 t204 x16_1).f1.f0), .int .i64 ((rd_T98 t204 x16_1).f1.f1), .int .i64 ((rd_T98 t204 x16_1).f1.f2), .int .i64 ((rd_T98 t204 x16_1).f1.f3)] 81 (0, 0))) := ⟨by (with_reducible repeat (first | refine blk_drewN ?_ _ | refine blk_drew ?_ | refine blk_alloc ?_ _)); refine blk_put (cs := #[.int .i64 ((rd_T98 t204 x16_1).f1.f0), .int .i64 ((rd_T98 t204 x16_1).f1.f1), .int .i64 ((rd_T98 t204 x16_1).f1.f2), .int .i64 0]) ?_ 3 _ rfl; (with_reducible repeat (first | refine blk_drewN ?_ _ | refine blk_drew ?_ | refine blk_alloc ?_ _)); refine blk_put (cs := #[.int .i64 ((rd_T98 t204 x16_1).f1.f0), .int .i64 ((rd_T98 t204 x16_1).f1.f1), .int .i64 0, .int .i64 0]) ?_ 2 _ rfl; (with_reducible repeat (first | refine blk_drewN ?_ _ | refine blk_drew ?_ | refine blk_alloc ?_ _)); refine blk_put (cs := #[.int .i64 ((rd_T98 t204 x16_1).f1.f0), .int .i64 0, .int .i64 0, .int .i64 0]) ?_ 1 _ rfl; (with_reducible repeat (first | refine blk_drewN ?_ _ | refine blk_drew ?_ | refine blk_alloc ?_ _)); refine blk_put (cs := #[.int .i64 0, .int .i64 0, .int .i64 0, .int .i64 0]) ?_ 0 _ rfl; (with_reducible repeat (first | refine blk_drewN ?_ _ | refine blk_drew ?_ | refine blk_alloc ?_ _)); exact BK209.out⟩
                have n4_ : Aside0 (Below w.heap.size w ((((w13.setCell ⟨gb209, 0, none⟩ (.int .i64 ((rd_T98 t204 x16_1).f1.f0))).setCell ⟨gb209, 1, none⟩ (.int .i64 ((rd_T98 t204 x16_1).f1.f1))).setCell ⟨gb209, 2, none⟩ (.int .i64 ((rd_T98 t204 x16_1).f1.f2))).setCell ⟨gb209, 3, none⟩ (.int .i64 ((rd_T98 t204 x16_1).f1.f3)))) := ⟨by repeat (first | (with_reducible first | exact HB.out | apply below_alloc | apply pw_below_drewN | apply below_drew1 | refine below_set ?_ GE203.out | refine below_set ?_ GE208.out | refine below_set ?_ GE209.out) | exact HB.out)⟩
                (try clear HO_14)
                (try clear BK203)
                (try clear BK208)
                (try clear BK209)
                (try clear HB)
                generalize ((((w13.setCell ⟨gb209, 0, none⟩ (.int .i64 ((rd_T98 t204 x16_1).f1.f0))).setCell ⟨gb209, 1, none⟩ (.int .i64 ((rd_T98 t204 x16_1).f1.f1))).setCell ⟨gb209, 2, none⟩ (.int .i64 ((rd_T98 t204 x16_1).f1.f2))).setCell ⟨gb209, 3, none⟩ (.int .i64 ((rd_T98 t204 x16_1).f1.f3))) = w18 at n0_ n1_ n2_ n3_ n4_ ⊢
                have HO_14 := n0_
                have BK203 := n1_
                have BK208 := n2_
                have BK209 := n3_
                have HB := n4_
                clear n0_ n1_ n2_ n3_ n4_
                have n0_ := Aside0.mk (Kd.R_drew HO_14.out)
                have n1_ := Aside0.mk (blk_drew BK203.out)
                have n2_ := Aside0.mk (blk_drew BK208.out)
                have n3_ := Aside0.mk (blk_drew BK209.out)
                have n4_ := Aside0.mk (below_drew1 HB.out)
                clear HO_14
                clear BK203
                clear BK208
                clear BK209
                clear HB
                have HO_14 := n0_
                have BK203 := n1_
                have BK208 := n2_
                have BK209 := n3_
                have HB := n4_
                clear n0_ n1_ n2_ n3_ n4_
                refine start_ (n := 9) (S := fun w' => True) (ds := []) #[false, false, false, false, false, false, false, false, false] (by kernel_rfl) rfl rfl trivial (fun hHeld => ?_); refine with_tabW impl_decode.tab5 impl_decode.bits5 (fun HT_ HW_ => ?_)
                generalize w18.drew = w19 at HO_14 BK203 BK208 BK209 HB hHeld ⊢
                refine pure_ (i := 0) (N := some 23) (v := ?_) (a' := ?_) #[true, false, false, false, false, false, false, false, false] rfl rfl (any_of HT_.out (by kernel_rfl)) (fun _ _ _ h => h) (Or.inl ⟨by rfl, ?_⟩) ?_ ?_
                rotate_left
                · intro w'
                  go_simp
                  with_reducible rfl
                rotate_left
                · simp only [Act.put, List.setIfInBounds_toArray, List.set_cons_zero, List.set_cons_succ, i64_w, i32_w]
                  rfl
                refine pure_ (i := 1) (N := some 24) (v := ?_) (a' := ?_) #[true, true, false, false, false, false, false, false, false] rfl rfl (any_of HT_.out (by kernel_rfl)) (fun _ _ _ h => h) (Or.inl ⟨by rfl, ?_⟩) ?_ ?_
                rotate_left
                · intro w'
                  go_simp
                  with_reducible rfl
                rotate_left
                · simp only [Act.put, List.setIfInBounds_toArray, List.set_cons_zero, List.set_cons_succ, i64_w, i32_w]
                  rfl
                refine pure_ (i := 2) (N := some 25) (v := ?_) (a' := ?_) #[true, true, true, false, false, false, false, false, false] rfl rfl (any_of HT_.out (by kernel_rfl)) (fun _ _ _ h => h) (Or.inl ⟨by rfl, ?_⟩) ?_ ?_
                rotate_left
                · intro w'
                  go_simp
                  with_reducible rfl
                rotate_left
                · simp only [Act.put, List.setIfInBounds_toArray, List.set_cons_zero, List.set_cons_succ, i64_w, i32_w]
                  rfl
                refine pure_ (i := 3) (N := some 26) (v := undef) (a' := ?_) #[true, true, true, true, false, false, false, false, false] rfl rfl (any_of HT_.out (by kernel_rfl)) (fun _ _ _ h => h) (Or.inr ⟨by rfl, rfl⟩) ?_ ?_
                rotate_left
                · simp only [Act.put, List.setIfInBounds_toArray, List.set_cons_zero, List.set_cons_succ, i64_w, i32_w]
                  rfl
                refine pure_ (i := 4) (N := some 27) (v := undef) (a' := ?_) #[true, true, true, true, true, false, false, false, false] rfl rfl (any_of HT_.out (by kernel_rfl)) (fun _ _ _ h => h) (Or.inr ⟨by rfl, rfl⟩) ?_ ?_
                rotate_left
                · simp only [Act.put, List.setIfInBounds_toArray, List.set_cons_zero, List.set_cons_succ, i64_w, i32_w]
                  rfl
                refine pure_ (i := 5) (N := some 28) (v := undef) (a' := ?_) #[true, true, true, true, true, true, false, false, false] rfl rfl (any_of HT_.out (by kernel_rfl)) (fun _ _ _ h => h) (Or.inr ⟨by rfl, rfl⟩) ?_ ?_
                rotate_left
                · simp only [Act.put, List.setIfInBounds_toArray, List.set_cons_zero, List.set_cons_succ, i64_w, i32_w]
                  rfl
                refine pure_ (i := 6) (N := some 29) (v := undef) (a' := ?_) #[true, true, true, true, true, true, true, false, false] rfl rfl (any_of HT_.out (by kernel_rfl)) (fun _ _ _ h => h) (Or.inr ⟨by rfl, rfl⟩) ?_ ?_
                rotate_left
                · simp only [Act.put, List.setIfInBounds_toArray, List.set_cons_zero, List.set_cons_succ, i64_w, i32_w]
                  rfl
                refine pure_ (i := 7) (N := some 30) (v := undef) (a' := ?_) #[true, true, true, true, true, true, true, true, false] rfl rfl (any_of HT_.out (by kernel_rfl)) (fun _ _ _ h => h) (Or.inr ⟨by rfl, rfl⟩) ?_ ?_
                rotate_left
                · simp only [Act.put, List.setIfInBounds_toArray, List.set_cons_zero, List.set_cons_succ, i64_w, i32_w]
                  rfl
                refine pure_ (i := 8) (N := some 31) (v := ?_) (a' := ?_) #[true, true, true, true, true, true, true, true, true] rfl rfl (any_of HT_.out (by kernel_rfl)) (fun _ _ _ h => h) (Or.inl ⟨by rfl, ?_⟩) ?_ ?_
                rotate_left
                · intro w'
                  go_simp
                  with_reducible rfl
                rotate_left
                · simp only [Act.put, List.setIfInBounds_toArray, List.set_cons_zero, List.set_cons_succ, i64_w, i32_w]
                  rfl
                refine done_ (done_of HT_.out (by kernel_rfl)) ?_
                try go_wp2
                go_meet
                case rel => exact ⟨_, (true), (by first | rfl | (simp; done) | (simp [*]; done)), H', ⟨by have := HK1.out; first | omega | exact Nat.le_refl _⟩, ⟨by (with_reducible repeat (first | apply Kd.R_alloc | apply Kd.R_drewN | apply Kd.R_drew)); exact HO_14.out⟩, ⟨by (with_reducible repeat (first | refine blk_drewN ?_ _ | refine blk_drew ?_ | refine blk_alloc ?_ _)); exact BK203.out⟩, ⟨by (with_reducible repeat (first | refine blk_drewN ?_ _ | refine blk_drew ?_ | refine blk_alloc ?_ _)); exact BK208.out⟩, ⟨by (with_reducible repeat (first | refine blk_drewN ?_ _ | refine blk_drew ?_ | refine blk_alloc ?_ _)); exact BK209.out⟩, ⟨by repeat (first | (with_reducible first | exact HB.out | apply below_alloc | apply pw_below_drewN | apply below_drew1 | refine below_set ?_ GE203.out | refine below_set ?_ GE208.out | refine below_set ?_ GE209.out) | exact HB.out)⟩⟩
              · rw [if_neg c17] at H
                have c17b0 : (x16_1 == 0) = false := beq_eq_false_iff_ne.mpr c17
                have c17b1 : (x16_1 != 0) = true := bne_iff_ne.mpr c17
                (first | rw [c17b0] | (simp only [i64_w, i32_w]; rw [c17b0]) | skip)
                replace H := Option.bind_eq_some_iff.mp H
                obtain ⟨t210, A200, H⟩ := H
                try dsimp only at H
                have A20 := Aside0.mk A200
                clear A200
                have H' := Aside0.mk H
                clear H
                try go_wp2
                have n0_ : Aside0 (Kd.R k98 98 ((((w13.setCell ⟨gb209, 0, none⟩ (.int .i64 ((rd_T98 t204 x16_1).f1.f0))).setCell ⟨gb209, 1, none⟩ (.int .i64 ((rd_T98 t204 x16_1).f1.f1))).setCell ⟨gb209, 2, none⟩ (.int .i64 ((rd_T98 t204 x16_1).f1.f2))).setCell ⟨gb209, 3, none⟩ (.int .i64 ((rd_T98 t204 x16_1).f1.f3))) w.heap.size (fun k_ => k_ ≠ gb208) (.slice (some ad207) t204.length co5) t204) := ⟨by (with_reducible repeat (first | apply Kd.R_alloc | apply Kd.R_drewN | apply Kd.R_drew)); exact Kd.R_mono (Kd.R_far (p := ⟨gb209, 3, none⟩) (Kd.R_far (p := ⟨gb209, 2, none⟩) (Kd.R_far (p := ⟨gb209, 1, none⟩) (Kd.R_far (p := ⟨gb209, 0, none⟩) (Kd.R_types HO_14.out BK209.out (by decide)) (fun _ hk => hk.2) (.int .i64 ((rd_T98 t204 x16_1).f1.f0))) (fun _ hk => hk.2) (.int .i64 ((rd_T98 t204 x16_1).f1.f1))) (fun _ hk => hk.2) (.int .i64 ((rd_T98 t204 x16_1).f1.f2))) (fun _ hk => hk.2) (.int .i64 ((rd_T98 t204 x16_1).f1.f3))) (fun _ hk => hk.1.2)⟩
                have n1_ : Aside0 (((((w13.setCell ⟨gb209, 0, none⟩ (.int .i64 ((rd_T98 t204 x16_1).f1.f0))).setCell ⟨gb209, 1, none⟩ (.int .i64 ((rd_T98 t204 x16_1).f1.f1))).setCell ⟨gb209, 2, none⟩ (.int .i64 ((rd_T98 t204 x16_1).f1.f2))).setCell ⟨gb209, 3, none⟩ (.int .i64 ((rd_T98 t204 x16_1).f1.f3))).heap[gb203]? = some (.cells #[.int .i64 x204000_1, .int .i64 x204001_1, .int .i64 x204002_1, .int .i64 x204003_1, .int .i64 x204004_1] 32 (0, 0))) := ⟨by (with_reducible repeat (first | refine blk_drewN ?_ _ | refine blk_drew ?_ | refine blk_alloc ?_ _)); refine blk_far ?_ NB203_209.out _; (with_reducible repeat (first | refine blk_drewN ?_ _ | refine blk_drew ?_ | refine blk_alloc ?_ _)); refine blk_far ?_ NB203_209.out _; (with_reducible repeat (first | refine blk_drewN ?_ _ | refine blk_drew ?_ | refine blk_alloc ?_ _)); refine blk_far ?_ NB203_209.out _; (with_reducible repeat (first | refine blk_drewN ?_ _ | refine blk_drew ?_ | refine blk_alloc ?_ _)); refine blk_far ?_ NB203_209.out _; (with_reducible repeat (first | refine blk_drewN ?_ _ | refine blk_drew ?_ | refine blk_alloc ?_ _)); exact BK203.out⟩
                have n2_ : Aside0 (((((w13.setCell ⟨gb209, 0, none⟩ (.int .i64 ((rd_T98 t204 x16_1).f1.f0))).setCell ⟨gb209, 1, none⟩ (.int .i64 ((rd_T98 t204 x16_1).f1.f1))).setCell ⟨gb209, 2, none⟩ (.int .i64 ((rd_T98 t204 x16_1).f1.f2))).setCell ⟨gb209, 3, none⟩ (.int .i64 ((rd_T98 t204 x16_1).f1.f3))).heap[gb208]? = some (.cells #[.string ((rd_T98 t204 x16_1).f0), .int .i64 ((rd_T98 t204 x16_1).f1.f0), .int .i64 ((rd_T98 t204 x16_1).f1.f1), .int .i64 ((rd_T98 t204 x16_1).f1.f2), .int .i64 ((rd_T98 t204 x16_1).f1.f3)] 98 (0, 0))) := ⟨by (with_reducible repeat (first | refine blk_drewN ?_ _ | refine blk_drew ?_ | refine blk_alloc ?_ _)); refine blk_far ?_ NB208_209.out _; (with_reducible repeat (first | refine blk_drewN ?_ _ | refine blk_drew ?_ | refine blk_alloc ?_ _)); refine blk_far ?_ NB208_209.out _; (with_reducible repeat (first | refine blk_drewN ?_ _ | refine blk_drew ?_ | refine blk_alloc ?_ _)); refine blk_far ?_ NB208_209.out _; (with_reducible repeat (first | refine blk_drewN ?_ _ | refine blk_drew ?_ | refine blk_alloc ?_ _)); refine blk_far ?_ NB208_209.out _; (with_reducible repeat (first | refine blk_drewN ?_ _ | refine blk_drew ?_ | refine blk_alloc ?_ _)); exact BK208.out⟩
                have n3_ : Aside0 (((((w13.setCell ⟨gb209, 0, none⟩ (.int .i64 ((rd_T98 t204 x16_1).f1.f0))).setCell ⟨gb209, 1, none⟩ (.int .i64 ((rd_T98 t204 x16_1).f1.f1))).setCell ⟨gb209, 2, none⟩ (.int .i64 ((rd_T98 t204 x16_1).f1.f2))).setCell ⟨gb209, 3, none⟩ (.int .i64 ((rd_T98 t204 x16_1).f1.f3))).heap[gb209]? = some (.cells #[.int .i64 ((rd_T98 t204 x16_1).f1.f0), .int .i64 ((rd_T98 t204 x16_1).f1.f1), .int .i64 ((rd_T98 t204 x16_1).f1.f2), .int .i64 ((rd_T98 t204 x16_1).f1.f3)] 81 (0, 0))) := ⟨by (with_reducible repeat (first | refine blk_drewN ?_ _ | refine blk_drew ?_ | refine blk_alloc ?_ _)); refine blk_put (cs := #[.int .i64 ((rd_T98 t204 x16_1).f1.f0), .int .i64 ((rd_T98 t204 x16_1).f1.f1), .int .i64 ((rd_T98 t204 x16_1).f1.f2), .int .i64 0]) ?_ 3 _ rfl; (with_reducible repeat (first | refine blk_drewN ?_ _ | refine blk_drew ?_ | refine blk_alloc ?_ _)); refine blk_put (cs := #[.int .i64 ((rd_T98 t204 x16_1).f1.f0), .int .i64 ((rd_T98 t204 x16_1).f1.f1), .int .i64 0, .int .i64 0]) ?_ 2 _ rfl; (with_reducible repeat (first | refine blk_drewN ?_ _ | refine blk_drew ?_ | refine blk_alloc ?_ _)); refine blk_put (cs := #[.int .i64 ((rd_T98 t204 x16_1).f1.f0), .int .i64 0, .int .i64 0, .int .i64 0]) ?_ 1 _ rfl; (with_reducible repeat (first | refine blk_drewN ?_ _ | refine blk_drew ?_ | refine blk_alloc ?_ _)); refine blk_put (cs := #[.int .i64 0, .int .i64 0, .int .i64 0, .int .i64 0]) ?_ 0 _ rfl; (with_reducible repeat (first | refine blk_drewN ?_ _ | refine blk_drew ?_ | refine blk_alloc ?_ _)); exact BK209.out⟩
                have n4_ : Aside0 (Below w.heap.size w ((((w13.setCell ⟨gb209, 0, none⟩ (.int .i64 ((rd_T98 t204 x16_1).f1.f0))).setCell ⟨gb209, 1, none⟩ (.int .i64 ((rd_T98 t204 x16_1).f1.f1))).setCell ⟨gb209, 2, none⟩ (.int .i64 ((rd_T98 t204 x16_1).f1.f2))).setCell ⟨gb209, 3, none⟩ (.int .i64 ((rd_T98 t204 x16_1).f1.f3)))) := ⟨by repeat (first | (with_reducible first | exact HB.out | apply below_alloc | apply pw_below_drewN | apply below_drew1 | refine below_set ?_ GE203.out | refine below_set ?_ GE208.out | refine below_set ?_ GE209.out) | exact HB.out)⟩
                (try clear HO_14)
                (try clear BK203)
                (try clear BK208)
                (try clear BK209)
                (try clear HB)
                generalize ((((w13.setCell ⟨gb209, 0, none⟩ (.int .i64 ((rd_T98 t204 x16_1).f1.f0))).setCell ⟨gb209, 1, none⟩ (.int .i64 ((rd_T98 t204 x16_1).f1.f1))).setCell ⟨gb209, 2, none⟩ (.int .i64 ((rd_T98 t204 x16_1).f1.f2))).setCell ⟨gb209, 3, none⟩ (.int .i64 ((rd_T98 t204 x16_1).f1.f3))) = w21 at n0_ n1_ n2_ n3_ n4_ ⊢
                have HO_14 := n0_
                have BK203 := n1_
                have BK208 := n2_
                have BK209 := n3_
                have HB := n4_
                clear n0_ n1_ n2_ n3_ n4_
                have n0_ := Aside0.mk (Kd.R_drew HO_14.out)
                have n1_ := Aside0.mk (blk_drew BK203.out)
                have n2_ := Aside0.mk (blk_drew BK208.out)
                have n3_ := Aside0.mk (blk_drew BK209.out)
                have n4_ := Aside0.mk (below_drew1 HB.out)
                clear HO_14
                clear BK203
                clear BK208
                clear BK209
                clear HB
                have HO_14 := n0_
                have BK203 := n1_
                have BK208 := n2_
                have BK209 := n3_
                have HB := n4_
                clear n0_ n1_ n2_ n3_ n4_
                refine start_ (n := 9) (S := fun w' => w'.cell? ⟨gb209, 0, none⟩ = some (.int .i64 ((rd_T98 t204 x16_1).f1.f0)) ∧ w'.cell? ⟨gb209, 1, none⟩ = some (.int .i64 ((rd_T98 t204 x16_1).f1.f1)) ∧ w'.cell? ⟨gb209, 2, none⟩ = some (.int .i64 ((rd_T98 t204 x16_1).f1.f2)) ∧ w'.cell? ⟨gb209, 3, none⟩ = some (.int .i64 ((rd_T98 t204 x16_1).f1.f3))) (ds := []) #[false, false, false, false, false, false, false, false, false] (by kernel_rfl) rfl rfl ⟨(blk_cell BK209.out 0).trans rfl, (blk_cell BK209.out 1).trans rfl, (blk_cell BK209.out 2).trans rfl, (blk_cell BK209.out 3).trans rfl⟩ (fun hHeld => ?_); refine with_tabW impl_decode.tab5 impl_decode.bits5 (fun HT_ HW_ => ?_)
                generalize w21.drew = w22 at HO_14 BK203 BK208 BK209 HB hHeld ⊢
                refine pure_ (i := 0) (N := some 23) (v := ?_) (a' := ?_) #[true, false, false, false, false, false, false, false, false] rfl rfl (any_of HT_.out (by kernel_rfl)) (fun _ _ _ h => h) (Or.inl ⟨by rfl, ?_⟩) ?_ ?_
                rotate_left
                · intro w'
                  go_simp
                  with_reducible rfl
                rotate_left
                · simp only [Act.put, List.setIfInBounds_toArray, List.set_cons_zero, List.set_cons_succ, i64_w, i32_w]
                  rfl
                refine pure_ (i := 1) (N := some 24) (v := ?_) (a' := ?_) #[true, true, false, false, false, false, false, false, false] rfl rfl (any_of HT_.out (by kernel_rfl)) (fun _ _ _ h => h) (Or.inl ⟨by rfl, ?_⟩) ?_ ?_
                rotate_left
                · intro w'
                  go_simp
                  with_reducible rfl
                rotate_left
                · simp only [Act.put, List.setIfInBounds_toArray, List.set_cons_zero, List.set_cons_succ, i64_w, i32_w]
                  rfl
                refine pure_ (i := 2) (N := some 25) (v := ?_) (a' := ?_) #[true, true, true, false, false, false, false, false, false] rfl rfl (any_of HT_.out (by kernel_rfl)) (fun _ _ _ h => h) (Or.inl ⟨by rfl, ?_⟩) ?_ ?_
                rotate_left
                · intro w'
                  go_simp
                  with_reducible rfl
                rotate_left
                · simp only [Act.put, List.setIfInBounds_toArray, List.set_cons_zero, List.set_cons_succ, i64_w, i32_w]
                  rfl
                refine pure_ (i := 3) (N := some 26) (v := ?_) (a' := ?_) #[true, true, true, true, false, false, false, false, false] rfl rfl (any_of HT_.out (by kernel_rfl)) (fun _ _ _ h => h) (Or.inl ⟨by rfl, ?_⟩) ?_ ?_
                rotate_left
                · intro w'
                  go_simp
                  with_reducible rfl
                rotate_left
                · simp only [Act.put, List.setIfInBounds_toArray, List.set_cons_zero, List.set_cons_succ, i64_w, i32_w]
                  rfl
                refine pure_ (i := 5) (N := some 28) (v := ?_) (a' := ?_) #[true, true, true, true, false, true, false, false, false] rfl rfl (any_of HT_.out (by kernel_rfl)) (fun _ _ _ h => h) (Or.inl ⟨by rfl, ?_⟩) ?_ ?_
                rotate_left
                · intro w'
                  go_simp
                  with_reducible rfl
                rotate_left
                · simp only [Act.put, List.setIfInBounds_toArray, List.set_cons_zero, List.set_cons_succ, i64_w, i32_w]
                  rfl
                refine take_ (i := 4) (N := some 27) (v := ?_) (a' := ?_) #[true, true, true, true, true, true, false, false, false] rfl rfl (take_ofW HT_.out HW_.out (by kernel_rfl)) (fun _ _ _ h => h) (Or.inl ⟨by rfl, ?_⟩) hHeld ?_ ?_
                rotate_left
                · rintro w' ⟨s0, s1, s2, s3⟩
                  go_simp
                  with_reducible rfl
                rotate_left
                · simp only [Act.put, List.setIfInBounds_toArray, List.set_cons_zero, List.set_cons_succ, i64_w, i32_w]
                  rfl
                refine one_ (i := 6) (N := some 29) #[true, true, true, true, true, true, true, false, false] rfl rfl (one_of HT_.out (by kernel_rfl)) (by decide) (fun K hK => ?_)
                refine goes_ Try.func57 (by kernel_rfl) rfl #[.int .i64 a0, .int .i64 0, .int .i64 7] (by rfl) rfl rfl (by (try simp only [List.map_toArray, List.map_cons, List.map_nil]); first | done | rfl | (simp only [List.length_drop, List.length_take]; rfl)) ?_
                with_reducible refine (impl_bitsOf.calls a0 0 7 t210 _ A20.out).mono ?_
                rintro e w' ⟨rfl, ⟨nd, rfl⟩⟩
                refine ⟨_, rfl, ?_⟩
                refine hK.out _ _ ⟨(blk_cell BK209.out 0).trans rfl, (blk_cell BK209.out 1).trans rfl, (blk_cell BK209.out 2).trans rfl, (blk_cell BK209.out 3).trans rfl⟩ (fun hHeld => ?_)
                clear hK K
                refine norm_ (a' := ?_) ?_ ?_
                rotate_left
                · show Act.put _ (some 29) _ = _
                  simp only [Act.put, List.setIfInBounds_toArray, List.set_cons_zero, List.set_cons_succ, i64_w, i32_w]
                  rfl
                refine pure_ (i := 7) (N := some 30) (v := ?_) (a' := ?_) #[true, true, true, true, true, true, true, true, false] rfl rfl (any_of HT_.out (by kernel_rfl)) (fun _ _ _ h => h) (Or.inl ⟨by rfl, ?_⟩) ?_ ?_
                rotate_left
                · intro w'
                  go_simp
                  with_reducible rfl
                rotate_left
                · simp only [Act.put, List.setIfInBounds_toArray, List.set_cons_zero, List.set_cons_succ, i64_w, i32_w]
                  rfl
                refine pure_ (i := 8) (N := some 31) (v := ?_) (a' := ?_) #[true, true, true, true, true, true, true, true, true] rfl rfl (any_of HT_.out (by kernel_rfl)) (fun _ _ _ h => h) (Or.inl ⟨by rfl, ?_⟩) ?_ ?_
                rotate_left
                · intro w'
                  go_simp
                  with_reducible rfl
                rotate_left
                · simp only [Act.put, List.setIfInBounds_toArray, List.set_cons_zero, List.set_cons_succ, i64_w, i32_w]
                  rfl
                refine done_ (done_of HT_.out (by kernel_rfl)) ?_
                try go_wp2
                go_meet
                case rel => exact ⟨_, ((((rd_T98 t204 x16_1).f1.f1) != t210)), (by first | rfl | (simp; done) | (simp [*]; done)), H', ⟨by have := HK1.out; first | omega | exact Nat.le_refl _⟩, ⟨by (with_reducible repeat (first | apply Kd.R_alloc | apply Kd.R_drewN | apply Kd.R_drew)); exact HO_14.out⟩, ⟨by (with_reducible repeat (first | refine blk_drewN ?_ _ | refine blk_drew ?_ | refine blk_alloc ?_ _)); exact BK203.out⟩, ⟨by (with_reducible repeat (first | refine blk_drewN ?_ _ | refine blk_drew ?_ | refine blk_alloc ?_ _)); exact BK208.out⟩, ⟨by (with_reducible repeat (first | refine blk_drewN ?_ _ | refine blk_drew ?_ | refine blk_alloc ?_ _)); exact BK209.out⟩, ⟨by repeat (first | (with_reducible first | exact HB.out | apply below_alloc | apply pw_below_drewN | apply below_drew1 | refine below_set ?_ GE203.out | refine below_set ?_ GE208.out | refine below_set ?_ GE209.out) | exact HB.out)⟩⟩
            case rest =>
              clear HC9
              try clear c1
              try clear p2
              try clear q2
              try clear hx2
              try clear c5
              try clear c6
              try clear c6b0
              try clear c7
              try clear c7b0
              try clear c8
              try clear c8b0
              try clear c10
              try clear c11
              try clear c14
              try clear c15
              try clear c17
              try clear c17b0
              try clear c17b1
              try clear p20
              try clear q20
              try clear hx20
              try clear hcz12_0
              try clear hcz12_1
              try clear hcz12_2
              try clear hcz12_3
              try clear hcz12_4
              try clear hcz16_0
              try clear hcz16_1
              try clear hcz16_2
              try clear hcz16_3
              try clear hfz12_0
              try clear hfz12_1
              try clear hfz12_2
              try clear hfz12_3
              try clear hfz12_4
              try clear hfz16_0
              try clear hfz16_1
              try clear hfz16_2
              try clear hfz16_3
              try clear hx207_0
              try clear hx207_1
              try clear hx207_2
              try clear hx207_3
              try clear hx207_4
              try clear p2
              try clear p207
              try clear q207
              obtain ⟨kq, x31_8, rfl, HA, HJ8, HO_14, BK203, BK208, BK209, HB⟩ := hcut
              cases kq with
              | zero => exact absurd HA.out (by simp [impl_decode.j1])
              | succ kj8 =>
                have H := HA.out
                clear HA
                simp only [impl_decode.j1] at H
                by_cases c23 : x31_8 = true
                · subst c23
                  rw [if_pos rfl] at H
                  have H' := Aside0.mk H
                  clear H
                  go_wp2
                  go_roundg kj8
                  case measure => have := HK1.out; have := HJ8.out; omega
                  case rel => exact ⟨(wrap64 (x16_1 + 1)), (x204000_1), (x204001_1), (x204002_1), (x204003_1), (x204004_1), (by first | rfl | (simp; done) | (simp [*]; done)), H', ⟨by have := HK1.out; have := HJ8.out; omega⟩, ⟨by (with_reducible repeat (first | apply Kd.R_alloc | apply Kd.R_drewN | apply Kd.R_drew)); exact Kd.R_mono HO_14.out (fun _ hk => trivial)⟩, ⟨by (with_reducible repeat (first | refine blk_drewN ?_ _ | refine blk_drew ?_ | refine blk_alloc ?_ _)); exact BK203.out⟩, ⟨by repeat (first | (with_reducible first | exact HB.out | apply below_alloc | apply pw_below_drewN | apply below_drew1 | refine below_set ?_ GE203.out | refine below_set ?_ GE208.out | refine below_set ?_ GE209.out) | exact HB.out)⟩⟩
                · replace c23 := Bool.eq_false_iff.mpr c23
                  subst c23
                  rw [if_neg (show ¬ (false = true) by decide)] at H
                  replace H := Option.bind_eq_some_iff.mp H
                  obtain ⟨t212, A240, H⟩ := H
                  try dsimp only at H
                  have A24 := Aside0.mk A240
                  clear A240
                  have H' := Aside0.mk H
                  clear H
                  go_wp2_with (first | ((with_reducible refine gate_dst (N := 7) rfl ?_); refine box_event ?hg (N := 7) ?hd (cs := #[.int .i64 0, .int .i64 0, .int .i64 0, .int .i64 0, .int .i64 0]) (t := 32) ?hr ?_; (case hd => rfl); (case hg => rfl); (case hr => first | (go_simp; done) | (go_simp; rfl)); intro gb211 hg w25 hbox hb; have n0_ := Aside0.mk (Kd.R_below (by (with_reducible repeat (first | apply Kd.R_alloc | apply Kd.R_drewN | apply Kd.R_drew)); exact HO_14.out) hb); have n1_ := Aside0.mk (blk_below (g := gb203) (o := .cells #[.int .i64 x204000_1, .int .i64 x204001_1, .int .i64 x204002_1, .int .i64 x204003_1, .int .i64 x204004_1] 32 (0, 0)) (by (with_reducible repeat (first | refine blk_drewN ?_ _ | refine blk_drew ?_ | refine blk_alloc ?_ _)); exact BK203.out) hb); have n2_ := Aside0.mk (blk_below (g := gb208) (o := .cells #[.string ((rd_T98 t204 x16_1).f0), .int .i64 ((rd_T98 t204 x16_1).f1.f0), .int .i64 ((rd_T98 t204 x16_1).f1.f1), .int .i64 ((rd_T98 t204 x16_1).f1.f2), .int .i64 ((rd_T98 t204 x16_1).f1.f3)] 98 (0, 0)) (by (with_reducible repeat (first | refine blk_drewN ?_ _ | refine blk_drew ?_ | refine blk_alloc ?_ _)); exact BK208.out) hb); have n3_ := Aside0.mk (blk_below (g := gb209) (o := .cells #[.int .i64 ((rd_T98 t204 x16_1).f1.f0), .int .i64 ((rd_T98 t204 x16_1).f1.f1), .int .i64 ((rd_T98 t204 x16_1).f1.f2), .int .i64 ((rd_T98 t204 x16_1).f1.f3)] 81 (0, 0)) (by (with_reducible repeat (first | refine blk_drewN ?_ _ | refine blk_drew ?_ | refine blk_alloc ?_ _)); exact BK209.out) hb); have n4_ := Aside0.mk (below_step (by repeat (first | (with_reducible first | exact HB.out | apply below_alloc | apply pw_below_drewN | apply below_drew1 | refine below_set ?_ GE203.out | refine below_set ?_ GE208.out | refine below_set ?_ GE209.out) | exact HB.out)) hb); have n5_ := Aside0.mk (hbox); have n6_ := Aside0.mk ((by rw [hg]; exact (below_size (by repeat (first | (with_reducible first | exact HB.out | apply below_alloc | apply pw_below_drewN | apply below_drew1 | refine below_set ?_ GE203.out | refine below_set ?_ GE208.out | refine below_set ?_ GE209.out) | exact HB.out))) : w.heap.size ≤ gb211)); have n7_ := Aside0.mk ((by rw [hg]; exact (below_size (by repeat (first | (with_reducible first | exact HB.out | apply below_alloc | apply pw_below_drewN | apply below_drew1 | refine below_set ?_ GE203.out | refine below_set ?_ GE208.out | refine below_set ?_ GE209.out) | exact HB.out))) : w.heap.size ≤ gb211)); have n8_ := Aside0.mk ((by rw [hg]; exact Nat.ne_of_lt (blk_lt (g := gb203) (o := .cells #[.int .i64 x204000_1, .int .i64 x204001_1, .int .i64 x204002_1, .int .i64 x204003_1, .int .i64 x204004_1] 32 (0, 0)) (by (with_reducible repeat (first | refine blk_drewN ?_ _ | refine blk_drew ?_ | refine blk_alloc ?_ _)); exact BK203.out)) : gb203 ≠ gb211)); have n9_ := Aside0.mk ((by rw [hg]; exact Nat.ne_of_gt (blk_lt (g := gb203) (o := .cells #[.int .i64 x204000_1, .int .i64 x204001_1, .int .i64 x204002_1, .int .i64 x204003_1, .int .i64 x204004_1] 32 (0, 0)) (by (with_reducible repeat (first | refine blk_drewN ?_ _ | refine blk_drew ?_ | refine blk_alloc ?_ _)); exact BK203.out)) : gb211 ≠ gb203)); have n10_ := Aside0.mk ((by rw [hg]; exact Nat.ne_of_lt (blk_lt (g := gb208) (o := .cells #[.string ((rd_T98 t204 x16_1).f0), .int .i64 ((rd_T98 t204 x16_1).f1.f0), .int .i64 ((rd_T98 t204 x16_1).f1.f1), .int .i64 ((rd_T98 t204 x16_1).f1.f2), .int .i64 ((rd_T98 t204 x16_1).f1.f3)] 98 (0, 0)) (by (with_reducible repeat (first | refine blk_drewN ?_ _ | refine blk_drew ?_ | refine blk_alloc ?_ _)); exact BK208.out)) : gb208 ≠ gb211)); have n11_ := Aside0.mk ((by rw [hg]; exact Nat.ne_of_gt (blk_lt (g := gb208) (o := .cells #[.string ((rd_T98 t204 x16_1).f0), .int .i64 ((rd_T98 t204 x16_1).f1.f0), .int .i64 ((rd_T98 t204 x16_1).f1.f1), .int .i64 ((rd_T98 t204 x16_1).f1.f2), .int .i64 ((rd_T98 t204 x16_1).f1.f3)] 98 (0, 0)) (by (with_reducible repeat (first | refine blk_drewN ?_ _ | refine blk_drew ?_ | refine blk_alloc ?_ _)); exact BK208.out)) : gb211 ≠ gb208)); have n12_ := Aside0.mk ((by rw [hg]; exact Nat.ne_of_lt (blk_lt (g := gb209) (o := .cells #[.int .i64 ((rd_T98 t204 x16_1).f1.f0), .int .i64 ((rd_T98 t204 x16_1).f1.f1), .int .i64 ((rd_T98 t204 x16_1).f1.f2), .int .i64 ((rd_T98 t204 x16_1).f1.f3)] 81 (0, 0)) (by (with_reducible repeat (first | refine blk_drewN ?_ _ | refine blk_drew ?_ | refine blk_alloc ?_ _)); exact BK209.out)) : gb209 ≠ gb211)); have n13_ := Aside0.mk ((by rw [hg]; exact Nat.ne_of_gt (blk_lt (g := gb209) (o := .cells #[.int .i64 ((rd_T98 t204 x16_1).f1.f0), .int .i64 ((rd_T98 t204 x16_1).f1.f1), .int .i64 ((rd_T98 t204 x16_1).f1.f2), .int .i64 ((rd_T98 t204 x16_1).f1.f3)] 81 (0, 0)) (by (with_reducible repeat (first | refine blk_drewN ?_ _ | refine blk_drew ?_ | refine blk_alloc ?_ _)); exact BK209.out)) : gb211 ≠ gb209)); clear HO_14; clear BK203; clear BK208; clear BK209; clear HB; have HO_14 := n0_; have BK203 := n1_; have BK208 := n2_; have BK209 := n3_; have HB := n4_; have BK211 := n5_; have GW211 := n6_; have GE211 := n7_; have NB203_211 := n8_; have NB211_203 := n9_; have NB208_211 := n10_; have NB211_208 := n11_; have NB209_211 := n12_; have NB211_209 := n13_; clear n0_ n1_ n2_ n3_ n4_ n5_ n6_ n7_ n8_ n9_ n10_ n11_ n12_ n13_; clear hb hbox hg; have hnb26 := NB211_203.out; have hnc26 := NB203_211.out; have hnb27 := NB211_208.out; have hnc27 := NB208_211.out; have hnb28 := NB211_209.out; have hnc28 := NB209_211.out; have hcz29_0 : w25.cell? ⟨gb211, 0, none⟩ = some (.int .i64 0) := (blk_cell BK211.out 0).trans rfl; have hcz29_1 : w25.cell? ⟨gb211, 1, none⟩ = some (.int .i64 0) := (blk_cell BK211.out 1).trans rfl; have hcz29_2 : w25.cell? ⟨gb211, 2, none⟩ = some (.int .i64 0) := (blk_cell BK211.out 2).trans rfl; have hcz29_3 : w25.cell? ⟨gb211, 3, none⟩ = some (.int .i64 0) := (blk_cell BK211.out 3).trans rfl; have hcz29_4 : w25.cell? ⟨gb211, 4, none⟩ = some (.int .i64 0) := (blk_cell BK211.out 4).trans rfl; have hfz29_0 := blk_frozen BK211.out 0; have hfz29_1 := blk_frozen BK211.out 1; have hfz29_2 := blk_frozen BK211.out 2; have hfz29_3 := blk_frozen BK211.out 3; have hfz29_4 := blk_frozen BK211.out 4; have hnb30 := NB209_203.out; have hnc30 := NB203_209.out; have hnb31 := NB209_208.out; have hnc31 := NB208_209.out; have hcz32_0 : w25.cell? ⟨gb209, 0, none⟩ = some (.int .i64 ((rd_T98 t204 x16_1).f1.f0)) := (blk_cell BK209.out 0).trans rfl; have hcz32_1 : w25.cell? ⟨gb209, 1, none⟩ = some (.int .i64 ((rd_T98 t204 x16_1).f1.f1)) := (blk_cell BK209.out 1).trans rfl; have hcz32_2 : w25.cell? ⟨gb209, 2, none⟩ = some (.int .i64 ((rd_T98 t204 x16_1).f1.f2)) := (blk_cell BK209.out 2).trans rfl; have hcz32_3 : w25.cell? ⟨gb209, 3, none⟩ = some (.int .i64 ((rd_T98 t204 x16_1).f1.f3)) := (blk_cell BK209.out 3).trans rfl; have hfz32_0 := blk_frozen BK209.out 0; have hfz32_1 := blk_frozen BK209.out 1; have hfz32_2 := blk_frozen BK209.out 2; have hfz32_3 := blk_frozen BK209.out 3) | ((with_reducible refine gate_callee (f := 98) rfl ?_); refine goesL_ (some 36) rfl rfl Try.func98 (by kernel_rfl) rfl #[.int .i64 ((rd_T98 t204 x16_1).f1.f0)] rfl (by (try simp only [List.map_toArray, List.map_cons, List.map_nil]); first | done | rfl | (simp only [List.length_drop, List.length_take]; rfl)) ?_; (with_reducible refine (impl_pieces.calls ((rd_T98 t204 x16_1).f1.f0) t212 _ A24.out).mono ?_); rintro e w33 ⟨v213, rfl, ho0, hb⟩; refine ⟨_, rfl, ?_⟩; have n0_ := Aside0.mk (Kd.R_below (by (with_reducible repeat (first | apply Kd.R_alloc | apply Kd.R_drewN | apply Kd.R_drew)); exact (Kd.R_mono (Kd.R_far (p := ⟨gb211, 4, none⟩) (Kd.R_far (p := ⟨gb211, 3, none⟩) (Kd.R_far (p := ⟨gb211, 2, none⟩) (Kd.R_far (p := ⟨gb211, 1, none⟩) (Kd.R_far (p := ⟨gb211, 0, none⟩) (Kd.R_types HO_14.out BK211.out (by decide)) (fun _ hk => hk.2) (.int .i64 x16_1)) (fun _ hk => hk.2) (.int .i64 0)) (fun _ hk => hk.2) (.int .i64 0)) (fun _ hk => hk.2) (.int .i64 0)) (fun _ hk => hk.2) (.int .i64 0)) (fun _ h_ => h_.1))) hb); have n1_ := Aside0.mk (Kd.R_lower ho0 (below_size (by repeat (first | (with_reducible first | exact HB.out | apply below_alloc | apply pw_below_drewN | apply below_drew1 | refine below_set ?_ GE203.out | refine below_set ?_ GE208.out | refine below_set ?_ GE209.out | refine below_set ?_ GE211.out) | exact HB.out)))); have n2_ := Aside0.mk (blk_below (g := gb203) (o := .cells #[.int .i64 x204000_1, .int .i64 x204001_1, .int .i64 x204002_1, .int .i64 x204003_1, .int .i64 x204004_1] 32 (0, 0)) (by (with_reducible repeat (first | refine blk_drewN ?_ _ | refine blk_drew ?_ | refine blk_alloc ?_ _)); refine blk_far ?_ NB203_211.out _; (with_reducible repeat (first | refine blk_drewN ?_ _ | refine blk_drew ?_ | refine blk_alloc ?_ _)); refine blk_far ?_ NB203_211.out _; (with_reducible repeat (first | refine blk_drewN ?_ _ | refine blk_drew ?_ | refine blk_alloc ?_ _)); refine blk_far ?_ NB203_211.out _; (with_reducible repeat (first | refine blk_drewN ?_ _ | refine blk_drew ?_ | refine blk_alloc ?_ _)); refine blk_far ?_ NB203_211.out _; (with_reducible repeat (first | refine blk_drewN ?_ _ | refine blk_drew ?_ | refine blk_alloc ?_ _)); refine blk_far ?_ NB203_211.out _; (with_reducible repeat (first | refine blk_drewN ?_ _ | refine blk_drew ?_ | refine blk_alloc ?_ _)); exact BK203.out) hb); have n3_ := Aside0.mk (blk_below (g := gb208) (o := .cells #[.string ((rd_T98 t204 x16_1).f0), .int .i64 ((rd_T98 t204 x16_1).f1.f0), .int .i64 ((rd_T98 t204 x16_1).f1.f1), .int .i64 ((rd_T98 t204 x16_1).f1.f2), .int .i64 ((rd_T98 t204 x16_1).f1.f3)] 98 (0, 0)) (by (with_reducible repeat (first | refine blk_drewN ?_ _ | refine blk_drew ?_ | refine blk_alloc ?_ _)); refine blk_far ?_ NB208_211.out _; (with_reducible repeat (first | refine blk_drewN ?_ _ | refine blk_drew ?_ | refine blk_alloc ?_ _)); refine blk_far ?_ NB208_211.out _; (with_reducible repeat (first | refine blk_drewN ?_ _ | refine blk_drew ?_ | refine blk_alloc ?_ _)); refine blk_far ?_ NB208_211.out _; (with_reducible repeat (first | refine blk_drewN ?_ _ | refine blk_drew ?_ | refine blk_alloc ?_ _)); refine blk_far ?_ NB208_211.out _; (with_reducible repeat (first | refine blk_drewN ?_ _ | refine blk_drew ?_ | refine blk_alloc ?_ _)); refine blk_far ?_ NB208_211.out _; (with_reducible repeat (first | refine blk_drewN ?_ _ | refine blk_drew ?_ | refine blk_alloc ?_ _)); exact BK208.out) hb); have n4_ := Aside0.mk (blk_below (g := gb209) (o := .cells #[.int .i64 ((rd_T98 t204 x16_1).f1.f0), .int .i64 ((rd_T98 t204 x16_1).f1.f1), .int .i64 ((rd_T98 t204 x16_1).f1.f2), .int .i64 ((rd_T98 t204 x16_1).f1.f3)] 81 (0, 0)) (by (with_reducible repeat (first | refine blk_drewN ?_ _ | refine blk_drew ?_ | refine blk_alloc ?_ _)); refine blk_far ?_ NB209_211.out _; (with_reducible repeat (first | refine blk_drewN ?_ _ | refine blk_drew ?_ | refine blk_alloc ?_ _)); refine blk_far ?_ NB209_211.out _; (with_reducible repeat (first | refine blk_drewN ?_ _ | refine blk_drew ?_ | refine blk_alloc ?_ _)); refine blk_far ?_ NB209_211.out _; (with_reducible repeat (first | refine blk_drewN ?_ _ | refine blk_drew ?_ | refine blk_alloc ?_ _)); refine blk_far ?_ NB209_211.out _; (with_reducible repeat (first | refine blk_drewN ?_ _ | refine blk_drew ?_ | refine blk_alloc ?_ _)); refine blk_far ?_ NB209_211.out _; (with_reducible repeat (first | refine blk_drewN ?_ _ | refine blk_drew ?_ | refine blk_alloc ?_ _)); exact BK209.out) hb); have n5_ := Aside0.mk (blk_below (g := gb211) (o := .cells #[.int .i64 x16_1, .int .i64 0, .int .i64 0, .int .i64 0, .int .i64 0] 32 (0, 0)) (by (with_reducible repeat (first | refine blk_drewN ?_ _ | refine blk_drew ?_ | refine blk_alloc ?_ _)); refine blk_put (cs := #[.int .i64 x16_1, .int .i64 0, .int .i64 0, .int .i64 0, .int .i64 0]) ?_ 4 _ rfl; (with_reducible repeat (first | refine blk_drewN ?_ _ | refine blk_drew ?_ | refine blk_alloc ?_ _)); refine blk_put (cs := #[.int .i64 x16_1, .int .i64 0, .int .i64 0, .int .i64 0, .int .i64 0]) ?_ 3 _ rfl; (with_reducible repeat (first | refine blk_drewN ?_ _ | refine blk_drew ?_ | refine blk_alloc ?_ _)); refine blk_put (cs := #[.int .i64 x16_1, .int .i64 0, .int .i64 0, .int .i64 0, .int .i64 0]) ?_ 2 _ rfl; (with_reducible repeat (first | refine blk_drewN ?_ _ | refine blk_drew ?_ | refine blk_alloc ?_ _)); refine blk_put (cs := #[.int .i64 x16_1, .int .i64 0, .int .i64 0, .int .i64 0, .int .i64 0]) ?_ 1 _ rfl; (with_reducible repeat (first | refine blk_drewN ?_ _ | refine blk_drew ?_ | refine blk_alloc ?_ _)); refine blk_put (cs := #[.int .i64 0, .int .i64 0, .int .i64 0, .int .i64 0, .int .i64 0]) ?_ 0 _ rfl; (with_reducible repeat (first | refine blk_drewN ?_ _ | refine blk_drew ?_ | refine blk_alloc ?_ _)); exact BK211.out) hb); have n6_ := Aside0.mk (below_step (by repeat (first | (with_reducible first | exact HB.out | apply below_alloc | apply pw_below_drewN | apply below_drew1 | refine below_set ?_ GE203.out | refine below_set ?_ GE208.out | refine below_set ?_ GE209.out | refine below_set ?_ GE211.out) | exact HB.out)) hb); clear HO_14; clear BK203; clear BK208; clear BK209; clear BK211; clear HB; have HO_14 := n0_; have HO214 := n1_; have BK203 := n2_; have BK208 := n3_; have BK209 := n4_; have BK211 := n5_; have HB := n6_; clear n0_ n1_ n2_ n3_ n4_ n5_ n6_; (try clear hb); (try clear hb2); (try clear hk); (try clear hi); (try clear ho0); obtain ⟨Ao34, co34, eo34⟩ := Kd.R_slice HO214.out; subst eo34))
                  go_loopg [38] kj8 (fun kq v38 w' => ∃ (x38_3 : Int) (x212004_3 : Int), v38 = .int .i64 x38_3 ∧ Aside0 (impl_decode.l1 kq a0 t204 (t204.length : Int) x16_1 t212 (t212.length : Int) x38_3 ((rd_T98 t204 x16_1).f1.f0) ((rd_T98 t204 x16_1).f1.f1) ((rd_T98 t204 x16_1).f1.f2) ((rd_T98 t204 x16_1).f1.f3) x16_1 0 0 0 x212004_3 = some (r1, r2, r3, r4, r5, r6)) ∧ Aside0 (kq ≤ kj8) ∧ Aside0 (Kd.R k98 98 w' w.heap.size (fun k_ => k_ ≠ gb208) (.slice (some ad207) t204.length co5) t204) ∧ Aside0 (Kd.R k92 92 w' w.heap.size (fun _ => True) (.slice Ao34 t212.length co34) t212) ∧ Aside0 (w'.heap[gb203]? = some (.cells #[.int .i64 x204000_1, .int .i64 x204001_1, .int .i64 x204002_1, .int .i64 x204003_1, .int .i64 x204004_1] 32 (0, 0))) ∧ Aside0 (w'.heap[gb208]? = some (.cells #[.string ((rd_T98 t204 x16_1).f0), .int .i64 ((rd_T98 t204 x16_1).f1.f0), .int .i64 ((rd_T98 t204 x16_1).f1.f1), .int .i64 ((rd_T98 t204 x16_1).f1.f2), .int .i64 ((rd_T98 t204 x16_1).f1.f3)] 98 (0, 0))) ∧ Aside0 (w'.heap[gb209]? = some (.cells #[.int .i64 ((rd_T98 t204 x16_1).f1.f0), .int .i64 ((rd_T98 t204 x16_1).f1.f1), .int .i64 ((rd_T98 t204 x16_1).f1.f2), .int .i64 ((rd_T98 t204 x16_1).f1.f3)] 81 (0, 0))) ∧ Aside0 (w'.heap[gb211]? = some (.cells #[.int .i64 x16_1, .int .i64 0, .int .i64 0, .int .i64 0, .int .i64 x212004_3] 32 (0, 0))) ∧ Aside0 (Below w.heap.size w w'))
                  case atStart => exact ⟨(0), (0), (by first | rfl | (simp; done) | (simp [*]; done)), H', ⟨Nat.le_refl _⟩, ⟨by (with_reducible repeat (first | apply Kd.R_alloc | apply Kd.R_drewN | apply Kd.R_drew)); exact HO_14.out⟩, ⟨by (with_reducible repeat (first | apply Kd.R_alloc | apply Kd.R_drewN | apply Kd.R_drew)); exact HO214.out⟩, ⟨by (with_reducible repeat (first | refine blk_drewN ?_ _ | refine blk_drew ?_ | refine blk_alloc ?_ _)); exact BK203.out⟩, ⟨by (with_reducible repeat (first | refine blk_drewN ?_ _ | refine blk_drew ?_ | refine blk_alloc ?_ _)); exact BK208.out⟩, ⟨by (with_reducible repeat (first | refine blk_drewN ?_ _ | refine blk_drew ?_ | refine blk_alloc ?_ _)); exact BK209.out⟩, ⟨by (with_reducible repeat (first | refine blk_drewN ?_ _ | refine blk_drew ?_ | refine blk_alloc ?_ _)); exact BK211.out⟩, ⟨by repeat (first | (with_reducible first | exact HB.out | apply below_alloc | apply pw_below_drewN | apply below_drew1 | refine below_set ?_ GE203.out | refine below_set ?_ GE208.out | refine below_set ?_ GE209.out | refine below_set ?_ GE211.out) | exact HB.out)⟩⟩
                  case round =>
                    clear H'
                    try clear c1
                    try clear c2
                    try clear p2
                    try clear q2
                    try clear hx2
                    try clear c3
                    try clear c5
                    try clear c6
                    try clear c6b0
                    try clear p6
                    try clear c7
                    try clear c7b0
                    try clear c8
                    try clear c8b0
                    try clear c9
                    try clear c10
                    try clear c11
                    try clear c14
                    try clear c15
                    try clear c17
                    try clear c17b0
                    try clear c17b1
                    try clear p20
                    try clear q20
                    try clear hx20
                    try clear c23
                    try clear c26
                    try clear c27
                    try clear c28
                    try clear c30
                    try clear c31
                    try clear hcz12_0
                    try clear hcz12_1
                    try clear hcz12_2
                    try clear hcz12_3
                    try clear hcz12_4
                    try clear hcz16_0
                    try clear hcz16_1
                    try clear hcz16_2
                    try clear hcz16_3
                    try clear hcz29_0
                    try clear hcz29_1
                    try clear hcz29_2
                    try clear hcz29_3
                    try clear hcz29_4
                    try clear hcz32_0
                    try clear hcz32_1
                    try clear hcz32_2
                    try clear hcz32_3
                    try clear hfz12_0
                    try clear hfz12_1
                    try clear hfz12_2
                    try clear hfz12_3
                    try clear hfz12_4
                    try clear hfz16_0
                    try clear hfz16_1
                    try clear hfz16_2
                    try clear hfz16_3
                    try clear hfz29_0
                    try clear hfz29_1
                    try clear hfz29_2
                    try clear hfz29_3
                    try clear hfz29_4
                    try clear hfz32_0
                    try clear hfz32_1
                    try clear hfz32_2
                    try clear hfz32_3
                    try clear hx207_0
                    try clear hx207_1
                    try clear hx207_2
                    try clear hx207_3
                    try clear hx207_4
                    try clear p2
                    try clear p20
                    try clear p207
                    try clear q2
                    try clear q20
                    try clear q207
                    obtain ⟨x38_3, x212004_3, rfl, HA, HK3, HO_14, HO_36, BK203, BK208, BK209, BK211, HB⟩ := hrel
                    cases gk with
                    | zero => exact absurd HA.out (by simp [impl_decode.l1])
                    | succ k3 =>
                      have H := HA.out
                      clear HA
                      simp only [impl_decode.l1] at H
                      by_cases c35 : x38_3 < (t212.length : Int)
                      · rw [if_pos c35] at H
                        have c35b0 : decide (x38_3 < (t212.length : Int)) = true := decide_eq_true c35
                        clear c35
                        by_cases c36 : 0 ≤ x38_3
                        · rw [if_pos c36] at H
                          have c36b0 : decide (0 ≤ x38_3) = true := decide_eq_true c36
                          clear c36
                          by_cases c37 : x38_3 < (t212.length : Int)
                          · rw [if_pos c37] at H
                            have c37b0 : decide (x38_3 < (t212.length : Int)) = true := decide_eq_true c37
                            clear c37
                            replace H := Option.bind_eq_some_iff.mp H
                            obtain ⟨t217, A380, H⟩ := H
                            try dsimp only at H
                            have A38 := Aside0.mk A380
                            clear A380
                            by_cases c39 : 0 ≤ ((rd_T92 t212 x38_3).f0)
                            · rw [if_pos c39] at H
                              have c39b0 := eq_true c39
                              have c39b1 : decide (0 ≤ ((rd_T92 t212 x38_3).f0)) = true := decide_eq_true c39
                              clear c39
                              obtain ⟨ji40, hji40⟩ : ∃ j_ : Int, (shl .i64 t217 ((rd_T92 t212 x38_3).f0)) = j_ := ⟨_, rfl⟩
                              replace H : (impl_decode.l1 k3 a0 t204 (t204.length : Int) x16_1 t212 (t212.length : Int) (wrap64 (x38_3 + 1)) ((rd_T98 t204 x16_1).f1.f0) ((rd_T98 t204 x16_1).f1.f1) ((rd_T98 t204 x16_1).f1.f2) ((rd_T98 t204 x16_1).f1.f3) x16_1 0 0 0 (Go.bits .or .i64 x212004_3 (ji40))) = some (r1, r2, r3, r4, r5, r6) := by first | (rw [hji40] at H; exact H) | (simp only [hji40] at H ⊢; exact H)
                              (try rw [hji40] at A38)
                              have hji40_ : (IntKind.i64.wrap (t217 * 2 ^ min ((rd_T92 t212 x38_3).f0).toNat 64)) = ji40 := hji40
                              have hji40z : ((rd_T92 t212 x38_3).f0) ≤ 64 → (IntKind.i64.wrap (t217 * 2 ^ ((rd_T92 t212 x38_3).f0).toNat)) = ji40 := shl_small hji40
                              have hji40y : (wrap64 (t217 * 2 ^ min ((rd_T92 t212 x38_3).f0).toNat 64)) = ji40 := (i64_w _).symm.trans hji40_
                              have hji40x : ((rd_T92 t212 x38_3).f0) ≤ 64 → (wrap64 (t217 * 2 ^ ((rd_T92 t212 x38_3).f0).toNat)) = ji40 := fun h_ => (i64_w _).symm.trans (hji40z h_)
                              have H' := Aside0.mk H
                              clear H
                              have p215 : 0 ≤ (x38_3 : Int) := of_decide_eq_true (by first | (with_reducible assumption) | assumption)
                              have q215 : x38_3 < (t212.length : Int) := of_decide_eq_true (by first | (with_reducible assumption) | assumption)
                              obtain ⟨ad215, e215, hx215_0, hx215_1, hx215_2⟩ := at_T92 (Kd.R_reads' HO_36.out).2.2 x38_3 p215 q215
                              cases e215
                              replace p215 := eq_true p215
                              replace q215 := eq_true q215
                              try go_wp2_with (first | ((with_reducible refine gate_dst (N := 9) rfl ?_); refine box_event ?hg (N := 9) ?hd (cs := #[.int .i64 0, .int .i64 0, .int .i64 0]) (t := 92) ?hr ?_; (case hd => rfl); (case hg => rfl); (case hr => first | (go_simp; done) | (go_simp; rfl)); intro gb216 hg w41 hbox hb; have n0_ := Aside0.mk (Kd.R_below (by (with_reducible repeat (first | apply Kd.R_alloc | apply Kd.R_drewN | apply Kd.R_drew)); exact HO_14.out) hb); have n1_ := Aside0.mk (Kd.R_below (Kd.R_elderB (by (with_reducible repeat (first | apply Kd.R_alloc | apply Kd.R_drewN | apply Kd.R_drew)); exact HO_36.out) gb216 (Nat.le_of_eq hg.symm)) hb); have n2_ := Aside0.mk (blk_below (g := gb203) (o := .cells #[.int .i64 x204000_1, .int .i64 x204001_1, .int .i64 x204002_1, .int .i64 x204003_1, .int .i64 x204004_1] 32 (0, 0)) (by (with_reducible repeat (first | refine blk_drewN ?_ _ | refine blk_drew ?_ | refine blk_alloc ?_ _)); exact BK203.out) hb); have n3_ := Aside0.mk (blk_below (g := gb208) (o := .cells #[.string ((rd_T98 t204 x16_1).f0), .int .i64 ((rd_T98 t204 x16_1).f1.f0), .int .i64 ((rd_T98 t204 x16_1).f1.f1), .int .i64 ((rd_T98 t204 x16_1).f1.f2), .int .i64 ((rd_T98 t204 x16_1).f1.f3)] 98 (0, 0)) (by (with_reducible repeat (first | refine blk_drewN ?_ _ | refine blk_drew ?_ | refine blk_alloc ?_ _)); exact BK208.out) hb); have n4_ := Aside0.mk (blk_below (g := gb209) (o := .cells #[.int .i64 ((rd_T98 t204 x16_1).f1.f0), .int .i64 ((rd_T98 t204 x16_1).f1.f1), .int .i64 ((rd_T98 t204 x16_1).f1.f2), .int .i64 ((rd_T98 t204 x16_1).f1.f3)] 81 (0, 0)) (by (with_reducible repeat (first | refine blk_drewN ?_ _ | refine blk_drew ?_ | refine blk_alloc ?_ _)); exact BK209.out) hb); have n5_ := Aside0.mk (blk_below (g := gb211) (o := .cells #[.int .i64 x16_1, .int .i64 0, .int .i64 0, .int .i64 0, .int .i64 x212004_3] 32 (0, 0)) (by (with_reducible repeat (first | refine blk_drewN ?_ _ | refine blk_drew ?_ | refine blk_alloc ?_ _)); exact BK211.out) hb); have n6_ := Aside0.mk (below_step (by repeat (first | (with_reducible first | exact HB.out | apply below_alloc | apply pw_below_drewN | apply below_drew1 | refine below_set ?_ GE203.out | refine below_set ?_ GE208.out | refine below_set ?_ GE209.out | refine below_set ?_ GE211.out) | exact HB.out)) hb); have n7_ := Aside0.mk (hbox); have n8_ := Aside0.mk ((by rw [hg]; exact (below_size (by repeat (first | (with_reducible first | exact HB.out | apply below_alloc | apply pw_below_drewN | apply below_drew1 | refine below_set ?_ GE203.out | refine below_set ?_ GE208.out | refine below_set ?_ GE209.out | refine below_set ?_ GE211.out) | exact HB.out))) : w.heap.size ≤ gb216)); have n9_ := Aside0.mk ((by rw [hg]; exact (below_size (by repeat (first | (with_reducible first | exact HB.out | apply below_alloc | apply pw_below_drewN | apply below_drew1 | refine below_set ?_ GE203.out | refine below_set ?_ GE208.out | refine below_set ?_ GE209.out | refine below_set ?_ GE211.out) | exact HB.out))) : w.heap.size ≤ gb216)); have n10_ := Aside0.mk ((by rw [hg]; exact Nat.ne_of_lt (blk_lt (g := gb203) (o := .cells #[.int .i64 x204000_1, .int .i64 x204001_1, .int .i64 x204002_1, .int .i64 x204003_1, .int .i64 x204004_1] 32 (0, 0)) (by (with_reducible repeat (first | refine blk_drewN ?_ _ | refine blk_drew ?_ | refine blk_alloc ?_ _)); exact BK203.out)) : gb203 ≠ gb216)); have n11_ := Aside0.mk ((by rw [hg]; exact Nat.ne_of_gt (blk_lt (g := gb203) (o := .cells #[.int .i64 x204000_1, .int .i64 x204001_1, .int .i64 x204002_1, .int .i64 x204003_1, .int .i64 x204004_1] 32 (0, 0)) (by (with_reducible repeat (first | refine blk_drewN ?_ _ | refine blk_drew ?_ | refine blk_alloc ?_ _)); exact BK203.out)) : gb216 ≠ gb203)); have n12_ := Aside0.mk ((by rw [hg]; exact Nat.ne_of_lt (blk_lt (g := gb208) (o := .cells #[.string ((rd_T98 t204 x16_1).f0), .int .i64 ((rd_T98 t204 x16_1).f1.f0), .int .i64 ((rd_T98 t204 x16_1).f1.f1), .int .i64 ((rd_T98 t204 x16_1).f1.f2), .int .i64 ((rd_T98 t204 x16_1).f1.f3)] 98 (0, 0)) (by (with_reducible repeat (first | refine blk_drewN ?_ _ | refine blk_drew ?_ | refine blk_alloc ?_ _)); exact BK208.out)) : gb208 ≠ gb216)); have n13_ := Aside0.mk ((by rw [hg]; exact Nat.ne_of_gt (blk_lt (g := gb208) (o := .cells #[.string ((rd_T98 t204 x16_1).f0), .int .i64 ((rd_T98 t204 x16_1).f1.f0), .int .i64 ((rd_T98 t204 x16_1).f1.f1), .int .i64 ((rd_T98 t204 x16_1).f1.f2), .int .i64 ((rd_T98 t204 x16_1).f1.f3)] 98 (0, 0)) (by (with_reducible repeat (first | refine blk_drewN ?_ _ | refine blk_drew ?_ | refine blk_alloc ?_ _)); exact BK208.out)) : gb216 ≠ gb208)); have n14_ := Aside0.mk ((by rw [hg]; exact Nat.ne_of_lt (blk_lt (g := gb209) (o := .cells #[.int .i64 ((rd_T98 t204 x16_1).f1.f0), .int .i64 ((rd_T98 t204 x16_1).f1.f1), .int .i64 ((rd_T98 t204 x16_1).f1.f2), .int .i64 ((rd_T98 t204 x16_1).f1.f3)] 81 (0, 0)) (by (with_reducible repeat (first | refine blk_drewN ?_ _ | refine blk_drew ?_ | refine blk_alloc ?_ _)); exact BK209.out)) : gb209 ≠ gb216)); have n15_ := Aside0.mk ((by rw [hg]; exact Nat.ne_of_gt (blk_lt (g := gb209) (o := .cells #[.int .i64 ((rd_T98 t204 x16_1).f1.f0), .int .i64 ((rd_T98 t204 x16_1).f1.f1), .int .i64 ((rd_T98 t204 x16_1).f1.f2), .int .i64 ((rd_T98 t204 x16_1).f1.f3)] 81 (0, 0)) (by (with_reducible repeat (first | refine blk_drewN ?_ _ | refine blk_drew ?_ | refine blk_alloc ?_ _)); exact BK209.out)) : gb216 ≠ gb209)); have n16_ := Aside0.mk ((by rw [hg]; exact Nat.ne_of_lt (blk_lt (g := gb211) (o := .cells #[.int .i64 x16_1, .int .i64 0, .int .i64 0, .int .i64 0, .int .i64 x212004_3] 32 (0, 0)) (by (with_reducible repeat (first | refine blk_drewN ?_ _ | refine blk_drew ?_ | refine blk_alloc ?_ _)); exact BK211.out)) : gb211 ≠ gb216)); have n17_ := Aside0.mk ((by rw [hg]; exact Nat.ne_of_gt (blk_lt (g := gb211) (o := .cells #[.int .i64 x16_1, .int .i64 0, .int .i64 0, .int .i64 0, .int .i64 x212004_3] 32 (0, 0)) (by (with_reducible repeat (first | refine blk_drewN ?_ _ | refine blk_drew ?_ | refine blk_alloc ?_ _)); exact BK211.out)) : gb216 ≠ gb211)); clear HO_14; clear HO_36; clear BK203; clear BK208; clear BK209; clear BK211; clear HB; have HO_14 := n0_; have HO_36 := n1_; have BK203 := n2_; have BK208 := n3_; have BK209 := n4_; have BK211 := n5_; have HB := n6_; have BK216 := n7_; have GW216 := n8_; have GE216 := n9_; have NB203_216 := n10_; have NB216_203 := n11_; have NB208_216 := n12_; have NB216_208 := n13_; have NB209_216 := n14_; have NB216_209 := n15_; have NB211_216 := n16_; have NB216_211 := n17_; clear n0_ n1_ n2_ n3_ n4_ n5_ n6_ n7_ n8_ n9_ n10_ n11_ n12_ n13_ n14_ n15_ n16_ n17_; clear hb hbox hg; have hnb42 := NB216_203.out; have hnc42 := NB203_216.out; have hnb43 := NB216_208.out; have hnc43 := NB208_216.out; have hnb44 := NB216_209.out; have hnc44 := NB209_216.out; have hnb45 := NB216_211.out; have hnc45 := NB211_216.out; have hcz46_0 : w41.cell? ⟨gb216, 0, none⟩ = some (.int .i64 0) := (blk_cell BK216.out 0).trans rfl; have hcz46_1 : w41.cell? ⟨gb216, 1, none⟩ = some (.int .i64 0) := (blk_cell BK216.out 1).trans rfl; have hcz46_2 : w41.cell? ⟨gb216, 2, none⟩ = some (.int .i64 0) := (blk_cell BK216.out 2).trans rfl; have hfz46_0 := blk_frozen BK216.out 0; have hfz46_1 := blk_frozen BK216.out 1; have hfz46_2 := blk_frozen BK216.out 2))
                              have n0_ : Aside0 (Kd.R k98 98 (((w41.setCell ⟨gb216, 0, none⟩ (.int .i64 ((rd_T92 t212 x38_3).f0))).setCell ⟨gb216, 1, none⟩ (.int .i64 ((rd_T92 t212 x38_3).f1))).setCell ⟨gb216, 2, none⟩ (.int .i64 ((rd_T92 t212 x38_3).f2))) w.heap.size (fun k_ => k_ ≠ gb208) (.slice (some ad207) t204.length co5) t204) := ⟨by (with_reducible repeat (first | apply Kd.R_alloc | apply Kd.R_drewN | apply Kd.R_drew)); exact Kd.R_mono (Kd.R_far (p := ⟨gb216, 2, none⟩) (Kd.R_far (p := ⟨gb216, 1, none⟩) (Kd.R_far (p := ⟨gb216, 0, none⟩) (Kd.R_types HO_14.out BK216.out (by decide)) (fun _ hk => hk.2) (.int .i64 ((rd_T92 t212 x38_3).f0))) (fun _ hk => hk.2) (.int .i64 ((rd_T92 t212 x38_3).f1))) (fun _ hk => hk.2) (.int .i64 ((rd_T92 t212 x38_3).f2))) (fun _ hk => hk.1)⟩
                              have n1_ : Aside0 (Kd.R k92 92 (((w41.setCell ⟨gb216, 0, none⟩ (.int .i64 ((rd_T92 t212 x38_3).f0))).setCell ⟨gb216, 1, none⟩ (.int .i64 ((rd_T92 t212 x38_3).f1))).setCell ⟨gb216, 2, none⟩ (.int .i64 ((rd_T92 t212 x38_3).f2))) w.heap.size (fun k_ => k_ ≠ gb216) (.slice (some ad215) t212.length co34) t212) := ⟨by (with_reducible repeat (first | apply Kd.R_alloc | apply Kd.R_drewN | apply Kd.R_drew)); exact Kd.R_mono (Kd.R_far (p := ⟨gb216, 2, none⟩) (Kd.R_far (p := ⟨gb216, 1, none⟩) (Kd.R_far (p := ⟨gb216, 0, none⟩) (Kd.R_mono HO_36.out (fun k_ hk => (⟨hk, hk.2⟩ : _ ∧ k_ ≠ gb216))) (fun _ hk => hk.2) (.int .i64 ((rd_T92 t212 x38_3).f0))) (fun _ hk => hk.2) (.int .i64 ((rd_T92 t212 x38_3).f1))) (fun _ hk => hk.2) (.int .i64 ((rd_T92 t212 x38_3).f2))) (fun _ hk => hk.1.2)⟩
                              have n2_ : Aside0 ((((w41.setCell ⟨gb216, 0, none⟩ (.int .i64 ((rd_T92 t212 x38_3).f0))).setCell ⟨gb216, 1, none⟩ (.int .i64 ((rd_T92 t212 x38_3).f1))).setCell ⟨gb216, 2, none⟩ (.int .i64 ((rd_T92 t212 x38_3).f2))).heap[gb203]? = some (.cells #[.int .i64 x204000_1, .int .i64 x204001_1, .int .i64 x204002_1, .int .i64 x204003_1, .int .i64 x204004_1] 32 (0, 0))) := ⟨by (with_reducible repeat (first | refine blk_drewN ?_ _ | refine blk_drew ?_ | refine blk_alloc ?_ _)); refine blk_far ?_ NB203_216.out _; (with_reducible repeat (first | refine blk_drewN ?_ _ | refine blk_drew ?_ | refine blk_alloc ?_ _)); refine blk_far ?_ NB203_216.out _; (with_reducible repeat (first | refine blk_drewN ?_ _ | refine blk_drew ?_ | refine blk_alloc ?_ _)); refine blk_far ?_ NB203_216.out _; (with_reducible repeat (first | refine blk_drewN ?_ _ | refine blk_drew ?_ | refine blk_alloc ?_ _)); exact BK203.out⟩
                              have n3_ : Aside0 ((((w41.setCell ⟨gb216, 0, none⟩ (.int .i64 ((rd_T92 t212 x38_3).f0))).setCell ⟨gb216, 1, none⟩ (.int .i64 ((rd_T92 t212 x38_3).f1))).setCell ⟨gb216, 2, none⟩ (.int .i64 ((rd_T92 t212 x38_3).f2))).heap[gb208]? = some (.cells #[.string ((rd_T98 t204 x16_1).f0), .int .i64 ((rd_T98 t204 x16_1).f1.f0), .int .i64 ((rd_T98 t204 x16_1).f1.f1), .int .i64 ((rd_T98 t204 x16_1).f1.f2), .int .i64 ((rd_T98 t204 x16_1).f1.f3)] 98 (0, 0))) := ⟨by (with_reducible repeat (first | refine blk_drewN ?_ _ | refine blk_drew ?_ | refine blk_alloc ?_ _)); refine blk_far ?_ NB208_216.out _; (with_reducible repeat (first | refine blk_drewN ?_ _ | refine blk_drew ?_ | refine blk_alloc ?_ _)); refine blk_far ?_ NB208_216.out _; (with_reducible repeat (first | refine blk_drewN ?_ _ | refine blk_drew ?_ | refine blk_alloc ?_ _)); refine blk_far ?_ NB208_216.out _; (with_reducible repeat (first | refine blk_drewN ?_ _ | refine blk_drew ?_ | refine blk_alloc ?_ _)); exact BK208.out⟩
                              have n4_ : Aside0 ((((w41.setCell ⟨gb216, 0, none⟩ (.int .i64 ((rd_T92 t212 x38_3).f0))).setCell ⟨gb216, 1, none⟩ (.int .i64 ((rd_T92 t212 x38_3).f1))).setCell ⟨gb216, 2, none⟩ (.int .i64 ((rd_T92 t212 x38_3).f2))).heap[gb209]? = some (.cells #[.int .i64 ((rd_T98 t204 x16_1).f1.f0), .int .i64 ((rd_T98 t204 x16_1).f1.f1), .int .i64 ((rd_T98 t204 x16_1).f1.f2), .int .i64 ((rd_T98 t204 x16_1).f1.f3)] 81 (0, 0))) := ⟨by (with_reducible repeat (first | refine blk_drewN ?_ _ | refine blk_drew ?_ | refine blk_alloc ?_ _)); refine blk_far ?_ NB209_216.out _; (with_reducible repeat (first | refine blk_drewN ?_ _ | refine blk_drew ?_ | refine blk_alloc ?_ _)); refine blk_far ?_ NB209_216.out _; (with_reducible repeat (first | refine blk_drewN ?_ _ | refine blk_drew ?_ | refine blk_alloc ?_ _)); refine blk_far ?_ NB209_216.out _; (with_reducible repeat (first | refine blk_drewN ?_ _ | refine blk_drew ?_ | refine blk_alloc ?_ _)); exact BK209.out⟩
                              have n5_ : Aside0 ((((w41.setCell ⟨gb216, 0, none⟩ (.int .i64 ((rd_T92 t212 x38_3).f0))).setCell ⟨gb216, 1, none⟩ (.int .i64 ((rd_T92 t212 x38_3).f1))).setCell ⟨gb216, 2, none⟩ (.int .i64 ((rd_T92 t212 x38_3).f2))).heap[gb211]? = some (.cells #[.int .i64 x16_1, .int .i64 0, .int .i64 0, .int .i64 0, .int .i64 x212004_3] 32 (0, 0))) := ⟨by (with_reducible repeat (first | refine blk_drewN ?_ _ | refine blk_drew ?_ | refine blk_alloc ?_ _)); refine blk_far ?_ NB211_216.out _; (with_reducible repeat (first | refine blk_drewN ?_ _ | refine blk_drew ?_ | refine blk_alloc ?_ _)); refine blk_far ?_ NB211_216.out _; (with_reducible repeat (first | refine blk_drewN ?_ _ | refine blk_drew ?_ | refine blk_alloc ?_ _)); refine blk_far ?_ NB211_216.out _; (with_reducible repeat (first | refine blk_drewN ?_ _ | refine blk_drew ?_ | refine blk_alloc ?_ _)); exact BK211.out⟩
                              have n6_ : Aside0 ((((w41.setCell ⟨gb216, 0, none⟩ (.int .i64 ((rd_T92 t212 x38_3).f0))).setCell ⟨gb216, 1, none⟩ (.int .i64 ((rd_T92 t212 x38_3).f1))).setCell ⟨gb216, 2, none⟩ (.int .i64 ((rd_T92 t212 x38_3).f2))).heap[gb216]? = some (.cells #[.int .i64 ((rd_T92 t212 x38_3).f0), .int .i64 ((rd_T92 t212 x38_3).f1), .int .i64 ((rd_T92 t212 x38_3).f2)] 92 (0, 0))) := ⟨by (with_reducible repeat (first | refine blk_drewN ?_ _ | refine blk_drew ?_ | refine blk_alloc ?_ _)); refine blk_put (cs := #[.int .i64 ((rd_T92 t212 x38_3).f0), .int .i64 ((rd_T92 t212 x38_3).f1), .int .i64 0]) ?_ 2 _ rfl; (with_reducible repeat (first | refine blk_drewN ?_ _ | refine blk_drew ?_ | refine blk_alloc ?_ _)); refine blk_put (cs := #[.int .i64 ((rd_T92 t212 x38_3).f0), .int .i64 0, .int .i64 0]) ?_ 1 _ rfl; (with_reducible repeat (first | refine blk_drewN ?_ _ | refine blk_drew ?_ | refine blk_alloc ?_ _)); refine blk_put (cs := #[.int .i64 0, .int .i64 0, .int .i64 0]) ?_ 0 _ rfl; (with_reducible repeat (first | refine blk_drewN ?_ _ | refine blk_drew ?_ | refine blk_alloc ?_ _)); exact BK216.out⟩
                              have n7_ : Aside0 (Below w.heap.size w (((w41.setCell ⟨gb216, 0, none⟩ (.int .i64 ((rd_T92 t212 x38_3).f0))).setCell ⟨gb216, 1, none⟩ (.int .i64 ((rd_T92 t212 x38_3).f1))).setCell ⟨gb216, 2, none⟩ (.int .i64 ((rd_T92 t212 x38_3).f2)))) := ⟨by repeat (first | (with_reducible first | exact HB.out | apply below_alloc | apply pw_below_drewN | apply below_drew1 | refine below_set ?_ GE203.out | refine below_set ?_ GE208.out | refine below_set ?_ GE209.out | refine below_set ?_ GE211.out | refine below_set ?_ GE216.out) | exact HB.out)⟩
                              (try clear HO_14)
                              (try clear HO_36)
                              (try clear BK203)
                              (try clear BK208)
                              (try clear BK209)
                              (try clear BK211)
                              (try clear BK216)
                              (try clear HB)
                              generalize (((w41.setCell ⟨gb216, 0, none⟩ (.int .i64 ((rd_T92 t212 x38_3).f0))).setCell ⟨gb216, 1, none⟩ (.int .i64 ((rd_T92 t212 x38_3).f1))).setCell ⟨gb216, 2, none⟩ (.int .i64 ((rd_T92 t212 x38_3).f2))) = w47 at n0_ n1_ n2_ n3_ n4_ n5_ n6_ n7_ ⊢
                              have HO_14 := n0_
                              have HO_36 := n1_
                              have BK203 := n2_
                              have BK208 := n3_
                              have BK209 := n4_
                              have BK211 := n5_
                              have BK216 := n6_
                              have HB := n7_
                              clear n0_ n1_ n2_ n3_ n4_ n5_ n6_ n7_
                              have n0_ := Aside0.mk (Kd.R_drew HO_14.out)
                              have n1_ := Aside0.mk (Kd.R_drew HO_36.out)
                              have n2_ := Aside0.mk (blk_drew BK203.out)
                              have n3_ := Aside0.mk (blk_drew BK208.out)
                              have n4_ := Aside0.mk (blk_drew BK209.out)
                              have n5_ := Aside0.mk (blk_drew BK211.out)
                              have n6_ := Aside0.mk (blk_drew BK216.out)
                              have n7_ := Aside0.mk (below_drew1 HB.out)
                              clear HO_14
                              clear HO_36
                              clear BK203
                              clear BK208
                              clear BK209
                              clear BK211
                              clear BK216
                              clear HB
                              have HO_14 := n0_
                              have HO_36 := n1_
                              have BK203 := n2_
                              have BK208 := n3_
                              have BK209 := n4_
                              have BK211 := n5_
                              have BK216 := n6_
                              have HB := n7_
                              clear n0_ n1_ n2_ n3_ n4_ n5_ n6_ n7_
                              refine start_ (n := 14) (S := fun w' => w'.cell? ⟨gb211, 0, none⟩ = some (.int .i64 x16_1) ∧ w'.cell? ⟨gb211, 1, none⟩ = some (.int .i64 0) ∧ w'.cell? ⟨gb211, 2, none⟩ = some (.int .i64 0) ∧ w'.cell? ⟨gb211, 3, none⟩ = some (.int .i64 0) ∧ w'.cell? ⟨gb211, 4, none⟩ = some (.int .i64 x212004_3) ∧ w'.cell? ⟨gb216, 0, none⟩ = some (.int .i64 ((rd_T92 t212 x38_3).f0)) ∧ w'.cell? ⟨gb216, 1, none⟩ = some (.int .i64 ((rd_T92 t212 x38_3).f1)) ∧ w'.cell? ⟨gb216, 2, none⟩ = some (.int .i64 ((rd_T92 t212 x38_3).f2))) (ds := [13]) #[false, false, false, false, false, false, false, false, false, false, false, false, false, false] (by kernel_rfl) rfl rfl ⟨(blk_cell BK211.out 0).trans rfl, (blk_cell BK211.out 1).trans rfl, (blk_cell BK211.out 2).trans rfl, (blk_cell BK211.out 3).trans rfl, (blk_cell BK211.out 4).trans rfl, (blk_cell BK216.out 0).trans rfl, (blk_cell BK216.out 1).trans rfl, (blk_cell BK216.out 2).trans rfl⟩ (fun hHeld => ?_); refine with_tabW impl_decode.tab10 impl_decode.bits10 (fun HT_ HW_ => ?_)
                              generalize w47.drew = w48 at HO_14 HO_36 BK203 BK208 BK209 BK211 BK216 HB hHeld ⊢
                              refine pure_ (i := 0) (N := some 42) (v := ?_) (a' := ?_) #[true, false, false, false, false, false, false, false, false, false, false, false, false, false] rfl rfl (any_of HT_.out (by kernel_rfl)) (fun _ _ _ h => h) (Or.inl ⟨by rfl, ?_⟩) ?_ ?_
                              rotate_left
                              · intro w'
                                go_simp
                                with_reducible rfl
                              rotate_left
                              · simp only [Act.put, List.setIfInBounds_toArray, List.set_cons_zero, List.set_cons_succ, i64_w, i32_w]
                                rfl
                              refine pure_ (i := 2) (N := some 44) (v := ?_) (a' := ?_) #[true, false, true, false, false, false, false, false, false, false, false, false, false, false] rfl rfl (any_of HT_.out (by kernel_rfl)) (fun _ _ _ h => h) (Or.inl ⟨by rfl, ?_⟩) ?_ ?_
                              rotate_left
                              · intro w'
                                go_simp
                                with_reducible rfl
                              rotate_left
                              · simp only [Act.put, List.setIfInBounds_toArray, List.set_cons_zero, List.set_cons_succ, i64_w, i32_w]
                                rfl
                              refine pure_ (i := 3) (N := some 45) (v := ?_) (a' := ?_) #[true, false, true, true, false, false, false, false, false, false, false, false, false, false] rfl rfl (any_of HT_.out (by kernel_rfl)) (fun _ _ _ h => h) (Or.inl ⟨by rfl, ?_⟩) ?_ ?_
                              rotate_left
                              · intro w'
                                go_simp
                                with_reducible rfl
                              rotate_left
                              · simp only [Act.put, List.setIfInBounds_toArray, List.set_cons_zero, List.set_cons_succ, i64_w, i32_w]
                                rfl
                              refine pure_ (i := 5) (N := some 47) (v := ?_) (a' := ?_) #[true, false, true, true, false, true, false, false, false, false, false, false, false, false] rfl rfl (any_of HT_.out (by kernel_rfl)) (fun _ _ _ h => h) (Or.inl ⟨by rfl, ?_⟩) ?_ ?_
                              rotate_left
                              · intro w'
                                go_simp
                                with_reducible rfl
                              rotate_left
                              · simp only [Act.put, List.setIfInBounds_toArray, List.set_cons_zero, List.set_cons_succ, i64_w, i32_w]
                                rfl
                              refine pure_ (i := 8) (N := some 50) (v := ?_) (a' := ?_) #[true, false, true, true, false, true, false, false, true, false, false, false, false, false] rfl rfl (any_of HT_.out (by kernel_rfl)) (fun _ _ _ h => h) (Or.inl ⟨by rfl, ?_⟩) ?_ ?_
                              rotate_left
                              · intro w'
                                go_simp
                                with_reducible rfl
                              rotate_left
                              · simp only [Act.put, List.setIfInBounds_toArray, List.set_cons_zero, List.set_cons_succ, i64_w, i32_w]
                                rfl
                              refine take_ (i := 1) (N := some 43) (v := ?_) (a' := ?_) #[true, true, true, true, false, true, false, false, true, false, false, false, false, false] rfl rfl (take_ofW HT_.out HW_.out (by kernel_rfl)) (fun _ _ _ h => h) (Or.inl ⟨by rfl, ?_⟩) hHeld ?_ ?_
                              rotate_left
                              · rintro w' ⟨s0, s1, s2, s3, s4, s5, s6, s7⟩
                                go_simp
                                with_reducible rfl
                              rotate_left
                              · simp only [Act.put, List.setIfInBounds_toArray, List.set_cons_zero, List.set_cons_succ, i64_w, i32_w]
                                rfl
                              refine take_ (i := 4) (N := some 46) (v := ?_) (a' := ?_) #[true, true, true, true, true, true, false, false, true, false, false, false, false, false] rfl rfl (take_ofW HT_.out HW_.out (by kernel_rfl)) (fun _ _ _ h => h) (Or.inl ⟨by rfl, ?_⟩) hHeld ?_ ?_
                              rotate_left
                              · rintro w' ⟨s0, s1, s2, s3, s4, s5, s6, s7⟩
                                go_simp
                                with_reducible rfl
                              rotate_left
                              · simp only [Act.put, List.setIfInBounds_toArray, List.set_cons_zero, List.set_cons_succ, i64_w, i32_w]
                                rfl
                              refine take_ (i := 6) (N := some 48) (v := ?_) (a' := ?_) #[true, true, true, true, true, true, true, false, true, false, false, false, false, false] rfl rfl (take_ofW HT_.out HW_.out (by kernel_rfl)) (fun _ _ _ h => h) (Or.inl ⟨by rfl, ?_⟩) hHeld ?_ ?_
                              rotate_left
                              · rintro w' ⟨s0, s1, s2, s3, s4, s5, s6, s7⟩
                                go_simp
                                with_reducible rfl
                              rotate_left
                              · simp only [Act.put, List.setIfInBounds_toArray, List.set_cons_zero, List.set_cons_succ, i64_w, i32_w]
                                rfl
                              refine take_ (i := 9) (N := some 51) (v := ?_) (a' := ?_) #[true, true, true, true, true, true, true, false, true, true, false, false, false, false] rfl rfl (take_ofW HT_.out HW_.out (by kernel_rfl)) (fun _ _ _ h => h) (Or.inl ⟨by rfl, ?_⟩) hHeld ?_ ?_
                              rotate_left
                              · rintro w' ⟨s0, s1, s2, s3, s4, s5, s6, s7⟩
                                go_simp
                                with_reducible rfl
                              rotate_left
                              · simp only [Act.put, List.setIfInBounds_toArray, List.set_cons_zero, List.set_cons_succ, i64_w, i32_w]
                                rfl
                              refine one_ (i := 7) (N := some 49) #[true, true, true, true, true, true, true, true, true, true, false, false, false, false] rfl rfl (one_of HT_.out (by kernel_rfl)) (by decide) (fun K hK => ?_)
                              refine goes_ Try.func57 (by kernel_rfl) rfl #[.int .i64 a0, .int .i64 ((rd_T92 t212 x38_3).f2), .int .i64 ((rd_T92 t212 x38_3).f1)] (by rfl) rfl rfl (by (try simp only [List.map_toArray, List.map_cons, List.map_nil]); first | done | rfl | (simp only [List.length_drop, List.length_take]; rfl)) ?_
                              with_reducible refine (impl_bitsOf.calls a0 ((rd_T92 t212 x38_3).f2) ((rd_T92 t212 x38_3).f1) t217 _ A38.out).mono ?_
                              rintro e w' ⟨rfl, ⟨nd, rfl⟩⟩
                              refine ⟨_, rfl, ?_⟩
                              refine hK.out _ _ ⟨(blk_cell BK211.out 0).trans rfl, (blk_cell BK211.out 1).trans rfl, (blk_cell BK211.out 2).trans rfl, (blk_cell BK211.out 3).trans rfl, (blk_cell BK211.out 4).trans rfl, (blk_cell BK216.out 0).trans rfl, (blk_cell BK216.out 1).trans rfl, (blk_cell BK216.out 2).trans rfl⟩ (fun hHeld => ?_)
                              clear hK K
                              refine norm_ (a' := ?_) ?_ ?_
                              rotate_left
                              · show Act.put _ (some 49) _ = _
                                simp only [Act.put, List.setIfInBounds_toArray, List.set_cons_zero, List.set_cons_succ, i64_w, i32_w]
                                rfl
                              refine pure_ (i := 10) (N := some 52) (v := ?_) (a' := ?_) #[true, true, true, true, true, true, true, true, true, true, true, false, false, false] rfl rfl (any_of HT_.out (by kernel_rfl)) (fun _ _ _ h => h) (Or.inl ⟨by rfl, ?_⟩) ?_ ?_
                              rotate_left
                              · intro w'
                                go_simp
                                with_reducible rfl
                              rotate_left
                              · simp only [Act.put, List.setIfInBounds_toArray, List.set_cons_zero, List.set_cons_succ, i64_w, i32_w]
                                rfl
                              refine pure_ (i := 11) (N := some 53) (v := ?_) (a' := ?_) #[true, true, true, true, true, true, true, true, true, true, true, true, false, false] rfl rfl (any_of HT_.out (by kernel_rfl)) (fun _ _ _ h => h) (Or.inl ⟨by rfl, ?_⟩) ?_ ?_
                              rotate_left
                              · intro w'
                                go_simp
                                with_reducible rfl
                              rotate_left
                              · simp only [Act.put, List.setIfInBounds_toArray, List.set_cons_zero, List.set_cons_succ, i64_w, i32_w]
                                rfl
                              refine pure_ (i := 12) (N := some 54) (v := ?_) (a' := ?_) #[true, true, true, true, true, true, true, true, true, true, true, true, true, false] rfl rfl (any_of HT_.out (by kernel_rfl)) (fun _ _ _ h => h) (Or.inl ⟨by rfl, ?_⟩) ?_ ?_
                              rotate_left
                              · intro w'
                                go_simp
                                with_reducible rfl
                              rotate_left
                              · simp only [Act.put, List.setIfInBounds_toArray, List.set_cons_zero, List.set_cons_succ, i64_w, i32_w]
                                rfl
                              refine last_ (i := 13) (N := none) #[true, true, true, true, true, true, true, true, true, true, true, true, true, true] rfl rfl (one_of HT_.out (by kernel_rfl)) (by decide) (fun K hK => ?_)
                              have hs49 : w48.cell? ⟨gb211, 4, none⟩ = some (.int .i64 x212004_3) := (blk_cell BK211.out 4).trans rfl
                              have hfs49 := blk_frozen BK211.out 4
                              have hns49_0 := NB203_211.out
                              have hns49_1 := NB208_211.out
                              have hns49_2 := NB209_211.out
                              have hns49_4 := NB216_211.out
                              have hms49_0 := NB211_203.out
                              have hms49_1 := NB211_208.out
                              have hms49_2 := NB211_209.out
                              have hms49_4 := NB211_216.out
                              refine skip_ (w1 := ?_) (by rfl) rfl ?_ ?_
                              rotate_left
                              · go_simp
                                rfl
                              refine hK.out _ _ ?_
                              clear hK K
                              refine done_ (done_of HT_.out (by kernel_rfl)) ?_
                              try go_wp2
                              go_roundg k3
                              case measure => have := HK1.out; have := HJ8.out; have := HK3.out; omega
                              case rel => exact ⟨(wrap64 (x38_3 + 1)), (Go.bits .or .i64 x212004_3 (ji40)), (by first | rfl | (simp; done) | (simp [*]; done)), H', ⟨by have := HK1.out; have := HJ8.out; have := HK3.out; omega⟩, ⟨by (with_reducible repeat (first | apply Kd.R_alloc | apply Kd.R_drewN | apply Kd.R_drew)); exact Kd.R_mono (Kd.R_far (p := ⟨gb211, 4, none⟩) (Kd.R_types HO_14.out BK211.out (by decide)) (fun _ hk => hk.2) (.int .i64 (Go.bits .or .i64 x212004_3 (ji40)))) (fun _ hk => hk.1)⟩, ⟨by (with_reducible repeat (first | apply Kd.R_alloc | apply Kd.R_drewN | apply Kd.R_drew)); exact Kd.R_mono (Kd.R_far (p := ⟨gb211, 4, none⟩) (Kd.R_types HO_36.out BK211.out (by decide)) (fun _ hk => hk.2) (.int .i64 (Go.bits .or .i64 x212004_3 (ji40)))) (fun _ hk => trivial)⟩, ⟨by (with_reducible repeat (first | refine blk_drewN ?_ _ | refine blk_drew ?_ | refine blk_alloc ?_ _)); refine blk_far ?_ NB203_211.out _; (with_reducible repeat (first | refine blk_drewN ?_ _ | refine blk_drew ?_ | refine blk_alloc ?_ _)); exact BK203.out⟩, ⟨by (with_reducible repeat (first | refine blk_drewN ?_ _ | refine blk_drew ?_ | refine blk_alloc ?_ _)); refine blk_far ?_ NB208_211.out _; (with_reducible repeat (first | refine blk_drewN ?_ _ | refine blk_drew ?_ | refine blk_alloc ?_ _)); exact BK208.out⟩, ⟨by (with_reducible repeat (first | refine blk_drewN ?_ _ | refine blk_drew ?_ | refine blk_alloc ?_ _)); refine blk_far ?_ NB209_211.out _; (with_reducible repeat (first | refine blk_drewN ?_ _ | refine blk_drew ?_ | refine blk_alloc ?_ _)); exact BK209.out⟩, ⟨by (with_reducible repeat (first | refine blk_drewN ?_ _ | refine blk_drew ?_ | refine blk_alloc ?_ _)); refine blk_put (cs := #[.int .i64 x16_1, .int .i64 0, .int .i64 0, .int .i64 0, .int .i64 x212004_3]) ?_ 4 _ rfl; (with_reducible repeat (first | refine blk_drewN ?_ _ | refine blk_drew ?_ | refine blk_alloc ?_ _)); exact BK211.out⟩, ⟨by repeat (first | (with_reducible first | exact HB.out | apply below_alloc | apply pw_below_drewN | apply below_drew1 | refine below_set ?_ GE203.out | refine below_set ?_ GE208.out | refine below_set ?_ GE209.out | refine below_set ?_ GE211.out | refine below_set ?_ GE216.out) | exact HB.out)⟩⟩
                            · rw [if_neg c39] at H
                              exact absurd H (by simp)
                          · rw [if_neg c37] at H
                            exact absurd H (by simp)
                        · rw [if_neg c36] at H
                          exact absurd H (by simp)
                      · rw [if_neg c35] at H
                        have c35b0 : decide (x38_3 < (t212.length : Int)) = false := decide_eq_false c35
                        clear c35
                        replace H := Option.bind_eq_some_iff.mp H
                        obtain ⟨t218, A500, H⟩ := H
                        try dsimp only at H
                        have A50 := Aside0.mk A500
                        clear A500
                        have HC51 := Aside0.mk H
                        clear H
                        have hnb52 := NB209_203.out
                        have hnc52 := NB203_209.out
                        have hnb53 := NB209_208.out
                        have hnc53 := NB208_209.out
                        have hnb54 := NB209_211.out
                        have hnc54 := NB211_209.out
                        have hcz55_0 : wr.cell? ⟨gb209, 0, none⟩ = some (.int .i64 ((rd_T98 t204 x16_1).f1.f0)) := (blk_cell BK209.out 0).trans rfl
                        have hcz55_1 : wr.cell? ⟨gb209, 1, none⟩ = some (.int .i64 ((rd_T98 t204 x16_1).f1.f1)) := (blk_cell BK209.out 1).trans rfl
                        have hcz55_2 : wr.cell? ⟨gb209, 2, none⟩ = some (.int .i64 ((rd_T98 t204 x16_1).f1.f2)) := (blk_cell BK209.out 2).trans rfl
                        have hcz55_3 : wr.cell? ⟨gb209, 3, none⟩ = some (.int .i64 ((rd_T98 t204 x16_1).f1.f3)) := (blk_cell BK209.out 3).trans rfl
                        have hfz55_0 := blk_frozen BK209.out 0
                        have hfz55_1 := blk_frozen BK209.out 1
                        have hfz55_2 := blk_frozen BK209.out 2
                        have hfz55_3 := blk_frozen BK209.out 3
                        go_upto_if 60 with (first | ((with_reducible refine gate_callee (f := 101) rfl ?_); refine goesL_ (some 58) rfl rfl Try.func101 (by kernel_rfl) rfl #[.int .i64 ((rd_T98 t204 x16_1).f1.f0)] rfl (by (try simp only [List.map_toArray, List.map_cons, List.map_nil]); first | done | rfl | (simp only [List.length_drop, List.length_take]; rfl)) ?_; (with_reducible refine (impl_immBits.calls k3 ((rd_T98 t204 x16_1).f1.f0) t218 _ A50.out).mono ?_); rintro e w' ⟨rfl, ⟨nd, rfl⟩⟩; refine ⟨_, rfl, ?_⟩))
                        (try simp only [Act.put, List.setIfInBounds_toArray, List.set_cons_zero, List.set_cons_succ])
                        go_cut [] (fun wc => ∃ (kq : Nat) (x212004_50 : Int), Aside0 (impl_decode.j3 kq a0 t204 (t204.length : Int) x16_1 ((rd_T98 t204 x16_1).f1.f0) ((rd_T98 t204 x16_1).f1.f1) ((rd_T98 t204 x16_1).f1.f2) ((rd_T98 t204 x16_1).f1.f3) x16_1 0 0 0 x212004_50 = some (r1, r2, r3, r4, r5, r6)) ∧ Aside0 (kq ≤ k3) ∧ Aside0 (Kd.R k98 98 wc w.heap.size (fun k_ => k_ ≠ gb208) (.slice (some ad207) t204.length co5) t204) ∧ Aside0 (wc.heap[gb203]? = some (.cells #[.int .i64 x204000_1, .int .i64 x204001_1, .int .i64 x204002_1, .int .i64 x204003_1, .int .i64 x204004_1] 32 (0, 0))) ∧ Aside0 (wc.heap[gb208]? = some (.cells #[.string ((rd_T98 t204 x16_1).f0), .int .i64 ((rd_T98 t204 x16_1).f1.f0), .int .i64 ((rd_T98 t204 x16_1).f1.f1), .int .i64 ((rd_T98 t204 x16_1).f1.f2), .int .i64 ((rd_T98 t204 x16_1).f1.f3)] 98 (0, 0))) ∧ Aside0 (wc.heap[gb209]? = some (.cells #[.int .i64 ((rd_T98 t204 x16_1).f1.f0), .int .i64 ((rd_T98 t204 x16_1).f1.f1), .int .i64 ((rd_T98 t204 x16_1).f1.f2), .int .i64 ((rd_T98 t204 x16_1).f1.f3)] 81 (0, 0))) ∧ Aside0 (wc.heap[gb211]? = some (.cells #[.int .i64 x16_1, .int .i64 0, .int .i64 0, .int .i64 0, .int .i64 x212004_50] 32 (0, 0))) ∧ Aside0 (Below w.heap.size w wc))
                        case first =>
                          have H := HC51.out
                          clear HC51
                          by_cases c56 : t218 > 0
                          · rw [if_pos c56] at H
                            have c56b0 : decide (0 < t218) = true := decide_eq_true c56
                            clear c56
                            (first | rw [c56b0] | (simp only [i64_w, i32_w]; rw [c56b0]) | skip)
                            replace H := Option.bind_eq_some_iff.mp H
                            obtain ⟨t219, A570, H⟩ := H
                            try dsimp only at H
                            have A57 := Aside0.mk A570
                            clear A570
                            have H' := Aside0.mk H
                            clear H
                            have hnb58 := NB211_203.out
                            have hnc58 := NB203_211.out
                            have hnb59 := NB211_208.out
                            have hnc59 := NB208_211.out
                            have hnb60 := NB211_209.out
                            have hnc60 := NB209_211.out
                            have hcz61_0 : wr.cell? ⟨gb211, 0, none⟩ = some (.int .i64 x16_1) := (blk_cell BK211.out 0).trans rfl
                            have hcz61_1 : wr.cell? ⟨gb211, 1, none⟩ = some (.int .i64 0) := (blk_cell BK211.out 1).trans rfl
                            have hcz61_2 : wr.cell? ⟨gb211, 2, none⟩ = some (.int .i64 0) := (blk_cell BK211.out 2).trans rfl
                            have hcz61_3 : wr.cell? ⟨gb211, 3, none⟩ = some (.int .i64 0) := (blk_cell BK211.out 3).trans rfl
                            have hcz61_4 : wr.cell? ⟨gb211, 4, none⟩ = some (.int .i64 x212004_3) := (blk_cell BK211.out 4).trans rfl
                            have hfz61_0 := blk_frozen BK211.out 0
                            have hfz61_1 := blk_frozen BK211.out 1
                            have hfz61_2 := blk_frozen BK211.out 2
                            have hfz61_3 := blk_frozen BK211.out 3
                            have hfz61_4 := blk_frozen BK211.out 4
                            go_wp2_with (first | ((with_reducible refine gate_callee (f := 59) rfl ?_); refine goesL_ (some 64) rfl rfl Try.func59 (by kernel_rfl) rfl #[.int .i64 x212004_3, .int .i64 t218] rfl (by (try simp only [List.map_toArray, List.map_cons, List.map_nil]); first | done | rfl | (simp only [List.length_drop, List.length_take]; rfl)) ?_; (with_reducible refine (impl_signOf.calls x212004_3 t218 t219 _ A57.out).mono ?_); rintro e w' ⟨rfl, ⟨nd, rfl⟩⟩; refine ⟨_, rfl, ?_⟩; (try (rw [drewN_self wr]; generalize hq_ : World.drewN wr _ = wr; have n0_ : Aside0 (Kd.R k98 98 wr w.heap.size (fun k_ => k_ ≠ gb208) (.slice (some ad207) t204.length co5) t204) := ⟨by rw [← hq_]; exact (by (with_reducible repeat (first | apply Kd.R_alloc | apply Kd.R_drewN | apply Kd.R_drew)); exact HO_14.out)⟩; have n1_ : Aside0 (Kd.R k92 92 wr w.heap.size (fun _ => True) (.slice Ao34 t212.length co34) t212) := ⟨by rw [← hq_]; exact (by (with_reducible repeat (first | apply Kd.R_alloc | apply Kd.R_drewN | apply Kd.R_drew)); exact HO_36.out)⟩; have n2_ : Aside0 (wr.heap[gb203]? = some (.cells #[.int .i64 x204000_1, .int .i64 x204001_1, .int .i64 x204002_1, .int .i64 x204003_1, .int .i64 x204004_1] 32 (0, 0))) := ⟨by rw [← hq_]; exact (by (with_reducible repeat (first | refine blk_drewN ?_ _ | refine blk_drew ?_ | refine blk_alloc ?_ _)); exact BK203.out)⟩; have n3_ : Aside0 (wr.heap[gb208]? = some (.cells #[.string ((rd_T98 t204 x16_1).f0), .int .i64 ((rd_T98 t204 x16_1).f1.f0), .int .i64 ((rd_T98 t204 x16_1).f1.f1), .int .i64 ((rd_T98 t204 x16_1).f1.f2), .int .i64 ((rd_T98 t204 x16_1).f1.f3)] 98 (0, 0))) := ⟨by rw [← hq_]; exact (by (with_reducible repeat (first | refine blk_drewN ?_ _ | refine blk_drew ?_ | refine blk_alloc ?_ _)); exact BK208.out)⟩; have n4_ : Aside0 (wr.heap[gb209]? = some (.cells #[.int .i64 ((rd_T98 t204 x16_1).f1.f0), .int .i64 ((rd_T98 t204 x16_1).f1.f1), .int .i64 ((rd_T98 t204 x16_1).f1.f2), .int .i64 ((rd_T98 t204 x16_1).f1.f3)] 81 (0, 0))) := ⟨by rw [← hq_]; exact (by (with_reducible repeat (first | refine blk_drewN ?_ _ | refine blk_drew ?_ | refine blk_alloc ?_ _)); exact BK209.out)⟩; have n5_ : Aside0 (wr.heap[gb211]? = some (.cells #[.int .i64 x16_1, .int .i64 0, .int .i64 0, .int .i64 0, .int .i64 x212004_3] 32 (0, 0))) := ⟨by rw [← hq_]; exact (by (with_reducible repeat (first | refine blk_drewN ?_ _ | refine blk_drew ?_ | refine blk_alloc ?_ _)); exact BK211.out)⟩; have n6_ : Aside0 (Below w.heap.size w wr) := ⟨by rw [← hq_]; exact (by repeat (first | (with_reducible first | exact HB.out | apply below_alloc | apply pw_below_drewN | apply below_drew1 | refine below_set ?_ GE203.out | refine below_set ?_ GE208.out | refine below_set ?_ GE209.out | refine below_set ?_ GE211.out) | exact HB.out))⟩; clear HO_14 HO_36 BK203 BK208 BK209 BK211 HB hq_; have HO_14 := n0_; have HO_36 := n1_; have BK203 := n2_; have BK208 := n3_; have BK209 := n4_; have BK211 := n5_; have HB := n6_; clear n0_ n1_ n2_ n3_ n4_ n5_ n6_; have hcz61_0 : wr.cell? ⟨gb211, 0, none⟩ = some (.int .i64 x16_1) := (blk_cell BK211.out 0).trans rfl; have hcz61_1 : wr.cell? ⟨gb211, 1, none⟩ = some (.int .i64 0) := (blk_cell BK211.out 1).trans rfl; have hcz61_2 : wr.cell? ⟨gb211, 2, none⟩ = some (.int .i64 0) := (blk_cell BK211.out 2).trans rfl; have hcz61_3 : wr.cell? ⟨gb211, 3, none⟩ = some (.int .i64 0) := (blk_cell BK211.out 3).trans rfl; have hcz61_4 : wr.cell? ⟨gb211, 4, none⟩ = some (.int .i64 x212004_3) := (blk_cell BK211.out 4).trans rfl; have hfz61_0 := blk_frozen BK211.out 0; have hfz61_1 := blk_frozen BK211.out 1; have hfz61_2 := blk_frozen BK211.out 2; have hfz61_3 := blk_frozen BK211.out 3; have hfz61_4 := blk_frozen BK211.out 4))))
                            go_meet
                            case rel => exact ⟨_, (t219), H', ⟨by have := HK1.out; have := HJ8.out; have := HK3.out; first | omega | exact Nat.le_refl _⟩, ⟨by (with_reducible repeat (first | apply Kd.R_alloc | apply Kd.R_drewN | apply Kd.R_drew)); exact Kd.R_mono (Kd.R_far (p := ⟨gb211, 4, none⟩) (Kd.R_types HO_14.out BK211.out (by decide)) (fun _ hk => hk.2) (.int .i64 t219)) (fun _ hk => hk.1)⟩, ⟨by (with_reducible repeat (first | refine blk_drewN ?_ _ | refine blk_drew ?_ | refine blk_alloc ?_ _)); refine blk_far ?_ NB203_211.out _; (with_reducible repeat (first | refine blk_drewN ?_ _ | refine blk_drew ?_ | refine blk_alloc ?_ _)); exact BK203.out⟩, ⟨by (with_reducible repeat (first | refine blk_drewN ?_ _ | refine blk_drew ?_ | refine blk_alloc ?_ _)); refine blk_far ?_ NB208_211.out _; (with_reducible repeat (first | refine blk_drewN ?_ _ | refine blk_drew ?_ | refine blk_alloc ?_ _)); exact BK208.out⟩, ⟨by (with_reducible repeat (first | refine blk_drewN ?_ _ | refine blk_drew ?_ | refine blk_alloc ?_ _)); refine blk_far ?_ NB209_211.out _; (with_reducible repeat (first | refine blk_drewN ?_ _ | refine blk_drew ?_ | refine blk_alloc ?_ _)); exact BK209.out⟩, ⟨by (with_reducible repeat (first | refine blk_drewN ?_ _ | refine blk_drew ?_ | refine blk_alloc ?_ _)); refine blk_put (cs := #[.int .i64 x16_1, .int .i64 0, .int .i64 0, .int .i64 0, .int .i64 x212004_3]) ?_ 4 _ rfl; (with_reducible repeat (first | refine blk_drewN ?_ _ | refine blk_drew ?_ | refine blk_alloc ?_ _)); exact BK211.out⟩, ⟨by repeat (first | (with_reducible first | exact HB.out | apply below_alloc | apply pw_below_drewN | apply below_drew1 | refine below_set ?_ GE203.out | refine below_set ?_ GE208.out | refine below_set ?_ GE209.out | refine below_set ?_ GE211.out) | exact HB.out)⟩⟩
                          · rw [if_neg c56] at H
                            have c56b0 : decide (0 < t218) = false := decide_eq_false c56
                            clear c56
                            (first | rw [c56b0] | (simp only [i64_w, i32_w]; rw [c56b0]) | skip)
                            have H' := Aside0.mk H
                            clear H
                            go_wp2
                            go_meet
                            case rel => exact ⟨_, (x212004_3), H', ⟨by have := HK1.out; have := HJ8.out; have := HK3.out; first | omega | exact Nat.le_refl _⟩, ⟨by (with_reducible repeat (first | apply Kd.R_alloc | apply Kd.R_drewN | apply Kd.R_drew)); exact HO_14.out⟩, ⟨by (with_reducible repeat (first | refine blk_drewN ?_ _ | refine blk_drew ?_ | refine blk_alloc ?_ _)); exact BK203.out⟩, ⟨by (with_reducible repeat (first | refine blk_drewN ?_ _ | refine blk_drew ?_ | refine blk_alloc ?_ _)); exact BK208.out⟩, ⟨by (with_reducible repeat (first | refine blk_drewN ?_ _ | refine blk_drew ?_ | refine blk_alloc ?_ _)); exact BK209.out⟩, ⟨by (with_reducible repeat (first | refine blk_drewN ?_ _ | refine blk_drew ?_ | refine blk_alloc ?_ _)); exact BK211.out⟩, ⟨by repeat (first | (with_reducible first | exact HB.out | apply below_alloc | apply pw_below_drewN | apply below_drew1 | refine below_set ?_ GE203.out | refine below_set ?_ GE208.out | refine below_set ?_ GE209.out | refine below_set ?_ GE211.out) | exact HB.out)⟩⟩
                        case rest =>
                          clear HC51
                          try clear c1
                          try clear c2
                          try clear p2
                          try clear q2
                          try clear hx2
                          try clear c3
                          try clear c4
                          try clear c5
                          try clear c6
                          try clear c6b0
                          try clear p6
                          try clear c7
                          try clear c7b0
                          try clear c8
                          try clear c8b0
                          try clear c9
                          try clear c10
                          try clear c11
                          try clear c14
                          try clear c15
                          try clear c17
                          try clear c17b0
                          try clear c17b1
                          try clear p20
                          try clear q20
                          try clear hx20
                          try clear p21
                          try clear q21
                          try clear hx21
                          try clear c23
                          try clear c26
                          try clear c27
                          try clear c28
                          try clear c30
                          try clear c31
                          try clear c35
                          try clear c35b0
                          try clear c36
                          try clear c36b0
                          try clear c37
                          try clear c37b0
                          try clear c39
                          try clear c39b0
                          try clear c39b1
                          try clear c42
                          try clear c43
                          try clear c44
                          try clear c45
                          try clear c52
                          try clear c53
                          try clear c54
                          try clear c56
                          try clear c56b0
                          try clear c57
                          try clear c58
                          try clear c59
                          try clear c60
                          try clear hcz12_0
                          try clear hcz12_1
                          try clear hcz12_2
                          try clear hcz12_3
                          try clear hcz12_4
                          try clear hcz16_0
                          try clear hcz16_1
                          try clear hcz16_2
                          try clear hcz16_3
                          try clear hcz29_0
                          try clear hcz29_1
                          try clear hcz29_2
                          try clear hcz29_3
                          try clear hcz29_4
                          try clear hcz32_0
                          try clear hcz32_1
                          try clear hcz32_2
                          try clear hcz32_3
                          try clear hcz46_0
                          try clear hcz46_1
                          try clear hcz46_2
                          try clear hcz55_0
                          try clear hcz55_1
                          try clear hcz55_2
                          try clear hcz55_3
                          try clear hcz61_0
                          try clear hcz61_1
                          try clear hcz61_2
                          try clear hcz61_3
                          try clear hcz61_4
                          try clear hfz12_0
                          try clear hfz12_1
                          try clear hfz12_2
                          try clear hfz12_3
                          try clear hfz12_4
                          try clear hfz16_0
                          try clear hfz16_1
                          try clear hfz16_2
                          try clear hfz16_3
                          try clear hfz29_0
                          try clear hfz29_1
                          try clear hfz29_2
                          try clear hfz29_3
                          try clear hfz29_4
                          try clear hfz32_0
                          try clear hfz32_1
                          try clear hfz32_2
                          try clear hfz32_3
                          try clear hfz46_0
                          try clear hfz46_1
                          try clear hfz46_2
                          try clear hfz55_0
                          try clear hfz55_1
                          try clear hfz55_2
                          try clear hfz55_3
                          try clear hfz61_0
                          try clear hfz61_1
                          try clear hfz61_2
                          try clear hfz61_3
                          try clear hfz61_4
                          try clear hx207_0
                          try clear hx207_1
                          try clear hx207_2
                          try clear hx207_3
                          try clear hx207_4
                          try clear hx215_0
                          try clear hx215_1
                          try clear hx215_2
                          try clear p2
                          try clear p20
                          try clear p207
                          try clear p215
                          try clear p6
                          try clear q2
                          try clear q20
                          try clear q207
                          try clear q215
                          obtain ⟨kq, x212004_50, HA, HJ50, HO_14, BK203, BK208, BK209, BK211, HB⟩ := hcut
                          cases kq with
                          | zero => exact absurd HA.out (by simp [impl_decode.j3])
                          | succ kj50 =>
                            have H := HA.out
                            clear HA
                            simp only [impl_decode.j3] at H
                            replace H := Option.bind_eq_some_iff.mp H
                            obtain ⟨⟨t220, t221, t222⟩, A620, H⟩ := H
                            try dsimp only at H
                            have A62 := Aside0.mk A620
                            clear A620
                            have HC63 := Aside0.mk H
                            clear H
                            have hnb64 := NB209_203.out
                            have hnc64 := NB203_209.out
                            have hnb65 := NB209_208.out
                            have hnc65 := NB208_209.out
                            have hnb66 := NB209_211.out
                            have hnc66 := NB211_209.out
                            have hcz67_0 : wc.cell? ⟨gb209, 0, none⟩ = some (.int .i64 ((rd_T98 t204 x16_1).f1.f0)) := (blk_cell BK209.out 0).trans rfl
                            have hcz67_1 : wc.cell? ⟨gb209, 1, none⟩ = some (.int .i64 ((rd_T98 t204 x16_1).f1.f1)) := (blk_cell BK209.out 1).trans rfl
                            have hcz67_2 : wc.cell? ⟨gb209, 2, none⟩ = some (.int .i64 ((rd_T98 t204 x16_1).f1.f2)) := (blk_cell BK209.out 2).trans rfl
                            have hcz67_3 : wc.cell? ⟨gb209, 3, none⟩ = some (.int .i64 ((rd_T98 t204 x16_1).f1.f3)) := (blk_cell BK209.out 3).trans rfl
                            have hfz67_0 := blk_frozen BK209.out 0
                            have hfz67_1 := blk_frozen BK209.out 1
                            have hfz67_2 := blk_frozen BK209.out 2
                            have hfz67_3 := blk_frozen BK209.out 3
                            go_upto_if 73 with (first | ((with_reducible refine gate_callee (f := 92) rfl ?_); refine goesL_ (some 69) rfl rfl Try.func92 (by kernel_rfl) rfl #[.int .i64 ((rd_T98 t204 x16_1).f1.f0)] rfl (by (try simp only [List.map_toArray, List.map_cons, List.map_nil]); first | done | rfl | (simp only [List.length_drop, List.length_take]; rfl)) ?_; (with_reducible refine (impl_fields.calls kj50 ((rd_T98 t204 x16_1).f1.f0) t220 t221 t222 _ A62.out).mono ?_); rintro e w' ⟨rfl, ⟨nd, rfl⟩⟩; refine ⟨_, rfl, ?_⟩))
                            (try simp only [Act.put, List.setIfInBounds_toArray, List.set_cons_zero, List.set_cons_succ])
                            go_cut [] (fun wc => ∃ (kq : Nat) (x212001_62 : Int), Aside0 (impl_decode.j4 kq a0 t221 t222 t204 (t204.length : Int) x16_1 x16_1 x212001_62 0 0 x212004_50 = some (r1, r2, r3, r4, r5, r6)) ∧ Aside0 (kq ≤ kj50) ∧ Aside0 (Kd.R k98 98 wc w.heap.size (fun k_ => k_ ≠ gb208) (.slice (some ad207) t204.length co5) t204) ∧ Aside0 (wc.heap[gb203]? = some (.cells #[.int .i64 x204000_1, .int .i64 x204001_1, .int .i64 x204002_1, .int .i64 x204003_1, .int .i64 x204004_1] 32 (0, 0))) ∧ Aside0 (wc.heap[gb208]? = some (.cells #[.string ((rd_T98 t204 x16_1).f0), .int .i64 ((rd_T98 t204 x16_1).f1.f0), .int .i64 ((rd_T98 t204 x16_1).f1.f1), .int .i64 ((rd_T98 t204 x16_1).f1.f2), .int .i64 ((rd_T98 t204 x16_1).f1.f3)] 98 (0, 0))) ∧ Aside0 (wc.heap[gb209]? = some (.cells #[.int .i64 ((rd_T98 t204 x16_1).f1.f0), .int .i64 ((rd_T98 t204 x16_1).f1.f1), .int .i64 ((rd_T98 t204 x16_1).f1.f2), .int .i64 ((rd_T98 t204 x16_1).f1.f3)] 81 (0, 0))) ∧ Aside0 (wc.heap[gb211]? = some (.cells #[.int .i64 x16_1, .int .i64 x212001_62, .int .i64 0, .int .i64 0, .int .i64 x212004_50] 32 (0, 0))) ∧ Aside0 (Below w.heap.size w wc))
                            case first =>
                              have H := HC63.out
                              clear HC63
                              by_cases c68 : t220 = true
                              · subst c68
                                rw [if_pos rfl] at H
                                replace H := Option.bind_eq_some_iff.mp H
                                obtain ⟨t223, A690, H⟩ := H
                                try dsimp only at H
                                have A69 := Aside0.mk A690
                                clear A690
                                have H' := Aside0.mk H
                                clear H
                                go_wp2_with (first | ((with_reducible refine gate_callee (f := 57) rfl ?_); refine goesL_ (some 75) rfl rfl Try.func57 (by kernel_rfl) rfl #[.int .i64 a0, .int .i64 7, .int .i64 5] rfl (by (try simp only [List.map_toArray, List.map_cons, List.map_nil]); first | done | rfl | (simp only [List.length_drop, List.length_take]; rfl)) ?_; (with_reducible refine (impl_bitsOf.calls a0 7 5 t223 _ A69.out).mono ?_); rintro e w' ⟨rfl, ⟨nd, rfl⟩⟩; refine ⟨_, rfl, ?_⟩; (try (rw [drewN_self wc]; generalize hq_ : World.drewN wc _ = wc; have n0_ : Aside0 (Kd.R k98 98 wc w.heap.size (fun k_ => k_ ≠ gb208) (.slice (some ad207) t204.length co5) t204) := ⟨by rw [← hq_]; exact (by (with_reducible repeat (first | apply Kd.R_alloc | apply Kd.R_drewN | apply Kd.R_drew)); exact HO_14.out)⟩; have n1_ : Aside0 (wc.heap[gb203]? = some (.cells #[.int .i64 x204000_1, .int .i64 x204001_1, .int .i64 x204002_1, .int .i64 x204003_1, .int .i64 x204004_1] 32 (0, 0))) := ⟨by rw [← hq_]; exact (by (with_reducible repeat (first | refine blk_drewN ?_ _ | refine blk_drew ?_ | refine blk_alloc ?_ _)); exact BK203.out)⟩; have n2_ : Aside0 (wc.heap[gb208]? = some (.cells #[.string ((rd_T98 t204 x16_1).f0), .int .i64 ((rd_T98 t204 x16_1).f1.f0), .int .i64 ((rd_T98 t204 x16_1).f1.f1), .int .i64 ((rd_T98 t204 x16_1).f1.f2), .int .i64 ((rd_T98 t204 x16_1).f1.f3)] 98 (0, 0))) := ⟨by rw [← hq_]; exact (by (with_reducible repeat (first | refine blk_drewN ?_ _ | refine blk_drew ?_ | refine blk_alloc ?_ _)); exact BK208.out)⟩; have n3_ : Aside0 (wc.heap[gb209]? = some (.cells #[.int .i64 ((rd_T98 t204 x16_1).f1.f0), .int .i64 ((rd_T98 t204 x16_1).f1.f1), .int .i64 ((rd_T98 t204 x16_1).f1.f2), .int .i64 ((rd_T98 t204 x16_1).f1.f3)] 81 (0, 0))) := ⟨by rw [← hq_]; exact (by (with_reducible repeat (first | refine blk_drewN ?_ _ | refine blk_drew ?_ | refine blk_alloc ?_ _)); exact BK209.out)⟩; have n4_ : Aside0 (wc.heap[gb211]? = some (.cells #[.int .i64 x16_1, .int .i64 0, .int .i64 0, .int .i64 0, .int .i64 x212004_50] 32 (0, 0))) := ⟨by rw [← hq_]; exact (by (with_reducible repeat (first | refine blk_drewN ?_ _ | refine blk_drew ?_ | refine blk_alloc ?_ _)); exact BK211.out)⟩; have n5_ : Aside0 (Below w.heap.size w wc) := ⟨by rw [← hq_]; exact (by repeat (first | (with_reducible first | exact HB.out | apply below_alloc | apply pw_below_drewN | apply below_drew1 | refine below_set ?_ GE203.out | refine below_set ?_ GE208.out | refine below_set ?_ GE209.out | refine below_set ?_ GE211.out) | exact HB.out))⟩; clear HO_14 BK203 BK208 BK209 BK211 HB hq_; have HO_14 := n0_; have BK203 := n1_; have BK208 := n2_; have BK209 := n3_; have BK211 := n4_; have HB := n5_; clear n0_ n1_ n2_ n3_ n4_ n5_)); have hnb70 := NB211_203.out; have hnc70 := NB203_211.out; have hnb71 := NB211_208.out; have hnc71 := NB208_211.out; have hnb72 := NB211_209.out; have hnc72 := NB209_211.out; have hcz73_0 : wc.cell? ⟨gb211, 0, none⟩ = some (.int .i64 x16_1) := (blk_cell BK211.out 0).trans rfl; have hcz73_1 : wc.cell? ⟨gb211, 1, none⟩ = some (.int .i64 0) := (blk_cell BK211.out 1).trans rfl; have hcz73_2 : wc.cell? ⟨gb211, 2, none⟩ = some (.int .i64 0) := (blk_cell BK211.out 2).trans rfl; have hcz73_3 : wc.cell? ⟨gb211, 3, none⟩ = some (.int .i64 0) := (blk_cell BK211.out 3).trans rfl; have hcz73_4 : wc.cell? ⟨gb211, 4, none⟩ = some (.int .i64 x212004_50) := (blk_cell BK211.out 4).trans rfl; have hfz73_0 := blk_frozen BK211.out 0; have hfz73_1 := blk_frozen BK211.out 1; have hfz73_2 := blk_frozen BK211.out 2; have hfz73_3 := blk_frozen BK211.out 3; have hfz73_4 := blk_frozen BK211.out 4))
                                go_meet
                                case rel => exact ⟨_, (t223), H', ⟨by have := HK1.out; have := HJ8.out; have := HK3.out; have := HJ50.out; first | omega | exact Nat.le_refl _⟩, ⟨by (with_reducible repeat (first | apply Kd.R_alloc | apply Kd.R_drewN | apply Kd.R_drew)); exact Kd.R_mono (Kd.R_far (p := ⟨gb211, 1, none⟩) (Kd.R_types HO_14.out BK211.out (by decide)) (fun _ hk => hk.2) (.int .i64 t223)) (fun _ hk => hk.1)⟩, ⟨by (with_reducible repeat (first | refine blk_drewN ?_ _ | refine blk_drew ?_ | refine blk_alloc ?_ _)); refine blk_far ?_ NB203_211.out _; (with_reducible repeat (first | refine blk_drewN ?_ _ | refine blk_drew ?_ | refine blk_alloc ?_ _)); exact BK203.out⟩, ⟨by (with_reducible repeat (first | refine blk_drewN ?_ _ | refine blk_drew ?_ | refine blk_alloc ?_ _)); refine blk_far ?_ NB208_211.out _; (with_reducible repeat (first | refine blk_drewN ?_ _ | refine blk_drew ?_ | refine blk_alloc ?_ _)); exact BK208.out⟩, ⟨by (with_reducible repeat (first | refine blk_drewN ?_ _ | refine blk_drew ?_ | refine blk_alloc ?_ _)); refine blk_far ?_ NB209_211.out _; (with_reducible repeat (first | refine blk_drewN ?_ _ | refine blk_drew ?_ | refine blk_alloc ?_ _)); exact BK209.out⟩, ⟨by (with_reducible repeat (first | refine blk_drewN ?_ _ | refine blk_drew ?_ | refine blk_alloc ?_ _)); refine blk_put (cs := #[.int .i64 x16_1, .int .i64 0, .int .i64 0, .int .i64 0, .int .i64 x212004_50]) ?_ 1 _ rfl; (with_reducible repeat (first | refine blk_drewN ?_ _ | refine blk_drew ?_ | refine blk_alloc ?_ _)); exact BK211.out⟩, ⟨by repeat (first | (with_reducible first | exact HB.out | apply below_alloc | apply pw_below_drewN | apply below_drew1 | refine below_set ?_ GE203.out | refine below_set ?_ GE208.out | refine below_set ?_ GE209.out | refine below_set ?_ GE211.out) | exact HB.out)⟩⟩
                              · replace c68 := Bool.eq_false_iff.mpr c68
                                subst c68
                                rw [if_neg (show ¬ (false = true) by decide)] at H
                                have H' := Aside0.mk H
                                clear H
                                go_wp2
                                go_meet
                                case rel => exact ⟨_, (0), H', ⟨by have := HK1.out; have := HJ8.out; have := HK3.out; have := HJ50.out; first | omega | exact Nat.le_refl _⟩, ⟨by (with_reducible repeat (first | apply Kd.R_alloc | apply Kd.R_drewN | apply Kd.R_drew)); exact HO_14.out⟩, ⟨by (with_reducible repeat (first | refine blk_drewN ?_ _ | refine blk_drew ?_ | refine blk_alloc ?_ _)); exact BK203.out⟩, ⟨by (with_reducible repeat (first | refine blk_drewN ?_ _ | refine blk_drew ?_ | refine blk_alloc ?_ _)); exact BK208.out⟩, ⟨by (with_reducible repeat (first | refine blk_drewN ?_ _ | refine blk_drew ?_ | refine blk_alloc ?_ _)); exact BK209.out⟩, ⟨by (with_reducible repeat (first | refine blk_drewN ?_ _ | refine blk_drew ?_ | refine blk_alloc ?_ _)); exact BK211.out⟩, ⟨by repeat (first | (with_reducible first | exact HB.out | apply below_alloc | apply pw_below_drewN | apply below_drew1 | refine below_set ?_ GE203.out | refine below_set ?_ GE208.out | refine below_set ?_ GE209.out | refine below_set ?_ GE211.out) | exact HB.out)⟩⟩
                            case rest =>
                              clear HC63
                              try clear c1
                              try clear c2
                              try clear p2
                              try clear q2
                              try clear hx2
                              try clear c3
                              try clear c4
                              try clear c5
                              try clear c6
                              try clear c6b0
                              try clear p6
                              try clear c7
                              try clear c7b0
                              try clear c8
                              try clear c8b0
                              try clear c9
                              try clear c10
                              try clear c11
                              try clear c14
                              try clear c15
                              try clear c17
                              try clear c17b0
                              try clear c17b1
                              try clear p20
                              try clear q20
                              try clear hx20
                              try clear p21
                              try clear q21
                              try clear hx21
                              try clear c23
                              try clear c26
                              try clear c27
                              try clear c28
                              try clear c30
                              try clear c31
                              try clear c35
                              try clear c35b0
                              try clear c36
                              try clear c36b0
                              try clear c37
                              try clear c37b0
                              try clear c39
                              try clear c39b0
                              try clear c39b1
                              try clear c42
                              try clear c43
                              try clear c44
                              try clear c45
                              try clear c52
                              try clear c53
                              try clear c54
                              try clear c56
                              try clear c56b0
                              try clear c57
                              try clear c58
                              try clear c59
                              try clear c60
                              try clear c64
                              try clear p64
                              try clear c65
                              try clear c66
                              try clear c68
                              try clear c70
                              try clear c71
                              try clear c72
                              try clear hcz12_0
                              try clear hcz12_1
                              try clear hcz12_2
                              try clear hcz12_3
                              try clear hcz12_4
                              try clear hcz16_0
                              try clear hcz16_1
                              try clear hcz16_2
                              try clear hcz16_3
                              try clear hcz29_0
                              try clear hcz29_1
                              try clear hcz29_2
                              try clear hcz29_3
                              try clear hcz29_4
                              try clear hcz32_0
                              try clear hcz32_1
                              try clear hcz32_2
                              try clear hcz32_3
                              try clear hcz46_0
                              try clear hcz46_1
                              try clear hcz46_2
                              try clear hcz55_0
                              try clear hcz55_1
                              try clear hcz55_2
                              try clear hcz55_3
                              try clear hcz61_0
                              try clear hcz61_1
                              try clear hcz61_2
                              try clear hcz61_3
                              try clear hcz61_4
                              try clear hcz67_0
                              try clear hcz67_1
                              try clear hcz67_2
                              try clear hcz67_3
                              try clear hcz73_0
                              try clear hcz73_1
                              try clear hcz73_2
                              try clear hcz73_3
                              try clear hcz73_4
                              try clear hfz12_0
                              try clear hfz12_1
                              try clear hfz12_2
                              try clear hfz12_3
                              try clear hfz12_4
                              try clear hfz16_0
                              try clear hfz16_1
                              try clear hfz16_2
                              try clear hfz16_3
                              try clear hfz29_0
                              try clear hfz29_1
                              try clear hfz29_2
                              try clear hfz29_3
                              try clear hfz29_4
                              try clear hfz32_0
                              try clear hfz32_1
                              try clear hfz32_2
                              try clear hfz32_3
                              try clear hfz46_0
                              try clear hfz46_1
                              try clear hfz46_2
                              try clear hfz55_0
                              try clear hfz55_1
                              try clear hfz55_2
                              try clear hfz55_3
                              try clear hfz61_0
                              try clear hfz61_1
                              try clear hfz61_2
                              try clear hfz61_3
                              try clear hfz61_4
                              try clear hfz67_0
                              try clear hfz67_1
                              try clear hfz67_2
                              try clear hfz67_3
                              try clear hfz73_0
                              try clear hfz73_1
                              try clear hfz73_2
                              try clear hfz73_3
                              try clear hfz73_4
                              try clear hx207_0
                              try clear hx207_1
                              try clear hx207_2
                              try clear hx207_3
                              try clear hx207_4
                              try clear hx215_0
                              try clear hx215_1
                              try clear hx215_2
                              try clear p2
                              try clear p20
                              try clear p207
                              try clear p21
                              try clear p215
                              try clear p6
                              try clear q2
                              try clear q20
                              try clear q207
                              try clear q21
                              try clear q215
                              obtain ⟨kq, x212001_62, HA, HJ62, HO_14, BK203, BK208, BK209, BK211, HB⟩ := hcut
                              cases kq with
                              | zero => exact absurd HA.out (by simp [impl_decode.j4])
                              | succ kj62 =>
                                have H := HA.out
                                clear HA
                                simp only [impl_decode.j4] at H
                                have HC74 := Aside0.mk H
                                clear H
                                go_upto_if 77 with (fail)
                                go_cut [] (fun wc => ∃ (kq : Nat) (x212002_73 : Int), Aside0 (impl_decode.j5 kq a0 t222 t204 (t204.length : Int) x16_1 x16_1 x212001_62 x212002_73 0 x212004_50 = some (r1, r2, r3, r4, r5, r6)) ∧ Aside0 (kq ≤ kj62) ∧ Aside0 (Kd.R k98 98 wc w.heap.size (fun k_ => k_ ≠ gb208) (.slice (some ad207) t204.length co5) t204) ∧ Aside0 (wc.heap[gb203]? = some (.cells #[.int .i64 x204000_1, .int .i64 x204001_1, .int .i64 x204002_1, .int .i64 x204003_1, .int .i64 x204004_1] 32 (0, 0))) ∧ Aside0 (wc.heap[gb208]? = some (.cells #[.string ((rd_T98 t204 x16_1).f0), .int .i64 ((rd_T98 t204 x16_1).f1.f0), .int .i64 ((rd_T98 t204 x16_1).f1.f1), .int .i64 ((rd_T98 t204 x16_1).f1.f2), .int .i64 ((rd_T98 t204 x16_1).f1.f3)] 98 (0, 0))) ∧ Aside0 (wc.heap[gb209]? = some (.cells #[.int .i64 ((rd_T98 t204 x16_1).f1.f0), .int .i64 ((rd_T98 t204 x16_1).f1.f1), .int .i64 ((rd_T98 t204 x16_1).f1.f2), .int .i64 ((rd_T98 t204 x16_1).f1.f3)] 81 (0, 0))) ∧ Aside0 (wc.heap[gb211]? = some (.cells #[.int .i64 x16_1, .int .i64 x212001_62, .int .i64 x212002_73, .int .i64 0, .int .i64 x212004_50] 32 (0, 0))) ∧ Aside0 (Below w.heap.size w wc))
                                case first =>
                                  have H := HC74.out
                                  clear HC74
                                  by_cases c75 : t221 = true
                                  · subst c75
                                    rw [if_pos rfl] at H
                                    replace H := Option.bind_eq_some_iff.mp H
                                    obtain ⟨t224, A760, H⟩ := H
                                    try dsimp only at H
                                    have A76 := Aside0.mk A760
                                    clear A760
                                    have H' := Aside0.mk H
                                    clear H
                                    go_wp2_with (first | ((with_reducible refine gate_callee (f := 57) rfl ?_); refine goesL_ (some 79) rfl rfl Try.func57 (by kernel_rfl) rfl #[.int .i64 a0, .int .i64 15, .int .i64 5] rfl (by (try simp only [List.map_toArray, List.map_cons, List.map_nil]); first | done | rfl | (simp only [List.length_drop, List.length_take]; rfl)) ?_; (with_reducible refine (impl_bitsOf.calls a0 15 5 t224 _ A76.out).mono ?_); rintro e w' ⟨rfl, ⟨nd, rfl⟩⟩; refine ⟨_, rfl, ?_⟩; (try (rw [drewN_self wc]; generalize hq_ : World.drewN wc _ = wc; have n0_ : Aside0 (Kd.R k98 98 wc w.heap.size (fun k_ => k_ ≠ gb208) (.slice (some ad207) t204.length co5) t204) := ⟨by rw [← hq_]; exact (by (with_reducible repeat (first | apply Kd.R_alloc | apply Kd.R_drewN | apply Kd.R_drew)); exact HO_14.out)⟩; have n1_ : Aside0 (wc.heap[gb203]? = some (.cells #[.int .i64 x204000_1, .int .i64 x204001_1, .int .i64 x204002_1, .int .i64 x204003_1, .int .i64 x204004_1] 32 (0, 0))) := ⟨by rw [← hq_]; exact (by (with_reducible repeat (first | refine blk_drewN ?_ _ | refine blk_drew ?_ | refine blk_alloc ?_ _)); exact BK203.out)⟩; have n2_ : Aside0 (wc.heap[gb208]? = some (.cells #[.string ((rd_T98 t204 x16_1).f0), .int .i64 ((rd_T98 t204 x16_1).f1.f0), .int .i64 ((rd_T98 t204 x16_1).f1.f1), .int .i64 ((rd_T98 t204 x16_1).f1.f2), .int .i64 ((rd_T98 t204 x16_1).f1.f3)] 98 (0, 0))) := ⟨by rw [← hq_]; exact (by (with_reducible repeat (first | refine blk_drewN ?_ _ | refine blk_drew ?_ | refine blk_alloc ?_ _)); exact BK208.out)⟩; have n3_ : Aside0 (wc.heap[gb209]? = some (.cells #[.int .i64 ((rd_T98 t204 x16_1).f1.f0), .int .i64 ((rd_T98 t204 x16_1).f1.f1), .int .i64 ((rd_T98 t204 x16_1).f1.f2), .int .i64 ((rd_T98 t204 x16_1).f1.f3)] 81 (0, 0))) := ⟨by rw [← hq_]; exact (by (with_reducible repeat (first | refine blk_drewN ?_ _ | refine blk_drew ?_ | refine blk_alloc ?_ _)); exact BK209.out)⟩; have n4_ : Aside0 (wc.heap[gb211]? = some (.cells #[.int .i64 x16_1, .int .i64 x212001_62, .int .i64 0, .int .i64 0, .int .i64 x212004_50] 32 (0, 0))) := ⟨by rw [← hq_]; exact (by (with_reducible repeat (first | refine blk_drewN ?_ _ | refine blk_drew ?_ | refine blk_alloc ?_ _)); exact BK211.out)⟩; have n5_ : Aside0 (Below w.heap.size w wc) := ⟨by rw [← hq_]; exact (by repeat (first | (with_reducible first | exact HB.out | apply below_alloc | apply pw_below_drewN | apply below_drew1 | refine below_set ?_ GE203.out | refine below_set ?_ GE208.out | refine below_set ?_ GE209.out | refine below_set ?_ GE211.out) | exact HB.out))⟩; clear HO_14 BK203 BK208 BK209 BK211 HB hq_; have HO_14 := n0_; have BK203 := n1_; have BK208 := n2_; have BK209 := n3_; have BK211 := n4_; have HB := n5_; clear n0_ n1_ n2_ n3_ n4_ n5_)); have hnb77 := NB211_203.out; have hnc77 := NB203_211.out; have hnb78 := NB211_208.out; have hnc78 := NB208_211.out; have hnb79 := NB211_209.out; have hnc79 := NB209_211.out; have hcz80_0 : wc.cell? ⟨gb211, 0, none⟩ = some (.int .i64 x16_1) := (blk_cell BK211.out 0).trans rfl; have hcz80_1 : wc.cell? ⟨gb211, 1, none⟩ = some (.int .i64 x212001_62) := (blk_cell BK211.out 1).trans rfl; have hcz80_2 : wc.cell? ⟨gb211, 2, none⟩ = some (.int .i64 0) := (blk_cell BK211.out 2).trans rfl; have hcz80_3 : wc.cell? ⟨gb211, 3, none⟩ = some (.int .i64 0) := (blk_cell BK211.out 3).trans rfl; have hcz80_4 : wc.cell? ⟨gb211, 4, none⟩ = some (.int .i64 x212004_50) := (blk_cell BK211.out 4).trans rfl; have hfz80_0 := blk_frozen BK211.out 0; have hfz80_1 := blk_frozen BK211.out 1; have hfz80_2 := blk_frozen BK211.out 2; have hfz80_3 := blk_frozen BK211.out 3; have hfz80_4 := blk_frozen BK211.out 4))
                                    go_meet
                                    case rel => exact ⟨_, (t224), H', ⟨by have := HK1.out; have := HJ8.out; have := HK3.out; have := HJ50.out; have := HJ62.out; first | omega | exact Nat.le_refl _⟩, ⟨by (with_reducible repeat (first | apply Kd.R_alloc | apply Kd.R_drewN | apply Kd.R_drew)); exact Kd.R_mono (Kd.R_far (p := ⟨gb211, 2, none⟩) (Kd.R_types HO_14.out BK211.out (by decide)) (fun _ hk => hk.2) (.int .i64 t224)) (fun _ hk => hk.1)⟩, ⟨by (with_reducible repeat (first | refine blk_drewN ?_ _ | refine blk_drew ?_ | refine blk_alloc ?_ _)); refine blk_far ?_ NB203_211.out _; (with_reducible repeat (first | refine blk_drewN ?_ _ | refine blk_drew ?_ | refine blk_alloc ?_ _)); exact BK203.out⟩, ⟨by (with_reducible repeat (first | refine blk_drewN ?_ _ | refine blk_drew ?_ | refine blk_alloc ?_ _)); refine blk_far ?_ NB208_211.out _; (with_reducible repeat (first | refine blk_drewN ?_ _ | refine blk_drew ?_ | refine blk_alloc ?_ _)); exact BK208.out⟩, ⟨by (with_reducible repeat (first | refine blk_drewN ?_ _ | refine blk_drew ?_ | refine blk_alloc ?_ _)); refine blk_far ?_ NB209_211.out _; (with_reducible repeat (first | refine blk_drewN ?_ _ | refine blk_drew ?_ | refine blk_alloc ?_ _)); exact BK209.out⟩, ⟨by (with_reducible repeat (first | refine blk_drewN ?_ _ | refine blk_drew ?_ | refine blk_alloc ?_ _)); refine blk_put (cs := #[.int .i64 x16_1, .int .i64 x212001_62, .int .i64 0, .int .i64 0, .int .i64 x212004_50]) ?_ 2 _ rfl; (with_reducible repeat (first | refine blk_drewN ?_ _ | refine blk_drew ?_ | refine blk_alloc ?_ _)); exact BK211.out⟩, ⟨by repeat (first | (with_reducible first | exact HB.out | apply below_alloc | apply pw_below_drewN | apply below_drew1 | refine below_set ?_ GE203.out | refine below_set ?_ GE208.out | refine below_set ?_ GE209.out | refine below_set ?_ GE211.out) | exact HB.out)⟩⟩
                                  · replace c75 := Bool.eq_false_iff.mpr c75
                                    subst c75
                                    rw [if_neg (show ¬ (false = true) by decide)] at H
                                    have H' := Aside0.mk H
                                    clear H
                                    go_wp2
                                    go_meet
                                    case rel => exact ⟨_, (0), H', ⟨by have := HK1.out; have := HJ8.out; have := HK3.out; have := HJ50.out; have := HJ62.out; first | omega | exact Nat.le_refl _⟩, ⟨by (with_reducible repeat (first | apply Kd.R_alloc | apply Kd.R_drewN | apply Kd.R_drew)); exact HO_14.out⟩, ⟨by (with_reducible repeat (first | refine blk_drewN ?_ _ | refine blk_drew ?_ | refine blk_alloc ?_ _)); exact BK203.out⟩, ⟨by (with_reducible repeat (first | refine blk_drewN ?_ _ | refine blk_drew ?_ | refine blk_alloc ?_ _)); exact BK208.out⟩, ⟨by (with_reducible repeat (first | refine blk_drewN ?_ _ | refine blk_drew ?_ | refine blk_alloc ?_ _)); exact BK209.out⟩, ⟨by (with_reducible repeat (first | refine blk_drewN ?_ _ | refine blk_drew ?_ | refine blk_alloc ?_ _)); exact BK211.out⟩, ⟨by repeat (first | (with_reducible first | exact HB.out | apply below_alloc | apply pw_below_drewN | apply below_drew1 | refine below_set ?_ GE203.out | refine below_set ?_ GE208.out | refine below_set ?_ GE209.out | refine below_set ?_ GE211.out) | exact HB.out)⟩⟩
                                case rest =>
                                  clear HC74
                                  try clear c1
                                  try clear c2
                                  try clear p2
                                  try clear q2
                                  try clear hx2
                                  try clear c3
                                  try clear c4
                                  try clear c5
                                  try clear c6
                                  try clear c6b0
                                  try clear p6
                                  try clear c7
                                  try clear c7b0
                                  try clear c8
                                  try clear c8b0
                                  try clear c9
                                  try clear c10
                                  try clear c11
                                  try clear c14
                                  try clear c15
                                  try clear c17
                                  try clear c17b0
                                  try clear c17b1
                                  try clear p20
                                  try clear q20
                                  try clear hx20
                                  try clear p21
                                  try clear q21
                                  try clear hx21
                                  try clear c23
                                  try clear c26
                                  try clear c27
                                  try clear c28
                                  try clear c30
                                  try clear c31
                                  try clear c35
                                  try clear c35b0
                                  try clear c36
                                  try clear c36b0
                                  try clear c37
                                  try clear c37b0
                                  try clear c39
                                  try clear c39b0
                                  try clear c39b1
                                  try clear c42
                                  try clear c43
                                  try clear c44
                                  try clear c45
                                  try clear c52
                                  try clear c53
                                  try clear c54
                                  try clear c56
                                  try clear c56b0
                                  try clear c57
                                  try clear c58
                                  try clear c59
                                  try clear c60
                                  try clear c64
                                  try clear p64
                                  try clear c65
                                  try clear c66
                                  try clear c68
                                  try clear c70
                                  try clear c71
                                  try clear c72
                                  try clear c75
                                  try clear c77
                                  try clear c78
                                  try clear c79
                                  try clear hcz12_0
                                  try clear hcz12_1
                                  try clear hcz12_2
                                  try clear hcz12_3
                                  try clear hcz12_4
                                  try clear hcz16_0
                                  try clear hcz16_1
                                  try clear hcz16_2
                                  try clear hcz16_3
                                  try clear hcz29_0
                                  try clear hcz29_1
                                  try clear hcz29_2
                                  try clear hcz29_3
                                  try clear hcz29_4
                                  try clear hcz32_0
                                  try clear hcz32_1
                                  try clear hcz32_2
                                  try clear hcz32_3
                                  try clear hcz46_0
                                  try clear hcz46_1
                                  try clear hcz46_2
                                  try clear hcz55_0
                                  try clear hcz55_1
                                  try clear hcz55_2
                                  try clear hcz55_3
                                  try clear hcz61_0
                                  try clear hcz61_1
                                  try clear hcz61_2
                                  try clear hcz61_3
                                  try clear hcz61_4
                                  try clear hcz67_0
                                  try clear hcz67_1
                                  try clear hcz67_2
                                  try clear hcz67_3
                                  try clear hcz73_0
                                  try clear hcz73_1
                                  try clear hcz73_2
                                  try clear hcz73_3
                                  try clear hcz73_4
                                  try clear hcz80_0
                                  try clear hcz80_1
                                  try clear hcz80_2
                                  try clear hcz80_3
                                  try clear hcz80_4
                                  try clear hfz12_0
                                  try clear hfz12_1
                                  try clear hfz12_2
                                  try clear hfz12_3
                                  try clear hfz12_4
                                  try clear hfz16_0
                                  try clear hfz16_1
                                  try clear hfz16_2
                                  try clear hfz16_3
                                  try clear hfz29_0
                                  try clear hfz29_1
                                  try clear hfz29_2
                                  try clear hfz29_3
                                  try clear hfz29_4
                                  try clear hfz32_0
                                  try clear hfz32_1
                                  try clear hfz32_2
                                  try clear hfz32_3
                                  try clear hfz46_0
                                  try clear hfz46_1
                                  try clear hfz46_2
                                  try clear hfz55_0
                                  try clear hfz55_1
                                  try clear hfz55_2
                                  try clear hfz55_3
                                  try clear hfz61_0
                                  try clear hfz61_1
                                  try clear hfz61_2
                                  try clear hfz61_3
                                  try clear hfz61_4
                                  try clear hfz67_0
                                  try clear hfz67_1
                                  try clear hfz67_2
                                  try clear hfz67_3
                                  try clear hfz73_0
                                  try clear hfz73_1
                                  try clear hfz73_2
                                  try clear hfz73_3
                                  try clear hfz73_4
                                  try clear hfz80_0
                                  try clear hfz80_1
                                  try clear hfz80_2
                                  try clear hfz80_3
                                  try clear hfz80_4
                                  try clear hx207_0
                                  try clear hx207_1
                                  try clear hx207_2
                                  try clear hx207_3
                                  try clear hx207_4
                                  try clear hx215_0
                                  try clear hx215_1
                                  try clear hx215_2
                                  try clear p2
                                  try clear p20
                                  try clear p207
                                  try clear p21
                                  try clear p215
                                  try clear p6
                                  try clear p64
                                  try clear q2
                                  try clear q20
                                  try clear q207
                                  try clear q21
                                  try clear q215
                                  obtain ⟨kq, x212002_73, HA, HJ73, HO_14, BK203, BK208, BK209, BK211, HB⟩ := hcut
                                  cases kq with
                                  | zero => exact absurd HA.out (by simp [impl_decode.j5])
                                  | succ kj73 =>
                                    have H := HA.out
                                    clear HA
                                    simp only [impl_decode.j5] at H
                                    by_cases c81 : t222 = true
                                    · subst c81
                                      rw [if_pos rfl] at H
                                      replace H := Option.bind_eq_some_iff.mp H
                                      obtain ⟨t225, A820, H⟩ := H
                                      try dsimp only at H
                                      have A82 := Aside0.mk A820
                                      clear A820
                                      replace H := Option.bind_eq_some_iff.mp H
                                      obtain ⟨t226, A830, H⟩ := H
                                      try dsimp only at H
                                      have A83 := Aside0.mk A830
                                      clear A830
                                      by_cases c84 : t226 = a0
                                      · rw [if_pos c84] at H
                                        have c84b0 : (t226 == a0) = true := beq_iff_eq.mpr c84
                                        have c84b1 : (t226 != a0) = false := bne_eq_false_iff_eq.mpr c84
                                        clear c84
                                        simp only [Option.some.injEq, Prod.mk.injEq] at H
                                        obtain ⟨rfl, rfl, rfl, rfl, rfl, rfl⟩ := H
                                        go_wp2_with (first | ((with_reducible refine gate_callee (f := 57) rfl ?_); refine goesL_ (some 83) rfl rfl Try.func57 (by kernel_rfl) rfl #[.int .i64 a0, .int .i64 20, .int .i64 5] rfl (by (try simp only [List.map_toArray, List.map_cons, List.map_nil]); first | done | rfl | (simp only [List.length_drop, List.length_take]; rfl)) ?_; (with_reducible refine (impl_bitsOf.calls a0 20 5 t225 _ A82.out).mono ?_); rintro e w' ⟨rfl, ⟨nd, rfl⟩⟩; refine ⟨_, rfl, ?_⟩; (try (rw [drewN_self wc]; generalize hq_ : World.drewN wc _ = wc; have n0_ : Aside0 (Kd.R k98 98 wc w.heap.size (fun k_ => k_ ≠ gb208) (.slice (some ad207) t204.length co5) t204) := ⟨by rw [← hq_]; exact (by (with_reducible repeat (first | apply Kd.R_alloc | apply Kd.R_drewN | apply Kd.R_drew)); exact HO_14.out)⟩; have n1_ : Aside0 (wc.heap[gb203]? = some (.cells #[.int .i64 x204000_1, .int .i64 x204001_1, .int .i64 x204002_1, .int .i64 x204003_1, .int .i64 x204004_1] 32 (0, 0))) := ⟨by rw [← hq_]; exact (by (with_reducible repeat (first | refine blk_drewN ?_ _ | refine blk_drew ?_ | refine blk_alloc ?_ _)); exact BK203.out)⟩; have n2_ : Aside0 (wc.heap[gb208]? = some (.cells #[.string ((rd_T98 t204 x16_1).f0), .int .i64 ((rd_T98 t204 x16_1).f1.f0), .int .i64 ((rd_T98 t204 x16_1).f1.f1), .int .i64 ((rd_T98 t204 x16_1).f1.f2), .int .i64 ((rd_T98 t204 x16_1).f1.f3)] 98 (0, 0))) := ⟨by rw [← hq_]; exact (by (with_reducible repeat (first | refine blk_drewN ?_ _ | refine blk_drew ?_ | refine blk_alloc ?_ _)); exact BK208.out)⟩; have n3_ : Aside0 (wc.heap[gb209]? = some (.cells #[.int .i64 ((rd_T98 t204 x16_1).f1.f0), .int .i64 ((rd_T98 t204 x16_1).f1.f1), .int .i64 ((rd_T98 t204 x16_1).f1.f2), .int .i64 ((rd_T98 t204 x16_1).f1.f3)] 81 (0, 0))) := ⟨by rw [← hq_]; exact (by (with_reducible repeat (first | refine blk_drewN ?_ _ | refine blk_drew ?_ | refine blk_alloc ?_ _)); exact BK209.out)⟩; have n4_ : Aside0 (wc.heap[gb211]? = some (.cells #[.int .i64 x16_1, .int .i64 x212001_62, .int .i64 x212002_73, .int .i64 0, .int .i64 x212004_50] 32 (0, 0))) := ⟨by rw [← hq_]; exact (by (with_reducible repeat (first | refine blk_drewN ?_ _ | refine blk_drew ?_ | refine blk_alloc ?_ _)); exact BK211.out)⟩; have n5_ : Aside0 (Below w.heap.size w wc) := ⟨by rw [← hq_]; exact (by repeat (first | (with_reducible first | exact HB.out | apply below_alloc | apply pw_below_drewN | apply below_drew1 | refine below_set ?_ GE203.out | refine below_set ?_ GE208.out | refine below_set ?_ GE209.out | refine below_set ?_ GE211.out) | exact HB.out))⟩; clear HO_14 BK203 BK208 BK209 BK211 HB hq_; have HO_14 := n0_; have BK203 := n1_; have BK208 := n2_; have BK209 := n3_; have BK211 := n4_; have HB := n5_; clear n0_ n1_ n2_ n3_ n4_ n5_)); have hnb85 := NB211_203.out; have hnc85 := NB203_211.out; have hnb86 := NB211_208.out; have hnc86 := NB208_211.out; have hnb87 := NB211_209.out; have hnc87 := NB209_211.out; have hcz88_0 : wc.cell? ⟨gb211, 0, none⟩ = some (.int .i64 x16_1) := (blk_cell BK211.out 0).trans rfl; have hcz88_1 : wc.cell? ⟨gb211, 1, none⟩ = some (.int .i64 x212001_62) := (blk_cell BK211.out 1).trans rfl; have hcz88_2 : wc.cell? ⟨gb211, 2, none⟩ = some (.int .i64 x212002_73) := (blk_cell BK211.out 2).trans rfl; have hcz88_3 : wc.cell? ⟨gb211, 3, none⟩ = some (.int .i64 0) := (blk_cell BK211.out 3).trans rfl; have hcz88_4 : wc.cell? ⟨gb211, 4, none⟩ = some (.int .i64 x212004_50) := (blk_cell BK211.out 4).trans rfl; have hfz88_0 := blk_frozen BK211.out 0; have hfz88_1 := blk_frozen BK211.out 1; have hfz88_2 := blk_frozen BK211.out 2; have hfz88_3 := blk_frozen BK211.out 3; have hfz88_4 := blk_frozen BK211.out 4) | ((with_reducible refine gate_callee (f := 60) rfl ?_); refine goesL_ (some 86) rfl rfl Try.func60 (by kernel_rfl) rfl #[.agg #[.int .i64 x16_1, .int .i64 x212001_62, .int .i64 x212002_73, .int .i64 t225, .int .i64 x212004_50]] rfl (by (try simp only [List.map_toArray, List.map_cons, List.map_nil]); first | done | rfl | (simp only [List.length_drop, List.length_take]; rfl)) ?_; (with_reducible refine (impl_encode.calls kj73 x16_1 x212001_62 x212002_73 t225 x212004_50 t226 _ A83.out).mono ?_); rintro e w89 ⟨rfl, hb⟩; refine ⟨_, rfl, ?_⟩; have n0_ := Aside0.mk (Kd.R_below (by (with_reducible repeat (first | apply Kd.R_alloc | apply Kd.R_drewN | apply Kd.R_drew)); exact (Kd.R_mono (Kd.R_far (p := ⟨gb211, 3, none⟩) (Kd.R_types HO_14.out BK211.out (by decide)) (fun _ hk => hk.2) (.int .i64 t225)) (fun _ h_ => h_.1))) hb); have n1_ := Aside0.mk (blk_below (g := gb203) (o := .cells #[.int .i64 x204000_1, .int .i64 x204001_1, .int .i64 x204002_1, .int .i64 x204003_1, .int .i64 x204004_1] 32 (0, 0)) (by (with_reducible repeat (first | refine blk_drewN ?_ _ | refine blk_drew ?_ | refine blk_alloc ?_ _)); refine blk_far ?_ NB203_211.out _; (with_reducible repeat (first | refine blk_drewN ?_ _ | refine blk_drew ?_ | refine blk_alloc ?_ _)); exact BK203.out) hb); have n2_ := Aside0.mk (blk_below (g := gb208) (o := .cells #[.string ((rd_T98 t204 x16_1).f0), .int .i64 ((rd_T98 t204 x16_1).f1.f0), .int .i64 ((rd_T98 t204 x16_1).f1.f1), .int .i64 ((rd_T98 t204 x16_1).f1.f2), .int .i64 ((rd_T98 t204 x16_1).f1.f3)] 98 (0, 0)) (by (with_reducible repeat (first | refine blk_drewN ?_ _ | refine blk_drew ?_ | refine blk_alloc ?_ _)); refine blk_far ?_ NB208_211.out _; (with_reducible repeat (first | refine blk_drewN ?_ _ | refine blk_drew ?_ | refine blk_alloc ?_ _)); exact BK208.out) hb); have n3_ := Aside0.mk (blk_below (g := gb209) (o := .cells #[.int .i64 ((rd_T98 t204 x16_1).f1.f0), .int .i64 ((rd_T98 t204 x16_1).f1.f1), .int .i64 ((rd_T98 t204 x16_1).f1.f2), .int .i64 ((rd_T98 t204 x16_1).f1.f3)] 81 (0, 0)) (by (with_reducible repeat (first | refine blk_drewN ?_ _ | refine blk_drew ?_ | refine blk_alloc ?_ _)); refine blk_far ?_ NB209_211.out _; (with_reducible repeat (first | refine blk_drewN ?_ _ | refine blk_drew ?_ | refine blk_alloc ?_ _)); exact BK209.out) hb); have n4_ := Aside0.mk (blk_below (g := gb211) (o := .cells #[.int .i64 x16_1, .int .i64 x212001_62, .int .i64 x212002_73, .int .i64 t225, .int .i64 x212004_50] 32 (0, 0)) (by (with_reducible repeat (first | refine blk_drewN ?_ _ | refine blk_drew ?_ | refine blk_alloc ?_ _)); refine blk_put (cs := #[.int .i64 x16_1, .int .i64 x212001_62, .int .i64 x212002_73, .int .i64 0, .int .i64 x212004_50]) ?_ 3 _ rfl; (with_reducible repeat (first | refine blk_drewN ?_ _ | refine blk_drew ?_ | refine blk_alloc ?_ _)); exact BK211.out) hb); have n5_ := Aside0.mk (below_step (by repeat (first | (with_reducible first | exact HB.out | apply below_alloc | apply pw_below_drewN | apply below_drew1 | refine below_set ?_ GE203.out | refine below_set ?_ GE208.out | refine below_set ?_ GE209.out | refine below_set ?_ GE211.out) | exact HB.out)) hb); clear HO_14; clear BK203; clear BK208; clear BK209; clear BK211; clear HB; have HO_14 := n0_; have BK203 := n1_; have BK208 := n2_; have BK209 := n3_; have BK211 := n4_; have HB := n5_; clear n0_ n1_ n2_ n3_ n4_ n5_; (try clear hb); (try clear hb2); (try clear hk); (try clear hi); have hcz90_0 : w89.cell? ⟨gb211, 0, none⟩ = some (.int .i64 x16_1) := (blk_cell BK211.out 0).trans rfl; have hcz90_1 : w89.cell? ⟨gb211, 1, none⟩ = some (.int .i64 x212001_62) := (blk_cell BK211.out 1).trans rfl; have hcz90_2 : w89.cell? ⟨gb211, 2, none⟩ = some (.int .i64 x212002_73) := (blk_cell BK211.out 2).trans rfl; have hcz90_3 : w89.cell? ⟨gb211, 3, none⟩ = some (.int .i64 t225) := (blk_cell BK211.out 3).trans rfl; have hcz90_4 : w89.cell? ⟨gb211, 4, none⟩ = some (.int .i64 x212004_50) := (blk_cell BK211.out 4).trans rfl; have hfz90_0 := blk_frozen BK211.out 0; have hfz90_1 := blk_frozen BK211.out 1; have hfz90_2 := blk_frozen BK211.out 2; have hfz90_3 := blk_frozen BK211.out 3; have hfz90_4 := blk_frozen BK211.out 4; have hnb91 := NB203_208.out; have hnc91 := NB208_203.out; have hnb92 := NB203_209.out; have hnc92 := NB209_203.out; have hcz93_0 : w89.cell? ⟨gb203, 0, none⟩ = some (.int .i64 x204000_1) := (blk_cell BK203.out 0).trans rfl; have hcz93_1 : w89.cell? ⟨gb203, 1, none⟩ = some (.int .i64 x204001_1) := (blk_cell BK203.out 1).trans rfl; have hcz93_2 : w89.cell? ⟨gb203, 2, none⟩ = some (.int .i64 x204002_1) := (blk_cell BK203.out 2).trans rfl; have hcz93_3 : w89.cell? ⟨gb203, 3, none⟩ = some (.int .i64 x204003_1) := (blk_cell BK203.out 3).trans rfl; have hcz93_4 : w89.cell? ⟨gb203, 4, none⟩ = some (.int .i64 x204004_1) := (blk_cell BK203.out 4).trans rfl; have hfz93_0 := blk_frozen BK203.out 0; have hfz93_1 := blk_frozen BK203.out 1; have hfz93_2 := blk_frozen BK203.out 2; have hfz93_3 := blk_frozen BK203.out 3; have hfz93_4 := blk_frozen BK203.out 4))
                                        refine bodyPost_ret (results_ct rfl _ _ gb203 32 #[.int .i64 x16_1, .int .i64 x212001_62, .int .i64 x212002_73, .int .i64 t225, .int .i64 x212004_50] (0, 0) _ rfl (by (with_reducible repeat (first | refine blk_drewN ?_ _ | refine blk_drew ?_ | refine blk_alloc ?_ _)); refine blk_put (cs := #[.int .i64 x16_1, .int .i64 x212001_62, .int .i64 x212002_73, .int .i64 t225, .int .i64 x204004_1]) ?_ 4 _ rfl; (with_reducible repeat (first | refine blk_drewN ?_ _ | refine blk_drew ?_ | refine blk_alloc ?_ _)); refine blk_put (cs := #[.int .i64 x16_1, .int .i64 x212001_62, .int .i64 x212002_73, .int .i64 x204003_1, .int .i64 x204004_1]) ?_ 3 _ rfl; (with_reducible repeat (first | refine blk_drewN ?_ _ | refine blk_drew ?_ | refine blk_alloc ?_ _)); refine blk_put (cs := #[.int .i64 x16_1, .int .i64 x212001_62, .int .i64 x204002_1, .int .i64 x204003_1, .int .i64 x204004_1]) ?_ 2 _ rfl; (with_reducible repeat (first | refine blk_drewN ?_ _ | refine blk_drew ?_ | refine blk_alloc ?_ _)); refine blk_put (cs := #[.int .i64 x16_1, .int .i64 x204001_1, .int .i64 x204002_1, .int .i64 x204003_1, .int .i64 x204004_1]) ?_ 1 _ rfl; (with_reducible repeat (first | refine blk_drewN ?_ _ | refine blk_drew ?_ | refine blk_alloc ?_ _)); refine blk_put (cs := #[.int .i64 x204000_1, .int .i64 x204001_1, .int .i64 x204002_1, .int .i64 x204003_1, .int .i64 x204004_1]) ?_ 0 _ rfl; (with_reducible repeat (first | refine blk_drewN ?_ _ | refine blk_drew ?_ | refine blk_alloc ?_ _)); exact BK203.out) Try.underlying32 rfl (by kernel_rfl)) rfl ?_
                                        exact ⟨by first | rfl | (simp [errW_none, errW_some] <;> rfl) | (simp [*, errW_none, errW_some] <;> rfl), by repeat (first | (with_reducible first | exact HB.out | apply below_alloc | apply pw_below_drewN | apply below_drew1 | refine below_set ?_ GE203.out | refine below_set ?_ GE208.out | refine below_set ?_ GE209.out | refine below_set ?_ GE211.out) | exact HB.out)⟩
                                      · rw [if_neg c84] at H
                                        have c84b0 : (t226 == a0) = false := beq_eq_false_iff_ne.mpr c84
                                        have c84b1 : (t226 != a0) = true := bne_iff_ne.mpr c84
                                        have H' := Aside0.mk H
                                        clear H
                                        go_wp2_with (first | ((with_reducible refine gate_callee (f := 57) rfl ?_); refine goesL_ (some 83) rfl rfl Try.func57 (by kernel_rfl) rfl #[.int .i64 a0, .int .i64 20, .int .i64 5] rfl (by (try simp only [List.map_toArray, List.map_cons, List.map_nil]); first | done | rfl | (simp only [List.length_drop, List.length_take]; rfl)) ?_; (with_reducible refine (impl_bitsOf.calls a0 20 5 t225 _ A82.out).mono ?_); rintro e w' ⟨rfl, ⟨nd, rfl⟩⟩; refine ⟨_, rfl, ?_⟩; (try (rw [drewN_self wc]; generalize hq_ : World.drewN wc _ = wc; have n0_ : Aside0 (Kd.R k98 98 wc w.heap.size (fun k_ => k_ ≠ gb208) (.slice (some ad207) t204.length co5) t204) := ⟨by rw [← hq_]; exact (by (with_reducible repeat (first | apply Kd.R_alloc | apply Kd.R_drewN | apply Kd.R_drew)); exact HO_14.out)⟩; have n1_ : Aside0 (wc.heap[gb203]? = some (.cells #[.int .i64 x204000_1, .int .i64 x204001_1, .int .i64 x204002_1, .int .i64 x204003_1, .int .i64 x204004_1] 32 (0, 0))) := ⟨by rw [← hq_]; exact (by (with_reducible repeat (first | refine blk_drewN ?_ _ | refine blk_drew ?_ | refine blk_alloc ?_ _)); exact BK203.out)⟩; have n2_ : Aside0 (wc.heap[gb208]? = some (.cells #[.string ((rd_T98 t204 x16_1).f0), .int .i64 ((rd_T98 t204 x16_1).f1.f0), .int .i64 ((rd_T98 t204 x16_1).f1.f1), .int .i64 ((rd_T98 t204 x16_1).f1.f2), .int .i64 ((rd_T98 t204 x16_1).f1.f3)] 98 (0, 0))) := ⟨by rw [← hq_]; exact (by (with_reducible repeat (first | refine blk_drewN ?_ _ | refine blk_drew ?_ | refine blk_alloc ?_ _)); exact BK208.out)⟩; have n3_ : Aside0 (wc.heap[gb209]? = some (.cells #[.int .i64 ((rd_T98 t204 x16_1).f1.f0), .int .i64 ((rd_T98 t204 x16_1).f1.f1), .int .i64 ((rd_T98 t204 x16_1).f1.f2), .int .i64 ((rd_T98 t204 x16_1).f1.f3)] 81 (0, 0))) := ⟨by rw [← hq_]; exact (by (with_reducible repeat (first | refine blk_drewN ?_ _ | refine blk_drew ?_ | refine blk_alloc ?_ _)); exact BK209.out)⟩; have n4_ : Aside0 (wc.heap[gb211]? = some (.cells #[.int .i64 x16_1, .int .i64 x212001_62, .int .i64 x212002_73, .int .i64 0, .int .i64 x212004_50] 32 (0, 0))) := ⟨by rw [← hq_]; exact (by (with_reducible repeat (first | refine blk_drewN ?_ _ | refine blk_drew ?_ | refine blk_alloc ?_ _)); exact BK211.out)⟩; have n5_ : Aside0 (Below w.heap.size w wc) := ⟨by rw [← hq_]; exact (by repeat (first | (with_reducible first | exact HB.out | apply below_alloc | apply pw_below_drewN | apply below_drew1 | refine below_set ?_ GE203.out | refine below_set ?_ GE208.out | refine below_set ?_ GE209.out | refine below_set ?_ GE211.out) | exact HB.out))⟩; clear HO_14 BK203 BK208 BK209 BK211 HB hq_; have HO_14 := n0_; have BK203 := n1_; have BK208 := n2_; have BK209 := n3_; have BK211 := n4_; have HB := n5_; clear n0_ n1_ n2_ n3_ n4_ n5_)); have hnb94 := NB211_203.out; have hnc94 := NB203_211.out; have hnb95 := NB211_208.out; have hnc95 := NB208_211.out; have hnb96 := NB211_209.out; have hnc96 := NB209_211.out; have hcz97_0 : wc.cell? ⟨gb211, 0, none⟩ = some (.int .i64 x16_1) := (blk_cell BK211.out 0).trans rfl; have hcz97_1 : wc.cell? ⟨gb211, 1, none⟩ = some (.int .i64 x212001_62) := (blk_cell BK211.out 1).trans rfl; have hcz97_2 : wc.cell? ⟨gb211, 2, none⟩ = some (.int .i64 x212002_73) := (blk_cell BK211.out 2).trans rfl; have hcz97_3 : wc.cell? ⟨gb211, 3, none⟩ = some (.int .i64 0) := (blk_cell BK211.out 3).trans rfl; have hcz97_4 : wc.cell? ⟨gb211, 4, none⟩ = some (.int .i64 x212004_50) := (blk_cell BK211.out 4).trans rfl; have hfz97_0 := blk_frozen BK211.out 0; have hfz97_1 := blk_frozen BK211.out 1; have hfz97_2 := blk_frozen BK211.out 2; have hfz97_3 := blk_frozen BK211.out 3; have hfz97_4 := blk_frozen BK211.out 4) | ((with_reducible refine gate_callee (f := 60) rfl ?_); refine goesL_ (some 86) rfl rfl Try.func60 (by kernel_rfl) rfl #[.agg #[.int .i64 x16_1, .int .i64 x212001_62, .int .i64 x212002_73, .int .i64 t225, .int .i64 x212004_50]] rfl (by (try simp only [List.map_toArray, List.map_cons, List.map_nil]); first | done | rfl | (simp only [List.length_drop, List.length_take]; rfl)) ?_; (with_reducible refine (impl_encode.calls kj73 x16_1 x212001_62 x212002_73 t225 x212004_50 t226 _ A83.out).mono ?_); rintro e w98 ⟨rfl, hb⟩; refine ⟨_, rfl, ?_⟩; have n0_ := Aside0.mk (Kd.R_below (by (with_reducible repeat (first | apply Kd.R_alloc | apply Kd.R_drewN | apply Kd.R_drew)); exact (Kd.R_mono (Kd.R_far (p := ⟨gb211, 3, none⟩) (Kd.R_types HO_14.out BK211.out (by decide)) (fun _ hk => hk.2) (.int .i64 t225)) (fun _ h_ => h_.1))) hb); have n1_ := Aside0.mk (blk_below (g := gb203) (o := .cells #[.int .i64 x204000_1, .int .i64 x204001_1, .int .i64 x204002_1, .int .i64 x204003_1, .int .i64 x204004_1] 32 (0, 0)) (by (with_reducible repeat (first | refine blk_drewN ?_ _ | refine blk_drew ?_ | refine blk_alloc ?_ _)); refine blk_far ?_ NB203_211.out _; (with_reducible repeat (first | refine blk_drewN ?_ _ | refine blk_drew ?_ | refine blk_alloc ?_ _)); exact BK203.out) hb); have n2_ := Aside0.mk (blk_below (g := gb208) (o := .cells #[.string ((rd_T98 t204 x16_1).f0), .int .i64 ((rd_T98 t204 x16_1).f1.f0), .int .i64 ((rd_T98 t204 x16_1).f1.f1), .int .i64 ((rd_T98 t204 x16_1).f1.f2), .int .i64 ((rd_T98 t204 x16_1).f1.f3)] 98 (0, 0)) (by (with_reducible repeat (first | refine blk_drewN ?_ _ | refine blk_drew ?_ | refine blk_alloc ?_ _)); refine blk_far ?_ NB208_211.out _; (with_reducible repeat (first | refine blk_drewN ?_ _ | refine blk_drew ?_ | refine blk_alloc ?_ _)); exact BK208.out) hb); have n3_ := Aside0.mk (blk_below (g := gb209) (o := .cells #[.int .i64 ((rd_T98 t204 x16_1).f1.f0), .int .i64 ((rd_T98 t204 x16_1).f1.f1), .int .i64 ((rd_T98 t204 x16_1).f1.f2), .int .i64 ((rd_T98 t204 x16_1).f1.f3)] 81 (0, 0)) (by (with_reducible repeat (first | refine blk_drewN ?_ _ | refine blk_drew ?_ | refine blk_alloc ?_ _)); refine blk_far ?_ NB209_211.out _; (with_reducible repeat (first | refine blk_drewN ?_ _ | refine blk_drew ?_ | refine blk_alloc ?_ _)); exact BK209.out) hb); have n4_ := Aside0.mk (blk_below (g := gb211) (o := .cells #[.int .i64 x16_1, .int .i64 x212001_62, .int .i64 x212002_73, .int .i64 t225, .int .i64 x212004_50] 32 (0, 0)) (by (with_reducible repeat (first | refine blk_drewN ?_ _ | refine blk_drew ?_ | refine blk_alloc ?_ _)); refine blk_put (cs := #[.int .i64 x16_1, .int .i64 x212001_62, .int .i64 x212002_73, .int .i64 0, .int .i64 x212004_50]) ?_ 3 _ rfl; (with_reducible repeat (first | refine blk_drewN ?_ _ | refine blk_drew ?_ | refine blk_alloc ?_ _)); exact BK211.out) hb); have n5_ := Aside0.mk (below_step (by repeat (first | (with_reducible first | exact HB.out | apply below_alloc | apply pw_below_drewN | apply below_drew1 | refine below_set ?_ GE203.out | refine below_set ?_ GE208.out | refine below_set ?_ GE209.out | refine below_set ?_ GE211.out) | exact HB.out)) hb); clear HO_14; clear BK203; clear BK208; clear BK209; clear BK211; clear HB; have HO_14 := n0_; have BK203 := n1_; have BK208 := n2_; have BK209 := n3_; have BK211 := n4_; have HB := n5_; clear n0_ n1_ n2_ n3_ n4_ n5_; (try clear hb); (try clear hb2); (try clear hk); (try clear hi)))
                                        go_roundg kj73
                                        case measure => have := HK1.out; have := HJ8.out; have := HK3.out; have := HJ50.out; have := HJ62.out; have := HJ73.out; omega
                                        case rel => exact ⟨(wrap64 (x16_1 + 1)), (x204000_1), (x204001_1), (x204002_1), (x204003_1), (x204004_1), (by first | rfl | (simp; done) | (simp [*]; done)), H', ⟨by have := HK1.out; have := HJ8.out; have := HK3.out; have := HJ50.out; have := HJ62.out; have := HJ73.out; omega⟩, ⟨by (with_reducible repeat (first | apply Kd.R_alloc | apply Kd.R_drewN | apply Kd.R_drew)); exact Kd.R_mono HO_14.out (fun _ hk => trivial)⟩, ⟨by (with_reducible repeat (first | refine blk_drewN ?_ _ | refine blk_drew ?_ | refine blk_alloc ?_ _)); exact BK203.out⟩, ⟨by repeat (first | (with_reducible first | exact HB.out | apply below_alloc | apply pw_below_drewN | apply below_drew1 | refine below_set ?_ GE203.out | refine below_set ?_ GE208.out | refine below_set ?_ GE209.out | refine below_set ?_ GE211.out) | exact HB.out)⟩⟩
                                    · replace c81 := Bool.eq_false_iff.mpr c81
                                      subst c81
                                      rw [if_neg (show ¬ (false = true) by decide)] at H
                                      replace H := Option.bind_eq_some_iff.mp H
                                      obtain ⟨t227, A990, H⟩ := H
                                      try dsimp only at H
                                      have A99 := Aside0.mk A990
                                      clear A990
                                      by_cases c100 : t227 = a0
                                      · rw [if_pos c100] at H
                                        have c100b0 : (t227 == a0) = true := beq_iff_eq.mpr c100
                                        have c100b1 : (t227 != a0) = false := bne_eq_false_iff_eq.mpr c100
                                        clear c100
                                        simp only [Option.some.injEq, Prod.mk.injEq] at H
                                        obtain ⟨rfl, rfl, rfl, rfl, rfl, rfl⟩ := H
                                        have hnb101 := NB211_203.out
                                        have hnc101 := NB203_211.out
                                        have hnb102 := NB211_208.out
                                        have hnc102 := NB208_211.out
                                        have hnb103 := NB211_209.out
                                        have hnc103 := NB209_211.out
                                        have hcz104_0 : wc.cell? ⟨gb211, 0, none⟩ = some (.int .i64 x16_1) := (blk_cell BK211.out 0).trans rfl
                                        have hcz104_1 : wc.cell? ⟨gb211, 1, none⟩ = some (.int .i64 x212001_62) := (blk_cell BK211.out 1).trans rfl
                                        have hcz104_2 : wc.cell? ⟨gb211, 2, none⟩ = some (.int .i64 x212002_73) := (blk_cell BK211.out 2).trans rfl
                                        have hcz104_3 : wc.cell? ⟨gb211, 3, none⟩ = some (.int .i64 0) := (blk_cell BK211.out 3).trans rfl
                                        have hcz104_4 : wc.cell? ⟨gb211, 4, none⟩ = some (.int .i64 x212004_50) := (blk_cell BK211.out 4).trans rfl
                                        have hfz104_0 := blk_frozen BK211.out 0
                                        have hfz104_1 := blk_frozen BK211.out 1
                                        have hfz104_2 := blk_frozen BK211.out 2
                                        have hfz104_3 := blk_frozen BK211.out 3
                                        have hfz104_4 := blk_frozen BK211.out 4
                                        go_wp2_with (first | ((with_reducible refine gate_callee (f := 60) rfl ?_); refine goesL_ (some 86) rfl rfl Try.func60 (by kernel_rfl) rfl #[.agg #[.int .i64 x16_1, .int .i64 x212001_62, .int .i64 x212002_73, .int .i64 0, .int .i64 x212004_50]] rfl (by (try simp only [List.map_toArray, List.map_cons, List.map_nil]); first | done | rfl | (simp only [List.length_drop, List.length_take]; rfl)) ?_; (with_reducible refine (impl_encode.calls kj73 x16_1 x212001_62 x212002_73 0 x212004_50 t227 _ A99.out).mono ?_); rintro e w105 ⟨rfl, hb⟩; refine ⟨_, rfl, ?_⟩; have n0_ := Aside0.mk (Kd.R_below (by (with_reducible repeat (first | apply Kd.R_alloc | apply Kd.R_drewN | apply Kd.R_drew)); exact HO_14.out) hb); have n1_ := Aside0.mk (blk_below (g := gb203) (o := .cells #[.int .i64 x204000_1, .int .i64 x204001_1, .int .i64 x204002_1, .int .i64 x204003_1, .int .i64 x204004_1] 32 (0, 0)) (by (with_reducible repeat (first | refine blk_drewN ?_ _ | refine blk_drew ?_ | refine blk_alloc ?_ _)); exact BK203.out) hb); have n2_ := Aside0.mk (blk_below (g := gb208) (o := .cells #[.string ((rd_T98 t204 x16_1).f0), .int .i64 ((rd_T98 t204 x16_1).f1.f0), .int .i64 ((rd_T98 t204 x16_1).f1.f1), .int .i64 ((rd_T98 t204 x16_1).f1.f2), .int .i64 ((rd_T98 t204 x16_1).f1.f3)] 98 (0, 0)) (by (with_reducible repeat (first | refine blk_drewN ?_ _ | refine blk_drew ?_ | refine blk_alloc ?_ _)); exact BK208.out) hb); have n3_ := Aside0.mk (blk_below (g := gb209) (o := .cells #[.int .i64 ((rd_T98 t204 x16_1).f1.f0), .int .i64 ((rd_T98 t204 x16_1).f1.f1), .int .i64 ((rd_T98 t204 x16_1).f1.f2), .int .i64 ((rd_T98 t204 x16_1).f1.f3)] 81 (0, 0)) (by (with_reducible repeat (first | refine blk_drewN ?_ _ | refine blk_drew ?_ | refine blk_alloc ?_ _)); exact BK209.out) hb); have n4_ := Aside0.mk (blk_below (g := gb211) (o := .cells #[.int .i64 x16_1, .int .i64 x212001_62, .int .i64 x212002_73, .int .i64 0, .int .i64 x212004_50] 32 (0, 0)) (by (with_reducible repeat (first | refine blk_drewN ?_ _ | refine blk_drew ?_ | refine blk_alloc ?_ _)); exact BK211.out) hb); have n5_ := Aside0.mk (below_step (by repeat (first | (with_reducible first | exact HB.out | apply below_alloc | apply pw_below_drewN | apply below_drew1 | refine below_set ?_ GE203.out | refine below_set ?_ GE208.out | refine below_set ?_ GE209.out | refine below_set ?_ GE211.out) | exact HB.out)) hb); clear HO_14; clear BK203; clear BK208; clear BK209; clear BK211; clear HB; have HO_14 := n0_; have BK203 := n1_; have BK208 := n2_; have BK209 := n3_; have BK211 := n4_; have HB := n5_; clear n0_ n1_ n2_ n3_ n4_ n5_; (try clear hb); (try clear hb2); (try clear hk); (try clear hi); have hcz106_0 : w105.cell? ⟨gb211, 0, none⟩ = some (.int .i64 x16_1) := (blk_cell BK211.out 0).trans rfl; have hcz106_1 : w105.cell? ⟨gb211, 1, none⟩ = some (.int .i64 x212001_62) := (blk_cell BK211.out 1).trans rfl; have hcz106_2 : w105.cell? ⟨gb211, 2, none⟩ = some (.int .i64 x212002_73) := (blk_cell BK211.out 2).trans rfl; have hcz106_3 : w105.cell? ⟨gb211, 3, none⟩ = some (.int .i64 0) := (blk_cell BK211.out 3).trans rfl; have hcz106_4 : w105.cell? ⟨gb211, 4, none⟩ = some (.int .i64 x212004_50) := (blk_cell BK211.out 4).trans rfl; have hfz106_0 := blk_frozen BK211.out 0; have hfz106_1 := blk_frozen BK211.out 1; have hfz106_2 := blk_frozen BK211.out 2; have hfz106_3 := blk_frozen BK211.out 3; have hfz106_4 := blk_frozen BK211.out 4; have hnb107 := NB203_208.out; have hnc107 := NB208_203.out; have hnb108 := NB203_209.out; have hnc108 := NB209_203.out; have hcz109_0 : w105.cell? ⟨gb203, 0, none⟩ = some (.int .i64 x204000_1) := (blk_cell BK203.out 0).trans rfl; have hcz109_1 : w105.cell? ⟨gb203, 1, none⟩ = some (.int .i64 x204001_1) := (blk_cell BK203.out 1).trans rfl; have hcz109_2 : w105.cell? ⟨gb203, 2, none⟩ = some (.int .i64 x204002_1) := (blk_cell BK203.out 2).trans rfl; have hcz109_3 : w105.cell? ⟨gb203, 3, none⟩ = some (.int .i64 x204003_1) := (blk_cell BK203.out 3).trans rfl; have hcz109_4 : w105.cell? ⟨gb203, 4, none⟩ = some (.int .i64 x204004_1) := (blk_cell BK203.out 4).trans rfl; have hfz109_0 := blk_frozen BK203.out 0; have hfz109_1 := blk_frozen BK203.out 1; have hfz109_2 := blk_frozen BK203.out 2; have hfz109_3 := blk_frozen BK203.out 3; have hfz109_4 := blk_frozen BK203.out 4))
                                        refine bodyPost_ret (results_ct rfl _ _ gb203 32 #[.int .i64 x16_1, .int .i64 x212001_62, .int .i64 x212002_73, .int .i64 0, .int .i64 x212004_50] (0, 0) _ rfl (by (with_reducible repeat (first | refine blk_drewN ?_ _ | refine blk_drew ?_ | refine blk_alloc ?_ _)); refine blk_put (cs := #[.int .i64 x16_1, .int .i64 x212001_62, .int .i64 x212002_73, .int .i64 0, .int .i64 x204004_1]) ?_ 4 _ rfl; (with_reducible repeat (first | refine blk_drewN ?_ _ | refine blk_drew ?_ | refine blk_alloc ?_ _)); refine blk_put (cs := #[.int .i64 x16_1, .int .i64 x212001_62, .int .i64 x212002_73, .int .i64 x204003_1, .int .i64 x204004_1]) ?_ 3 _ rfl; (with_reducible repeat (first | refine blk_drewN ?_ _ | refine blk_drew ?_ | refine blk_alloc ?_ _)); refine blk_put (cs := #[.int .i64 x16_1, .int .i64 x212001_62, .int .i64 x204002_1, .int .i64 x204003_1, .int .i64 x204004_1]) ?_ 2 _ rfl; (with_reducible repeat (first | refine blk_drewN ?_ _ | refine blk_drew ?_ | refine blk_alloc ?_ _)); refine blk_put (cs := #[.int .i64 x16_1, .int .i64 x204001_1, .int .i64 x204002_1, .int .i64 x204003_1, .int .i64 x204004_1]) ?_ 1 _ rfl; (with_reducible repeat (first | refine blk_drewN ?_ _ | refine blk_drew ?_ | refine blk_alloc ?_ _)); refine blk_put (cs := #[.int .i64 x204000_1, .int .i64 x204001_1, .int .i64 x204002_1, .int .i64 x204003_1, .int .i64 x204004_1]) ?_ 0 _ rfl; (with_reducible repeat (first | refine blk_drewN ?_ _ | refine blk_drew ?_ | refine blk_alloc ?_ _)); exact BK203.out) Try.underlying32 rfl (by kernel_rfl)) rfl ?_
                                        exact ⟨by first | rfl | (simp [errW_none, errW_some] <;> rfl) | (simp [*, errW_none, errW_some] <;> rfl), by repeat (first | (with_reducible first | exact HB.out | apply below_alloc | apply pw_below_drewN | apply below_drew1 | refine below_set ?_ GE203.out | refine below_set ?_ GE208.out | refine below_set ?_ GE209.out | refine below_set ?_ GE211.out) | exact HB.out)⟩
                                      · rw [if_neg c100] at H
                                        have c100b0 : (t227 == a0) = false := beq_eq_false_iff_ne.mpr c100
                                        have c100b1 : (t227 != a0) = true := bne_iff_ne.mpr c100
                                        have H' := Aside0.mk H
                                        clear H
                                        have hnb110 := NB211_203.out
                                        have hnc110 := NB203_211.out
                                        have hnb111 := NB211_208.out
                                        have hnc111 := NB208_211.out
                                        have hnb112 := NB211_209.out
                                        have hnc112 := NB209_211.out
                                        have hcz113_0 : wc.cell? ⟨gb211, 0, none⟩ = some (.int .i64 x16_1) := (blk_cell BK211.out 0).trans rfl
                                        have hcz113_1 : wc.cell? ⟨gb211, 1, none⟩ = some (.int .i64 x212001_62) := (blk_cell BK211.out 1).trans rfl
                                        have hcz113_2 : wc.cell? ⟨gb211, 2, none⟩ = some (.int .i64 x212002_73) := (blk_cell BK211.out 2).trans rfl
                                        have hcz113_3 : wc.cell? ⟨gb211, 3, none⟩ = some (.int .i64 0) := (blk_cell BK211.out 3).trans rfl
                                        have hcz113_4 : wc.cell? ⟨gb211, 4, none⟩ = some (.int .i64 x212004_50) := (blk_cell BK211.out 4).trans rfl
                                        have hfz113_0 := blk_frozen BK211.out 0
                                        have hfz113_1 := blk_frozen BK211.out 1
                                        have hfz113_2 := blk_frozen BK211.out 2
                                        have hfz113_3 := blk_frozen BK211.out 3
                                        have hfz113_4 := blk_frozen BK211.out 4
                                        go_wp2_with (first | ((with_reducible refine gate_callee (f := 60) rfl ?_); refine goesL_ (some 86) rfl rfl Try.func60 (by kernel_rfl) rfl #[.agg #[.int .i64 x16_1, .int .i64 x212001_62, .int .i64 x212002_73, .int .i64 0, .int .i64 x212004_50]] rfl (by (try simp only [List.map_toArray, List.map_cons, List.map_nil]); first | done | rfl | (simp only [List.length_drop, List.length_take]; rfl)) ?_; (with_reducible refine (impl_encode.calls kj73 x16_1 x212001_62 x212002_73 0 x212004_50 t227 _ A99.out).mono ?_); rintro e w114 ⟨rfl, hb⟩; refine ⟨_, rfl, ?_⟩; have n0_ := Aside0.mk (Kd.R_below (by (with_reducible repeat (first | apply Kd.R_alloc | apply Kd.R_drewN | apply Kd.R_drew)); exact HO_14.out) hb); have n1_ := Aside0.mk (blk_below (g := gb203) (o := .cells #[.int .i64 x204000_1, .int .i64 x204001_1, .int .i64 x204002_1, .int .i64 x204003_1, .int .i64 x204004_1] 32 (0, 0)) (by (with_reducible repeat (first | refine blk_drewN ?_ _ | refine blk_drew ?_ | refine blk_alloc ?_ _)); exact BK203.out) hb); have n2_ := Aside0.mk (blk_below (g := gb208) (o := .cells #[.string ((rd_T98 t204 x16_1).f0), .int .i64 ((rd_T98 t204 x16_1).f1.f0), .int .i64 ((rd_T98 t204 x16_1).f1.f1), .int .i64 ((rd_T98 t204 x16_1).f1.f2), .int .i64 ((rd_T98 t204 x16_1).f1.f3)] 98 (0, 0)) (by (with_reducible repeat (first | refine blk_drewN ?_ _ | refine blk_drew ?_ | refine blk_alloc ?_ _)); exact BK208.out) hb); have n3_ := Aside0.mk (blk_below (g := gb209) (o := .cells #[.int .i64 ((rd_T98 t204 x16_1).f1.f0), .int .i64 ((rd_T98 t204 x16_1).f1.f1), .int .i64 ((rd_T98 t204 x16_1).f1.f2), .int .i64 ((rd_T98 t204 x16_1).f1.f3)] 81 (0, 0)) (by (with_reducible repeat (first | refine blk_drewN ?_ _ | refine blk_drew ?_ | refine blk_alloc ?_ _)); exact BK209.out) hb); have n4_ := Aside0.mk (blk_below (g := gb211) (o := .cells #[.int .i64 x16_1, .int .i64 x212001_62, .int .i64 x212002_73, .int .i64 0, .int .i64 x212004_50] 32 (0, 0)) (by (with_reducible repeat (first | refine blk_drewN ?_ _ | refine blk_drew ?_ | refine blk_alloc ?_ _)); exact BK211.out) hb); have n5_ := Aside0.mk (below_step (by repeat (first | (with_reducible first | exact HB.out | apply below_alloc | apply pw_below_drewN | apply below_drew1 | refine below_set ?_ GE203.out | refine below_set ?_ GE208.out | refine below_set ?_ GE209.out | refine below_set ?_ GE211.out) | exact HB.out)) hb); clear HO_14; clear BK203; clear BK208; clear BK209; clear BK211; clear HB; have HO_14 := n0_; have BK203 := n1_; have BK208 := n2_; have BK209 := n3_; have BK211 := n4_; have HB := n5_; clear n0_ n1_ n2_ n3_ n4_ n5_; (try clear hb); (try clear hb2); (try clear hk); (try clear hi)))
                                        go_roundg kj73
                                        case measure => have := HK1.out; have := HJ8.out; have := HK3.out; have := HJ50.out; have := HJ62.out; have := HJ73.out; omega
                                        case rel => exact ⟨(wrap64 (x16_1 + 1)), (x204000_1), (x204001_1), (x204002_1), (x204003_1), (x204004_1), (by first | rfl | (simp; done) | (simp [*]; done)), H', ⟨by have := HK1.out; have := HJ8.out; have := HK3.out; have := HJ50.out; have := HJ62.out; have := HJ73.out; omega⟩, ⟨by (with_reducible repeat (first | apply Kd.R_alloc | apply Kd.R_drewN | apply Kd.R_drew)); exact Kd.R_mono HO_14.out (fun _ hk => trivial)⟩, ⟨by (with_reducible repeat (first | refine blk_drewN ?_ _ | refine blk_drew ?_ | refine blk_alloc ?_ _)); exact BK203.out⟩, ⟨by repeat (first | (with_reducible first | exact HB.out | apply below_alloc | apply pw_below_drewN | apply below_drew1 | refine below_set ?_ GE203.out | refine below_set ?_ GE208.out | refine below_set ?_ GE209.out | refine below_set ?_ GE211.out) | exact HB.out)⟩⟩
          · rw [if_neg c8] at H
            exact absurd H (by simp)
        · rw [if_neg c7] at H
          exact absurd H (by simp)
      · rw [if_neg c6] at H
        have c6b0 : decide (x16_1 < (t204.length : Int)) = false := decide_eq_false c6
        clear c6
        simp only [Option.some.injEq, Prod.mk.injEq] at H
        obtain ⟨rfl, rfl, rfl, rfl, rfl, rfl⟩ := H
        have hcz115_0 : wr.cell? ⟨gb203, 0, none⟩ = some (.int .i64 x204000_1) := (blk_cell BK203.out 0).trans rfl
        have hcz115_1 : wr.cell? ⟨gb203, 1, none⟩ = some (.int .i64 x204001_1) := (blk_cell BK203.out 1).trans rfl
        have hcz115_2 : wr.cell? ⟨gb203, 2, none⟩ = some (.int .i64 x204002_1) := (blk_cell BK203.out 2).trans rfl
        have hcz115_3 : wr.cell? ⟨gb203, 3, none⟩ = some (.int .i64 x204003_1) := (blk_cell BK203.out 3).trans rfl
        have hcz115_4 : wr.cell? ⟨gb203, 4, none⟩ = some (.int .i64 x204004_1) := (blk_cell BK203.out 4).trans rfl
        have hfz115_0 := blk_frozen BK203.out 0
        have hfz115_1 := blk_frozen BK203.out 1
        have hfz115_2 := blk_frozen BK203.out 2
        have hfz115_3 := blk_frozen BK203.out 3
        have hfz115_4 := blk_frozen BK203.out 4
        go_wp2
        refine bodyPost_ret (results_ct rfl _ _ gb203 32 #[.int .i64 0, .int .i64 0, .int .i64 0, .int .i64 0, .int .i64 0] (0, 0) _ rfl (by (with_reducible repeat (first | refine blk_drewN ?_ _ | refine blk_drew ?_ | refine blk_alloc ?_ _)); refine blk_put (cs := #[.int .i64 0, .int .i64 0, .int .i64 0, .int .i64 0, .int .i64 x204004_1]) ?_ 4 _ rfl; (with_reducible repeat (first | refine blk_drewN ?_ _ | refine blk_drew ?_ | refine blk_alloc ?_ _)); refine blk_put (cs := #[.int .i64 0, .int .i64 0, .int .i64 0, .int .i64 x204003_1, .int .i64 x204004_1]) ?_ 3 _ rfl; (with_reducible repeat (first | refine blk_drewN ?_ _ | refine blk_drew ?_ | refine blk_alloc ?_ _)); refine blk_put (cs := #[.int .i64 0, .int .i64 0, .int .i64 x204002_1, .int .i64 x204003_1, .int .i64 x204004_1]) ?_ 2 _ rfl; (with_reducible repeat (first | refine blk_drewN ?_ _ | refine blk_drew ?_ | refine blk_alloc ?_ _)); refine blk_put (cs := #[.int .i64 0, .int .i64 x204001_1, .int .i64 x204002_1, .int .i64 x204003_1, .int .i64 x204004_1]) ?_ 1 _ rfl; (with_reducible repeat (first | refine blk_drewN ?_ _ | refine blk_drew ?_ | refine blk_alloc ?_ _)); refine blk_put (cs := #[.int .i64 x204000_1, .int .i64 x204001_1, .int .i64 x204002_1, .int .i64 x204003_1, .int .i64 x204004_1]) ?_ 0 _ rfl; (with_reducible repeat (first | refine blk_drewN ?_ _ | refine blk_drew ?_ | refine blk_alloc ?_ _)); exact BK203.out) Try.underlying32 rfl (by kernel_rfl)) rfl ?_
        exact ⟨by first | rfl | (simp [errW_none, errW_some] <;> rfl) | (simp [*, errW_none, errW_some] <;> rfl), by repeat (first | (with_reducible first | exact HB.out | apply below_alloc | apply pw_below_drewN | apply below_drew1 | refine below_set ?_ GE203.out) | exact HB.out)⟩

end Go.Proofs.Ytbbaggpmhiickaa.PFnPair
