/- The walk of FnFields: each Go function that the law reaches as a plain Lean function, with the proof that a call does what it says; no conditions. Written by a program for this claim. -/
import Derived.Test.YtbbaggpmhiickaaPFnFieldsx0
import Derived.Test.YtbbaggpmhiickaaPFnFieldsx1
namespace Go.Proofs.Ytbbaggpmhiickaa.PFnFields
open Go.RowKit Go.Proofs.YtbbaggpmhiickaaW.PrintWords Go.Proofs.YtbbaggpmhiickaaW.PrintLast Go.Proofs.YtbbaggpmhiickaaW.PrintMore
attribute [local go_sem] max2_int min2_int max_two min_two max_three min_three max_four min_four   -- for this text's walks alone
set_option linter.unusedVariables false
set_option linter.unusedSimpArgs false

/-! ### impl_PutField: function 19 -/
def impl_PutField.f (a0 : Int) (a1 : Int) (a2 : Int) (a3 : Int) : Option (Int × Int) := (impl_isField.f a0 a1 a2).bind fun t181 => (if t181 = true then (if 0 ≤ a2 then (if 0 ≤ a1 then (some (Go.bits .or .i64 (Go.bits .andNot .i64 a0 (shl .i64 (wrap64 ((shl .i64 1 a2) - 1)) a1)) (Go.bits .and .i64 (shl .i64 a3 a1) (shl .i64 (wrap64 ((shl .i64 1 a2) - 1)) a1)), 0)) else (none)) else (none)) else (some (0, 4)))
set_option maxHeartbeats 8000000 in
set_option maxRecDepth 100000 in
theorem impl_PutField.calls (a0 : Int) (a1 : Int) (a2 : Int) (a3 : Int) (r1 : Int) (r2 : Int) (w : World) (h : impl_PutField.f a0 a1 a2 a3 = some (r1, r2)) :
    Calls Try.prog 19 #[.int .i64 a0, .int .i64 a1, .int .i64 a2, .int .i64 a3] w fun e w' => e = .returned (.tuple #[.int .i64 r1, .int .i64 r2]) ∧ Drawn0 w w' := by
  have H : ((impl_isField.f a0 a1 a2).bind fun t181 => (if t181 = true then (if 0 ≤ a2 then (if 0 ≤ a1 then (some (Go.bits .or .i64 (Go.bits .andNot .i64 a0 (shl .i64 (wrap64 ((shl .i64 1 a2) - 1)) a1)) (Go.bits .and .i64 (shl .i64 a3 a1) (shl .i64 (wrap64 ((shl .i64 1 a2) - 1)) a1)), 0)) else (none)) else (none)) else (some (0, 4)))) = some (r1, r2) := h
  clear h
  replace H := Option.bind_eq_some_iff.mp H
  obtain ⟨t181, A50, H⟩ := H
  replace H : (if t181 = true then (if 0 ≤ a2 then (if 0 ≤ a1 then (some (Go.bits .or .i64 (Go.bits .andNot .i64 a0 (shl .i64 (wrap64 ((shl .i64 1 a2) - 1)) a1)) (Go.bits .and .i64 (shl .i64 a3 a1) (shl .i64 (wrap64 ((shl .i64 1 a2) - 1)) a1)), 0)) else (none)) else (none)) else (some (0, 4))) = some (r1, r2) := H
  have A5 := Aside0.mk A50
  clear A50
  by_cases c6 : t181 = true
  · subst c6
    have H1 : (if 0 ≤ a2 then (if 0 ≤ a1 then (some (Go.bits .or .i64 (Go.bits .andNot .i64 a0 (shl .i64 (wrap64 ((shl .i64 1 a2) - 1)) a1)) (Go.bits .and .i64 (shl .i64 a3 a1) (shl .i64 (wrap64 ((shl .i64 1 a2) - 1)) a1)), 0)) else (none)) else (none)) = some (r1, r2) := by rw [if_pos rfl] at H; exact H
    clear H
    have H := H1
    clear H1
    by_cases c7 : 0 ≤ a2
    · rw [if_pos c7] at H
      have c7b0 := eq_true c7
      have c7b1 : decide (0 ≤ a2) = true := decide_eq_true c7
      clear c7
      obtain ⟨ji8, hji8⟩ : ∃ j_ : Int, (shl .i64 1 a2) = j_ := ⟨_, rfl⟩
      replace H : (if 0 ≤ a1 then (some (Go.bits .or .i64 (Go.bits .andNot .i64 a0 (shl .i64 (wrap64 ((ji8) - 1)) a1)) (Go.bits .and .i64 (shl .i64 a3 a1) (shl .i64 (wrap64 ((ji8) - 1)) a1)), 0)) else (none)) = some (r1, r2) := by first | (rw [hji8] at H; exact H) | (simp only [hji8] at H ⊢; exact H)
      (try rw [hji8] at A5)
      have hji8_ : (IntKind.i64.wrap (1 * 2 ^ min a2.toNat 64)) = ji8 := hji8
      have hji8z : a2 ≤ 64 → (IntKind.i64.wrap (1 * 2 ^ a2.toNat)) = ji8 := shl_small hji8
      have hji8u : (IntKind.i64.wrap (2 ^ min a2.toNat 64)) = ji8 := by have h_ := hji8_; rw [Int.one_mul] at h_; exact h_
      have hji8v : a2 ≤ 64 → (IntKind.i64.wrap (2 ^ a2.toNat)) = ji8 := fun hle_ => by have h_ := hji8z hle_; rw [Int.one_mul] at h_; exact h_
      have hji8y : (wrap64 (1 * 2 ^ min a2.toNat 64)) = ji8 := (i64_w _).symm.trans hji8_
      have hji8x : a2 ≤ 64 → (wrap64 (1 * 2 ^ a2.toNat)) = ji8 := fun h_ => (i64_w _).symm.trans (hji8z h_)
      by_cases c9 : 0 ≤ a1
      · rw [if_pos c9] at H
        have c9b0 := eq_true c9
        have c9b1 : decide (0 ≤ a1) = true := decide_eq_true c9
        clear c9
        obtain ⟨ji10, hji10⟩ : ∃ j_ : Int, (shl .i64 (wrap64 ((ji8) - 1)) a1) = j_ := ⟨_, rfl⟩
        replace H : (some (Go.bits .or .i64 (Go.bits .andNot .i64 a0 (ji10)) (Go.bits .and .i64 (shl .i64 a3 a1) (ji10)), 0)) = some (r1, r2) := by first | (rw [hji10] at H; exact H) | (simp only [hji10] at H ⊢; exact H)
        (try rw [hji10] at A5)
        have hji10_ : (IntKind.i64.wrap ((wrap64 ((ji8) - 1)) * 2 ^ min a1.toNat 64)) = ji10 := hji10
        have hji10z : a1 ≤ 64 → (IntKind.i64.wrap ((wrap64 ((ji8) - 1)) * 2 ^ a1.toNat)) = ji10 := shl_small hji10
        have hji10y : (wrap64 ((wrap64 ((ji8) - 1)) * 2 ^ min a1.toNat 64)) = ji10 := (i64_w _).symm.trans hji10_
        have hji10x : a1 ≤ 64 → (wrap64 ((wrap64 ((ji8) - 1)) * 2 ^ a1.toNat)) = ji10 := fun h_ => (i64_w _).symm.trans (hji10z h_)
        have c11b0 := eq_true (of_decide_eq_true (by first | (with_reducible assumption) | assumption) : 0 ≤ a1)
        obtain ⟨ji12, hji12⟩ : ∃ j_ : Int, (shl .i64 a3 a1) = j_ := ⟨_, rfl⟩
        replace H : (some (Go.bits .or .i64 (Go.bits .andNot .i64 a0 (ji10)) (Go.bits .and .i64 (ji12) (ji10)), 0)) = some (r1, r2) := by first | (rw [hji12] at H; exact H) | (simp only [hji12] at H ⊢; exact H)
        (try rw [hji12] at A5)
        have hji12_ : (IntKind.i64.wrap (a3 * 2 ^ min a1.toNat 64)) = ji12 := hji12
        have hji12z : a1 ≤ 64 → (IntKind.i64.wrap (a3 * 2 ^ a1.toNat)) = ji12 := shl_small hji12
        have hji12y : (wrap64 (a3 * 2 ^ min a1.toNat 64)) = ji12 := (i64_w _).symm.trans hji12_
        have hji12x : a1 ≤ 64 → (wrap64 (a3 * 2 ^ a1.toNat)) = ji12 := fun h_ => (i64_w _).symm.trans (hji12z h_)
        simp only [Option.some.injEq, Prod.mk.injEq] at H
        obtain ⟨rfl, rfl⟩ := H
        go_enter Try.func19, Try.ntmps19
        go_wp2_with (first | ((with_reducible refine gate_callee (f := 56) rfl ?_); refine goesL_ (some 14) rfl rfl Try.func56 (by kernel_rfl) rfl #[.int .i64 a0, .int .i64 a1, .int .i64 a2] rfl (by (try simp only [List.map_toArray, List.map_cons, List.map_nil]); first | done | rfl | (simp only [List.length_drop, List.length_take]; rfl)) ?_; (with_reducible refine (impl_isField.calls a0 a1 a2 true _ A5.out).mono ?_); rintro e w' ⟨rfl, ⟨nd, rfl⟩⟩; refine ⟨_, rfl, ?_⟩))
        go_ret2
        exact ⟨by first | rfl | (simp; done) | (simp only [← hji8, ← hji10, ← hji12] <;> (first | rfl | simp)) | (simp [*]; done), by repeat (first | exact Drawn0.refl _ | apply Drawn0.step)⟩
      · rw [if_neg c9] at H
        exact absurd H (by simp)
    · rw [if_neg c7] at H
      exact absurd H (by simp)
  · replace c6 := Bool.eq_false_iff.mpr c6
    subst c6
    have H1 : (some (0, 4)) = some (r1, r2) := by rw [if_neg (show ¬ (false = true) by decide)] at H; exact H
    clear H
    have H := H1
    clear H1
    simp only [Option.some.injEq, Prod.mk.injEq] at H
    obtain ⟨rfl, rfl⟩ := H
    go_enter Try.func19, Try.ntmps19
    go_wp2_with (first | ((with_reducible refine gate_callee (f := 56) rfl ?_); refine goesL_ (some 14) rfl rfl Try.func56 (by kernel_rfl) rfl #[.int .i64 a0, .int .i64 a1, .int .i64 a2] rfl (by (try simp only [List.map_toArray, List.map_cons, List.map_nil]); first | done | rfl | (simp only [List.length_drop, List.length_take]; rfl)) ?_; (with_reducible refine (impl_isField.calls a0 a1 a2 false _ A5.out).mono ?_); rintro e w' ⟨rfl, ⟨nd, rfl⟩⟩; refine ⟨_, rfl, ?_⟩))
    go_ret2
    exact ⟨by first | rfl | (simp; done) | (simp [*]; done), by repeat (first | exact Drawn0.refl _ | apply Drawn0.step)⟩

/-! ### impl_signOf: function 59 -/
def impl_signOf.f (a0 : Int) (a1 : Int) : Option (Int) := if 0 ≤ (wrap64 (64 - a1)) then (some (shr .i64 (shl .i64 a0 (wrap64 (64 - a1))) (wrap64 (64 - a1)))) else (none)
set_option maxHeartbeats 8000000 in
set_option maxRecDepth 100000 in
theorem impl_signOf.calls (a0 : Int) (a1 : Int) (r : Int) (w : World) (h : impl_signOf.f a0 a1 = some r) :
    Calls Try.prog 59 #[.int .i64 a0, .int .i64 a1] w fun e w' => e = .returned (.int .i64 r) ∧ Drawn0 w w' := by
  have H : (if 0 ≤ (wrap64 (64 - a1)) then (some (shr .i64 (shl .i64 a0 (wrap64 (64 - a1))) (wrap64 (64 - a1)))) else (none)) = some r := h
  clear h
  obtain ⟨ji3, hji3⟩ : ∃ j_ : Int, (wrap64 (64 - a1)) = j_ := ⟨_, rfl⟩
  replace H : (if 0 ≤ (ji3) then (some (shr .i64 (shl .i64 a0 (ji3)) (ji3))) else (none)) = some r := by first | (rw [hji3] at H; exact H) | (simp only [hji3] at H ⊢; exact H)
  have hji3w : (IntKind.i64.wrap (64 - a1)) = ji3 := (i64_w _).trans hji3
  by_cases c4 : 0 ≤ (ji3)
  · rw [if_pos c4] at H
    have c4b0 := eq_true c4
    have c4b1 : decide (0 ≤ (ji3)) = true := decide_eq_true c4
    clear c4
    obtain ⟨ji5, hji5⟩ : ∃ j_ : Int, (shl .i64 a0 (ji3)) = j_ := ⟨_, rfl⟩
    replace H : (some (shr .i64 (ji5) (ji3))) = some r := by first | (rw [hji5] at H; exact H) | (simp only [hji5] at H ⊢; exact H)
    have hji5_ : (IntKind.i64.wrap (a0 * 2 ^ min (ji3).toNat 64)) = ji5 := hji5
    have hji5z : (ji3) ≤ 64 → (IntKind.i64.wrap (a0 * 2 ^ (ji3).toNat)) = ji5 := shl_small hji5
    have hji5y : (wrap64 (a0 * 2 ^ min (ji3).toNat 64)) = ji5 := (i64_w _).symm.trans hji5_
    have hji5x : (ji3) ≤ 64 → (wrap64 (a0 * 2 ^ (ji3).toNat)) = ji5 := fun h_ => (i64_w _).symm.trans (hji5z h_)
    have c6b0 := eq_true (of_decide_eq_true (by first | (with_reducible assumption) | assumption) : 0 ≤ (ji3))
    obtain ⟨ji7, hji7⟩ : ∃ j_ : Int, (shr .i64 (ji5) (ji3)) = j_ := ⟨_, rfl⟩
    replace H : (some ji7) = some r := by first | (rw [hji7] at H; exact H) | (simp only [hji7] at H ⊢; exact H)
    have hji7_ : ((ji5) / 2 ^ min (ji3).toNat 64) = ji7 := hji7
    have hji7z : (ji3) ≤ 64 → ((ji5) / 2 ^ (ji3).toNat) = ji7 := shr_small hji7
    obtain rfl := Option.some.inj H
    go_enter Try.func59, Try.ntmps59
    go_wp2
    go_ret
    exact ⟨by first | rfl | (simp; done) | (simp only [← hji3, ← hji5, ← hji7] <;> (first | rfl | simp)) | (simp [*]; done), by repeat (first | exact Drawn0.refl _ | apply Drawn0.step)⟩
  · rw [if_neg c4] at H
    exact absurd H (by simp)

/-! ### impl_SignOf: function 20 -/
def impl_SignOf.f (a0 : Int) (a1 : Int) : Option (Int × Int) := (impl_within.f a1 1 64).bind fun t182 => (if t182 = true then ((impl_signOf.f a0 a1).bind fun t183 => (some (t183, 0))) else (some (0, 4)))
set_option maxHeartbeats 8000000 in
set_option maxRecDepth 100000 in
theorem impl_SignOf.calls (a0 : Int) (a1 : Int) (r1 : Int) (r2 : Int) (w : World) (h : impl_SignOf.f a0 a1 = some (r1, r2)) :
    Calls Try.prog 20 #[.int .i64 a0, .int .i64 a1] w fun e w' => e = .returned (.tuple #[.int .i64 r1, .int .i64 r2]) ∧ Drawn0 w w' := by
  have H : ((impl_within.f a1 1 64).bind fun t182 => (if t182 = true then ((impl_signOf.f a0 a1).bind fun t183 => (some (t183, 0))) else (some (0, 4)))) = some (r1, r2) := h
  clear h
  replace H := Option.bind_eq_some_iff.mp H
  obtain ⟨t182, A30, H⟩ := H
  replace H : (if t182 = true then ((impl_signOf.f a0 a1).bind fun t183 => (some (t183, 0))) else (some (0, 4))) = some (r1, r2) := H
  have A3 := Aside0.mk A30
  clear A30
  by_cases c4 : t182 = true
  · subst c4
    have H1 : ((impl_signOf.f a0 a1).bind fun t183 => (some (t183, 0))) = some (r1, r2) := by rw [if_pos rfl] at H; exact H
    clear H
    have H := H1
    clear H1
    replace H := Option.bind_eq_some_iff.mp H
    obtain ⟨t183, A50, H⟩ := H
    replace H : (some (t183, 0)) = some (r1, r2) := H
    have A5 := Aside0.mk A50
    clear A50
    simp only [Option.some.injEq, Prod.mk.injEq] at H
    obtain ⟨rfl, rfl⟩ := H
    go_enter Try.func20, Try.ntmps20
    go_wp2_with (first | ((with_reducible refine gate_callee (f := 58) rfl ?_); refine goesL_ (some 7) rfl rfl Try.func58 (by kernel_rfl) rfl #[.int .i64 a1, .int .i64 1, .int .i64 64] rfl (by (try simp only [List.map_toArray, List.map_cons, List.map_nil]); first | done | rfl | (simp only [List.length_drop, List.length_take]; rfl)) ?_; (with_reducible refine (impl_within.calls a1 1 64 true _ A3.out).mono ?_); rintro e w' ⟨rfl, ⟨nd, rfl⟩⟩; refine ⟨_, rfl, ?_⟩) | ((with_reducible refine gate_callee (f := 59) rfl ?_); refine goesL_ (some 11) rfl rfl Try.func59 (by kernel_rfl) rfl #[.int .i64 a0, .int .i64 a1] rfl (by (try simp only [List.map_toArray, List.map_cons, List.map_nil]); first | done | rfl | (simp only [List.length_drop, List.length_take]; rfl)) ?_; (with_reducible refine (impl_signOf.calls a0 a1 t183 _ A5.out).mono ?_); rintro e w' ⟨rfl, ⟨nd, rfl⟩⟩; refine ⟨_, rfl, ?_⟩))
    go_ret2
    exact ⟨by first | rfl | (simp; done) | (simp [*]; done), by repeat (first | exact Drawn0.refl _ | apply Drawn0.step)⟩
  · replace c4 := Bool.eq_false_iff.mpr c4
    subst c4
    have H1 : (some (0, 4)) = some (r1, r2) := by rw [if_neg (show ¬ (false = true) by decide)] at H; exact H
    clear H
    have H := H1
    clear H1
    simp only [Option.some.injEq, Prod.mk.injEq] at H
    obtain ⟨rfl, rfl⟩ := H
    go_enter Try.func20, Try.ntmps20
    go_wp2_with (first | ((with_reducible refine gate_callee (f := 58) rfl ?_); refine goesL_ (some 7) rfl rfl Try.func58 (by kernel_rfl) rfl #[.int .i64 a1, .int .i64 1, .int .i64 64] rfl (by (try simp only [List.map_toArray, List.map_cons, List.map_nil]); first | done | rfl | (simp only [List.length_drop, List.length_take]; rfl)) ?_; (with_reducible refine (impl_within.calls a1 1 64 false _ A3.out).mono ?_); rintro e w' ⟨rfl, ⟨nd, rfl⟩⟩; refine ⟨_, rfl, ?_⟩))
    go_ret2
    exact ⟨by first | rfl | (simp; done) | (simp [*]; done), by repeat (first | exact Drawn0.refl _ | apply Drawn0.step)⟩

/-! ### laws_FnFields: function 3 -/
def laws_FnFields.j0 : Nat → List Int → List Int → Bool → Option (Bool)
  | 0, _, _, _ => none
  | k + 1, x0, x1, x28 => if x28 = true then (some true) else ((spec_WordDrawn.f x0).bind fun t184 => ((spec_NumberOf.f x1).bind fun t185 => ((laws_at.f x1 0 32).bind fun t186 => ((laws_at.f x1 1 (wrap64 (32 - t186))).bind fun t187 => ((impl_FieldOf.f t184 t186 (wrap64 (1 + t187))).bind fun bt188 => ((impl_PutField.f t184 t186 (wrap64 (1 + t187)) t185).bind fun bt190 => ((impl_FieldOf.f bt190.1 t186 (wrap64 (1 + t187))).bind fun bt192 => ((impl_PutField.f bt190.1 t186 (wrap64 (1 + t187)) bt188.1).bind fun bt194 => ((impl_SignOf.f t185 (wrap64 (1 + t187))).bind fun bt196 => ((impl_SignOf.f bt192.1 (wrap64 (1 + t187))).bind fun bt198 => (if bt188.2 = 0 then (if 0 ≤ (IntKind.u64.wrap (t186)) then (if 0 ≤ (IntKind.u64.wrap (wrap64 (1 + t187))) then (if (shl .i64 1 (IntKind.u64.wrap (wrap64 (1 + t187)))) = 0 then (none) else (if bt188.1 = (Int.tmod (shr .i64 t184 (IntKind.u64.wrap (t186))) (shl .i64 1 (IntKind.u64.wrap (wrap64 (1 + t187))))) then (if bt190.2 = 0 then (if bt192.2 = 0 then (if bt194.2 = 0 then (if bt194.1 = t184 then (if bt196.2 = 0 then (if bt198.2 = 0 then (if bt196.1 = bt198.1 then (if 0 ≤ (IntKind.u64.wrap (wrap64 ((wrap64 (1 + t187)) - 1))) then (if (shl .i64 1 (IntKind.u64.wrap (wrap64 ((wrap64 (1 + t187)) - 1)))) = 0 then (none) else (if (Int.tmod (wrap64 (bt196.1 - t185)) (shl .i64 1 (IntKind.u64.wrap (wrap64 ((wrap64 (1 + t187)) - 1))))) = 0 then (some ((wrap64 (bt190.1 - t184)) == (shl .i64 (wrap64 (bt192.1 - bt188.1)) (IntKind.u64.wrap (t186))))) else (some false))) else (none)) else (some false)) else (some false)) else (some false)) else (some false)) else (some false)) else (some false)) else (some false)) else (some false))) else (none)) else (none)) else (some false))))))))))))
def laws_FnFields.f (k : Nat) (l0 : List Int) (l1 : List Int) : Option (Bool) := if (l0.length : Int) > 1048576 then (laws_FnFields.j0 k l0 l1 true) else (laws_FnFields.j0 k l0 l1 (decide ((l1.length : Int) > 1048576)))
theorem laws_FnFields.mono_l : ∀ k, (∀ y0 y1 y2, LeO (laws_FnFields.j0 k y0 y1 y2) (laws_FnFields.j0 (k + 1) y0 y1 y2))
  | 0 => fun _ _ _ r h => by simp [laws_FnFields.j0] at h
  | k + 1 => by
    have ih0 := laws_FnFields.mono_l k
    · intro y0 y1 y2
      unfold laws_FnFields.j0
      repeat' first
      | (with_reducible exact ih0 _ _ _)
      | (with_reducible exact LeO.refl _)
      | (with_reducible exact LeO.none _)
      | (with_reducible refine LeO.ite ?_ ?_)
      | (with_reducible refine LeO.bind ?_ (fun _ => ?_))
      | exact ih0 _ _ _
      | exact LeO.none _
      | refine LeO.ite ?_ ?_
      | refine LeO.bind ?_ (fun _ => ?_)
theorem laws_FnFields.mono : ∀ a0 a1 k, LeO (laws_FnFields.f k a0 a1) (laws_FnFields.f (k + 1) a0 a1) := by
  intro a0 a1 k
  have ih0 := laws_FnFields.mono_l k
  unfold laws_FnFields.f
  repeat' first
      | (with_reducible exact ih0 _ _ _)
      | (with_reducible exact LeO.refl _)
      | (with_reducible exact LeO.none _)
      | (with_reducible refine LeO.ite ?_ ?_)
      | (with_reducible refine LeO.bind ?_ (fun _ => ?_))
      | exact ih0 _ _ _
      | exact LeO.none _
      | refine LeO.ite ?_ ?_
      | refine LeO.bind ?_ (fun _ => ?_)
set_option maxHeartbeats 8000000 in
set_option maxRecDepth 100000 in
theorem laws_FnFields.calls (k : Nat) (A0 : Option Addr) (c0 : Nat) (l0 : List Int) (A1 : Option Addr) (c1 : Nat) (l1 : List Int) (r : Bool) (hT : r = true) (w : World) (hr0 : Kd.C (Kd.int .u8) w A0 l0.length l0) (hc0 : l0.length ≤ c0) (hr1 : Kd.C (Kd.int .u8) w A1 l1.length l1) (hc1 : l1.length ≤ c1) (h : laws_FnFields.f k l0 l1 = some r) :
    Calls Try.prog 3 #[.slice A0 l0.length c0, .slice A1 l1.length c1] w fun e w' => e = .returned (.bool r) ∧ Below w.heap.size w w' := by
  have HT := Aside0.mk hT
  clear hT
  have HR0 := Aside0.mk hr0
  have HC0 := Aside0.mk hc0
  clear hr0 hc0
  have HR1 := Aside0.mk hr1
  have HC1 := Aside0.mk hc1
  clear hr1 hc1
  have HB := Aside0.mk (Below.refl w.heap.size w)
  have H : (if (l0.length : Int) > 1048576 then (laws_FnFields.j0 k l0 l1 true) else (laws_FnFields.j0 k l0 l1 (decide ((l1.length : Int) > 1048576)))) = some r := h
  clear h
  have HC3 := Aside0.mk H
  clear H
  go_enter Try.func3, Try.ntmps3
  go_upto_region 1 with (fail)
  go_cut [28] (fun v28 wc => ∃ (kq : Nat) (x28_2 : Bool), v28 = .bool x28_2 ∧ Aside0 (laws_FnFields.j0 kq l0 l1 x28_2 = some r) ∧ Aside0 (kq ≤ k) ∧ Aside0 (Below w.heap.size w wc))
  case first =>
    have H := HC3.out
    clear HC3
    by_cases c4 : (l0.length : Int) > 1048576
    · rw [if_pos c4] at H
      have c4b0 : decide (1048576 < (l0.length : Int)) = true := decide_eq_true c4
      have c4b1 : decide (1048576 < l0.length) = true := decide_eq_true (by omega)
      clear c4
      (first | rw [c4b0] | (simp only [i64_w, i32_w]; rw [c4b0]) | skip)
      have H' := Aside0.mk H
      clear H
      go_wp2
      go_meet
      case rel => exact ⟨_, (true), (by first | rfl | (simp; done) | (simp [*]; done)), H', ⟨by first | omega | exact Nat.le_refl _⟩, ⟨by repeat (first | (with_reducible first | exact HB.out | apply below_alloc | apply pw_below_drewN | apply below_drew1) | exact HB.out)⟩⟩
    · rw [if_neg c4] at H
      have c4b0 : decide (1048576 < (l0.length : Int)) = false := decide_eq_false c4
      have c4b1 : decide (1048576 < l0.length) = false := decide_eq_false (by omega)
      clear c4
      (first | rw [c4b0] | (simp only [i64_w, i32_w]; rw [c4b0]) | skip)
      have H' := Aside0.mk H
      clear H
      go_wp2
      go_meet
      case rel => exact ⟨_, (decide ((l1.length : Int) > 1048576)), (by first | rfl | (simp; done) | (simp [*]; done)), H', ⟨by first | omega | exact Nat.le_refl _⟩, ⟨by repeat (first | (with_reducible first | exact HB.out | apply below_alloc | apply pw_below_drewN | apply below_drew1) | exact HB.out)⟩⟩
  case rest =>
    clear HC3
    try clear c1
    try clear p2
    try clear c3
    try clear c4
    try clear c4b0
    try clear c4b1
    obtain ⟨kq, x28_2, rfl, HA, HJ2, HB⟩ := hcut
    cases kq with
    | zero => exact absurd HA.out (by simp [laws_FnFields.j0])
    | succ kj2 =>
      have H := HA.out
      clear HA
      simp only [laws_FnFields.j0] at H
      by_cases c5 : x28_2 = true
      · subst c5
        rw [if_pos rfl] at H
        obtain rfl := Option.some.inj H
        go_wp2
        go_ret
        exact ⟨by first | rfl | (simp [errW_none, errW_some] <;> rfl) | (simp [*, errW_none, errW_some] <;> rfl), by repeat (first | (with_reducible first | exact HB.out | apply below_alloc | apply pw_below_drewN | apply below_drew1) | exact HB.out)⟩
      · replace c5 := Bool.eq_false_iff.mpr c5
        subst c5
        rw [if_neg (show ¬ (false = true) by decide)] at H
        replace H := Option.bind_eq_some_iff.mp H
        obtain ⟨t184, A60, H⟩ := H
        try dsimp only at H
        have A6 := Aside0.mk A60
        clear A60
        replace H := Option.bind_eq_some_iff.mp H
        obtain ⟨t185, A70, H⟩ := H
        try dsimp only at H
        have A7 := Aside0.mk A70
        clear A70
        replace H := Option.bind_eq_some_iff.mp H
        obtain ⟨t186, A80, H⟩ := H
        try dsimp only at H
        have A8 := Aside0.mk A80
        clear A80
        replace H := Option.bind_eq_some_iff.mp H
        obtain ⟨t187, A90, H⟩ := H
        try dsimp only at H
        have A9 := Aside0.mk A90
        clear A90
        replace H := Option.bind_eq_some_iff.mp H
        obtain ⟨⟨t188, t189⟩, A100, H⟩ := H
        try dsimp only at H
        have A10 := Aside0.mk A100
        clear A100
        replace H := Option.bind_eq_some_iff.mp H
        obtain ⟨⟨t190, t191⟩, A110, H⟩ := H
        try dsimp only at H
        have A11 := Aside0.mk A110
        clear A110
        replace H := Option.bind_eq_some_iff.mp H
        obtain ⟨⟨t192, t193⟩, A120, H⟩ := H
        try dsimp only at H
        have A12 := Aside0.mk A120
        clear A120
        replace H := Option.bind_eq_some_iff.mp H
        obtain ⟨⟨t194, t195⟩, A130, H⟩ := H
        try dsimp only at H
        have A13 := Aside0.mk A130
        clear A130
        replace H := Option.bind_eq_some_iff.mp H
        obtain ⟨⟨t196, t197⟩, A140, H⟩ := H
        try dsimp only at H
        have A14 := Aside0.mk A140
        clear A140
        replace H := Option.bind_eq_some_iff.mp H
        obtain ⟨⟨t198, t199⟩, A150, H⟩ := H
        try dsimp only at H
        have A15 := Aside0.mk A150
        clear A150
        by_cases c16 : t189 = 0
        · rw [if_pos c16] at H
          have c16b0 : (t189 == 0) = true := beq_iff_eq.mpr c16
          have c16b1 : (t189 != 0) = false := bne_eq_false_iff_eq.mpr c16
          clear c16
          obtain ⟨ji17, hji17⟩ : ∃ j_ : Int, (IntKind.u64.wrap (t186)) = j_ := ⟨_, rfl⟩
          replace H : (if 0 ≤ (ji17) then (if 0 ≤ (IntKind.u64.wrap (wrap64 (1 + t187))) then (if (shl .i64 1 (IntKind.u64.wrap (wrap64 (1 + t187)))) = 0 then (none) else (if t188 = (Int.tmod (shr .i64 t184 (ji17)) (shl .i64 1 (IntKind.u64.wrap (wrap64 (1 + t187))))) then (if t191 = 0 then (if t193 = 0 then (if t195 = 0 then (if t194 = t184 then (if t197 = 0 then (if t199 = 0 then (if t196 = t198 then (if 0 ≤ (IntKind.u64.wrap (wrap64 ((wrap64 (1 + t187)) - 1))) then (if (shl .i64 1 (IntKind.u64.wrap (wrap64 ((wrap64 (1 + t187)) - 1)))) = 0 then (none) else (if (Int.tmod (wrap64 (t196 - t185)) (shl .i64 1 (IntKind.u64.wrap (wrap64 ((wrap64 (1 + t187)) - 1))))) = 0 then (some ((wrap64 (t190 - t184)) == (shl .i64 (wrap64 (t192 - t188)) (ji17)))) else (some false))) else (none)) else (some false)) else (some false)) else (some false)) else (some false)) else (some false)) else (some false)) else (some false)) else (some false))) else (none)) else (none)) = some r := by first | (rw [hji17] at H; exact H) | (simp only [hji17] at H ⊢; exact H)
          (try rw [hji17] at A6)
          (try rw [hji17] at A7)
          (try rw [hji17] at A8)
          (try rw [hji17] at A9)
          (try rw [hji17] at A10)
          (try rw [hji17] at A11)
          (try rw [hji17] at A12)
          (try rw [hji17] at A13)
          (try rw [hji17] at A14)
          (try rw [hji17] at A15)
          by_cases c18 : 0 ≤ (ji17)
          · rw [if_pos c18] at H
            have c18b0 := eq_true c18
            have c18b1 : decide (0 ≤ (ji17)) = true := decide_eq_true c18
            clear c18
            obtain ⟨ji19, hji19⟩ : ∃ j_ : Int, (shr .i64 t184 (ji17)) = j_ := ⟨_, rfl⟩
            replace H : (if 0 ≤ (IntKind.u64.wrap (wrap64 (1 + t187))) then (if (shl .i64 1 (IntKind.u64.wrap (wrap64 (1 + t187)))) = 0 then (none) else (if t188 = (Int.tmod (ji19) (shl .i64 1 (IntKind.u64.wrap (wrap64 (1 + t187))))) then (if t191 = 0 then (if t193 = 0 then (if t195 = 0 then (if t194 = t184 then (if t197 = 0 then (if t199 = 0 then (if t196 = t198 then (if 0 ≤ (IntKind.u64.wrap (wrap64 ((wrap64 (1 + t187)) - 1))) then (if (shl .i64 1 (IntKind.u64.wrap (wrap64 ((wrap64 (1 + t187)) - 1)))) = 0 then (none) else (if (Int.tmod (wrap64 (t196 - t185)) (shl .i64 1 (IntKind.u64.wrap (wrap64 ((wrap64 (1 + t187)) - 1))))) = 0 then (some ((wrap64 (t190 - t184)) == (shl .i64 (wrap64 (t192 - t188)) (ji17)))) else (some false))) else (none)) else (some false)) else (some false)) else (some false)) else (some false)) else (some false)) else (some false)) else (some false)) else (some false))) else (none)) = some r := by first | (rw [hji19] at H; exact H) | (simp only [hji19] at H ⊢; exact H)
            (try rw [hji19] at A6)
            (try rw [hji19] at A7)
            (try rw [hji19] at A8)
            (try rw [hji19] at A9)
            (try rw [hji19] at A10)
            (try rw [hji19] at A11)
            (try rw [hji19] at A12)
            (try rw [hji19] at A13)
            (try rw [hji19] at A14)
            (try rw [hji19] at A15)
            have hji19_ : (t184 / 2 ^ min (ji17).toNat 64) = ji19 := hji19
            have hji19z : (ji17) ≤ 64 → (t184 / 2 ^ (ji17).toNat) = ji19 := shr_small hji19
            obtain ⟨ji20, hji20⟩ : ∃ j_ : Int, (IntKind.u64.wrap (wrap64 (1 + t187))) = j_ := ⟨_, rfl⟩
            replace H : (if 0 ≤ (ji20) then (if (shl .i64 1 (ji20)) = 0 then (none) else (if t188 = (Int.tmod (ji19) (shl .i64 1 (ji20))) then (if t191 = 0 then (if t193 = 0 then (if t195 = 0 then (if t194 = t184 then (if t197 = 0 then (if t199 = 0 then (if t196 = t198 then (if 0 ≤ (IntKind.u64.wrap (wrap64 ((wrap64 (1 + t187)) - 1))) then (if (shl .i64 1 (IntKind.u64.wrap (wrap64 ((wrap64 (1 + t187)) - 1)))) = 0 then (none) else (if (Int.tmod (wrap64 (t196 - t185)) (shl .i64 1 (IntKind.u64.wrap (wrap64 ((wrap64 (1 + t187)) - 1))))) = 0 then (some ((wrap64 (t190 - t184)) == (shl .i64 (wrap64 (t192 - t188)) (ji17)))) else (some false))) else (none)) else (some false)) else (some false)) else (some false)) else (some false)) else (some false)) else (some false)) else (some false)) else (some false))) else (none)) = some r := by first | (rw [hji20] at H; exact H) | (simp only [hji20] at H ⊢; exact H)
            (try rw [hji20] at A6)
            (try rw [hji20] at A7)
            (try rw [hji20] at A8)
            (try rw [hji20] at A9)
            (try rw [hji20] at A10)
            (try rw [hji20] at A11)
            (try rw [hji20] at A12)
            (try rw [hji20] at A13)
            (try rw [hji20] at A14)
            (try rw [hji20] at A15)
            by_cases c21 : 0 ≤ (ji20)
            · rw [if_pos c21] at H
              have c21b0 := eq_true c21
              have c21b1 : decide (0 ≤ (ji20)) = true := decide_eq_true c21
              clear c21
              obtain ⟨ji22, hji22⟩ : ∃ j_ : Int, (shl .i64 1 (ji20)) = j_ := ⟨_, rfl⟩
              replace H : (if (ji22) = 0 then (none) else (if t188 = (Int.tmod (ji19) (ji22)) then (if t191 = 0 then (if t193 = 0 then (if t195 = 0 then (if t194 = t184 then (if t197 = 0 then (if t199 = 0 then (if t196 = t198 then (if 0 ≤ (IntKind.u64.wrap (wrap64 ((wrap64 (1 + t187)) - 1))) then (if (shl .i64 1 (IntKind.u64.wrap (wrap64 ((wrap64 (1 + t187)) - 1)))) = 0 then (none) else (if (Int.tmod (wrap64 (t196 - t185)) (shl .i64 1 (IntKind.u64.wrap (wrap64 ((wrap64 (1 + t187)) - 1))))) = 0 then (some ((wrap64 (t190 - t184)) == (shl .i64 (wrap64 (t192 - t188)) (ji17)))) else (some false))) else (none)) else (some false)) else (some false)) else (some false)) else (some false)) else (some false)) else (some false)) else (some false)) else (some false))) = some r := by first | (rw [hji22] at H; exact H) | (simp only [hji22] at H ⊢; exact H)
              (try rw [hji22] at A6)
              (try rw [hji22] at A7)
              (try rw [hji22] at A8)
              (try rw [hji22] at A9)
              (try rw [hji22] at A10)
              (try rw [hji22] at A11)
              (try rw [hji22] at A12)
              (try rw [hji22] at A13)
              (try rw [hji22] at A14)
              (try rw [hji22] at A15)
              have hji22_ : (IntKind.i64.wrap (1 * 2 ^ min (ji20).toNat 64)) = ji22 := hji22
              have hji22z : (ji20) ≤ 64 → (IntKind.i64.wrap (1 * 2 ^ (ji20).toNat)) = ji22 := shl_small hji22
              have hji22u : (IntKind.i64.wrap (2 ^ min (ji20).toNat 64)) = ji22 := by have h_ := hji22_; rw [Int.one_mul] at h_; exact h_
              have hji22v : (ji20) ≤ 64 → (IntKind.i64.wrap (2 ^ (ji20).toNat)) = ji22 := fun hle_ => by have h_ := hji22z hle_; rw [Int.one_mul] at h_; exact h_
              have hji22y : (wrap64 (1 * 2 ^ min (ji20).toNat 64)) = ji22 := (i64_w _).symm.trans hji22_
              have hji22x : (ji20) ≤ 64 → (wrap64 (1 * 2 ^ (ji20).toNat)) = ji22 := fun h_ => (i64_w _).symm.trans (hji22z h_)
              by_cases c23 : (ji22) = 0
              · rw [if_pos c23] at H
                exact absurd H (by simp)
              · rw [if_neg c23] at H
                have c23b0 : ((ji22) == 0) = false := beq_eq_false_iff_ne.mpr c23
                have c23b1 : ((ji22) != 0) = true := bne_iff_ne.mpr c23
                by_cases c24 : t188 = (Int.tmod (ji19) (ji22))
                · rw [if_pos c24] at H
                  have c24b0 : (t188 == (Int.tmod (ji19) (ji22))) = true := beq_iff_eq.mpr c24
                  have c24b1 : (t188 != (Int.tmod (ji19) (ji22))) = false := bne_eq_false_iff_eq.mpr c24
                  clear c24
                  by_cases c25 : t191 = 0
                  · rw [if_pos c25] at H
                    have c25b0 : (t191 == 0) = true := beq_iff_eq.mpr c25
                    have c25b1 : (t191 != 0) = false := bne_eq_false_iff_eq.mpr c25
                    clear c25
                    by_cases c26 : t193 = 0
                    · rw [if_pos c26] at H
                      have c26b0 : (t193 == 0) = true := beq_iff_eq.mpr c26
                      have c26b1 : (t193 != 0) = false := bne_eq_false_iff_eq.mpr c26
                      clear c26
                      by_cases c27 : t195 = 0
                      · rw [if_pos c27] at H
                        have c27b0 : (t195 == 0) = true := beq_iff_eq.mpr c27
                        have c27b1 : (t195 != 0) = false := bne_eq_false_iff_eq.mpr c27
                        clear c27
                        by_cases c28 : t194 = t184
                        · rw [if_pos c28] at H
                          have c28b0 : (t194 == t184) = true := beq_iff_eq.mpr c28
                          have c28b1 : (t194 != t184) = false := bne_eq_false_iff_eq.mpr c28
                          clear c28
                          by_cases c29 : t197 = 0
                          · rw [if_pos c29] at H
                            have c29b0 : (t197 == 0) = true := beq_iff_eq.mpr c29
                            have c29b1 : (t197 != 0) = false := bne_eq_false_iff_eq.mpr c29
                            clear c29
                            by_cases c30 : t199 = 0
                            · rw [if_pos c30] at H
                              have c30b0 : (t199 == 0) = true := beq_iff_eq.mpr c30
                              have c30b1 : (t199 != 0) = false := bne_eq_false_iff_eq.mpr c30
                              clear c30
                              by_cases c31 : t196 = t198
                              · rw [if_pos c31] at H
                                have c31b0 : (t196 == t198) = true := beq_iff_eq.mpr c31
                                have c31b1 : (t196 != t198) = false := bne_eq_false_iff_eq.mpr c31
                                clear c31
                                obtain ⟨ji32, hji32⟩ : ∃ j_ : Int, (IntKind.u64.wrap (wrap64 ((wrap64 (1 + t187)) - 1))) = j_ := ⟨_, rfl⟩
                                replace H : (if 0 ≤ (ji32) then (if (shl .i64 1 (ji32)) = 0 then (none) else (if (Int.tmod (wrap64 (t196 - t185)) (shl .i64 1 (ji32))) = 0 then (some ((wrap64 (t190 - t184)) == (shl .i64 (wrap64 (t192 - t188)) (ji17)))) else (some false))) else (none)) = some r := by first | (rw [hji32] at H; exact H) | (simp only [hji32] at H ⊢; exact H)
                                (try rw [hji32] at A6)
                                (try rw [hji32] at A7)
                                (try rw [hji32] at A8)
                                (try rw [hji32] at A9)
                                (try rw [hji32] at A10)
                                (try rw [hji32] at A11)
                                (try rw [hji32] at A12)
                                (try rw [hji32] at A13)
                                (try rw [hji32] at A14)
                                (try rw [hji32] at A15)
                                by_cases c33 : 0 ≤ (ji32)
                                · rw [if_pos c33] at H
                                  have c33b0 := eq_true c33
                                  have c33b1 : decide (0 ≤ (ji32)) = true := decide_eq_true c33
                                  clear c33
                                  obtain ⟨ji34, hji34⟩ : ∃ j_ : Int, (shl .i64 1 (ji32)) = j_ := ⟨_, rfl⟩
                                  replace H : (if (ji34) = 0 then (none) else (if (Int.tmod (wrap64 (t196 - t185)) (ji34)) = 0 then (some ((wrap64 (t190 - t184)) == (shl .i64 (wrap64 (t192 - t188)) (ji17)))) else (some false))) = some r := by first | (rw [hji34] at H; exact H) | (simp only [hji34] at H ⊢; exact H)
                                  (try rw [hji34] at A6)
                                  (try rw [hji34] at A7)
                                  (try rw [hji34] at A8)
                                  (try rw [hji34] at A9)
                                  (try rw [hji34] at A10)
                                  (try rw [hji34] at A11)
                                  (try rw [hji34] at A12)
                                  (try rw [hji34] at A13)
                                  (try rw [hji34] at A14)
                                  (try rw [hji34] at A15)
                                  have hji34_ : (IntKind.i64.wrap (1 * 2 ^ min (ji32).toNat 64)) = ji34 := hji34
                                  have hji34z : (ji32) ≤ 64 → (IntKind.i64.wrap (1 * 2 ^ (ji32).toNat)) = ji34 := shl_small hji34
                                  have hji34u : (IntKind.i64.wrap (2 ^ min (ji32).toNat 64)) = ji34 := by have h_ := hji34_; rw [Int.one_mul] at h_; exact h_
                                  have hji34v : (ji32) ≤ 64 → (IntKind.i64.wrap (2 ^ (ji32).toNat)) = ji34 := fun hle_ => by have h_ := hji34z hle_; rw [Int.one_mul] at h_; exact h_
                                  have hji34y : (wrap64 (1 * 2 ^ min (ji32).toNat 64)) = ji34 := (i64_w _).symm.trans hji34_
                                  have hji34x : (ji32) ≤ 64 → (wrap64 (1 * 2 ^ (ji32).toNat)) = ji34 := fun h_ => (i64_w _).symm.trans (hji34z h_)
                                  by_cases c35 : (ji34) = 0
                                  · rw [if_pos c35] at H
                                    exact absurd H (by simp)
                                  · rw [if_neg c35] at H
                                    have c35b0 : ((ji34) == 0) = false := beq_eq_false_iff_ne.mpr c35
                                    have c35b1 : ((ji34) != 0) = true := bne_iff_ne.mpr c35
                                    by_cases c36 : (Int.tmod (wrap64 (t196 - t185)) (ji34)) = 0
                                    · rw [if_pos c36] at H
                                      have c36b0 : ((Int.tmod (wrap64 (t196 - t185)) (ji34)) == 0) = true := beq_iff_eq.mpr c36
                                      have c36b1 : ((Int.tmod (wrap64 (t196 - t185)) (ji34)) != 0) = false := bne_eq_false_iff_eq.mpr c36
                                      clear c36
                                      have c37b0 := eq_true (of_decide_eq_true (by first | (with_reducible assumption) | assumption) : 0 ≤ (ji17))
                                      obtain ⟨ji38, hji38⟩ : ∃ j_ : Int, (shl .i64 (wrap64 (t192 - t188)) (ji17)) = j_ := ⟨_, rfl⟩
                                      replace H : (some ((wrap64 (t190 - t184)) == (ji38))) = some r := by first | (rw [hji38] at H; exact H) | (simp only [hji38] at H ⊢; exact H)
                                      (try rw [hji38] at A6)
                                      (try rw [hji38] at A7)
                                      (try rw [hji38] at A8)
                                      (try rw [hji38] at A9)
                                      (try rw [hji38] at A10)
                                      (try rw [hji38] at A11)
                                      (try rw [hji38] at A12)
                                      (try rw [hji38] at A13)
                                      (try rw [hji38] at A14)
                                      (try rw [hji38] at A15)
                                      have hji38_ : (IntKind.i64.wrap ((wrap64 (t192 - t188)) * 2 ^ min (ji17).toNat 64)) = ji38 := hji38
                                      have hji38z : (ji17) ≤ 64 → (IntKind.i64.wrap ((wrap64 (t192 - t188)) * 2 ^ (ji17).toNat)) = ji38 := shl_small hji38
                                      have hji38y : (wrap64 ((wrap64 (t192 - t188)) * 2 ^ min (ji17).toNat 64)) = ji38 := (i64_w _).symm.trans hji38_
                                      have hji38x : (ji17) ≤ 64 → (wrap64 ((wrap64 (t192 - t188)) * 2 ^ (ji17).toNat)) = ji38 := fun h_ => (i64_w _).symm.trans (hji38z h_)
                                      obtain rfl := Option.some.inj H
                                      go_wp2_with (first | ((with_reducible refine gate_callee (f := 15) rfl ?_); refine goesL_ (some 30) rfl rfl Try.func15 (by kernel_rfl) rfl #[.slice A0 l0.length c0] rfl (by (try simp only [List.map_toArray, List.map_cons, List.map_nil]); first | done | rfl | (simp only [List.length_drop, List.length_take]; rfl)) ?_; (with_reducible refine (spec_WordDrawn.calls _ _ l0 t184 _ ?side1 ?side2 A6.out).mono ?_); (case side1 => repeat (first | exact (Kd.C_below HR0.out HB.out) | (with_reducible refine Kd.C_alloc ?_ _) | (with_reducible refine Kd.C_drewN ?_ _) | (with_reducible refine Kd.C_drew ?_))); (case side2 => exact HC0.out); rintro e w39 ⟨rfl, hb⟩; refine ⟨_, rfl, ?_⟩; have n0_ := Aside0.mk (below_step (by repeat (first | (with_reducible first | exact HB.out | apply below_alloc | apply pw_below_drewN | apply below_drew1) | exact HB.out)) hb); clear HB; have HB := n0_; clear n0_; (try clear hb); (try clear hb2); (try clear hk); (try clear hi)) | ((with_reducible refine gate_callee (f := 16) rfl ?_); refine goesL_ (some 32) rfl rfl Try.func16 (by kernel_rfl) rfl #[.slice A1 l1.length c1] rfl (by (try simp only [List.map_toArray, List.map_cons, List.map_nil]); first | done | rfl | (simp only [List.length_drop, List.length_take]; rfl)) ?_; (with_reducible refine (spec_NumberOf.calls _ _ l1 t185 _ ?side1 ?side2 A7.out).mono ?_); (case side1 => repeat (first | exact (Kd.C_below HR1.out HB.out) | (with_reducible refine Kd.C_alloc ?_ _) | (with_reducible refine Kd.C_drewN ?_ _) | (with_reducible refine Kd.C_drew ?_))); (case side2 => exact HC1.out); rintro e w40 ⟨rfl, hb⟩; refine ⟨_, rfl, ?_⟩; have n0_ := Aside0.mk (below_step (by repeat (first | (with_reducible first | exact HB.out | apply below_alloc | apply pw_below_drewN | apply below_drew1) | exact HB.out)) hb); clear HB; have HB := n0_; clear n0_; (try clear hb); (try clear hb2); (try clear hk); (try clear hi)) | ((with_reducible refine gate_callee (f := 17) rfl ?_); refine goesL_ (some 34) rfl rfl Try.func17 (by kernel_rfl) rfl #[.slice A1 l1.length c1, .int .i64 0, .int .i64 32] rfl (by (try simp only [List.map_toArray, List.map_cons, List.map_nil]); first | done | rfl | (simp only [List.length_drop, List.length_take]; rfl)) ?_; (with_reducible refine (laws_at.calls _ _ l1 0 32 t186 _ ?side1 ?side2 A8.out).mono ?_); (case side1 => repeat (first | exact (Kd.C_below HR1.out HB.out) | (with_reducible refine Kd.C_alloc ?_ _) | (with_reducible refine Kd.C_drewN ?_ _) | (with_reducible refine Kd.C_drew ?_))); (case side2 => exact HC1.out); rintro e w' ⟨rfl, ⟨nd, rfl⟩⟩; refine ⟨_, rfl, ?_⟩) | ((with_reducible refine gate_callee (f := 17) rfl ?_); refine goesL_ (some 38) rfl rfl Try.func17 (by kernel_rfl) rfl #[.slice A1 l1.length c1, .int .i64 1, .int .i64 (wrap64 (32 - t186))] rfl (by (try simp only [List.map_toArray, List.map_cons, List.map_nil]); first | done | rfl | (simp only [List.length_drop, List.length_take]; rfl)) ?_; (with_reducible refine (laws_at.calls _ _ l1 1 (wrap64 (32 - t186)) t187 _ ?side1 ?side2 A9.out).mono ?_); (case side1 => repeat (first | exact (Kd.C_below HR1.out (by repeat (first | (with_reducible first | exact HB.out | apply below_alloc | apply pw_below_drewN | apply below_drew1) | exact HB.out))) | (with_reducible refine Kd.C_alloc ?_ _) | (with_reducible refine Kd.C_drewN ?_ _) | (with_reducible refine Kd.C_drew ?_))); (case side2 => exact HC1.out); rintro e w' ⟨rfl, ⟨nd, rfl⟩⟩; refine ⟨_, rfl, ?_⟩) | ((with_reducible refine gate_callee (f := 18) rfl ?_); refine goesL_ (some 44) rfl rfl Try.func18 (by kernel_rfl) rfl #[.int .i64 t184, .int .i64 t186, .int .i64 (wrap64 (1 + t187))] rfl (by (try simp only [List.map_toArray, List.map_cons, List.map_nil]); first | done | rfl | (simp only [List.length_drop, List.length_take]; rfl)) ?_; (with_reducible refine (impl_FieldOf.calls t184 t186 (wrap64 (1 + t187)) t188 t189 _ A10.out).mono ?_); rintro e w' ⟨rfl, ⟨nd, rfl⟩⟩; refine ⟨_, rfl, ?_⟩) | ((with_reducible refine gate_callee (f := 19) rfl ?_); refine goesL_ (some 52) rfl rfl Try.func19 (by kernel_rfl) rfl #[.int .i64 t184, .int .i64 t186, .int .i64 (wrap64 (1 + t187)), .int .i64 t185] rfl (by (try simp only [List.map_toArray, List.map_cons, List.map_nil]); first | done | rfl | (simp only [List.length_drop, List.length_take]; rfl)) ?_; (with_reducible refine (impl_PutField.calls t184 t186 (wrap64 (1 + t187)) t185 t190 t191 _ A11.out).mono ?_); rintro e w' ⟨rfl, ⟨nd, rfl⟩⟩; refine ⟨_, rfl, ?_⟩) | ((with_reducible refine gate_callee (f := 18) rfl ?_); refine goesL_ (some 59) rfl rfl Try.func18 (by kernel_rfl) rfl #[.int .i64 t190, .int .i64 t186, .int .i64 (wrap64 (1 + t187))] rfl (by (try simp only [List.map_toArray, List.map_cons, List.map_nil]); first | done | rfl | (simp only [List.length_drop, List.length_take]; rfl)) ?_; (with_reducible refine (impl_FieldOf.calls t190 t186 (wrap64 (1 + t187)) t192 t193 _ A12.out).mono ?_); rintro e w' ⟨rfl, ⟨nd, rfl⟩⟩; refine ⟨_, rfl, ?_⟩) | ((with_reducible refine gate_callee (f := 19) rfl ?_); refine goesL_ (some 67) rfl rfl Try.func19 (by kernel_rfl) rfl #[.int .i64 t190, .int .i64 t186, .int .i64 (wrap64 (1 + t187)), .int .i64 t188] rfl (by (try simp only [List.map_toArray, List.map_cons, List.map_nil]); first | done | rfl | (simp only [List.length_drop, List.length_take]; rfl)) ?_; (with_reducible refine (impl_PutField.calls t190 t186 (wrap64 (1 + t187)) t188 t194 t195 _ A13.out).mono ?_); rintro e w' ⟨rfl, ⟨nd, rfl⟩⟩; refine ⟨_, rfl, ?_⟩) | ((with_reducible refine gate_callee (f := 20) rfl ?_); refine goesL_ (some 73) rfl rfl Try.func20 (by kernel_rfl) rfl #[.int .i64 t185, .int .i64 (wrap64 (1 + t187))] rfl (by (try simp only [List.map_toArray, List.map_cons, List.map_nil]); first | done | rfl | (simp only [List.length_drop, List.length_take]; rfl)) ?_; (with_reducible refine (impl_SignOf.calls t185 (wrap64 (1 + t187)) t196 t197 _ A14.out).mono ?_); rintro e w' ⟨rfl, ⟨nd, rfl⟩⟩; refine ⟨_, rfl, ?_⟩) | ((with_reducible refine gate_callee (f := 20) rfl ?_); refine goesL_ (some 79) rfl rfl Try.func20 (by kernel_rfl) rfl #[.int .i64 t192, .int .i64 (wrap64 (1 + t187))] rfl (by (try simp only [List.map_toArray, List.map_cons, List.map_nil]); first | done | rfl | (simp only [List.length_drop, List.length_take]; rfl)) ?_; (with_reducible refine (impl_SignOf.calls t192 (wrap64 (1 + t187)) t198 t199 _ A15.out).mono ?_); rintro e w' ⟨rfl, ⟨nd, rfl⟩⟩; refine ⟨_, rfl, ?_⟩))
                                      go_ret
                                      exact ⟨by first | rfl | (simp [errW_none, errW_some] <;> rfl) | (simp only [← hji17, ← hji19, ← hji20, ← hji22, ← hji32, ← hji34, ← hji38]; first | rfl | (simp [errW_none, errW_some] <;> rfl)) | (simp [*, errW_none, errW_some] <;> rfl), by repeat (first | (with_reducible first | exact HB.out | apply below_alloc | apply pw_below_drewN | apply below_drew1) | exact HB.out)⟩
                                    · rw [if_neg c36] at H
                                      have c36b0 : ((Int.tmod (wrap64 (t196 - t185)) (ji34)) == 0) = false := beq_eq_false_iff_ne.mpr c36
                                      have c36b1 : ((Int.tmod (wrap64 (t196 - t185)) (ji34)) != 0) = true := bne_iff_ne.mpr c36
                                      exact absurd ((Option.some.inj H).trans HT.out) (by decide)
                                · rw [if_neg c33] at H
                                  exact absurd H (by simp)
                              · rw [if_neg c31] at H
                                have c31b0 : (t196 == t198) = false := beq_eq_false_iff_ne.mpr c31
                                have c31b1 : (t196 != t198) = true := bne_iff_ne.mpr c31
                                exact absurd ((Option.some.inj H).trans HT.out) (by decide)
                            · rw [if_neg c30] at H
                              have c30b0 : (t199 == 0) = false := beq_eq_false_iff_ne.mpr c30
                              have c30b1 : (t199 != 0) = true := bne_iff_ne.mpr c30
                              exact absurd ((Option.some.inj H).trans HT.out) (by decide)
                          · rw [if_neg c29] at H
                            have c29b0 : (t197 == 0) = false := beq_eq_false_iff_ne.mpr c29
                            have c29b1 : (t197 != 0) = true := bne_iff_ne.mpr c29
                            exact absurd ((Option.some.inj H).trans HT.out) (by decide)
                        · rw [if_neg c28] at H
                          have c28b0 : (t194 == t184) = false := beq_eq_false_iff_ne.mpr c28
                          have c28b1 : (t194 != t184) = true := bne_iff_ne.mpr c28
                          exact absurd ((Option.some.inj H).trans HT.out) (by decide)
                      · rw [if_neg c27] at H
                        have c27b0 : (t195 == 0) = false := beq_eq_false_iff_ne.mpr c27
                        have c27b1 : (t195 != 0) = true := bne_iff_ne.mpr c27
                        exact absurd ((Option.some.inj H).trans HT.out) (by decide)
                    · rw [if_neg c26] at H
                      have c26b0 : (t193 == 0) = false := beq_eq_false_iff_ne.mpr c26
                      have c26b1 : (t193 != 0) = true := bne_iff_ne.mpr c26
                      exact absurd ((Option.some.inj H).trans HT.out) (by decide)
                  · rw [if_neg c25] at H
                    have c25b0 : (t191 == 0) = false := beq_eq_false_iff_ne.mpr c25
                    have c25b1 : (t191 != 0) = true := bne_iff_ne.mpr c25
                    exact absurd ((Option.some.inj H).trans HT.out) (by decide)
                · rw [if_neg c24] at H
                  have c24b0 : (t188 == (Int.tmod (ji19) (ji22))) = false := beq_eq_false_iff_ne.mpr c24
                  have c24b1 : (t188 != (Int.tmod (ji19) (ji22))) = true := bne_iff_ne.mpr c24
                  exact absurd ((Option.some.inj H).trans HT.out) (by decide)
            · rw [if_neg c21] at H
              exact absurd H (by simp)
          · rw [if_neg c18] at H
            exact absurd H (by simp)
        · rw [if_neg c16] at H
          have c16b0 : (t189 == 0) = false := beq_eq_false_iff_ne.mpr c16
          have c16b1 : (t189 != 0) = true := bne_iff_ne.mpr c16
          exact absurd ((Option.some.inj H).trans HT.out) (by decide)

/-- THE ONE PURE STATEMENT of laws_FnFields: yours. -/
def laws_FnFields.Pure : Prop := ∀ (l0 : List Int) (l1 : List Int), l0.length ≤ maxLen → l0.length * 1 ≤ 140737488351232 → (∀ x ∈ l0, (Lit.int .u8 x).wf = true) → l1.length ≤ maxLen → l1.length * 1 ≤ 140737488351232 → (∀ x ∈ l1, (Lit.int .u8 x).wf = true) → ∃ k, laws_FnFields.f k l0 l1 = some true
theorem laws_FnFields.walk (P : laws_FnFields.Pure) (a0 : Option Addr) (len0 cap0 : Nat) (z0 : List Int) (a1 : Option Addr) (len1 cap1 : Nat) (z1 : List Int) (w : World) (w0 : (a0 = none ∧ len0 = 0 ∧ cap0 = 0 ∧ z0 = []) ∨ ∃ x, a0 = some x ∧ len0 ≤ cap0 ∧ cap0 ≤ maxLen ∧ z0.length = cap0 ∧ (∀ i, i < z0.length → w.cell? (x.add i) = some (.int .u8 (z0.getD i 0))) ∧ ∀ n ∈ z0, (Lit.int .u8 n).wf = true) (y0 : len0 * 1 ≤ 140737488351232) (w1 : (a1 = none ∧ len1 = 0 ∧ cap1 = 0 ∧ z1 = []) ∨ ∃ x, a1 = some x ∧ len1 ≤ cap1 ∧ cap1 ≤ maxLen ∧ z1.length = cap1 ∧ (∀ i, i < z1.length → w.cell? (x.add i) = some (.int .u8 (z1.getD i 0))) ∧ ∀ n ∈ z1, (Lit.int .u8 n).wf = true) (y1 : len1 * 1 ≤ 140737488351232) :
    Calls Try.prog 3 #[.slice a0 len0 cap0, .slice a1 len1 cap1] w fun e w' => e = .returned (.bool true) ∧ Below w.heap.size w w' := by
  obtain ⟨l0, rfl, hr0, hm0, hw0, hc0⟩ := ReadsInt.ofRowC w0
  obtain ⟨l1, rfl, hr1, hm1, hw1, hc1⟩ := ReadsInt.ofRowC w1
  obtain ⟨k, h⟩ := P l0 l1 hm0 y0 hw0 hm1 y1 hw1
  refine (laws_FnFields.calls k _ _ l0 _ _ l1 true rfl w (Kd.C_of_reads (d := (0 : Int)) (h1 := fun _ => rfl) hr0) hc0 (Kd.C_of_reads (d := (0 : Int)) (h1 := fun _ => rfl) hr1) hc1 h).mono ?_
  rintro e w' ⟨rfl, hd⟩
  exact ⟨rfl, hd⟩

end Go.Proofs.Ytbbaggpmhiickaa.PFnFields
