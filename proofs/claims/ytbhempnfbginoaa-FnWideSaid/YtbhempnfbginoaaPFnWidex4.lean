/- The walk of FnWide: each Go function that the law reaches as a plain Lean function, with the proof that a call does what it says; no conditions. Written by a program for this claim. -/
import Derived.Test.YtbhempnfbginoaaPFnWidex0
import Derived.Test.YtbhempnfbginoaaPFnWidex1
import Derived.Test.YtbhempnfbginoaaPFnWidex3
namespace Go.Proofs.Ytbhempnfbginoaa.PFnWide
open Go.RowKit Go.Proofs.YtbhempnfbginoaaW.PrintWords Go.Proofs.YtbhempnfbginoaaW.PrintLast Go.Proofs.YtbhempnfbginoaaW.PrintMore
attribute [local go_sem] max2_int min2_int max_two min_two max_three min_three max_four min_four   -- for this text's walks alone
set_option linter.unusedVariables false
set_option linter.unusedSimpArgs false

/-! ### laws_FnWide: function 11 -/
def laws_FnWide.j0 : Nat → List Int → List Int → Bool → Option (Bool)
  | 0, _, _, _ => none
  | k + 1, x0, x1, x28 => if x28 = true then (some true) else ((spec_NumberOf.f x0).bind fun t211 => ((spec_NumberOf.f x1).bind fun t212 => ((impl_MulWide.f t211 t212).bind fun bt213 => ((spec_MulWide.f k t211 t212).bind fun bt215 => ((impl_Compute.f k 50 t211 t212).bind fun bt217 => ((impl_Compute.f k 53 t211 t212).bind fun bt219 => ((impl_Compute.f k 52 t211 t212).bind fun bt221 => ((impl_Compute.f k 51 t211 t212).bind fun bt223 => (if t211 < 0 then ((laws_plus.f bt213.1 (wrap64 (-t212))).bind fun t225 => (if t212 < 0 then ((laws_plus.f t225 (wrap64 (-t211))).bind fun t226 => (if bt213.1 = bt215.1 then (if bt213.2 = bt215.2 then (if bt217.2 = 0 then (if bt217.1 = bt213.2 then (if bt213.2 = (wrap64 (IntKind.u64.wrap ((IntKind.u64.wrap (t211)) * (IntKind.u64.wrap (t212))))) then (if bt219.2 = 0 then (if bt219.1 = bt213.1 then (if bt221.2 = 0 then (if bt221.1 = t225 then (if bt223.2 = 0 then (some (bt223.1 == t226)) else (some false)) else (some false)) else (some false)) else (some false)) else (some false)) else (some false)) else (some false)) else (some false)) else (some false)) else (some false))) else (if bt213.1 = bt215.1 then (if bt213.2 = bt215.2 then (if bt217.2 = 0 then (if bt217.1 = bt213.2 then (if bt213.2 = (wrap64 (IntKind.u64.wrap ((IntKind.u64.wrap (t211)) * (IntKind.u64.wrap (t212))))) then (if bt219.2 = 0 then (if bt219.1 = bt213.1 then (if bt221.2 = 0 then (if bt221.1 = t225 then (if bt223.2 = 0 then (some (bt223.1 == t225)) else (some false)) else (some false)) else (some false)) else (some false)) else (some false)) else (some false)) else (some false)) else (some false)) else (some false)) else (some false)))) else (if t212 < 0 then ((laws_plus.f bt213.1 (wrap64 (-t211))).bind fun t227 => (if bt213.1 = bt215.1 then (if bt213.2 = bt215.2 then (if bt217.2 = 0 then (if bt217.1 = bt213.2 then (if bt213.2 = (wrap64 (IntKind.u64.wrap ((IntKind.u64.wrap (t211)) * (IntKind.u64.wrap (t212))))) then (if bt219.2 = 0 then (if bt219.1 = bt213.1 then (if bt221.2 = 0 then (if bt221.1 = bt213.1 then (if bt223.2 = 0 then (some (bt223.1 == t227)) else (some false)) else (some false)) else (some false)) else (some false)) else (some false)) else (some false)) else (some false)) else (some false)) else (some false)) else (some false))) else (if bt213.1 = bt215.1 then (if bt213.2 = bt215.2 then (if bt217.2 = 0 then (if bt217.1 = bt213.2 then (if bt213.2 = (wrap64 (IntKind.u64.wrap ((IntKind.u64.wrap (t211)) * (IntKind.u64.wrap (t212))))) then (if bt219.2 = 0 then (if bt219.1 = bt213.1 then (if bt221.2 = 0 then (if bt221.1 = bt213.1 then (if bt223.2 = 0 then (some (bt223.1 == bt213.1)) else (some false)) else (some false)) else (some false)) else (some false)) else (some false)) else (some false)) else (some false)) else (some false)) else (some false)) else (some false))))))))))))
def laws_FnWide.f (k : Nat) (l0 : List Int) (l1 : List Int) : Option (Bool) := if (l0.length : Int) > 1048576 then (laws_FnWide.j0 k l0 l1 true) else (laws_FnWide.j0 k l0 l1 (decide ((l1.length : Int) > 1048576)))
theorem laws_FnWide.mono_l : ∀ k, (∀ y0 y1 y2, LeO (laws_FnWide.j0 k y0 y1 y2) (laws_FnWide.j0 (k + 1) y0 y1 y2))
  | 0 => fun _ _ _ r h => by simp [laws_FnWide.j0] at h
  | k + 1 => by
    have ih0 := laws_FnWide.mono_l k
    · intro y0 y1 y2
      unfold laws_FnWide.j0
      repeat' first
      | (with_reducible exact ih0 _ _ _)
      | (with_reducible exact impl_Compute.mono _ _ _ _)
      | (with_reducible exact spec_MulWide.mono _ _ _)
      | (with_reducible exact LeO.refl _)
      | (with_reducible exact LeO.none _)
      | (with_reducible refine LeO.ite ?_ ?_)
      | (with_reducible refine LeO.bind ?_ (fun _ => ?_))
      | exact ih0 _ _ _
      | exact impl_Compute.mono _ _ _ _
      | exact spec_MulWide.mono _ _ _
      | exact LeO.none _
      | refine LeO.ite ?_ ?_
      | refine LeO.bind ?_ (fun _ => ?_)
theorem laws_FnWide.mono : ∀ a0 a1 k, LeO (laws_FnWide.f k a0 a1) (laws_FnWide.f (k + 1) a0 a1) := by
  intro a0 a1 k
  have ih0 := laws_FnWide.mono_l k
  unfold laws_FnWide.f
  repeat' first
      | (with_reducible exact ih0 _ _ _)
      | (with_reducible exact impl_Compute.mono _ _ _ _)
      | (with_reducible exact spec_MulWide.mono _ _ _)
      | (with_reducible exact LeO.refl _)
      | (with_reducible exact LeO.none _)
      | (with_reducible refine LeO.ite ?_ ?_)
      | (with_reducible refine LeO.bind ?_ (fun _ => ?_))
      | exact ih0 _ _ _
      | exact impl_Compute.mono _ _ _ _
      | exact spec_MulWide.mono _ _ _
      | exact LeO.none _
      | refine LeO.ite ?_ ?_
      | refine LeO.bind ?_ (fun _ => ?_)
set_option maxHeartbeats 8000000 in
set_option maxRecDepth 100000 in
theorem laws_FnWide.calls (k : Nat) (A0 : Option Addr) (c0 : Nat) (l0 : List Int) (A1 : Option Addr) (c1 : Nat) (l1 : List Int) (r : Bool) (hT : r = true) (w : World) (hr0 : Kd.C (Kd.int .u8) w A0 l0.length l0) (hc0 : l0.length ≤ c0) (hr1 : Kd.C (Kd.int .u8) w A1 l1.length l1) (hc1 : l1.length ≤ c1) (h : laws_FnWide.f k l0 l1 = some r) :
    Calls Try.prog 11 #[.slice A0 l0.length c0, .slice A1 l1.length c1] w fun e w' => e = .returned (.bool r) ∧ Below w.heap.size w w' := by
  have HT := Aside0.mk hT
  clear hT
  have HR0 := Aside0.mk hr0
  have HC0 := Aside0.mk hc0
  clear hr0 hc0
  have HR1 := Aside0.mk hr1
  have HC1 := Aside0.mk hc1
  clear hr1 hc1
  have HB := Aside0.mk (Below.refl w.heap.size w)
  have H : (if (l0.length : Int) > 1048576 then (laws_FnWide.j0 k l0 l1 true) else (laws_FnWide.j0 k l0 l1 (decide ((l1.length : Int) > 1048576)))) = some r := h
  clear h
  have HC3 := Aside0.mk H
  clear H
  go_enter Try.func11, Try.ntmps11
  go_upto_region 1 with (fail)
  go_cut [28] (fun v28 wc => ∃ (kq : Nat) (x28_2 : Bool), v28 = .bool x28_2 ∧ Aside0 (laws_FnWide.j0 kq l0 l1 x28_2 = some r) ∧ Aside0 (kq ≤ k) ∧ Aside0 (Below w.heap.size w wc))
  case first =>
    have H := HC3.out
    clear HC3
    by_cases c4 : (l0.length : Int) > 1048576
    · rw [if_pos c4] at H
      have c4b0 : decide (1048576 < (l0.length : Int)) = true := decide_eq_true c4
      have c4b1 : decide (1048576 < l0.length) = true := decide_eq_true (by omega)
      clear c4
      (first | rw [c4b0] | (simp only [i64_w, i32_w]; rw [c4b0]) | skip)
      have H' := Aside0.mk H
      clear H
      go_wp2
      go_meet
      case rel => exact ⟨_, (true), (by first | rfl | (simp; done) | (simp [*]; done)), H', ⟨by first | omega | exact Nat.le_refl _⟩, ⟨by repeat (first | (with_reducible first | exact HB.out | apply below_alloc | apply pw_below_drewN | apply below_drew1) | exact HB.out)⟩⟩
    · rw [if_neg c4] at H
      have c4b0 : decide (1048576 < (l0.length : Int)) = false := decide_eq_false c4
      have c4b1 : decide (1048576 < l0.length) = false := decide_eq_false (by omega)
      clear c4
      (first | rw [c4b0] | (simp only [i64_w, i32_w]; rw [c4b0]) | skip)
      have H' := Aside0.mk H
      clear H
      go_wp2
      go_meet
      case rel => exact ⟨_, (decide ((l1.length : Int) > 1048576)), (by first | rfl | (simp; done) | (simp [*]; done)), H', ⟨by first | omega | exact Nat.le_refl _⟩, ⟨by repeat (first | (with_reducible first | exact HB.out | apply below_alloc | apply pw_below_drewN | apply below_drew1) | exact HB.out)⟩⟩
  case rest =>
    clear HC3
    try clear c1
    try clear p2
    try clear c4
    try clear c4b0
    try clear c4b1
    obtain ⟨kq, x28_2, rfl, HA, HJ2, HB⟩ := hcut
    cases kq with
    | zero => exact absurd HA.out (by simp [laws_FnWide.j0])
    | succ kj2 =>
      have H := HA.out
      clear HA
      simp only [laws_FnWide.j0] at H
      by_cases c5 : x28_2 = true
      · subst c5
        rw [if_pos rfl] at H
        obtain rfl := Option.some.inj H
        go_wp2
        go_ret
        exact ⟨by first | rfl | (simp [errW_none, errW_some] <;> rfl) | (simp [*, errW_none, errW_some] <;> rfl), by repeat (first | (with_reducible first | exact HB.out | apply below_alloc | apply pw_below_drewN | apply below_drew1) | exact HB.out)⟩
      · replace c5 := Bool.eq_false_iff.mpr c5
        subst c5
        rw [if_neg (show ¬ (false = true) by decide)] at H
        replace H := Option.bind_eq_some_iff.mp H
        obtain ⟨t211, A60, H⟩ := H
        try dsimp only at H
        have A6 := Aside0.mk A60
        clear A60
        replace H := Option.bind_eq_some_iff.mp H
        obtain ⟨t212, A70, H⟩ := H
        try dsimp only at H
        have A7 := Aside0.mk A70
        clear A70
        replace H := Option.bind_eq_some_iff.mp H
        obtain ⟨⟨t213, t214⟩, A80, H⟩ := H
        try dsimp only at H
        have A8 := Aside0.mk A80
        clear A80
        replace H := Option.bind_eq_some_iff.mp H
        obtain ⟨⟨t215, t216⟩, A90, H⟩ := H
        try dsimp only at H
        have A9 := Aside0.mk A90
        clear A90
        replace H := Option.bind_eq_some_iff.mp H
        obtain ⟨⟨t217, t218⟩, A100, H⟩ := H
        try dsimp only at H
        have A10 := Aside0.mk A100
        clear A100
        replace H := Option.bind_eq_some_iff.mp H
        obtain ⟨⟨t219, t220⟩, A110, H⟩ := H
        try dsimp only at H
        have A11 := Aside0.mk A110
        clear A110
        replace H := Option.bind_eq_some_iff.mp H
        obtain ⟨⟨t221, t222⟩, A120, H⟩ := H
        try dsimp only at H
        have A12 := Aside0.mk A120
        clear A120
        replace H := Option.bind_eq_some_iff.mp H
        obtain ⟨⟨t223, t224⟩, A130, H⟩ := H
        try dsimp only at H
        have A13 := Aside0.mk A130
        clear A130
        by_cases c14 : t211 < 0
        · rw [if_pos c14] at H
          have c14b0 : decide (t211 < 0) = true := decide_eq_true c14
          clear c14
          replace H := Option.bind_eq_some_iff.mp H
          obtain ⟨t225, A150, H⟩ := H
          try dsimp only at H
          have A15 := Aside0.mk A150
          clear A150
          by_cases c16 : t212 < 0
          · rw [if_pos c16] at H
            have c16b0 : decide (t212 < 0) = true := decide_eq_true c16
            clear c16
            replace H := Option.bind_eq_some_iff.mp H
            obtain ⟨t226, A170, H⟩ := H
            try dsimp only at H
            have A17 := Aside0.mk A170
            clear A170
            by_cases c18 : t213 = t215
            · rw [if_pos c18] at H
              have c18b0 : (t213 == t215) = true := beq_iff_eq.mpr c18
              have c18b1 : (t213 != t215) = false := bne_eq_false_iff_eq.mpr c18
              clear c18
              by_cases c19 : t214 = t216
              · rw [if_pos c19] at H
                have c19b0 : (t214 == t216) = true := beq_iff_eq.mpr c19
                have c19b1 : (t214 != t216) = false := bne_eq_false_iff_eq.mpr c19
                clear c19
                by_cases c20 : t218 = 0
                · rw [if_pos c20] at H
                  have c20b0 : (t218 == 0) = true := beq_iff_eq.mpr c20
                  have c20b1 : (t218 != 0) = false := bne_eq_false_iff_eq.mpr c20
                  clear c20
                  by_cases c21 : t217 = t214
                  · rw [if_pos c21] at H
                    have c21b0 : (t217 == t214) = true := beq_iff_eq.mpr c21
                    have c21b1 : (t217 != t214) = false := bne_eq_false_iff_eq.mpr c21
                    clear c21
                    by_cases c22 : t214 = (wrap64 (IntKind.u64.wrap ((IntKind.u64.wrap (t211)) * (IntKind.u64.wrap (t212)))))
                    · rw [if_pos c22] at H
                      have c22b0 : (t214 == (wrap64 (IntKind.u64.wrap ((IntKind.u64.wrap (t211)) * (IntKind.u64.wrap (t212)))))) = true := beq_iff_eq.mpr c22
                      have c22b1 : (t214 != (wrap64 (IntKind.u64.wrap ((IntKind.u64.wrap (t211)) * (IntKind.u64.wrap (t212)))))) = false := bne_eq_false_iff_eq.mpr c22
                      clear c22
                      by_cases c23 : t220 = 0
                      · rw [if_pos c23] at H
                        have c23b0 : (t220 == 0) = true := beq_iff_eq.mpr c23
                        have c23b1 : (t220 != 0) = false := bne_eq_false_iff_eq.mpr c23
                        clear c23
                        by_cases c24 : t219 = t213
                        · rw [if_pos c24] at H
                          have c24b0 : (t219 == t213) = true := beq_iff_eq.mpr c24
                          have c24b1 : (t219 != t213) = false := bne_eq_false_iff_eq.mpr c24
                          clear c24
                          by_cases c25 : t222 = 0
                          · rw [if_pos c25] at H
                            have c25b0 : (t222 == 0) = true := beq_iff_eq.mpr c25
                            have c25b1 : (t222 != 0) = false := bne_eq_false_iff_eq.mpr c25
                            clear c25
                            by_cases c26 : t221 = t225
                            · rw [if_pos c26] at H
                              have c26b0 : (t221 == t225) = true := beq_iff_eq.mpr c26
                              have c26b1 : (t221 != t225) = false := bne_eq_false_iff_eq.mpr c26
                              clear c26
                              by_cases c27 : t224 = 0
                              · rw [if_pos c27] at H
                                have c27b0 : (t224 == 0) = true := beq_iff_eq.mpr c27
                                have c27b1 : (t224 != 0) = false := bne_eq_false_iff_eq.mpr c27
                                clear c27
                                obtain rfl := Option.some.inj H
                                go_wp2_with (first | ((with_reducible refine gate_callee (f := 33) rfl ?_); refine goesL_ (some 30) rfl rfl Try.func33 (by kernel_rfl) rfl #[.slice A0 l0.length c0] rfl (by (try simp only [List.map_toArray, List.map_cons, List.map_nil]); first | done | rfl | (simp only [List.length_drop, List.length_take]; rfl)) ?_; (with_reducible refine (spec_NumberOf.calls _ _ l0 t211 _ ?side1 ?side2 A6.out).mono ?_); (case side1 => repeat (first | exact (Kd.C_below HR0.out HB.out) | (with_reducible refine Kd.C_alloc ?_ _) | (with_reducible refine Kd.C_drewN ?_ _) | (with_reducible refine Kd.C_drew ?_))); (case side2 => exact HC0.out); rintro e w28 ⟨rfl, hb⟩; refine ⟨_, rfl, ?_⟩; have n0_ := Aside0.mk (below_step (by repeat (first | (with_reducible first | exact HB.out | apply below_alloc | apply pw_below_drewN | apply below_drew1) | exact HB.out)) hb); clear HB; have HB := n0_; clear n0_; (try clear hb); (try clear hb2); (try clear hk); (try clear hi)) | ((with_reducible refine gate_callee (f := 33) rfl ?_); refine goesL_ (some 32) rfl rfl Try.func33 (by kernel_rfl) rfl #[.slice A1 l1.length c1] rfl (by (try simp only [List.map_toArray, List.map_cons, List.map_nil]); first | done | rfl | (simp only [List.length_drop, List.length_take]; rfl)) ?_; (with_reducible refine (spec_NumberOf.calls _ _ l1 t212 _ ?side1 ?side2 A7.out).mono ?_); (case side1 => repeat (first | exact (Kd.C_below HR1.out HB.out) | (with_reducible refine Kd.C_alloc ?_ _) | (with_reducible refine Kd.C_drewN ?_ _) | (with_reducible refine Kd.C_drew ?_))); (case side2 => exact HC1.out); rintro e w29 ⟨rfl, hb⟩; refine ⟨_, rfl, ?_⟩; have n0_ := Aside0.mk (below_step (by repeat (first | (with_reducible first | exact HB.out | apply below_alloc | apply pw_below_drewN | apply below_drew1) | exact HB.out)) hb); clear HB; have HB := n0_; clear n0_; (try clear hb); (try clear hb2); (try clear hk); (try clear hi)) | ((with_reducible refine gate_callee (f := 34) rfl ?_); refine goesL_ (some 36) rfl rfl Try.func34 (by kernel_rfl) rfl #[.int .i64 t211, .int .i64 t212] rfl (by (try simp only [List.map_toArray, List.map_cons, List.map_nil]); first | done | rfl | (simp only [List.length_drop, List.length_take]; rfl)) ?_; (with_reducible refine (impl_MulWide.calls t211 t212 t213 t214 _ A8.out).mono ?_); rintro e w' ⟨rfl, ⟨nd, rfl⟩⟩; refine ⟨_, rfl, ?_⟩) | ((with_reducible refine gate_callee (f := 35) rfl ?_); refine goesL_ (some 42) rfl rfl Try.func35 (by kernel_rfl) rfl #[.int .i64 t211, .int .i64 t212] rfl (by (try simp only [List.map_toArray, List.map_cons, List.map_nil]); first | done | rfl | (simp only [List.length_drop, List.length_take]; rfl)) ?_; (with_reducible refine (spec_MulWide.calls kj2 t211 t212 t215 t216 _ A9.out).mono ?_); rintro e w' ⟨rfl, ⟨nd, rfl⟩⟩; refine ⟨_, rfl, ?_⟩) | ((with_reducible refine gate_callee (f := 36) rfl ?_); refine goesL_ (some 48) rfl rfl Try.func36 (by kernel_rfl) rfl #[.int .i64 50, .int .i64 t211, .int .i64 t212] rfl (by (try simp only [List.map_toArray, List.map_cons, List.map_nil]); first | done | rfl | (simp only [List.length_drop, List.length_take]; rfl)) ?_; (with_reducible refine (impl_Compute.calls kj2 50 t211 t212 t217 t218 _ A10.out).mono ?_); rintro e w' ⟨rfl, ⟨nd, rfl⟩⟩; refine ⟨_, rfl, ?_⟩) | ((with_reducible refine gate_callee (f := 36) rfl ?_); refine goesL_ (some 54) rfl rfl Try.func36 (by kernel_rfl) rfl #[.int .i64 53, .int .i64 t211, .int .i64 t212] rfl (by (try simp only [List.map_toArray, List.map_cons, List.map_nil]); first | done | rfl | (simp only [List.length_drop, List.length_take]; rfl)) ?_; (with_reducible refine (impl_Compute.calls kj2 53 t211 t212 t219 t220 _ A11.out).mono ?_); rintro e w' ⟨rfl, ⟨nd, rfl⟩⟩; refine ⟨_, rfl, ?_⟩) | ((with_reducible refine gate_callee (f := 36) rfl ?_); refine goesL_ (some 60) rfl rfl Try.func36 (by kernel_rfl) rfl #[.int .i64 52, .int .i64 t211, .int .i64 t212] rfl (by (try simp only [List.map_toArray, List.map_cons, List.map_nil]); first | done | rfl | (simp only [List.length_drop, List.length_take]; rfl)) ?_; (with_reducible refine (impl_Compute.calls kj2 52 t211 t212 t221 t222 _ A12.out).mono ?_); rintro e w' ⟨rfl, ⟨nd, rfl⟩⟩; refine ⟨_, rfl, ?_⟩) | ((with_reducible refine gate_callee (f := 36) rfl ?_); refine goesL_ (some 66) rfl rfl Try.func36 (by kernel_rfl) rfl #[.int .i64 51, .int .i64 t211, .int .i64 t212] rfl (by (try simp only [List.map_toArray, List.map_cons, List.map_nil]); first | done | rfl | (simp only [List.length_drop, List.length_take]; rfl)) ?_; (with_reducible refine (impl_Compute.calls kj2 51 t211 t212 t223 t224 _ A13.out).mono ?_); rintro e w' ⟨rfl, ⟨nd, rfl⟩⟩; refine ⟨_, rfl, ?_⟩) | ((with_reducible refine gate_callee (f := 37) rfl ?_); refine goesL_ (some 75) rfl rfl Try.func37 (by kernel_rfl) rfl #[.int .i64 t213, .int .i64 (wrap64 (-t212))] rfl (by (try simp only [List.map_toArray, List.map_cons, List.map_nil]); first | done | rfl | (simp only [List.length_drop, List.length_take]; rfl)) ?_; (with_reducible refine (laws_plus.calls t213 (wrap64 (-t212)) t225 _ A15.out).mono ?_); rintro e w' ⟨rfl, ⟨nd, rfl⟩⟩; refine ⟨_, rfl, ?_⟩) | ((with_reducible refine gate_callee (f := 37) rfl ?_); refine goesL_ (some 82) rfl rfl Try.func37 (by kernel_rfl) rfl #[.int .i64 t225, .int .i64 (wrap64 (-t211))] rfl (by (try simp only [List.map_toArray, List.map_cons, List.map_nil]); first | done | rfl | (simp only [List.length_drop, List.length_take]; rfl)) ?_; (with_reducible refine (laws_plus.calls t225 (wrap64 (-t211)) t226 _ A17.out).mono ?_); rintro e w' ⟨rfl, ⟨nd, rfl⟩⟩; refine ⟨_, rfl, ?_⟩))
                                go_ret
                                exact ⟨by first | rfl | (simp [errW_none, errW_some] <;> rfl) | (simp [*, errW_none, errW_some] <;> rfl), by repeat (first | (with_reducible first | exact HB.out | apply below_alloc | apply pw_below_drewN | apply below_drew1) | exact HB.out)⟩
                              · rw [if_neg c27] at H
                                have c27b0 : (t224 == 0) = false := beq_eq_false_iff_ne.mpr c27
                                have c27b1 : (t224 != 0) = true := bne_iff_ne.mpr c27
                                exact absurd ((Option.some.inj H).trans HT.out) (by decide)
                            · rw [if_neg c26] at H
                              have c26b0 : (t221 == t225) = false := beq_eq_false_iff_ne.mpr c26
                              have c26b1 : (t221 != t225) = true := bne_iff_ne.mpr c26
                              exact absurd ((Option.some.inj H).trans HT.out) (by decide)
                          · rw [if_neg c25] at H
                            have c25b0 : (t222 == 0) = false := beq_eq_false_iff_ne.mpr c25
                            have c25b1 : (t222 != 0) = true := bne_iff_ne.mpr c25
                            exact absurd ((Option.some.inj H).trans HT.out) (by decide)
                        · rw [if_neg c24] at H
                          have c24b0 : (t219 == t213) = false := beq_eq_false_iff_ne.mpr c24
                          have c24b1 : (t219 != t213) = true := bne_iff_ne.mpr c24
                          exact absurd ((Option.some.inj H).trans HT.out) (by decide)
                      · rw [if_neg c23] at H
                        have c23b0 : (t220 == 0) = false := beq_eq_false_iff_ne.mpr c23
                        have c23b1 : (t220 != 0) = true := bne_iff_ne.mpr c23
                        exact absurd ((Option.some.inj H).trans HT.out) (by decide)
                    · rw [if_neg c22] at H
                      have c22b0 : (t214 == (wrap64 (IntKind.u64.wrap ((IntKind.u64.wrap (t211)) * (IntKind.u64.wrap (t212)))))) = false := beq_eq_false_iff_ne.mpr c22
                      have c22b1 : (t214 != (wrap64 (IntKind.u64.wrap ((IntKind.u64.wrap (t211)) * (IntKind.u64.wrap (t212)))))) = true := bne_iff_ne.mpr c22
                      exact absurd ((Option.some.inj H).trans HT.out) (by decide)
                  · rw [if_neg c21] at H
                    have c21b0 : (t217 == t214) = false := beq_eq_false_iff_ne.mpr c21
                    have c21b1 : (t217 != t214) = true := bne_iff_ne.mpr c21
                    exact absurd ((Option.some.inj H).trans HT.out) (by decide)
                · rw [if_neg c20] at H
                  have c20b0 : (t218 == 0) = false := beq_eq_false_iff_ne.mpr c20
                  have c20b1 : (t218 != 0) = true := bne_iff_ne.mpr c20
                  exact absurd ((Option.some.inj H).trans HT.out) (by decide)
              · rw [if_neg c19] at H
                have c19b0 : (t214 == t216) = false := beq_eq_false_iff_ne.mpr c19
                have c19b1 : (t214 != t216) = true := bne_iff_ne.mpr c19
                exact absurd ((Option.some.inj H).trans HT.out) (by decide)
            · rw [if_neg c18] at H
              have c18b0 : (t213 == t215) = false := beq_eq_false_iff_ne.mpr c18
              have c18b1 : (t213 != t215) = true := bne_iff_ne.mpr c18
              exact absurd ((Option.some.inj H).trans HT.out) (by decide)
          · rw [if_neg c16] at H
            have c16b0 : decide (t212 < 0) = false := decide_eq_false c16
            clear c16
            by_cases c30 : t213 = t215
            · rw [if_pos c30] at H
              have c30b0 : (t213 == t215) = true := beq_iff_eq.mpr c30
              have c30b1 : (t213 != t215) = false := bne_eq_false_iff_eq.mpr c30
              clear c30
              by_cases c31 : t214 = t216
              · rw [if_pos c31] at H
                have c31b0 : (t214 == t216) = true := beq_iff_eq.mpr c31
                have c31b1 : (t214 != t216) = false := bne_eq_false_iff_eq.mpr c31
                clear c31
                by_cases c32 : t218 = 0
                · rw [if_pos c32] at H
                  have c32b0 : (t218 == 0) = true := beq_iff_eq.mpr c32
                  have c32b1 : (t218 != 0) = false := bne_eq_false_iff_eq.mpr c32
                  clear c32
                  by_cases c33 : t217 = t214
                  · rw [if_pos c33] at H
                    have c33b0 : (t217 == t214) = true := beq_iff_eq.mpr c33
                    have c33b1 : (t217 != t214) = false := bne_eq_false_iff_eq.mpr c33
                    clear c33
                    by_cases c34 : t214 = (wrap64 (IntKind.u64.wrap ((IntKind.u64.wrap (t211)) * (IntKind.u64.wrap (t212)))))
                    · rw [if_pos c34] at H
                      have c34b0 : (t214 == (wrap64 (IntKind.u64.wrap ((IntKind.u64.wrap (t211)) * (IntKind.u64.wrap (t212)))))) = true := beq_iff_eq.mpr c34
                      have c34b1 : (t214 != (wrap64 (IntKind.u64.wrap ((IntKind.u64.wrap (t211)) * (IntKind.u64.wrap (t212)))))) = false := bne_eq_false_iff_eq.mpr c34
                      clear c34
                      by_cases c35 : t220 = 0
                      · rw [if_pos c35] at H
                        have c35b0 : (t220 == 0) = true := beq_iff_eq.mpr c35
                        have c35b1 : (t220 != 0) = false := bne_eq_false_iff_eq.mpr c35
                        clear c35
                        by_cases c36 : t219 = t213
                        · rw [if_pos c36] at H
                          have c36b0 : (t219 == t213) = true := beq_iff_eq.mpr c36
                          have c36b1 : (t219 != t213) = false := bne_eq_false_iff_eq.mpr c36
                          clear c36
                          by_cases c37 : t222 = 0
                          · rw [if_pos c37] at H
                            have c37b0 : (t222 == 0) = true := beq_iff_eq.mpr c37
                            have c37b1 : (t222 != 0) = false := bne_eq_false_iff_eq.mpr c37
                            clear c37
                            by_cases c38 : t221 = t225
                            · rw [if_pos c38] at H
                              have c38b0 : (t221 == t225) = true := beq_iff_eq.mpr c38
                              have c38b1 : (t221 != t225) = false := bne_eq_false_iff_eq.mpr c38
                              clear c38
                              by_cases c39 : t224 = 0
                              · rw [if_pos c39] at H
                                have c39b0 : (t224 == 0) = true := beq_iff_eq.mpr c39
                                have c39b1 : (t224 != 0) = false := bne_eq_false_iff_eq.mpr c39
                                clear c39
                                obtain rfl := Option.some.inj H
                                go_wp2_with (first | ((with_reducible refine gate_callee (f := 33) rfl ?_); refine goesL_ (some 30) rfl rfl Try.func33 (by kernel_rfl) rfl #[.slice A0 l0.length c0] rfl (by (try simp only [List.map_toArray, List.map_cons, List.map_nil]); first | done | rfl | (simp only [List.length_drop, List.length_take]; rfl)) ?_; (with_reducible refine (spec_NumberOf.calls _ _ l0 t211 _ ?side1 ?side2 A6.out).mono ?_); (case side1 => repeat (first | exact (Kd.C_below HR0.out HB.out) | (with_reducible refine Kd.C_alloc ?_ _) | (with_reducible refine Kd.C_drewN ?_ _) | (with_reducible refine Kd.C_drew ?_))); (case side2 => exact HC0.out); rintro e w40 ⟨rfl, hb⟩; refine ⟨_, rfl, ?_⟩; have n0_ := Aside0.mk (below_step (by repeat (first | (with_reducible first | exact HB.out | apply below_alloc | apply pw_below_drewN | apply below_drew1) | exact HB.out)) hb); clear HB; have HB := n0_; clear n0_; (try clear hb); (try clear hb2); (try clear hk); (try clear hi)) | ((with_reducible refine gate_callee (f := 33) rfl ?_); refine goesL_ (some 32) rfl rfl Try.func33 (by kernel_rfl) rfl #[.slice A1 l1.length c1] rfl (by (try simp only [List.map_toArray, List.map_cons, List.map_nil]); first | done | rfl | (simp only [List.length_drop, List.length_take]; rfl)) ?_; (with_reducible refine (spec_NumberOf.calls _ _ l1 t212 _ ?side1 ?side2 A7.out).mono ?_); (case side1 => repeat (first | exact (Kd.C_below HR1.out HB.out) | (with_reducible refine Kd.C_alloc ?_ _) | (with_reducible refine Kd.C_drewN ?_ _) | (with_reducible refine Kd.C_drew ?_))); (case side2 => exact HC1.out); rintro e w41 ⟨rfl, hb⟩; refine ⟨_, rfl, ?_⟩; have n0_ := Aside0.mk (below_step (by repeat (first | (with_reducible first | exact HB.out | apply below_alloc | apply pw_below_drewN | apply below_drew1) | exact HB.out)) hb); clear HB; have HB := n0_; clear n0_; (try clear hb); (try clear hb2); (try clear hk); (try clear hi)) | ((with_reducible refine gate_callee (f := 34) rfl ?_); refine goesL_ (some 36) rfl rfl Try.func34 (by kernel_rfl) rfl #[.int .i64 t211, .int .i64 t212] rfl (by (try simp only [List.map_toArray, List.map_cons, List.map_nil]); first | done | rfl | (simp only [List.length_drop, List.length_take]; rfl)) ?_; (with_reducible refine (impl_MulWide.calls t211 t212 t213 t214 _ A8.out).mono ?_); rintro e w' ⟨rfl, ⟨nd, rfl⟩⟩; refine ⟨_, rfl, ?_⟩) | ((with_reducible refine gate_callee (f := 35) rfl ?_); refine goesL_ (some 42) rfl rfl Try.func35 (by kernel_rfl) rfl #[.int .i64 t211, .int .i64 t212] rfl (by (try simp only [List.map_toArray, List.map_cons, List.map_nil]); first | done | rfl | (simp only [List.length_drop, List.length_take]; rfl)) ?_; (with_reducible refine (spec_MulWide.calls kj2 t211 t212 t215 t216 _ A9.out).mono ?_); rintro e w' ⟨rfl, ⟨nd, rfl⟩⟩; refine ⟨_, rfl, ?_⟩) | ((with_reducible refine gate_callee (f := 36) rfl ?_); refine goesL_ (some 48) rfl rfl Try.func36 (by kernel_rfl) rfl #[.int .i64 50, .int .i64 t211, .int .i64 t212] rfl (by (try simp only [List.map_toArray, List.map_cons, List.map_nil]); first | done | rfl | (simp only [List.length_drop, List.length_take]; rfl)) ?_; (with_reducible refine (impl_Compute.calls kj2 50 t211 t212 t217 t218 _ A10.out).mono ?_); rintro e w' ⟨rfl, ⟨nd, rfl⟩⟩; refine ⟨_, rfl, ?_⟩) | ((with_reducible refine gate_callee (f := 36) rfl ?_); refine goesL_ (some 54) rfl rfl Try.func36 (by kernel_rfl) rfl #[.int .i64 53, .int .i64 t211, .int .i64 t212] rfl (by (try simp only [List.map_toArray, List.map_cons, List.map_nil]); first | done | rfl | (simp only [List.length_drop, List.length_take]; rfl)) ?_; (with_reducible refine (impl_Compute.calls kj2 53 t211 t212 t219 t220 _ A11.out).mono ?_); rintro e w' ⟨rfl, ⟨nd, rfl⟩⟩; refine ⟨_, rfl, ?_⟩) | ((with_reducible refine gate_callee (f := 36) rfl ?_); refine goesL_ (some 60) rfl rfl Try.func36 (by kernel_rfl) rfl #[.int .i64 52, .int .i64 t211, .int .i64 t212] rfl (by (try simp only [List.map_toArray, List.map_cons, List.map_nil]); first | done | rfl | (simp only [List.length_drop, List.length_take]; rfl)) ?_; (with_reducible refine (impl_Compute.calls kj2 52 t211 t212 t221 t222 _ A12.out).mono ?_); rintro e w' ⟨rfl, ⟨nd, rfl⟩⟩; refine ⟨_, rfl, ?_⟩) | ((with_reducible refine gate_callee (f := 36) rfl ?_); refine goesL_ (some 66) rfl rfl Try.func36 (by kernel_rfl) rfl #[.int .i64 51, .int .i64 t211, .int .i64 t212] rfl (by (try simp only [List.map_toArray, List.map_cons, List.map_nil]); first | done | rfl | (simp only [List.length_drop, List.length_take]; rfl)) ?_; (with_reducible refine (impl_Compute.calls kj2 51 t211 t212 t223 t224 _ A13.out).mono ?_); rintro e w' ⟨rfl, ⟨nd, rfl⟩⟩; refine ⟨_, rfl, ?_⟩) | ((with_reducible refine gate_callee (f := 37) rfl ?_); refine goesL_ (some 75) rfl rfl Try.func37 (by kernel_rfl) rfl #[.int .i64 t213, .int .i64 (wrap64 (-t212))] rfl (by (try simp only [List.map_toArray, List.map_cons, List.map_nil]); first | done | rfl | (simp only [List.length_drop, List.length_take]; rfl)) ?_; (with_reducible refine (laws_plus.calls t213 (wrap64 (-t212)) t225 _ A15.out).mono ?_); rintro e w' ⟨rfl, ⟨nd, rfl⟩⟩; refine ⟨_, rfl, ?_⟩))
                                go_ret
                                exact ⟨by first | rfl | (simp [errW_none, errW_some] <;> rfl) | (simp [*, errW_none, errW_some] <;> rfl), by repeat (first | (with_reducible first | exact HB.out | apply below_alloc | apply pw_below_drewN | apply below_drew1) | exact HB.out)⟩
                              · rw [if_neg c39] at H
                                have c39b0 : (t224 == 0) = false := beq_eq_false_iff_ne.mpr c39
                                have c39b1 : (t224 != 0) = true := bne_iff_ne.mpr c39
                                exact absurd ((Option.some.inj H).trans HT.out) (by decide)
                            · rw [if_neg c38] at H
                              have c38b0 : (t221 == t225) = false := beq_eq_false_iff_ne.mpr c38
                              have c38b1 : (t221 != t225) = true := bne_iff_ne.mpr c38
                              exact absurd ((Option.some.inj H).trans HT.out) (by decide)
                          · rw [if_neg c37] at H
                            have c37b0 : (t222 == 0) = false := beq_eq_false_iff_ne.mpr c37
                            have c37b1 : (t222 != 0) = true := bne_iff_ne.mpr c37
                            exact absurd ((Option.some.inj H).trans HT.out) (by decide)
                        · rw [if_neg c36] at H
                          have c36b0 : (t219 == t213) = false := beq_eq_false_iff_ne.mpr c36
                          have c36b1 : (t219 != t213) = true := bne_iff_ne.mpr c36
                          exact absurd ((Option.some.inj H).trans HT.out) (by decide)
                      · rw [if_neg c35] at H
                        have c35b0 : (t220 == 0) = false := beq_eq_false_iff_ne.mpr c35
                        have c35b1 : (t220 != 0) = true := bne_iff_ne.mpr c35
                        exact absurd ((Option.some.inj H).trans HT.out) (by decide)
                    · rw [if_neg c34] at H
                      have c34b0 : (t214 == (wrap64 (IntKind.u64.wrap ((IntKind.u64.wrap (t211)) * (IntKind.u64.wrap (t212)))))) = false := beq_eq_false_iff_ne.mpr c34
                      have c34b1 : (t214 != (wrap64 (IntKind.u64.wrap ((IntKind.u64.wrap (t211)) * (IntKind.u64.wrap (t212)))))) = true := bne_iff_ne.mpr c34
                      exact absurd ((Option.some.inj H).trans HT.out) (by decide)
                  · rw [if_neg c33] at H
                    have c33b0 : (t217 == t214) = false := beq_eq_false_iff_ne.mpr c33
                    have c33b1 : (t217 != t214) = true := bne_iff_ne.mpr c33
                    exact absurd ((Option.some.inj H).trans HT.out) (by decide)
                · rw [if_neg c32] at H
                  have c32b0 : (t218 == 0) = false := beq_eq_false_iff_ne.mpr c32
                  have c32b1 : (t218 != 0) = true := bne_iff_ne.mpr c32
                  exact absurd ((Option.some.inj H).trans HT.out) (by decide)
              · rw [if_neg c31] at H
                have c31b0 : (t214 == t216) = false := beq_eq_false_iff_ne.mpr c31
                have c31b1 : (t214 != t216) = true := bne_iff_ne.mpr c31
                exact absurd ((Option.some.inj H).trans HT.out) (by decide)
            · rw [if_neg c30] at H
              have c30b0 : (t213 == t215) = false := beq_eq_false_iff_ne.mpr c30
              have c30b1 : (t213 != t215) = true := bne_iff_ne.mpr c30
              exact absurd ((Option.some.inj H).trans HT.out) (by decide)
        · rw [if_neg c14] at H
          have c14b0 : decide (t211 < 0) = false := decide_eq_false c14
          clear c14
          by_cases c42 : t212 < 0
          · rw [if_pos c42] at H
            have c42b0 : decide (t212 < 0) = true := decide_eq_true c42
            clear c42
            replace H := Option.bind_eq_some_iff.mp H
            obtain ⟨t227, A430, H⟩ := H
            try dsimp only at H
            have A43 := Aside0.mk A430
            clear A430
            by_cases c44 : t213 = t215
            · rw [if_pos c44] at H
              have c44b0 : (t213 == t215) = true := beq_iff_eq.mpr c44
              have c44b1 : (t213 != t215) = false := bne_eq_false_iff_eq.mpr c44
              clear c44
              by_cases c45 : t214 = t216
              · rw [if_pos c45] at H
                have c45b0 : (t214 == t216) = true := beq_iff_eq.mpr c45
                have c45b1 : (t214 != t216) = false := bne_eq_false_iff_eq.mpr c45
                clear c45
                by_cases c46 : t218 = 0
                · rw [if_pos c46] at H
                  have c46b0 : (t218 == 0) = true := beq_iff_eq.mpr c46
                  have c46b1 : (t218 != 0) = false := bne_eq_false_iff_eq.mpr c46
                  clear c46
                  by_cases c47 : t217 = t214
                  · rw [if_pos c47] at H
                    have c47b0 : (t217 == t214) = true := beq_iff_eq.mpr c47
                    have c47b1 : (t217 != t214) = false := bne_eq_false_iff_eq.mpr c47
                    clear c47
                    by_cases c48 : t214 = (wrap64 (IntKind.u64.wrap ((IntKind.u64.wrap (t211)) * (IntKind.u64.wrap (t212)))))
                    · rw [if_pos c48] at H
                      have c48b0 : (t214 == (wrap64 (IntKind.u64.wrap ((IntKind.u64.wrap (t211)) * (IntKind.u64.wrap (t212)))))) = true := beq_iff_eq.mpr c48
                      have c48b1 : (t214 != (wrap64 (IntKind.u64.wrap ((IntKind.u64.wrap (t211)) * (IntKind.u64.wrap (t212)))))) = false := bne_eq_false_iff_eq.mpr c48
                      clear c48
                      by_cases c49 : t220 = 0
                      · rw [if_pos c49] at H
                        have c49b0 : (t220 == 0) = true := beq_iff_eq.mpr c49
                        have c49b1 : (t220 != 0) = false := bne_eq_false_iff_eq.mpr c49
                        clear c49
                        by_cases c50 : t219 = t213
                        · rw [if_pos c50] at H
                          have c50b0 : (t219 == t213) = true := beq_iff_eq.mpr c50
                          have c50b1 : (t219 != t213) = false := bne_eq_false_iff_eq.mpr c50
                          clear c50
                          by_cases c51 : t222 = 0
                          · rw [if_pos c51] at H
                            have c51b0 : (t222 == 0) = true := beq_iff_eq.mpr c51
                            have c51b1 : (t222 != 0) = false := bne_eq_false_iff_eq.mpr c51
                            clear c51
                            by_cases c52 : t221 = t213
                            · rw [if_pos c52] at H
                              have c52b0 : (t221 == t213) = true := beq_iff_eq.mpr c52
                              have c52b1 : (t221 != t213) = false := bne_eq_false_iff_eq.mpr c52
                              clear c52
                              by_cases c53 : t224 = 0
                              · rw [if_pos c53] at H
                                have c53b0 : (t224 == 0) = true := beq_iff_eq.mpr c53
                                have c53b1 : (t224 != 0) = false := bne_eq_false_iff_eq.mpr c53
                                clear c53
                                obtain rfl := Option.some.inj H
                                go_wp2_with (first | ((with_reducible refine gate_callee (f := 33) rfl ?_); refine goesL_ (some 30) rfl rfl Try.func33 (by kernel_rfl) rfl #[.slice A0 l0.length c0] rfl (by (try simp only [List.map_toArray, List.map_cons, List.map_nil]); first | done | rfl | (simp only [List.length_drop, List.length_take]; rfl)) ?_; (with_reducible refine (spec_NumberOf.calls _ _ l0 t211 _ ?side1 ?side2 A6.out).mono ?_); (case side1 => repeat (first | exact (Kd.C_below HR0.out HB.out) | (with_reducible refine Kd.C_alloc ?_ _) | (with_reducible refine Kd.C_drewN ?_ _) | (with_reducible refine Kd.C_drew ?_))); (case side2 => exact HC0.out); rintro e w54 ⟨rfl, hb⟩; refine ⟨_, rfl, ?_⟩; have n0_ := Aside0.mk (below_step (by repeat (first | (with_reducible first | exact HB.out | apply below_alloc | apply pw_below_drewN | apply below_drew1) | exact HB.out)) hb); clear HB; have HB := n0_; clear n0_; (try clear hb); (try clear hb2); (try clear hk); (try clear hi)) | ((with_reducible refine gate_callee (f := 33) rfl ?_); refine goesL_ (some 32) rfl rfl Try.func33 (by kernel_rfl) rfl #[.slice A1 l1.length c1] rfl (by (try simp only [List.map_toArray, List.map_cons, List.map_nil]); first | done | rfl | (simp only [List.length_drop, List.length_take]; rfl)) ?_; (with_reducible refine (spec_NumberOf.calls _ _ l1 t212 _ ?side1 ?side2 A7.out).mono ?_); (case side1 => repeat (first | exact (Kd.C_below HR1.out HB.out) | (with_reducible refine Kd.C_alloc ?_ _) | (with_reducible refine Kd.C_drewN ?_ _) | (with_reducible refine Kd.C_drew ?_))); (case side2 => exact HC1.out); rintro e w55 ⟨rfl, hb⟩; refine ⟨_, rfl, ?_⟩; have n0_ := Aside0.mk (below_step (by repeat (first | (with_reducible first | exact HB.out | apply below_alloc | apply pw_below_drewN | apply below_drew1) | exact HB.out)) hb); clear HB; have HB := n0_; clear n0_; (try clear hb); (try clear hb2); (try clear hk); (try clear hi)) | ((with_reducible refine gate_callee (f := 34) rfl ?_); refine goesL_ (some 36) rfl rfl Try.func34 (by kernel_rfl) rfl #[.int .i64 t211, .int .i64 t212] rfl (by (try simp only [List.map_toArray, List.map_cons, List.map_nil]); first | done | rfl | (simp only [List.length_drop, List.length_take]; rfl)) ?_; (with_reducible refine (impl_MulWide.calls t211 t212 t213 t214 _ A8.out).mono ?_); rintro e w' ⟨rfl, ⟨nd, rfl⟩⟩; refine ⟨_, rfl, ?_⟩) | ((with_reducible refine gate_callee (f := 35) rfl ?_); refine goesL_ (some 42) rfl rfl Try.func35 (by kernel_rfl) rfl #[.int .i64 t211, .int .i64 t212] rfl (by (try simp only [List.map_toArray, List.map_cons, List.map_nil]); first | done | rfl | (simp only [List.length_drop, List.length_take]; rfl)) ?_; (with_reducible refine (spec_MulWide.calls kj2 t211 t212 t215 t216 _ A9.out).mono ?_); rintro e w' ⟨rfl, ⟨nd, rfl⟩⟩; refine ⟨_, rfl, ?_⟩) | ((with_reducible refine gate_callee (f := 36) rfl ?_); refine goesL_ (some 48) rfl rfl Try.func36 (by kernel_rfl) rfl #[.int .i64 50, .int .i64 t211, .int .i64 t212] rfl (by (try simp only [List.map_toArray, List.map_cons, List.map_nil]); first | done | rfl | (simp only [List.length_drop, List.length_take]; rfl)) ?_; (with_reducible refine (impl_Compute.calls kj2 50 t211 t212 t217 t218 _ A10.out).mono ?_); rintro e w' ⟨rfl, ⟨nd, rfl⟩⟩; refine ⟨_, rfl, ?_⟩) | ((with_reducible refine gate_callee (f := 36) rfl ?_); refine goesL_ (some 54) rfl rfl Try.func36 (by kernel_rfl) rfl #[.int .i64 53, .int .i64 t211, .int .i64 t212] rfl (by (try simp only [List.map_toArray, List.map_cons, List.map_nil]); first | done | rfl | (simp only [List.length_drop, List.length_take]; rfl)) ?_; (with_reducible refine (impl_Compute.calls kj2 53 t211 t212 t219 t220 _ A11.out).mono ?_); rintro e w' ⟨rfl, ⟨nd, rfl⟩⟩; refine ⟨_, rfl, ?_⟩) | ((with_reducible refine gate_callee (f := 36) rfl ?_); refine goesL_ (some 60) rfl rfl Try.func36 (by kernel_rfl) rfl #[.int .i64 52, .int .i64 t211, .int .i64 t212] rfl (by (try simp only [List.map_toArray, List.map_cons, List.map_nil]); first | done | rfl | (simp only [List.length_drop, List.length_take]; rfl)) ?_; (with_reducible refine (impl_Compute.calls kj2 52 t211 t212 t221 t222 _ A12.out).mono ?_); rintro e w' ⟨rfl, ⟨nd, rfl⟩⟩; refine ⟨_, rfl, ?_⟩) | ((with_reducible refine gate_callee (f := 36) rfl ?_); refine goesL_ (some 66) rfl rfl Try.func36 (by kernel_rfl) rfl #[.int .i64 51, .int .i64 t211, .int .i64 t212] rfl (by (try simp only [List.map_toArray, List.map_cons, List.map_nil]); first | done | rfl | (simp only [List.length_drop, List.length_take]; rfl)) ?_; (with_reducible refine (impl_Compute.calls kj2 51 t211 t212 t223 t224 _ A13.out).mono ?_); rintro e w' ⟨rfl, ⟨nd, rfl⟩⟩; refine ⟨_, rfl, ?_⟩) | ((with_reducible refine gate_callee (f := 37) rfl ?_); refine goesL_ (some 82) rfl rfl Try.func37 (by kernel_rfl) rfl #[.int .i64 t213, .int .i64 (wrap64 (-t211))] rfl (by (try simp only [List.map_toArray, List.map_cons, List.map_nil]); first | done | rfl | (simp only [List.length_drop, List.length_take]; rfl)) ?_; (with_reducible refine (laws_plus.calls t213 (wrap64 (-t211)) t227 _ A43.out).mono ?_); rintro e w' ⟨rfl, ⟨nd, rfl⟩⟩; refine ⟨_, rfl, ?_⟩))
                                go_ret
                                exact ⟨by first | rfl | (simp [errW_none, errW_some] <;> rfl) | (simp [*, errW_none, errW_some] <;> rfl), by repeat (first | (with_reducible first | exact HB.out | apply below_alloc | apply pw_below_drewN | apply below_drew1) | exact HB.out)⟩
                              · rw [if_neg c53] at H
                                have c53b0 : (t224 == 0) = false := beq_eq_false_iff_ne.mpr c53
                                have c53b1 : (t224 != 0) = true := bne_iff_ne.mpr c53
                                exact absurd ((Option.some.inj H).trans HT.out) (by decide)
                            · rw [if_neg c52] at H
                              have c52b0 : (t221 == t213) = false := beq_eq_false_iff_ne.mpr c52
                              have c52b1 : (t221 != t213) = true := bne_iff_ne.mpr c52
                              exact absurd ((Option.some.inj H).trans HT.out) (by decide)
                          · rw [if_neg c51] at H
                            have c51b0 : (t222 == 0) = false := beq_eq_false_iff_ne.mpr c51
                            have c51b1 : (t222 != 0) = true := bne_iff_ne.mpr c51
                            exact absurd ((Option.some.inj H).trans HT.out) (by decide)
                        · rw [if_neg c50] at H
                          have c50b0 : (t219 == t213) = false := beq_eq_false_iff_ne.mpr c50
                          have c50b1 : (t219 != t213) = true := bne_iff_ne.mpr c50
                          exact absurd ((Option.some.inj H).trans HT.out) (by decide)
                      · rw [if_neg c49] at H
                        have c49b0 : (t220 == 0) = false := beq_eq_false_iff_ne.mpr c49
                        have c49b1 : (t220 != 0) = true := bne_iff_ne.mpr c49
                        exact absurd ((Option.some.inj H).trans HT.out) (by decide)
                    · rw [if_neg c48] at H
                      have c48b0 : (t214 == (wrap64 (IntKind.u64.wrap ((IntKind.u64.wrap (t211)) * (IntKind.u64.wrap (t212)))))) = false := beq_eq_false_iff_ne.mpr c48
                      have c48b1 : (t214 != (wrap64 (IntKind.u64.wrap ((IntKind.u64.wrap (t211)) * (IntKind.u64.wrap (t212)))))) = true := bne_iff_ne.mpr c48
                      exact absurd ((Option.some.inj H).trans HT.out) (by decide)
                  · rw [if_neg c47] at H
                    have c47b0 : (t217 == t214) = false := beq_eq_false_iff_ne.mpr c47
                    have c47b1 : (t217 != t214) = true := bne_iff_ne.mpr c47
                    exact absurd ((Option.some.inj H).trans HT.out) (by decide)
                · rw [if_neg c46] at H
                  have c46b0 : (t218 == 0) = false := beq_eq_false_iff_ne.mpr c46
                  have c46b1 : (t218 != 0) = true := bne_iff_ne.mpr c46
                  exact absurd ((Option.some.inj H).trans HT.out) (by decide)
              · rw [if_neg c45] at H
                have c45b0 : (t214 == t216) = false := beq_eq_false_iff_ne.mpr c45
                have c45b1 : (t214 != t216) = true := bne_iff_ne.mpr c45
                exact absurd ((Option.some.inj H).trans HT.out) (by decide)
            · rw [if_neg c44] at H
              have c44b0 : (t213 == t215) = false := beq_eq_false_iff_ne.mpr c44
              have c44b1 : (t213 != t215) = true := bne_iff_ne.mpr c44
              exact absurd ((Option.some.inj H).trans HT.out) (by decide)
          · rw [if_neg c42] at H
            have c42b0 : decide (t212 < 0) = false := decide_eq_false c42
            clear c42
            by_cases c56 : t213 = t215
            · rw [if_pos c56] at H
              have c56b0 : (t213 == t215) = true := beq_iff_eq.mpr c56
              have c56b1 : (t213 != t215) = false := bne_eq_false_iff_eq.mpr c56
              clear c56
              by_cases c57 : t214 = t216
              · rw [if_pos c57] at H
                have c57b0 : (t214 == t216) = true := beq_iff_eq.mpr c57
                have c57b1 : (t214 != t216) = false := bne_eq_false_iff_eq.mpr c57
                clear c57
                by_cases c58 : t218 = 0
                · rw [if_pos c58] at H
                  have c58b0 : (t218 == 0) = true := beq_iff_eq.mpr c58
                  have c58b1 : (t218 != 0) = false := bne_eq_false_iff_eq.mpr c58
                  clear c58
                  by_cases c59 : t217 = t214
                  · rw [if_pos c59] at H
                    have c59b0 : (t217 == t214) = true := beq_iff_eq.mpr c59
                    have c59b1 : (t217 != t214) = false := bne_eq_false_iff_eq.mpr c59
                    clear c59
                    by_cases c60 : t214 = (wrap64 (IntKind.u64.wrap ((IntKind.u64.wrap (t211)) * (IntKind.u64.wrap (t212)))))
                    · rw [if_pos c60] at H
                      have c60b0 : (t214 == (wrap64 (IntKind.u64.wrap ((IntKind.u64.wrap (t211)) * (IntKind.u64.wrap (t212)))))) = true := beq_iff_eq.mpr c60
                      have c60b1 : (t214 != (wrap64 (IntKind.u64.wrap ((IntKind.u64.wrap (t211)) * (IntKind.u64.wrap (t212)))))) = false := bne_eq_false_iff_eq.mpr c60
                      clear c60
                      by_cases c61 : t220 = 0
                      · rw [if_pos c61] at H
                        have c61b0 : (t220 == 0) = true := beq_iff_eq.mpr c61
                        have c61b1 : (t220 != 0) = false := bne_eq_false_iff_eq.mpr c61
                        clear c61
                        by_cases c62 : t219 = t213
                        · rw [if_pos c62] at H
                          have c62b0 : (t219 == t213) = true := beq_iff_eq.mpr c62
                          have c62b1 : (t219 != t213) = false := bne_eq_false_iff_eq.mpr c62
                          clear c62
                          by_cases c63 : t222 = 0
                          · rw [if_pos c63] at H
                            have c63b0 : (t222 == 0) = true := beq_iff_eq.mpr c63
                            have c63b1 : (t222 != 0) = false := bne_eq_false_iff_eq.mpr c63
                            clear c63
                            by_cases c64 : t221 = t213
                            · rw [if_pos c64] at H
                              have c64b0 : (t221 == t213) = true := beq_iff_eq.mpr c64
                              have c64b1 : (t221 != t213) = false := bne_eq_false_iff_eq.mpr c64
                              clear c64
                              by_cases c65 : t224 = 0
                              · rw [if_pos c65] at H
                                have c65b0 : (t224 == 0) = true := beq_iff_eq.mpr c65
                                have c65b1 : (t224 != 0) = false := bne_eq_false_iff_eq.mpr c65
                                clear c65
                                obtain rfl := Option.some.inj H
                                go_wp2_with (first | ((with_reducible refine gate_callee (f := 33) rfl ?_); refine goesL_ (some 30) rfl rfl Try.func33 (by kernel_rfl) rfl #[.slice A0 l0.length c0] rfl (by (try simp only [List.map_toArray, List.map_cons, List.map_nil]); first | done | rfl | (simp only [List.length_drop, List.length_take]; rfl)) ?_; (with_reducible refine (spec_NumberOf.calls _ _ l0 t211 _ ?side1 ?side2 A6.out).mono ?_); (case side1 => repeat (first | exact (Kd.C_below HR0.out HB.out) | (with_reducible refine Kd.C_alloc ?_ _) | (with_reducible refine Kd.C_drewN ?_ _) | (with_reducible refine Kd.C_drew ?_))); (case side2 => exact HC0.out); rintro e w66 ⟨rfl, hb⟩; refine ⟨_, rfl, ?_⟩; have n0_ := Aside0.mk (below_step (by repeat (first | (with_reducible first | exact HB.out | apply below_alloc | apply pw_below_drewN | apply below_drew1) | exact HB.out)) hb); clear HB; have HB := n0_; clear n0_; (try clear hb); (try clear hb2); (try clear hk); (try clear hi)) | ((with_reducible refine gate_callee (f := 33) rfl ?_); refine goesL_ (some 32) rfl rfl Try.func33 (by kernel_rfl) rfl #[.slice A1 l1.length c1] rfl (by (try simp only [List.map_toArray, List.map_cons, List.map_nil]); first | done | rfl | (simp only [List.length_drop, List.length_take]; rfl)) ?_; (with_reducible refine (spec_NumberOf.calls _ _ l1 t212 _ ?side1 ?side2 A7.out).mono ?_); (case side1 => repeat (first | exact (Kd.C_below HR1.out HB.out) | (with_reducible refine Kd.C_alloc ?_ _) | (with_reducible refine Kd.C_drewN ?_ _) | (with_reducible refine Kd.C_drew ?_))); (case side2 => exact HC1.out); rintro e w67 ⟨rfl, hb⟩; refine ⟨_, rfl, ?_⟩; have n0_ := Aside0.mk (below_step (by repeat (first | (with_reducible first | exact HB.out | apply below_alloc | apply pw_below_drewN | apply below_drew1) | exact HB.out)) hb); clear HB; have HB := n0_; clear n0_; (try clear hb); (try clear hb2); (try clear hk); (try clear hi)) | ((with_reducible refine gate_callee (f := 34) rfl ?_); refine goesL_ (some 36) rfl rfl Try.func34 (by kernel_rfl) rfl #[.int .i64 t211, .int .i64 t212] rfl (by (try simp only [List.map_toArray, List.map_cons, List.map_nil]); first | done | rfl | (simp only [List.length_drop, List.length_take]; rfl)) ?_; (with_reducible refine (impl_MulWide.calls t211 t212 t213 t214 _ A8.out).mono ?_); rintro e w' ⟨rfl, ⟨nd, rfl⟩⟩; refine ⟨_, rfl, ?_⟩) | ((with_reducible refine gate_callee (f := 35) rfl ?_); refine goesL_ (some 42) rfl rfl Try.func35 (by kernel_rfl) rfl #[.int .i64 t211, .int .i64 t212] rfl (by (try simp only [List.map_toArray, List.map_cons, List.map_nil]); first | done | rfl | (simp only [List.length_drop, List.length_take]; rfl)) ?_; (with_reducible refine (spec_MulWide.calls kj2 t211 t212 t215 t216 _ A9.out).mono ?_); rintro e w' ⟨rfl, ⟨nd, rfl⟩⟩; refine ⟨_, rfl, ?_⟩) | ((with_reducible refine gate_callee (f := 36) rfl ?_); refine goesL_ (some 48) rfl rfl Try.func36 (by kernel_rfl) rfl #[.int .i64 50, .int .i64 t211, .int .i64 t212] rfl (by (try simp only [List.map_toArray, List.map_cons, List.map_nil]); first | done | rfl | (simp only [List.length_drop, List.length_take]; rfl)) ?_; (with_reducible refine (impl_Compute.calls kj2 50 t211 t212 t217 t218 _ A10.out).mono ?_); rintro e w' ⟨rfl, ⟨nd, rfl⟩⟩; refine ⟨_, rfl, ?_⟩) | ((with_reducible refine gate_callee (f := 36) rfl ?_); refine goesL_ (some 54) rfl rfl Try.func36 (by kernel_rfl) rfl #[.int .i64 53, .int .i64 t211, .int .i64 t212] rfl (by (try simp only [List.map_toArray, List.map_cons, List.map_nil]); first | done | rfl | (simp only [List.length_drop, List.length_take]; rfl)) ?_; (with_reducible refine (impl_Compute.calls kj2 53 t211 t212 t219 t220 _ A11.out).mono ?_); rintro e w' ⟨rfl, ⟨nd, rfl⟩⟩; refine ⟨_, rfl, ?_⟩) | ((with_reducible refine gate_callee (f := 36) rfl ?_); refine goesL_ (some 60) rfl rfl Try.func36 (by kernel_rfl) rfl #[.int .i64 52, .int .i64 t211, .int .i64 t212] rfl (by (try simp only [List.map_toArray, List.map_cons, List.map_nil]); first | done | rfl | (simp only [List.length_drop, List.length_take]; rfl)) ?_; (with_reducible refine (impl_Compute.calls kj2 52 t211 t212 t221 t222 _ A12.out).mono ?_); rintro e w' ⟨rfl, ⟨nd, rfl⟩⟩; refine ⟨_, rfl, ?_⟩) | ((with_reducible refine gate_callee (f := 36) rfl ?_); refine goesL_ (some 66) rfl rfl Try.func36 (by kernel_rfl) rfl #[.int .i64 51, .int .i64 t211, .int .i64 t212] rfl (by (try simp only [List.map_toArray, List.map_cons, List.map_nil]); first | done | rfl | (simp only [List.length_drop, List.length_take]; rfl)) ?_; (with_reducible refine (impl_Compute.calls kj2 51 t211 t212 t223 t224 _ A13.out).mono ?_); rintro e w' ⟨rfl, ⟨nd, rfl⟩⟩; refine ⟨_, rfl, ?_⟩))
                                go_ret
                                exact ⟨by first | rfl | (simp [errW_none, errW_some] <;> rfl) | (simp [*, errW_none, errW_some] <;> rfl), by repeat (first | (with_reducible first | exact HB.out | apply below_alloc | apply pw_below_drewN | apply below_drew1) | exact HB.out)⟩
                              · rw [if_neg c65] at H
                                have c65b0 : (t224 == 0) = false := beq_eq_false_iff_ne.mpr c65
                                have c65b1 : (t224 != 0) = true := bne_iff_ne.mpr c65
                                exact absurd ((Option.some.inj H).trans HT.out) (by decide)
                            · rw [if_neg c64] at H
                              have c64b0 : (t221 == t213) = false := beq_eq_false_iff_ne.mpr c64
                              have c64b1 : (t221 != t213) = true := bne_iff_ne.mpr c64
                              exact absurd ((Option.some.inj H).trans HT.out) (by decide)
                          · rw [if_neg c63] at H
                            have c63b0 : (t222 == 0) = false := beq_eq_false_iff_ne.mpr c63
                            have c63b1 : (t222 != 0) = true := bne_iff_ne.mpr c63
                            exact absurd ((Option.some.inj H).trans HT.out) (by decide)
                        · rw [if_neg c62] at H
                          have c62b0 : (t219 == t213) = false := beq_eq_false_iff_ne.mpr c62
                          have c62b1 : (t219 != t213) = true := bne_iff_ne.mpr c62
                          exact absurd ((Option.some.inj H).trans HT.out) (by decide)
                      · rw [if_neg c61] at H
                        have c61b0 : (t220 == 0) = false := beq_eq_false_iff_ne.mpr c61
                        have c61b1 : (t220 != 0) = true := bne_iff_ne.mpr c61
                        exact absurd ((Option.some.inj H).trans HT.out) (by decide)
                    · rw [if_neg c60] at H
                      have c60b0 : (t214 == (wrap64 (IntKind.u64.wrap ((IntKind.u64.wrap (t211)) * (IntKind.u64.wrap (t212)))))) = false := beq_eq_false_iff_ne.mpr c60
                      have c60b1 : (t214 != (wrap64 (IntKind.u64.wrap ((IntKind.u64.wrap (t211)) * (IntKind.u64.wrap (t212)))))) = true := bne_iff_ne.mpr c60
                      exact absurd ((Option.some.inj H).trans HT.out) (by decide)
                  · rw [if_neg c59] at H
                    have c59b0 : (t217 == t214) = false := beq_eq_false_iff_ne.mpr c59
                    have c59b1 : (t217 != t214) = true := bne_iff_ne.mpr c59
                    exact absurd ((Option.some.inj H).trans HT.out) (by decide)
                · rw [if_neg c58] at H
                  have c58b0 : (t218 == 0) = false := beq_eq_false_iff_ne.mpr c58
                  have c58b1 : (t218 != 0) = true := bne_iff_ne.mpr c58
                  exact absurd ((Option.some.inj H).trans HT.out) (by decide)
              · rw [if_neg c57] at H
                have c57b0 : (t214 == t216) = false := beq_eq_false_iff_ne.mpr c57
                have c57b1 : (t214 != t216) = true := bne_iff_ne.mpr c57
                exact absurd ((Option.some.inj H).trans HT.out) (by decide)
            · rw [if_neg c56] at H
              have c56b0 : (t213 == t215) = false := beq_eq_false_iff_ne.mpr c56
              have c56b1 : (t213 != t215) = true := bne_iff_ne.mpr c56
              exact absurd ((Option.some.inj H).trans HT.out) (by decide)

/-- THE ONE PURE STATEMENT of laws_FnWide: yours. -/
def laws_FnWide.Pure : Prop := ∀ (l0 : List Int) (l1 : List Int), l0.length ≤ maxLen → l0.length * 1 ≤ 140737488351232 → (∀ x ∈ l0, (Lit.int .u8 x).wf = true) → l1.length ≤ maxLen → l1.length * 1 ≤ 140737488351232 → (∀ x ∈ l1, (Lit.int .u8 x).wf = true) → ∃ k, laws_FnWide.f k l0 l1 = some true
theorem laws_FnWide.walk (P : laws_FnWide.Pure) (a0 : Option Addr) (len0 cap0 : Nat) (z0 : List Int) (a1 : Option Addr) (len1 cap1 : Nat) (z1 : List Int) (w : World) (w0 : (a0 = none ∧ len0 = 0 ∧ cap0 = 0 ∧ z0 = []) ∨ ∃ x, a0 = some x ∧ len0 ≤ cap0 ∧ cap0 ≤ maxLen ∧ z0.length = cap0 ∧ (∀ i, i < z0.length → w.cell? (x.add i) = some (.int .u8 (z0.getD i 0))) ∧ ∀ n ∈ z0, (Lit.int .u8 n).wf = true) (y0 : len0 * 1 ≤ 140737488351232) (w1 : (a1 = none ∧ len1 = 0 ∧ cap1 = 0 ∧ z1 = []) ∨ ∃ x, a1 = some x ∧ len1 ≤ cap1 ∧ cap1 ≤ maxLen ∧ z1.length = cap1 ∧ (∀ i, i < z1.length → w.cell? (x.add i) = some (.int .u8 (z1.getD i 0))) ∧ ∀ n ∈ z1, (Lit.int .u8 n).wf = true) (y1 : len1 * 1 ≤ 140737488351232) :
    Calls Try.prog 11 #[.slice a0 len0 cap0, .slice a1 len1 cap1] w fun e w' => e = .returned (.bool true) ∧ Below w.heap.size w w' := by
  obtain ⟨l0, rfl, hr0, hm0, hw0, hc0⟩ := ReadsInt.ofRowC w0
  obtain ⟨l1, rfl, hr1, hm1, hw1, hc1⟩ := ReadsInt.ofRowC w1
  obtain ⟨k, h⟩ := P l0 l1 hm0 y0 hw0 hm1 y1 hw1
  refine (laws_FnWide.calls k _ _ l0 _ _ l1 true rfl w (Kd.C_of_reads (d := (0 : Int)) (h1 := fun _ => rfl) hr0) hc0 (Kd.C_of_reads (d := (0 : Int)) (h1 := fun _ => rfl) hr1) hc1 h).mono ?_
  rintro e w' ⟨rfl, hd⟩
  exact ⟨rfl, hd⟩

end Go.Proofs.Ytbhempnfbginoaa.PFnWide
