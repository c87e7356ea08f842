/- The walk of FnCompute: each Go function that the law reaches as a plain Lean function, with the proof that a call does what it says; no conditions. Written by a program for this claim. -/
import Derived.Test.YtbbaggpmhiickaaPFnComputex0
import Derived.Test.YtbbaggpmhiickaaPFnComputex1
import Derived.Test.YtbbaggpmhiickaaPFnComputex4
import Derived.Test.YtbbaggpmhiickaaPFnComputex5
import Derived.Test.YtbbaggpmhiickaaPFnComputex6
namespace Go.Proofs.Ytbbaggpmhiickaa.PFnCompute
open Go.RowKit Go.Proofs.YtbbaggpmhiickaaW.PrintWords Go.Proofs.YtbbaggpmhiickaaW.PrintLast Go.Proofs.YtbbaggpmhiickaaW.PrintMore
attribute [local go_sem] max2_int min2_int max_two min_two max_three min_three max_four min_four   -- for this text's walks alone
set_option linter.unusedVariables false
set_option linter.unusedSimpArgs false

/-! ### laws_FnCompute: function 8 -/
mutual
def laws_FnCompute.j0 : Nat → List Int → List Int → Bool → Option (Bool)
  | 0, _, _, _ => none
  | k + 1, x0, x1, x36 => if x36 = true then (some true) else ((spec_ComputeDrawn.f k x0).bind fun bt323 => ((impl_Compute.f k bt323.1 bt323.2.1 bt323.2.2).bind fun bt326 => ((spec_Compute.f k bt323.1 bt323.2.1 bt323.2.2).bind fun bt328 => (if bt326.2 = 0 then (laws_FnCompute.j1 k x1 bt323.2.1 bt323.2.2 (bt326.1 != bt328.1)) else (laws_FnCompute.j1 k x1 bt323.2.1 bt323.2.2 true)))))
def laws_FnCompute.j1 : Nat → List Int → Int → Int → Bool → Option (Bool)
  | 0, _, _, _, _ => none
  | k + 1, x1, x6, x7, x63 => if x63 = true then (some false) else ((impl_Compute.f k 31 x6 x7).bind fun bt330 => ((impl_Compute.f k 32 bt330.1 x7).bind fun bt332 => ((impl_Compute.f k 45 x6 x7).bind fun bt334 => ((impl_Compute.f k 36 x6 x7).bind fun bt336 => ((impl_Compute.f k 25 bt336.1 x7).bind fun bt338 => ((laws_at.f x1 0 63).bind fun t340 => ((impl_Compute.f k 28 x6 t340).bind fun bt341 => ((impl_Compute.f k 28 x6 (wrap64 (t340 + 1))).bind fun bt343 => ((impl_Compute.f k 30 x6 63).bind fun bt345 => (if bt330.2 = 0 then ((laws_plus.f x6 x7).bind fun t347 => (if bt330.1 = t347 then (if bt332.2 = 0 then (if bt332.1 = x6 then (if bt334.2 = 0 then ((impl_WordOf.f bt330.1).bind fun t348 => (if bt334.1 = t348 then ((spec_WordOf.f k bt330.1).bind fun t349 => (if bt334.1 = t349 then (if bt336.2 = 0 then (if bt338.2 = 0 then (if bt338.1 = x6 then (if bt341.2 = 0 then (if bt343.2 = 0 then ((laws_plus.f bt341.1 bt341.1).bind fun t350 => (if bt343.1 = t350 then (if bt345.2 = 0 then (if ((bt345.1 == (-1)) == (decide (x6 < 0))) = true then (some ((bt345.1 == 0) == (decide (x6 ≥ 0)))) else (some false)) else (some false)) else (some false))) else (some false)) else (some false)) else (some false)) else (some false)) else (some false)) else (some false))) else (some false))) else (some false)) else (some false)) else (some false)) else (some false))) else (some false)))))))))))
end
def laws_FnCompute.f (k : Nat) (l0 : List Int) (l1 : List Int) : Option (Bool) := if (l0.length : Int) > 1048576 then (laws_FnCompute.j0 k l0 l1 true) else (laws_FnCompute.j0 k l0 l1 (decide ((l1.length : Int) > 1048576)))
theorem laws_FnCompute.mono_l : ∀ k, (∀ y0 y1 y2, LeO (laws_FnCompute.j0 k y0 y1 y2) (laws_FnCompute.j0 (k + 1) y0 y1 y2)) ∧ (∀ y0 y1 y2 y3, LeO (laws_FnCompute.j1 k y0 y1 y2 y3) (laws_FnCompute.j1 (k + 1) y0 y1 y2 y3))
  | 0 => ⟨fun _ _ _ r h => by simp [laws_FnCompute.j0] at h, fun _ _ _ _ r h => by simp [laws_FnCompute.j1] at h⟩
  | k + 1 => by
    obtain ⟨ih0, ih1⟩ := laws_FnCompute.mono_l k
    refine ⟨?_, ?_⟩
    · intro y0 y1 y2
      unfold laws_FnCompute.j0
      repeat' first
      | (with_reducible exact ih0 _ _ _)
      | (with_reducible exact ih1 _ _ _ _)
      | (with_reducible exact impl_Compute.mono _ _ _ _)
      | (with_reducible exact spec_Compute.mono _ _ _ _)
      | (with_reducible exact spec_ComputeDrawn.mono _ _)
      | (with_reducible exact spec_WordOf.mono _ _)
      | (with_reducible exact LeO.refl _)
      | (with_reducible exact LeO.none _)
      | (with_reducible refine LeO.ite ?_ ?_)
      | (with_reducible refine LeO.bind ?_ (fun _ => ?_))
      | exact ih0 _ _ _
      | exact ih1 _ _ _ _
      | exact impl_Compute.mono _ _ _ _
      | exact spec_Compute.mono _ _ _ _
      | exact spec_ComputeDrawn.mono _ _
      | exact spec_WordOf.mono _ _
      | exact LeO.none _
      | refine LeO.ite ?_ ?_
      | refine LeO.bind ?_ (fun _ => ?_)
    · intro y0 y1 y2 y3
      unfold laws_FnCompute.j1
      repeat' first
      | (with_reducible exact ih0 _ _ _)
      | (with_reducible exact ih1 _ _ _ _)
      | (with_reducible exact impl_Compute.mono _ _ _ _)
      | (with_reducible exact spec_Compute.mono _ _ _ _)
      | (with_reducible exact spec_ComputeDrawn.mono _ _)
      | (with_reducible exact spec_WordOf.mono _ _)
      | (with_reducible exact LeO.refl _)
      | (with_reducible exact LeO.none _)
      | (with_reducible refine LeO.ite ?_ ?_)
      | (with_reducible refine LeO.bind ?_ (fun _ => ?_))
      | exact ih0 _ _ _
      | exact ih1 _ _ _ _
      | exact impl_Compute.mono _ _ _ _
      | exact spec_Compute.mono _ _ _ _
      | exact spec_ComputeDrawn.mono _ _
      | exact spec_WordOf.mono _ _
      | exact LeO.none _
      | refine LeO.ite ?_ ?_
      | refine LeO.bind ?_ (fun _ => ?_)
theorem laws_FnCompute.mono : ∀ a0 a1 k, LeO (laws_FnCompute.f k a0 a1) (laws_FnCompute.f (k + 1) a0 a1) := by
  intro a0 a1 k
  obtain ⟨ih0, ih1⟩ := laws_FnCompute.mono_l k
  unfold laws_FnCompute.f
  repeat' first
      | (with_reducible exact ih0 _ _ _)
      | (with_reducible exact ih1 _ _ _ _)
      | (with_reducible exact impl_Compute.mono _ _ _ _)
      | (with_reducible exact spec_Compute.mono _ _ _ _)
      | (with_reducible exact spec_ComputeDrawn.mono _ _)
      | (with_reducible exact spec_WordOf.mono _ _)
      | (with_reducible exact LeO.refl _)
      | (with_reducible exact LeO.none _)
      | (with_reducible refine LeO.ite ?_ ?_)
      | (with_reducible refine LeO.bind ?_ (fun _ => ?_))
      | exact ih0 _ _ _
      | exact ih1 _ _ _ _
      | exact impl_Compute.mono _ _ _ _
      | exact spec_Compute.mono _ _ _ _
      | exact spec_ComputeDrawn.mono _ _
      | exact spec_WordOf.mono _ _
      | exact LeO.none _
      | refine LeO.ite ?_ ?_
      | refine LeO.bind ?_ (fun _ => ?_)
set_option maxHeartbeats 8000000 in
set_option maxRecDepth 100000 in
theorem laws_FnCompute.calls (k : Nat) (A0 : Option Addr) (c0 : Nat) (l0 : List Int) (A1 : Option Addr) (c1 : Nat) (l1 : List Int) (r : Bool) (hT : r = true) (w : World) (hr0 : Kd.C (Kd.int .u8) w A0 l0.length l0) (hc0 : l0.length ≤ c0) (hr1 : Kd.C (Kd.int .u8) w A1 l1.length l1) (hc1 : l1.length ≤ c1) (h : laws_FnCompute.f k l0 l1 = some r) :
    Calls Try.prog 8 #[.slice A0 l0.length c0, .slice A1 l1.length c1] w fun e w' => e = .returned (.bool r) ∧ Below w.heap.size w w' := by
  have HT := Aside0.mk hT
  clear hT
  have HR0 := Aside0.mk hr0
  have HC0 := Aside0.mk hc0
  clear hr0 hc0
  have HR1 := Aside0.mk hr1
  have HC1 := Aside0.mk hc1
  clear hr1 hc1
  have HB := Aside0.mk (Below.refl w.heap.size w)
  have H : (if (l0.length : Int) > 1048576 then (laws_FnCompute.j0 k l0 l1 true) else (laws_FnCompute.j0 k l0 l1 (decide ((l1.length : Int) > 1048576)))) = some r := h
  clear h
  have HC3 := Aside0.mk H
  clear H
  go_enter Try.func8, Try.ntmps8
  go_upto_region 1 with (fail)
  go_cut [36] (fun v36 wc => ∃ (kq : Nat) (x36_2 : Bool), v36 = .bool x36_2 ∧ Aside0 (laws_FnCompute.j0 kq l0 l1 x36_2 = some r) ∧ Aside0 (kq ≤ k) ∧ Aside0 (Below w.heap.size w wc))
  case first =>
    have H := HC3.out
    clear HC3
    by_cases c4 : (l0.length : Int) > 1048576
    · rw [if_pos c4] at H
      have c4b0 : decide (1048576 < (l0.length : Int)) = true := decide_eq_true c4
      have c4b1 : decide (1048576 < l0.length) = true := decide_eq_true (by omega)
      clear c4
      (first | rw [c4b0] | (simp only [i64_w, i32_w]; rw [c4b0]) | skip)
      have H' := Aside0.mk H
      clear H
      go_wp2
      go_meet
      case rel => exact ⟨_, (true), (by first | rfl | (simp; done) | (simp [*]; done)), H', ⟨by first | omega | exact Nat.le_refl _⟩, ⟨by repeat (first | (with_reducible first | exact HB.out | apply below_alloc | apply pw_below_drewN | apply below_drew1) | exact HB.out)⟩⟩
    · rw [if_neg c4] at H
      have c4b0 : decide (1048576 < (l0.length : Int)) = false := decide_eq_false c4
      have c4b1 : decide (1048576 < l0.length) = false := decide_eq_false (by omega)
      clear c4
      (first | rw [c4b0] | (simp only [i64_w, i32_w]; rw [c4b0]) | skip)
      have H' := Aside0.mk H
      clear H
      go_wp2
      go_meet
      case rel => exact ⟨_, (decide ((l1.length : Int) > 1048576)), (by first | rfl | (simp; done) | (simp [*]; done)), H', ⟨by first | omega | exact Nat.le_refl _⟩, ⟨by repeat (first | (with_reducible first | exact HB.out | apply below_alloc | apply pw_below_drewN | apply below_drew1) | exact HB.out)⟩⟩
  case rest =>
    clear HC3
    try clear c1
    try clear p2
    try clear c4
    try clear c4b0
    try clear c4b1
    obtain ⟨kq, x36_2, rfl, HA, HJ2, HB⟩ := hcut
    cases kq with
    | zero => exact absurd HA.out (by simp [laws_FnCompute.j0])
    | succ kj2 =>
      have H := HA.out
      clear HA
      simp only [laws_FnCompute.j0] at H
      by_cases c5 : x36_2 = true
      · subst c5
        rw [if_pos rfl] at H
        obtain rfl := Option.some.inj H
        go_wp2
        go_ret
        exact ⟨by first | rfl | (simp [errW_none, errW_some] <;> rfl) | (simp [*, errW_none, errW_some] <;> rfl), by repeat (first | (with_reducible first | exact HB.out | apply below_alloc | apply pw_below_drewN | apply below_drew1) | exact HB.out)⟩
      · replace c5 := Bool.eq_false_iff.mpr c5
        subst c5
        rw [if_neg (show ¬ (false = true) by decide)] at H
        replace H := Option.bind_eq_some_iff.mp H
        obtain ⟨⟨t323, t324, t325⟩, A60, H⟩ := H
        try dsimp only at H
        have A6 := Aside0.mk A60
        clear A60
        replace H := Option.bind_eq_some_iff.mp H
        obtain ⟨⟨t326, t327⟩, A70, H⟩ := H
        try dsimp only at H
        have A7 := Aside0.mk A70
        clear A70
        replace H := Option.bind_eq_some_iff.mp H
        obtain ⟨⟨t328, t329⟩, A80, H⟩ := H
        try dsimp only at H
        have A8 := Aside0.mk A80
        clear A80
        have HC9 := Aside0.mk H
        clear H
        go_upto_region 6 with (first | ((with_reducible refine gate_callee (f := 33) rfl ?_); refine goesL_ (some 39) rfl rfl Try.func33 (by kernel_rfl) rfl #[.slice A0 l0.length c0] rfl (by (try simp only [List.map_toArray, List.map_cons, List.map_nil]); first | done | rfl | (simp only [List.length_drop, List.length_take]; rfl)) ?_; (with_reducible refine (spec_ComputeDrawn.calls kj2 _ _ l0 t323 t324 t325 _ ?side1 ?side2 A6.out).mono ?_); (case side1 => repeat (first | exact (Kd.C_below HR0.out HB.out) | (with_reducible refine Kd.C_alloc ?_ _) | (with_reducible refine Kd.C_drewN ?_ _) | (with_reducible refine Kd.C_drew ?_))); (case side2 => exact HC0.out); rintro e w10 ⟨rfl, hb⟩; refine ⟨_, rfl, ?_⟩; have n0_ := Aside0.mk (below_step (by repeat (first | (with_reducible first | exact HB.out | apply below_alloc | apply pw_below_drewN | apply below_drew1) | exact HB.out)) hb); clear HB; have HB := n0_; clear n0_; (try clear hb); (try clear hb2); (try clear hk); (try clear hi)) | ((with_reducible refine gate_callee (f := 28) rfl ?_); refine goesL_ (some 47) rfl rfl Try.func28 (by kernel_rfl) rfl #[.int .i64 t323, .int .i64 t324, .int .i64 t325] rfl (by (try simp only [List.map_toArray, List.map_cons, List.map_nil]); first | done | rfl | (simp only [List.length_drop, List.length_take]; rfl)) ?_; (with_reducible refine (impl_Compute.calls kj2 t323 t324 t325 t326 t327 _ A7.out).mono ?_); rintro e w' ⟨rfl, ⟨nd, rfl⟩⟩; refine ⟨_, rfl, ?_⟩) | ((with_reducible refine gate_callee (f := 27) rfl ?_); refine goesL_ (some 54) rfl rfl Try.func27 (by kernel_rfl) rfl #[.int .i64 t323, .int .i64 t324, .int .i64 t325] rfl (by (try simp only [List.map_toArray, List.map_cons, List.map_nil]); first | done | rfl | (simp only [List.length_drop, List.length_take]; rfl)) ?_; (with_reducible refine (spec_Compute.calls kj2 t323 t324 t325 t328 t329 _ A8.out).mono ?_); rintro e w11 ⟨rfl, hb⟩; refine ⟨_, rfl, ?_⟩; have n0_ := Aside0.mk (below_step (by repeat (first | (with_reducible first | exact HB.out | apply below_alloc | apply pw_below_drewN | apply below_drew1) | exact HB.out)) hb); clear HB; have HB := n0_; clear n0_; (try clear hb); (try clear hb2); (try clear hk); (try clear hi)))
        (try simp only [Act.put, List.setIfInBounds_toArray, List.set_cons_zero, List.set_cons_succ])
        go_cut [63] (fun v63 wc => ∃ (kq : Nat) (x63_8 : Bool), v63 = .bool x63_8 ∧ Aside0 (laws_FnCompute.j1 kq l1 t324 t325 x63_8 = some r) ∧ Aside0 (kq ≤ kj2) ∧ Aside0 (Below w.heap.size w wc))
        case first =>
          have H := HC9.out
          clear HC9
          by_cases c12 : t327 = 0
          · rw [if_pos c12] at H
            have c12b0 : (t327 == 0) = true := beq_iff_eq.mpr c12
            have c12b1 : (t327 != 0) = false := bne_eq_false_iff_eq.mpr c12
            clear c12
            (first | rw [c12b0] | (simp only [i64_w, i32_w]; rw [c12b0]) | skip)
            have H' := Aside0.mk H
            clear H
            go_wp2
            go_meet
            case rel => exact ⟨_, ((t326 != t328)), (by first | rfl | (simp; done) | (simp [*]; done)), H', ⟨by have := HJ2.out; first | omega | exact Nat.le_refl _⟩, ⟨by repeat (first | (with_reducible first | exact HB.out | apply below_alloc | apply pw_below_drewN | apply below_drew1) | exact HB.out)⟩⟩
          · rw [if_neg c12] at H
            have c12b0 : (t327 == 0) = false := beq_eq_false_iff_ne.mpr c12
            have c12b1 : (t327 != 0) = true := bne_iff_ne.mpr c12
            (first | rw [c12b0] | (simp only [i64_w, i32_w]; rw [c12b0]) | skip)
            have H' := Aside0.mk H
            clear H
            go_wp2
            go_meet
            case rel => exact ⟨_, (true), (by first | rfl | (simp; done) | (simp [*]; done)), H', ⟨by have := HJ2.out; first | omega | exact Nat.le_refl _⟩, ⟨by repeat (first | (with_reducible first | exact HB.out | apply below_alloc | apply pw_below_drewN | apply below_drew1) | exact HB.out)⟩⟩
        case rest =>
          clear HC9
          try clear c1
          try clear c2
          try clear p2
          try clear c3
          try clear c4
          try clear c4b0
          try clear c4b1
          try clear c5
          try clear c8
          try clear c12
          try clear c12b0
          try clear c12b1
          try clear p2
          obtain ⟨kq, x63_8, rfl, HA, HJ8, HB⟩ := hcut
          cases kq with
          | zero => exact absurd HA.out (by simp [laws_FnCompute.j1])
          | succ kj8 =>
            have H := HA.out
            clear HA
            simp only [laws_FnCompute.j1] at H
            by_cases c13 : x63_8 = true
            · subst c13
              rw [if_pos rfl] at H
              exact absurd ((Option.some.inj H).trans HT.out) (by decide)
            · replace c13 := Bool.eq_false_iff.mpr c13
              subst c13
              rw [if_neg (show ¬ (false = true) by decide)] at H
              replace H := Option.bind_eq_some_iff.mp H
              obtain ⟨⟨t330, t331⟩, A140, H⟩ := H
              try dsimp only at H
              have A14 := Aside0.mk A140
              clear A140
              replace H := Option.bind_eq_some_iff.mp H
              obtain ⟨⟨t332, t333⟩, A150, H⟩ := H
              try dsimp only at H
              have A15 := Aside0.mk A150
              clear A150
              replace H := Option.bind_eq_some_iff.mp H
              obtain ⟨⟨t334, t335⟩, A160, H⟩ := H
              try dsimp only at H
              have A16 := Aside0.mk A160
              clear A160
              replace H := Option.bind_eq_some_iff.mp H
              obtain ⟨⟨t336, t337⟩, A170, H⟩ := H
              try dsimp only at H
              have A17 := Aside0.mk A170
              clear A170
              replace H := Option.bind_eq_some_iff.mp H
              obtain ⟨⟨t338, t339⟩, A180, H⟩ := H
              try dsimp only at H
              have A18 := Aside0.mk A180
              clear A180
              replace H := Option.bind_eq_some_iff.mp H
              obtain ⟨t340, A190, H⟩ := H
              try dsimp only at H
              have A19 := Aside0.mk A190
              clear A190
              replace H := Option.bind_eq_some_iff.mp H
              obtain ⟨⟨t341, t342⟩, A200, H⟩ := H
              try dsimp only at H
              have A20 := Aside0.mk A200
              clear A200
              replace H := Option.bind_eq_some_iff.mp H
              obtain ⟨⟨t343, t344⟩, A210, H⟩ := H
              try dsimp only at H
              have A21 := Aside0.mk A210
              clear A210
              replace H := Option.bind_eq_some_iff.mp H
              obtain ⟨⟨t345, t346⟩, A220, H⟩ := H
              try dsimp only at H
              have A22 := Aside0.mk A220
              clear A220
              by_cases c23 : t331 = 0
              · rw [if_pos c23] at H
                have c23b0 : (t331 == 0) = true := beq_iff_eq.mpr c23
                have c23b1 : (t331 != 0) = false := bne_eq_false_iff_eq.mpr c23
                clear c23
                replace H := Option.bind_eq_some_iff.mp H
                obtain ⟨t347, A240, H⟩ := H
                try dsimp only at H
                have A24 := Aside0.mk A240
                clear A240
                by_cases c25 : t330 = t347
                · rw [if_pos c25] at H
                  have c25b0 : (t330 == t347) = true := beq_iff_eq.mpr c25
                  have c25b1 : (t330 != t347) = false := bne_eq_false_iff_eq.mpr c25
                  clear c25
                  by_cases c26 : t333 = 0
                  · rw [if_pos c26] at H
                    have c26b0 : (t333 == 0) = true := beq_iff_eq.mpr c26
                    have c26b1 : (t333 != 0) = false := bne_eq_false_iff_eq.mpr c26
                    clear c26
                    by_cases c27 : t332 = t324
                    · rw [if_pos c27] at H
                      have c27b0 : (t332 == t324) = true := beq_iff_eq.mpr c27
                      have c27b1 : (t332 != t324) = false := bne_eq_false_iff_eq.mpr c27
                      clear c27
                      by_cases c28 : t335 = 0
                      · rw [if_pos c28] at H
                        have c28b0 : (t335 == 0) = true := beq_iff_eq.mpr c28
                        have c28b1 : (t335 != 0) = false := bne_eq_false_iff_eq.mpr c28
                        clear c28
                        replace H := Option.bind_eq_some_iff.mp H
                        obtain ⟨t348, A290, H⟩ := H
                        try dsimp only at H
                        have A29 := Aside0.mk A290
                        clear A290
                        by_cases c30 : t334 = t348
                        · rw [if_pos c30] at H
                          have c30b0 : (t334 == t348) = true := beq_iff_eq.mpr c30
                          have c30b1 : (t334 != t348) = false := bne_eq_false_iff_eq.mpr c30
                          clear c30
                          replace H := Option.bind_eq_some_iff.mp H
                          obtain ⟨t349, A310, H⟩ := H
                          try dsimp only at H
                          have A31 := Aside0.mk A310
                          clear A310
                          by_cases c32 : t334 = t349
                          · rw [if_pos c32] at H
                            have c32b0 : (t334 == t349) = true := beq_iff_eq.mpr c32
                            have c32b1 : (t334 != t349) = false := bne_eq_false_iff_eq.mpr c32
                            clear c32
                            by_cases c33 : t337 = 0
                            · rw [if_pos c33] at H
                              have c33b0 : (t337 == 0) = true := beq_iff_eq.mpr c33
                              have c33b1 : (t337 != 0) = false := bne_eq_false_iff_eq.mpr c33
                              clear c33
                              by_cases c34 : t339 = 0
                              · rw [if_pos c34] at H
                                have c34b0 : (t339 == 0) = true := beq_iff_eq.mpr c34
                                have c34b1 : (t339 != 0) = false := bne_eq_false_iff_eq.mpr c34
                                clear c34
                                by_cases c35 : t338 = t324
                                · rw [if_pos c35] at H
                                  have c35b0 : (t338 == t324) = true := beq_iff_eq.mpr c35
                                  have c35b1 : (t338 != t324) = false := bne_eq_false_iff_eq.mpr c35
                                  clear c35
                                  by_cases c36 : t342 = 0
                                  · rw [if_pos c36] at H
                                    have c36b0 : (t342 == 0) = true := beq_iff_eq.mpr c36
                                    have c36b1 : (t342 != 0) = false := bne_eq_false_iff_eq.mpr c36
                                    clear c36
                                    by_cases c37 : t344 = 0
                                    · rw [if_pos c37] at H
                                      have c37b0 : (t344 == 0) = true := beq_iff_eq.mpr c37
                                      have c37b1 : (t344 != 0) = false := bne_eq_false_iff_eq.mpr c37
                                      clear c37
                                      replace H := Option.bind_eq_some_iff.mp H
                                      obtain ⟨t350, A380, H⟩ := H
                                      try dsimp only at H
                                      have A38 := Aside0.mk A380
                                      clear A380
                                      by_cases c39 : t343 = t350
                                      · rw [if_pos c39] at H
                                        have c39b0 : (t343 == t350) = true := beq_iff_eq.mpr c39
                                        have c39b1 : (t343 != t350) = false := bne_eq_false_iff_eq.mpr c39
                                        clear c39
                                        by_cases c40 : t346 = 0
                                        · rw [if_pos c40] at H
                                          have c40b0 : (t346 == 0) = true := beq_iff_eq.mpr c40
                                          have c40b1 : (t346 != 0) = false := bne_eq_false_iff_eq.mpr c40
                                          clear c40
                                          by_cases c41 : ((t345 == (-1)) == (decide (t324 < 0))) = true
                                          · rw [if_pos c41] at H
                                            have c41b0 : ((t345 == (-1)) == (decide (t324 < 0))) = true := c41
                                            (try (have c41b1 : decide ((t345 == (-1)) = (decide (t324 < 0))) = true := by simpa using c41))
                                            (try (have c41b2 : ((t345 == (-1)) == (decide (t324 < 0))) = true := by simpa using c41))
                                            clear c41
                                            obtain rfl := Option.some.inj H
                                            go_wp2_with (first | ((with_reducible refine gate_callee (f := 28) rfl ?_); refine goesL_ (some 67) rfl rfl Try.func28 (by kernel_rfl) rfl #[.int .i64 31, .int .i64 t324, .int .i64 t325] rfl (by (try simp only [List.map_toArray, List.map_cons, List.map_nil]); first | done | rfl | (simp only [List.length_drop, List.length_take]; rfl)) ?_; (with_reducible refine (impl_Compute.calls kj8 31 t324 t325 t330 t331 _ A14.out).mono ?_); rintro e w' ⟨rfl, ⟨nd, rfl⟩⟩; refine ⟨_, rfl, ?_⟩) | ((with_reducible refine gate_callee (f := 28) rfl ?_); refine goesL_ (some 73) rfl rfl Try.func28 (by kernel_rfl) rfl #[.int .i64 32, .int .i64 t330, .int .i64 t325] rfl (by (try simp only [List.map_toArray, List.map_cons, List.map_nil]); first | done | rfl | (simp only [List.length_drop, List.length_take]; rfl)) ?_; (with_reducible refine (impl_Compute.calls kj8 32 t330 t325 t332 t333 _ A15.out).mono ?_); rintro e w' ⟨rfl, ⟨nd, rfl⟩⟩; refine ⟨_, rfl, ?_⟩) | ((with_reducible refine gate_callee (f := 28) rfl ?_); refine goesL_ (some 79) rfl rfl Try.func28 (by kernel_rfl) rfl #[.int .i64 45, .int .i64 t324, .int .i64 t325] rfl (by (try simp only [List.map_toArray, List.map_cons, List.map_nil]); first | done | rfl | (simp only [List.length_drop, List.length_take]; rfl)) ?_; (with_reducible refine (impl_Compute.calls kj8 45 t324 t325 t334 t335 _ A16.out).mono ?_); rintro e w' ⟨rfl, ⟨nd, rfl⟩⟩; refine ⟨_, rfl, ?_⟩) | ((with_reducible refine gate_callee (f := 28) rfl ?_); refine goesL_ (some 85) rfl rfl Try.func28 (by kernel_rfl) rfl #[.int .i64 36, .int .i64 t324, .int .i64 t325] rfl (by (try simp only [List.map_toArray, List.map_cons, List.map_nil]); first | done | rfl | (simp only [List.length_drop, List.length_take]; rfl)) ?_; (with_reducible refine (impl_Compute.calls kj8 36 t324 t325 t336 t337 _ A17.out).mono ?_); rintro e w' ⟨rfl, ⟨nd, rfl⟩⟩; refine ⟨_, rfl, ?_⟩) | ((with_reducible refine gate_callee (f := 28) rfl ?_); refine goesL_ (some 91) rfl rfl Try.func28 (by kernel_rfl) rfl #[.int .i64 25, .int .i64 t336, .int .i64 t325] rfl (by (try simp only [List.map_toArray, List.map_cons, List.map_nil]); first | done | rfl | (simp only [List.length_drop, List.length_take]; rfl)) ?_; (with_reducible refine (impl_Compute.calls kj8 25 t336 t325 t338 t339 _ A18.out).mono ?_); rintro e w' ⟨rfl, ⟨nd, rfl⟩⟩; refine ⟨_, rfl, ?_⟩) | ((with_reducible refine gate_callee (f := 17) rfl ?_); refine goesL_ (some 95) rfl rfl Try.func17 (by kernel_rfl) rfl #[.slice A1 l1.length c1, .int .i64 0, .int .i64 63] rfl (by (try simp only [List.map_toArray, List.map_cons, List.map_nil]); first | done | rfl | (simp only [List.length_drop, List.length_take]; rfl)) ?_; (with_reducible refine (laws_at.calls _ _ l1 0 63 t340 _ ?side1 ?side2 A19.out).mono ?_); (case side1 => repeat (first | exact (Kd.C_below HR1.out (by repeat (first | (with_reducible first | exact HB.out | apply below_alloc | apply pw_below_drewN | apply below_drew1) | exact HB.out))) | (with_reducible refine Kd.C_alloc ?_ _) | (with_reducible refine Kd.C_drewN ?_ _) | (with_reducible refine Kd.C_drew ?_))); (case side2 => exact HC1.out); rintro e w' ⟨rfl, ⟨nd, rfl⟩⟩; refine ⟨_, rfl, ?_⟩) | ((with_reducible refine gate_callee (f := 28) rfl ?_); refine goesL_ (some 99) rfl rfl Try.func28 (by kernel_rfl) rfl #[.int .i64 28, .int .i64 t324, .int .i64 t340] rfl (by (try simp only [List.map_toArray, List.map_cons, List.map_nil]); first | done | rfl | (simp only [List.length_drop, List.length_take]; rfl)) ?_; (with_reducible refine (impl_Compute.calls kj8 28 t324 t340 t341 t342 _ A20.out).mono ?_); rintro e w' ⟨rfl, ⟨nd, rfl⟩⟩; refine ⟨_, rfl, ?_⟩) | ((with_reducible refine gate_callee (f := 28) rfl ?_); refine goesL_ (some 106) rfl rfl Try.func28 (by kernel_rfl) rfl #[.int .i64 28, .int .i64 t324, .int .i64 (wrap64 (t340 + 1))] rfl (by (try simp only [List.map_toArray, List.map_cons, List.map_nil]); first | done | rfl | (simp only [List.length_drop, List.length_take]; rfl)) ?_; (with_reducible refine (impl_Compute.calls kj8 28 t324 (wrap64 (t340 + 1)) t343 t344 _ A21.out).mono ?_); rintro e w' ⟨rfl, ⟨nd, rfl⟩⟩; refine ⟨_, rfl, ?_⟩) | ((with_reducible refine gate_callee (f := 28) rfl ?_); refine goesL_ (some 111) rfl rfl Try.func28 (by kernel_rfl) rfl #[.int .i64 30, .int .i64 t324, .int .i64 63] rfl (by (try simp only [List.map_toArray, List.map_cons, List.map_nil]); first | done | rfl | (simp only [List.length_drop, List.length_take]; rfl)) ?_; (with_reducible refine (impl_Compute.calls kj8 30 t324 63 t345 t346 _ A22.out).mono ?_); rintro e w' ⟨rfl, ⟨nd, rfl⟩⟩; refine ⟨_, rfl, ?_⟩) | (go_at_call 31; (with_reducible refine (laws_plus.calls t324 t325 t347 _ A24.out).mono ?_); rintro e w' ⟨rfl, ⟨nd, rfl⟩⟩) | (go_at_call 34; (with_reducible refine (impl_WordOf.calls t330 t348 _ A29.out).mono ?_); rintro e w' ⟨rfl, ⟨nd, rfl⟩⟩) | (go_at_call 35; (with_reducible refine (spec_WordOf.calls kj8 t330 t349 _ A31.out).mono ?_); rintro e w42 ⟨rfl, hb⟩; have n0_ := Aside0.mk (below_step (by repeat (first | (with_reducible first | exact HB.out | apply below_alloc | apply pw_below_drewN | apply below_drew1) | exact HB.out)) hb); clear HB; have HB := n0_; clear n0_; (try clear hb); (try clear hb2); (try clear hk); (try clear hi)) | (go_at_call 31; (with_reducible refine (laws_plus.calls t341 t341 t350 _ A38.out).mono ?_); rintro e w' ⟨rfl, ⟨nd, rfl⟩⟩))
                                            go_ret
                                            exact ⟨by first | rfl | (simp [errW_none, errW_some] <;> rfl) | (simp [*, errW_none, errW_some] <;> rfl), by repeat (first | (with_reducible first | exact HB.out | apply below_alloc | apply pw_below_drewN | apply below_drew1) | exact HB.out)⟩
                                          · rw [if_neg c41] at H
                                            have c41b0 : ((t345 == (-1)) == (decide (t324 < 0))) = false := by simpa using c41
                                            (try (have c41b1 : decide ((t345 == (-1)) = (decide (t324 < 0))) = false := by simpa using c41))
                                            (try (have c41b2 : ((t345 == (-1)) == (decide (t324 < 0))) = false := by simpa using c41))
                                            (try (have c41b3 : ¬ ((t345 == (-1)) = (decide (t324 < 0))) := by simpa using c41))
                                            clear c41
                                            exact absurd ((Option.some.inj H).trans HT.out) (by decide)
                                        · rw [if_neg c40] at H
                                          have c40b0 : (t346 == 0) = false := beq_eq_false_iff_ne.mpr c40
                                          have c40b1 : (t346 != 0) = true := bne_iff_ne.mpr c40
                                          exact absurd ((Option.some.inj H).trans HT.out) (by decide)
                                      · rw [if_neg c39] at H
                                        have c39b0 : (t343 == t350) = false := beq_eq_false_iff_ne.mpr c39
                                        have c39b1 : (t343 != t350) = true := bne_iff_ne.mpr c39
                                        exact absurd ((Option.some.inj H).trans HT.out) (by decide)
                                    · rw [if_neg c37] at H
                                      have c37b0 : (t344 == 0) = false := beq_eq_false_iff_ne.mpr c37
                                      have c37b1 : (t344 != 0) = true := bne_iff_ne.mpr c37
                                      exact absurd ((Option.some.inj H).trans HT.out) (by decide)
                                  · rw [if_neg c36] at H
                                    have c36b0 : (t342 == 0) = false := beq_eq_false_iff_ne.mpr c36
                                    have c36b1 : (t342 != 0) = true := bne_iff_ne.mpr c36
                                    exact absurd ((Option.some.inj H).trans HT.out) (by decide)
                                · rw [if_neg c35] at H
                                  have c35b0 : (t338 == t324) = false := beq_eq_false_iff_ne.mpr c35
                                  have c35b1 : (t338 != t324) = true := bne_iff_ne.mpr c35
                                  exact absurd ((Option.some.inj H).trans HT.out) (by decide)
                              · rw [if_neg c34] at H
                                have c34b0 : (t339 == 0) = false := beq_eq_false_iff_ne.mpr c34
                                have c34b1 : (t339 != 0) = true := bne_iff_ne.mpr c34
                                exact absurd ((Option.some.inj H).trans HT.out) (by decide)
                            · rw [if_neg c33] at H
                              have c33b0 : (t337 == 0) = false := beq_eq_false_iff_ne.mpr c33
                              have c33b1 : (t337 != 0) = true := bne_iff_ne.mpr c33
                              exact absurd ((Option.some.inj H).trans HT.out) (by decide)
                          · rw [if_neg c32] at H
                            have c32b0 : (t334 == t349) = false := beq_eq_false_iff_ne.mpr c32
                            have c32b1 : (t334 != t349) = true := bne_iff_ne.mpr c32
                            exact absurd ((Option.some.inj H).trans HT.out) (by decide)
                        · rw [if_neg c30] at H
                          have c30b0 : (t334 == t348) = false := beq_eq_false_iff_ne.mpr c30
                          have c30b1 : (t334 != t348) = true := bne_iff_ne.mpr c30
                          exact absurd ((Option.some.inj H).trans HT.out) (by decide)
                      · rw [if_neg c28] at H
                        have c28b0 : (t335 == 0) = false := beq_eq_false_iff_ne.mpr c28
                        have c28b1 : (t335 != 0) = true := bne_iff_ne.mpr c28
                        exact absurd ((Option.some.inj H).trans HT.out) (by decide)
                    · rw [if_neg c27] at H
                      have c27b0 : (t332 == t324) = false := beq_eq_false_iff_ne.mpr c27
                      have c27b1 : (t332 != t324) = true := bne_iff_ne.mpr c27
                      exact absurd ((Option.some.inj H).trans HT.out) (by decide)
                  · rw [if_neg c26] at H
                    have c26b0 : (t333 == 0) = false := beq_eq_false_iff_ne.mpr c26
                    have c26b1 : (t333 != 0) = true := bne_iff_ne.mpr c26
                    exact absurd ((Option.some.inj H).trans HT.out) (by decide)
                · rw [if_neg c25] at H
                  have c25b0 : (t330 == t347) = false := beq_eq_false_iff_ne.mpr c25
                  have c25b1 : (t330 != t347) = true := bne_iff_ne.mpr c25
                  exact absurd ((Option.some.inj H).trans HT.out) (by decide)
              · rw [if_neg c23] at H
                have c23b0 : (t331 == 0) = false := beq_eq_false_iff_ne.mpr c23
                have c23b1 : (t331 != 0) = true := bne_iff_ne.mpr c23
                exact absurd ((Option.some.inj H).trans HT.out) (by decide)

/-- THE ONE PURE STATEMENT of laws_FnCompute: yours. -/
def laws_FnCompute.Pure : Prop := ∀ (l0 : List Int) (l1 : List Int), l0.length ≤ maxLen → l0.length * 1 ≤ 140737488351232 → (∀ x ∈ l0, (Lit.int .u8 x).wf = true) → l1.length ≤ maxLen → l1.length * 1 ≤ 140737488351232 → (∀ x ∈ l1, (Lit.int .u8 x).wf = true) → ∃ k, laws_FnCompute.f k l0 l1 = some true
theorem laws_FnCompute.walk (P : laws_FnCompute.Pure) (a0 : Option Addr) (len0 cap0 : Nat) (z0 : List Int) (a1 : Option Addr) (len1 cap1 : Nat) (z1 : List Int) (w : World) (w0 : (a0 = none ∧ len0 = 0 ∧ cap0 = 0 ∧ z0 = []) ∨ ∃ x, a0 = some x ∧ len0 ≤ cap0 ∧ cap0 ≤ maxLen ∧ z0.length = cap0 ∧ (∀ i, i < z0.length → w.cell? (x.add i) = some (.int .u8 (z0.getD i 0))) ∧ ∀ n ∈ z0, (Lit.int .u8 n).wf = true) (y0 : len0 * 1 ≤ 140737488351232) (w1 : (a1 = none ∧ len1 = 0 ∧ cap1 = 0 ∧ z1 = []) ∨ ∃ x, a1 = some x ∧ len1 ≤ cap1 ∧ cap1 ≤ maxLen ∧ z1.length = cap1 ∧ (∀ i, i < z1.length → w.cell? (x.add i) = some (.int .u8 (z1.getD i 0))) ∧ ∀ n ∈ z1, (Lit.int .u8 n).wf = true) (y1 : len1 * 1 ≤ 140737488351232) :
    Calls Try.prog 8 #[.slice a0 len0 cap0, .slice a1 len1 cap1] w fun e w' => e = .returned (.bool true) ∧ Below w.heap.size w w' := by
  obtain ⟨l0, rfl, hr0, hm0, hw0, hc0⟩ := ReadsInt.ofRowC w0
  obtain ⟨l1, rfl, hr1, hm1, hw1, hc1⟩ := ReadsInt.ofRowC w1
  obtain ⟨k, h⟩ := P l0 l1 hm0 y0 hw0 hm1 y1 hw1
  refine (laws_FnCompute.calls k _ _ l0 _ _ l1 true rfl w (Kd.C_of_reads (d := (0 : Int)) (h1 := fun _ => rfl) hr0) hc0 (Kd.C_of_reads (d := (0 : Int)) (h1 := fun _ => rfl) hr1) hc1 h).mono ?_
  rintro e w' ⟨rfl, hd⟩
  exact ⟨rfl, hd⟩

end Go.Proofs.Ytbbaggpmhiickaa.PFnCompute
