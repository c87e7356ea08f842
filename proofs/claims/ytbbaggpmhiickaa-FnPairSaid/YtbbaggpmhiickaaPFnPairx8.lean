/- The walk of FnPair: each Go function that the law reaches as a plain Lean function, with the proof that a call does what it says; no conditions. Written by a program for this claim. -/
import Derived.Test.YtbbaggpmhiickaaPFnPairx0
import Derived.Test.YtbbaggpmhiickaaPFnPairx4
import Derived.Test.YtbbaggpmhiickaaPFnPairx5
import Derived.Test.YtbbaggpmhiickaaPFnPairx6
namespace Go.Proofs.Ytbbaggpmhiickaa.PFnPair
open Go.RowKit Go.Proofs.YtbbaggpmhiickaaW.PrintWords Go.Proofs.YtbbaggpmhiickaaW.PrintLast Go.Proofs.YtbbaggpmhiickaaW.PrintMore
attribute [local go_sem] max2_int min2_int max_two min_two max_three min_three max_four min_four   -- for this text's walks alone
set_option linter.unusedVariables false
set_option linter.unusedSimpArgs false

/-! ### impl_PairAddress: function 23 -/
mutual
def impl_PairAddress.j0 : Nat → Int → Int → Int → Bool → Option (Int × Int)
  | 0, _, _, _, _ => none
  | k + 1, x0, x1, x2, x24 => if x24 = true then (some (0, 4)) else ((impl_decode.f k x0).bind fun bt272 => ((impl_decode.f k x1).bind fun bt279 => (if bt272.2.2.2.2.2 = true then (impl_PairAddress.j1 k x2 (!bt279.2.2.2.2.2) bt272.1 bt272.2.1 bt272.2.2.1 bt272.2.2.2.1 bt272.2.2.2.2.1 bt279.1 bt279.2.1 bt279.2.2.1 bt279.2.2.2.1 bt279.2.2.2.2.1) else (impl_PairAddress.j1 k x2 true bt272.1 bt272.2.1 bt272.2.2.1 bt272.2.2.2.1 bt272.2.2.2.2.1 bt279.1 bt279.2.1 bt279.2.2.1 bt279.2.2.2.1 bt279.2.2.2.2.1))))
def impl_PairAddress.j1 : Nat → Int → Bool → Int → Int → Int → Int → Int → Int → Int → Int → Int → Int → Option (Int × Int)
  | 0, _, _, _, _, _, _, _, _, _, _, _, _ => none
  | k + 1, x2, x35, x279000, x279001, x279002, x279003, x279004, x286000, x286001, x286002, x286003, x286004 => if x35 = true then (some (0, 10)) else (if x279000 = 1 then ((impl_isLow.f x286000 x286001 x286002 x286003 x286004).bind fun t286 => (if t286 = true then (impl_PairAddress.j2 k x2 (x286002 != x279001) x279000 x279001 x279002 x279003 x279004 x286000 x286001 x286002 x286003 x286004) else ((impl_isStore.f x286000).bind fun t287 => (if t287 = true then (impl_PairAddress.j2 k x2 (x286002 != x279001) x279000 x279001 x279002 x279003 x279004 x286000 x286001 x286002 x286003 x286004) else (impl_PairAddress.j2 k x2 true x279000 x279001 x279002 x279003 x279004 x286000 x286001 x286002 x286003 x286004))))) else (if x279000 = 2 then ((impl_isLow.f x286000 x286001 x286002 x286003 x286004).bind fun t288 => (if t288 = true then (impl_PairAddress.j2 k x2 (x286002 != x279001) x279000 x279001 x279002 x279003 x279004 x286000 x286001 x286002 x286003 x286004) else ((impl_isStore.f x286000).bind fun t289 => (if t289 = true then (impl_PairAddress.j2 k x2 (x286002 != x279001) x279000 x279001 x279002 x279003 x279004 x286000 x286001 x286002 x286003 x286004) else (impl_PairAddress.j2 k x2 true x279000 x279001 x279002 x279003 x279004 x286000 x286001 x286002 x286003 x286004))))) else (impl_PairAddress.j2 k x2 true x279000 x279001 x279002 x279003 x279004 x286000 x286001 x286002 x286003 x286004)))
def impl_PairAddress.j2 : Nat → Int → Bool → Int → Int → Int → Int → Int → Int → Int → Int → Int → Int → Option (Int × Int)
  | 0, _, _, _, _, _, _, _, _, _, _, _, _ => none
  | k + 1, x2, x42, x279000, x279001, x279002, x279003, x279004, x286000, x286001, x286002, x286003, x286004 => if x42 = true then (some (0, 26)) else (if x279000 = 2 then (some (wrap64 ((wrap64 (x279004 + x286004)) + x2), 0)) else (some (wrap64 (x279004 + x286004), 0)))
end
def impl_PairAddress.f (k : Nat) (a0 : Int) (a1 : Int) (a2 : Int) : Option (Int × Int) := (impl_isWord.f a0).bind fun t269 => (if t269 = true then ((impl_isWord.f a1).bind fun t270 => (if t270 = true then ((impl_isCodeAt.f a2).bind fun t271 => (impl_PairAddress.j0 k a0 a1 a2 (!t271))) else (impl_PairAddress.j0 k a0 a1 a2 true))) else (impl_PairAddress.j0 k a0 a1 a2 true))
theorem impl_PairAddress.mono_l : ∀ k, (∀ y0 y1 y2 y3, LeO (impl_PairAddress.j0 k y0 y1 y2 y3) (impl_PairAddress.j0 (k + 1) y0 y1 y2 y3)) ∧ (∀ y0 y1 y2 y3 y4 y5 y6 y7 y8 y9 y10 y11, LeO (impl_PairAddress.j1 k y0 y1 y2 y3 y4 y5 y6 y7 y8 y9 y10 y11) (impl_PairAddress.j1 (k + 1) y0 y1 y2 y3 y4 y5 y6 y7 y8 y9 y10 y11)) ∧ (∀ y0 y1 y2 y3 y4 y5 y6 y7 y8 y9 y10 y11, LeO (impl_PairAddress.j2 k y0 y1 y2 y3 y4 y5 y6 y7 y8 y9 y10 y11) (impl_PairAddress.j2 (k + 1) y0 y1 y2 y3 y4 y5 y6 y7 y8 y9 y10 y11))
  | 0 => ⟨fun _ _ _ _ r h => by simp [impl_PairAddress.j0] at h, fun _ _ _ _ _ _ _ _ _ _ _ _ r h => by simp [impl_PairAddress.j1] at h, fun _ _ _ _ _ _ _ _ _ _ _ _ r h => by simp [impl_PairAddress.j2] at h⟩
  | k + 1 => by
    obtain ⟨ih0, ih1, ih2⟩ := impl_PairAddress.mono_l k
    refine ⟨?_, ?_, ?_⟩
    · intro y0 y1 y2 y3
      unfold impl_PairAddress.j0
      repeat' first
      | (with_reducible exact ih0 _ _ _ _)
      | (with_reducible exact ih1 _ _ _ _ _ _ _ _ _ _ _ _)
      | (with_reducible exact ih2 _ _ _ _ _ _ _ _ _ _ _ _)
      | (with_reducible exact impl_decode.mono _ _)
      | (with_reducible exact LeO.refl _)
      | (with_reducible exact LeO.none _)
      | (with_reducible refine LeO.ite ?_ ?_)
      | (with_reducible refine LeO.bind ?_ (fun _ => ?_))
      | exact ih0 _ _ _ _
      | exact ih1 _ _ _ _ _ _ _ _ _ _ _ _
      | exact ih2 _ _ _ _ _ _ _ _ _ _ _ _
      | exact impl_decode.mono _ _
      | exact LeO.none _
      | refine LeO.ite ?_ ?_
      | refine LeO.bind ?_ (fun _ => ?_)
    · intro y0 y1 y2 y3 y4 y5 y6 y7 y8 y9 y10 y11
      unfold impl_PairAddress.j1
      repeat' first
      | (with_reducible exact ih0 _ _ _ _)
      | (with_reducible exact ih1 _ _ _ _ _ _ _ _ _ _ _ _)
      | (with_reducible exact ih2 _ _ _ _ _ _ _ _ _ _ _ _)
      | (with_reducible exact impl_decode.mono _ _)
      | (with_reducible exact LeO.refl _)
      | (with_reducible exact LeO.none _)
      | (with_reducible refine LeO.ite ?_ ?_)
      | (with_reducible refine LeO.bind ?_ (fun _ => ?_))
      | exact ih0 _ _ _ _
      | exact ih1 _ _ _ _ _ _ _ _ _ _ _ _
      | exact ih2 _ _ _ _ _ _ _ _ _ _ _ _
      | exact impl_decode.mono _ _
      | exact LeO.none _
      | refine LeO.ite ?_ ?_
      | refine LeO.bind ?_ (fun _ => ?_)
    · intro y0 y1 y2 y3 y4 y5 y6 y7 y8 y9 y10 y11
      unfold impl_PairAddress.j2
      repeat' first
      | (with_reducible exact ih0 _ _ _ _)
      | (with_reducible exact ih1 _ _ _ _ _ _ _ _ _ _ _ _)
      | (with_reducible exact ih2 _ _ _ _ _ _ _ _ _ _ _ _)
      | (with_reducible exact impl_decode.mono _ _)
      | (with_reducible exact LeO.refl _)
      | (with_reducible exact LeO.none _)
      | (with_reducible refine LeO.ite ?_ ?_)
      | (with_reducible refine LeO.bind ?_ (fun _ => ?_))
      | exact ih0 _ _ _ _
      | exact ih1 _ _ _ _ _ _ _ _ _ _ _ _
      | exact ih2 _ _ _ _ _ _ _ _ _ _ _ _
      | exact impl_decode.mono _ _
      | exact LeO.none _
      | refine LeO.ite ?_ ?_
      | refine LeO.bind ?_ (fun _ => ?_)
theorem impl_PairAddress.mono : ∀ a0 a1 a2 k, LeO (impl_PairAddress.f k a0 a1 a2) (impl_PairAddress.f (k + 1) a0 a1 a2) := by
  intro a0 a1 a2 k
  obtain ⟨ih0, ih1, ih2⟩ := impl_PairAddress.mono_l k
  unfold impl_PairAddress.f
  repeat' first
      | (with_reducible exact ih0 _ _ _ _)
      | (with_reducible exact ih1 _ _ _ _ _ _ _ _ _ _ _ _)
      | (with_reducible exact ih2 _ _ _ _ _ _ _ _ _ _ _ _)
      | (with_reducible exact impl_decode.mono _ _)
      | (with_reducible exact LeO.refl _)
      | (with_reducible exact LeO.none _)
      | (with_reducible refine LeO.ite ?_ ?_)
      | (with_reducible refine LeO.bind ?_ (fun _ => ?_))
      | exact ih0 _ _ _ _
      | exact ih1 _ _ _ _ _ _ _ _ _ _ _ _
      | exact ih2 _ _ _ _ _ _ _ _ _ _ _ _
      | exact impl_decode.mono _ _
      | exact LeO.none _
      | refine LeO.ite ?_ ?_
      | refine LeO.bind ?_ (fun _ => ?_)
set_option maxHeartbeats 8000000 in
set_option maxRecDepth 100000 in
theorem impl_PairAddress.calls (k : Nat) (a0 : Int) (a1 : Int) (a2 : Int) (r1 : Int) (r2 : Int) (w : World) (h : impl_PairAddress.f k a0 a1 a2 = some (r1, r2)) :
    Calls Try.prog 23 #[.int .i64 a0, .int .i64 a1, .int .i64 a2] w fun e w' => e = .returned (.tuple #[.int .i64 r1, .int .i64 r2]) ∧ Below w.heap.size w w' := by
  have hu32 := Try.underlying32
  have HB := Aside0.mk (Below.refl w.heap.size w)
  have H : ((impl_isWord.f a0).bind fun t269 => (if t269 = true then ((impl_isWord.f a1).bind fun t270 => (if t270 = true then ((impl_isCodeAt.f a2).bind fun t271 => (impl_PairAddress.j0 k a0 a1 a2 (!t271))) else (impl_PairAddress.j0 k a0 a1 a2 true))) else (impl_PairAddress.j0 k a0 a1 a2 true))) = some (r1, r2) := h
  clear h
  have HC4 := Aside0.mk H
  clear H
  go_enter Try.func23, Try.ntmps23
  go_upto_region 1 with (fail)
  go_cut [24] (fun v24 wc => ∃ (kq : Nat) (x24_3 : Bool), v24 = .bool x24_3 ∧ Aside0 (impl_PairAddress.j0 kq a0 a1 a2 x24_3 = some (r1, r2)) ∧ Aside0 (kq ≤ k) ∧ Aside0 (Below w.heap.size w wc))
  case first =>
    have H := HC4.out
    clear HC4
    replace H := Option.bind_eq_some_iff.mp H
    obtain ⟨t269, A50, H⟩ := H
    try dsimp only at H
    have A5 := Aside0.mk A50
    clear A50
    by_cases c6 : t269 = true
    · subst c6
      rw [if_pos rfl] at H
      replace H := Option.bind_eq_some_iff.mp H
      obtain ⟨t270, A70, H⟩ := H
      try dsimp only at H
      have A7 := Aside0.mk A70
      clear A70
      by_cases c8 : t270 = true
      · subst c8
        rw [if_pos rfl] at H
        replace H := Option.bind_eq_some_iff.mp H
        obtain ⟨t271, A90, H⟩ := H
        try dsimp only at H
        have A9 := Aside0.mk A90
        clear A90
        have H' := Aside0.mk H
        clear H
        go_wp2_with (first | ((with_reducible refine gate_callee (f := 61) rfl ?_); refine goesL_ (some 13) rfl rfl Try.func61 (by kernel_rfl) rfl #[.int .i64 a0] rfl (by (try simp only [List.map_toArray, List.map_cons, List.map_nil]); first | done | rfl | (simp only [List.length_drop, List.length_take]; rfl)) ?_; (with_reducible refine (impl_isWord.calls a0 true _ A5.out).mono ?_); rintro e w' ⟨rfl, ⟨nd, rfl⟩⟩; refine ⟨_, rfl, ?_⟩) | (go_at_call 61; (with_reducible refine (impl_isWord.calls a1 true _ A7.out).mono ?_); rintro e w' ⟨rfl, ⟨nd, rfl⟩⟩) | (go_at_call 63; (with_reducible refine (impl_isCodeAt.calls a2 t271 _ A9.out).mono ?_); rintro e w' ⟨rfl, ⟨nd, rfl⟩⟩))
        go_meet
        case rel => exact ⟨_, (!t271), (by first | rfl | (simp; done) | (simp [*]; done)), H', ⟨by first | omega | exact Nat.le_refl _⟩, ⟨by repeat (first | (with_reducible first | exact HB.out | apply below_alloc | apply pw_below_drewN | apply below_drew1) | exact HB.out)⟩⟩
      · replace c8 := Bool.eq_false_iff.mpr c8
        subst c8
        rw [if_neg (show ¬ (false = true) by decide)] at H
        have H' := Aside0.mk H
        clear H
        go_wp2_with (first | ((with_reducible refine gate_callee (f := 61) rfl ?_); refine goesL_ (some 13) rfl rfl Try.func61 (by kernel_rfl) rfl #[.int .i64 a0] rfl (by (try simp only [List.map_toArray, List.map_cons, List.map_nil]); first | done | rfl | (simp only [List.length_drop, List.length_take]; rfl)) ?_; (with_reducible refine (impl_isWord.calls a0 true _ A5.out).mono ?_); rintro e w' ⟨rfl, ⟨nd, rfl⟩⟩; refine ⟨_, rfl, ?_⟩) | (go_at_call 61; (with_reducible refine (impl_isWord.calls a1 false _ A7.out).mono ?_); rintro e w' ⟨rfl, ⟨nd, rfl⟩⟩))
        go_meet
        case rel => exact ⟨_, (true), (by first | rfl | (simp; done) | (simp [*]; done)), H', ⟨by first | omega | exact Nat.le_refl _⟩, ⟨by repeat (first | (with_reducible first | exact HB.out | apply below_alloc | apply pw_below_drewN | apply below_drew1) | exact HB.out)⟩⟩
    · replace c6 := Bool.eq_false_iff.mpr c6
      subst c6
      rw [if_neg (show ¬ (false = true) by decide)] at H
      have H' := Aside0.mk H
      clear H
      go_wp2_with (first | ((with_reducible refine gate_callee (f := 61) rfl ?_); refine goesL_ (some 13) rfl rfl Try.func61 (by kernel_rfl) rfl #[.int .i64 a0] rfl (by (try simp only [List.map_toArray, List.map_cons, List.map_nil]); first | done | rfl | (simp only [List.length_drop, List.length_take]; rfl)) ?_; (with_reducible refine (impl_isWord.calls a0 false _ A5.out).mono ?_); rintro e w' ⟨rfl, ⟨nd, rfl⟩⟩; refine ⟨_, rfl, ?_⟩))
      go_meet
      case rel => exact ⟨_, (true), (by first | rfl | (simp; done) | (simp [*]; done)), H', ⟨by first | omega | exact Nat.le_refl _⟩, ⟨by repeat (first | (with_reducible first | exact HB.out | apply below_alloc | apply pw_below_drewN | apply below_drew1) | exact HB.out)⟩⟩
  case rest =>
    clear HC4
    try clear c2
    try clear p2
    try clear c6
    try clear c8
    obtain ⟨kq, x24_3, rfl, HA, HJ3, HB⟩ := hcut
    cases kq with
    | zero => exact absurd HA.out (by simp [impl_PairAddress.j0])
    | succ kj3 =>
      have H := HA.out
      clear HA
      simp only [impl_PairAddress.j0] at H
      by_cases c10 : x24_3 = true
      · subst c10
        rw [if_pos rfl] at H
        simp only [Option.some.injEq, Prod.mk.injEq] at H
        obtain ⟨rfl, rfl⟩ := H
        go_wp2
        go_ret2
        exact ⟨by first | rfl | (simp [errW_none, errW_some] <;> rfl) | (simp [*, errW_none, errW_some] <;> rfl), by repeat (first | (with_reducible first | exact HB.out | apply below_alloc | apply pw_below_drewN | apply below_drew1) | exact HB.out)⟩
      · replace c10 := Bool.eq_false_iff.mpr c10
        subst c10
        rw [if_neg (show ¬ (false = true) by decide)] at H
        replace H := Option.bind_eq_some_iff.mp H
        obtain ⟨⟨t272, t273, t274, t275, t276, t277⟩, A110, H⟩ := H
        try dsimp only at H
        have A11 := Aside0.mk A110
        clear A110
        replace H := Option.bind_eq_some_iff.mp H
        obtain ⟨⟨t279, t280, t281, t282, t283, t284⟩, A120, H⟩ := H
        try dsimp only at H
        have A12 := Aside0.mk A120
        clear A120
        have HC13 := Aside0.mk H
        clear H
        go_upto_region 5 with (first | ((with_reducible refine gate_callee (f := 65) rfl ?_); refine goesL_ (some 27) rfl rfl Try.func65 (by kernel_rfl) rfl #[.int .i64 a0] rfl (by (try simp only [List.map_toArray, List.map_cons, List.map_nil]); first | done | rfl | (simp only [List.length_drop, List.length_take]; rfl)) ?_; (with_reducible refine (impl_decode.calls kj3 a0 t272 t273 t274 t275 t276 t277 _ A11.out).mono ?_); rintro e w14 ⟨rfl, hb⟩; refine ⟨_, rfl, ?_⟩; have n0_ := Aside0.mk (below_step (by repeat (first | (with_reducible first | exact HB.out | apply below_alloc | apply pw_below_drewN | apply below_drew1) | exact HB.out)) hb); clear HB; have HB := n0_; clear n0_; (try clear hb); (try clear hb2); (try clear hk); (try clear hi)) | ((with_reducible refine gate_dst (N := 8) rfl ?_); refine box_event ?hg (N := 8) ?hd (cs := #[.int .i64 0, .int .i64 0, .int .i64 0, .int .i64 0, .int .i64 0]) (t := 32) ?hr ?_; (case hd => rfl); (case hg => rfl); (case hr => first | (go_simp; done) | (go_simp; rfl)); intro gb278 hg w15 hbox hb; have n0_ := Aside0.mk (below_step (by repeat (first | (with_reducible first | exact HB.out | apply below_alloc | apply pw_below_drewN | apply below_drew1) | exact HB.out)) hb); have n1_ := Aside0.mk (hbox); have n2_ := Aside0.mk ((by rw [hg]; exact (below_size (by repeat (first | (with_reducible first | exact HB.out | apply below_alloc | apply pw_below_drewN | apply below_drew1) | exact HB.out))) : w.heap.size ≤ gb278)); have n3_ := Aside0.mk ((by rw [hg]; exact (below_size (by repeat (first | (with_reducible first | exact HB.out | apply below_alloc | apply pw_below_drewN | apply below_drew1) | exact HB.out))) : w.heap.size ≤ gb278)); clear HB; have HB := n0_; have BK278 := n1_; have GW278 := n2_; have GE278 := n3_; clear n0_ n1_ n2_ n3_; clear hb hbox hg; have hcz16_0 : w15.cell? ⟨gb278, 0, none⟩ = some (.int .i64 0) := (blk_cell BK278.out 0).trans rfl; have hcz16_1 : w15.cell? ⟨gb278, 1, none⟩ = some (.int .i64 0) := (blk_cell BK278.out 1).trans rfl; have hcz16_2 : w15.cell? ⟨gb278, 2, none⟩ = some (.int .i64 0) := (blk_cell BK278.out 2).trans rfl; have hcz16_3 : w15.cell? ⟨gb278, 3, none⟩ = some (.int .i64 0) := (blk_cell BK278.out 3).trans rfl; have hcz16_4 : w15.cell? ⟨gb278, 4, none⟩ = some (.int .i64 0) := (blk_cell BK278.out 4).trans rfl; have hfz16_0 := blk_frozen BK278.out 0; have hfz16_1 := blk_frozen BK278.out 1; have hfz16_2 := blk_frozen BK278.out 2; have hfz16_3 := blk_frozen BK278.out 3; have hfz16_4 := blk_frozen BK278.out 4) | ((with_reducible refine gate_callee (f := 65) rfl ?_); refine goesL_ (some 32) rfl rfl Try.func65 (by kernel_rfl) rfl #[.int .i64 a1] rfl (by (try simp only [List.map_toArray, List.map_cons, List.map_nil]); first | done | rfl | (simp only [List.length_drop, List.length_take]; rfl)) ?_; (with_reducible refine (impl_decode.calls kj3 a1 t279 t280 t281 t282 t283 t284 _ A12.out).mono ?_); rintro e w17 ⟨rfl, hb⟩; refine ⟨_, rfl, ?_⟩; have n0_ := Aside0.mk (blk_below (g := gb278) (o := .cells #[.int .i64 t272, .int .i64 t273, .int .i64 t274, .int .i64 t275, .int .i64 t276] 32 (0, 0)) (by (with_reducible repeat (first | refine blk_drewN ?_ _ | refine blk_drew ?_ | refine blk_alloc ?_ _)); refine blk_put (cs := #[.int .i64 t272, .int .i64 t273, .int .i64 t274, .int .i64 t275, .int .i64 0]) ?_ 4 _ rfl; (with_reducible repeat (first | refine blk_drewN ?_ _ | refine blk_drew ?_ | refine blk_alloc ?_ _)); refine blk_put (cs := #[.int .i64 t272, .int .i64 t273, .int .i64 t274, .int .i64 0, .int .i64 0]) ?_ 3 _ rfl; (with_reducible repeat (first | refine blk_drewN ?_ _ | refine blk_drew ?_ | refine blk_alloc ?_ _)); refine blk_put (cs := #[.int .i64 t272, .int .i64 t273, .int .i64 0, .int .i64 0, .int .i64 0]) ?_ 2 _ rfl; (with_reducible repeat (first | refine blk_drewN ?_ _ | refine blk_drew ?_ | refine blk_alloc ?_ _)); refine blk_put (cs := #[.int .i64 t272, .int .i64 0, .int .i64 0, .int .i64 0, .int .i64 0]) ?_ 1 _ rfl; (with_reducible repeat (first | refine blk_drewN ?_ _ | refine blk_drew ?_ | refine blk_alloc ?_ _)); refine blk_put (cs := #[.int .i64 0, .int .i64 0, .int .i64 0, .int .i64 0, .int .i64 0]) ?_ 0 _ rfl; (with_reducible repeat (first | refine blk_drewN ?_ _ | refine blk_drew ?_ | refine blk_alloc ?_ _)); exact BK278.out) hb); have n1_ := Aside0.mk (below_step (by repeat (first | (with_reducible first | exact HB.out | apply below_alloc | apply pw_below_drewN | apply below_drew1 | refine below_set ?_ GE278.out) | exact HB.out)) hb); clear BK278; clear HB; have BK278 := n0_; have HB := n1_; clear n0_ n1_; (try clear hb); (try clear hb2); (try clear hk); (try clear hi)) | ((with_reducible refine gate_dst (N := 10) rfl ?_); refine box_event ?hg (N := 10) ?hd (cs := #[.int .i64 0, .int .i64 0, .int .i64 0, .int .i64 0, .int .i64 0]) (t := 32) ?hr ?_; (case hd => rfl); (case hg => rfl); (case hr => first | (go_simp; done) | (go_simp; rfl)); intro gb285 hg w18 hbox hb; have n0_ := Aside0.mk (blk_below (g := gb278) (o := .cells #[.int .i64 t272, .int .i64 t273, .int .i64 t274, .int .i64 t275, .int .i64 t276] 32 (0, 0)) (by (with_reducible repeat (first | refine blk_drewN ?_ _ | refine blk_drew ?_ | refine blk_alloc ?_ _)); exact BK278.out) hb); have n1_ := Aside0.mk (below_step (by repeat (first | (with_reducible first | exact HB.out | apply below_alloc | apply pw_below_drewN | apply below_drew1 | refine below_set ?_ GE278.out) | exact HB.out)) hb); have n2_ := Aside0.mk (hbox); have n3_ := Aside0.mk ((by rw [hg]; exact (below_size (by repeat (first | (with_reducible first | exact HB.out | apply below_alloc | apply pw_below_drewN | apply below_drew1 | refine below_set ?_ GE278.out) | exact HB.out))) : w.heap.size ≤ gb285)); have n4_ := Aside0.mk ((by rw [hg]; exact (below_size (by repeat (first | (with_reducible first | exact HB.out | apply below_alloc | apply pw_below_drewN | apply below_drew1 | refine below_set ?_ GE278.out) | exact HB.out))) : w.heap.size ≤ gb285)); have n5_ := Aside0.mk ((by rw [hg]; exact Nat.ne_of_lt (blk_lt (g := gb278) (o := .cells #[.int .i64 t272, .int .i64 t273, .int .i64 t274, .int .i64 t275, .int .i64 t276] 32 (0, 0)) (by (with_reducible repeat (first | refine blk_drewN ?_ _ | refine blk_drew ?_ | refine blk_alloc ?_ _)); exact BK278.out)) : gb278 ≠ gb285)); have n6_ := Aside0.mk ((by rw [hg]; exact Nat.ne_of_gt (blk_lt (g := gb278) (o := .cells #[.int .i64 t272, .int .i64 t273, .int .i64 t274, .int .i64 t275, .int .i64 t276] 32 (0, 0)) (by (with_reducible repeat (first | refine blk_drewN ?_ _ | refine blk_drew ?_ | refine blk_alloc ?_ _)); exact BK278.out)) : gb285 ≠ gb278)); clear BK278; clear HB; have BK278 := n0_; have HB := n1_; have BK285 := n2_; have GW285 := n3_; have GE285 := n4_; have NB278_285 := n5_; have NB285_278 := n6_; clear n0_ n1_ n2_ n3_ n4_ n5_ n6_; clear hb hbox hg; have hnb19 := NB285_278.out; have hnc19 := NB278_285.out; have hcz20_0 : w18.cell? ⟨gb285, 0, none⟩ = some (.int .i64 0) := (blk_cell BK285.out 0).trans rfl; have hcz20_1 : w18.cell? ⟨gb285, 1, none⟩ = some (.int .i64 0) := (blk_cell BK285.out 1).trans rfl; have hcz20_2 : w18.cell? ⟨gb285, 2, none⟩ = some (.int .i64 0) := (blk_cell BK285.out 2).trans rfl; have hcz20_3 : w18.cell? ⟨gb285, 3, none⟩ = some (.int .i64 0) := (blk_cell BK285.out 3).trans rfl; have hcz20_4 : w18.cell? ⟨gb285, 4, none⟩ = some (.int .i64 0) := (blk_cell BK285.out 4).trans rfl; have hfz20_0 := blk_frozen BK285.out 0; have hfz20_1 := blk_frozen BK285.out 1; have hfz20_2 := blk_frozen BK285.out 2; have hfz20_3 := blk_frozen BK285.out 3; have hfz20_4 := blk_frozen BK285.out 4))
        (try simp only [Act.put, List.setIfInBounds_toArray, List.set_cons_zero, List.set_cons_succ])
        go_cut [35] (fun v35 wc => ∃ (kq : Nat) (x35_12 : Bool), v35 = .bool x35_12 ∧ Aside0 (impl_PairAddress.j1 kq a2 x35_12 t272 t273 t274 t275 t276 t279 t280 t281 t282 t283 = some (r1, r2)) ∧ Aside0 (kq ≤ kj3) ∧ Aside0 (wc.heap[gb278]? = some (.cells #[.int .i64 t272, .int .i64 t273, .int .i64 t274, .int .i64 t275, .int .i64 t276] 32 (0, 0))) ∧ Aside0 (wc.heap[gb285]? = some (.cells #[.int .i64 t279, .int .i64 t280, .int .i64 t281, .int .i64 t282, .int .i64 t283] 32 (0, 0))) ∧ Aside0 (Below w.heap.size w wc))
        case first =>
          have H := HC13.out
          clear HC13
          by_cases c21 : t277 = true
          · subst c21
            rw [if_pos rfl] at H
            have H' := Aside0.mk H
            clear H
            go_wp2
            go_meet
            case rel => exact ⟨_, (!t284), (by first | rfl | (simp; done) | (simp [*]; done)), H', ⟨by have := HJ3.out; first | omega | exact Nat.le_refl _⟩, ⟨by (with_reducible repeat (first | refine blk_drewN ?_ _ | refine blk_drew ?_ | refine blk_alloc ?_ _)); refine blk_far ?_ NB278_285.out _; (with_reducible repeat (first | refine blk_drewN ?_ _ | refine blk_drew ?_ | refine blk_alloc ?_ _)); refine blk_far ?_ NB278_285.out _; (with_reducible repeat (first | refine blk_drewN ?_ _ | refine blk_drew ?_ | refine blk_alloc ?_ _)); refine blk_far ?_ NB278_285.out _; (with_reducible repeat (first | refine blk_drewN ?_ _ | refine blk_drew ?_ | refine blk_alloc ?_ _)); refine blk_far ?_ NB278_285.out _; (with_reducible repeat (first | refine blk_drewN ?_ _ | refine blk_drew ?_ | refine blk_alloc ?_ _)); refine blk_far ?_ NB278_285.out _; (with_reducible repeat (first | refine blk_drewN ?_ _ | refine blk_drew ?_ | refine blk_alloc ?_ _)); exact BK278.out⟩, ⟨by (with_reducible repeat (first | refine blk_drewN ?_ _ | refine blk_drew ?_ | refine blk_alloc ?_ _)); refine blk_put (cs := #[.int .i64 t279, .int .i64 t280, .int .i64 t281, .int .i64 t282, .int .i64 0]) ?_ 4 _ rfl; (with_reducible repeat (first | refine blk_drewN ?_ _ | refine blk_drew ?_ | refine blk_alloc ?_ _)); refine blk_put (cs := #[.int .i64 t279, .int .i64 t280, .int .i64 t281, .int .i64 0, .int .i64 0]) ?_ 3 _ rfl; (with_reducible repeat (first | refine blk_drewN ?_ _ | refine blk_drew ?_ | refine blk_alloc ?_ _)); refine blk_put (cs := #[.int .i64 t279, .int .i64 t280, .int .i64 0, .int .i64 0, .int .i64 0]) ?_ 2 _ rfl; (with_reducible repeat (first | refine blk_drewN ?_ _ | refine blk_drew ?_ | refine blk_alloc ?_ _)); refine blk_put (cs := #[.int .i64 t279, .int .i64 0, .int .i64 0, .int .i64 0, .int .i64 0]) ?_ 1 _ rfl; (with_reducible repeat (first | refine blk_drewN ?_ _ | refine blk_drew ?_ | refine blk_alloc ?_ _)); refine blk_put (cs := #[.int .i64 0, .int .i64 0, .int .i64 0, .int .i64 0, .int .i64 0]) ?_ 0 _ rfl; (with_reducible repeat (first | refine blk_drewN ?_ _ | refine blk_drew ?_ | refine blk_alloc ?_ _)); exact BK285.out⟩, ⟨by repeat (first | (with_reducible first | exact HB.out | apply below_alloc | apply pw_below_drewN | apply below_drew1 | refine below_set ?_ GE278.out | refine below_set ?_ GE285.out) | exact HB.out)⟩⟩
          · replace c21 := Bool.eq_false_iff.mpr c21
            subst c21
            rw [if_neg (show ¬ (false = true) by decide)] at H
            have H' := Aside0.mk H
            clear H
            go_wp2
            go_meet
            case rel => exact ⟨_, (true), (by first | rfl | (simp; done) | (simp [*]; done)), H', ⟨by have := HJ3.out; first | omega | exact Nat.le_refl _⟩, ⟨by (with_reducible repeat (first | refine blk_drewN ?_ _ | refine blk_drew ?_ | refine blk_alloc ?_ _)); refine blk_far ?_ NB278_285.out _; (with_reducible repeat (first | refine blk_drewN ?_ _ | refine blk_drew ?_ | refine blk_alloc ?_ _)); refine blk_far ?_ NB278_285.out _; (with_reducible repeat (first | refine blk_drewN ?_ _ | refine blk_drew ?_ | refine blk_alloc ?_ _)); refine blk_far ?_ NB278_285.out _; (with_reducible repeat (first | refine blk_drewN ?_ _ | refine blk_drew ?_ | refine blk_alloc ?_ _)); refine blk_far ?_ NB278_285.out _; (with_reducible repeat (first | refine blk_drewN ?_ _ | refine blk_drew ?_ | refine blk_alloc ?_ _)); refine blk_far ?_ NB278_285.out _; (with_reducible repeat (first | refine blk_drewN ?_ _ | refine blk_drew ?_ | refine blk_alloc ?_ _)); exact BK278.out⟩, ⟨by (with_reducible repeat (first | refine blk_drewN ?_ _ | refine blk_drew ?_ | refine blk_alloc ?_ _)); refine blk_put (cs := #[.int .i64 t279, .int .i64 t280, .int .i64 t281, .int .i64 t282, .int .i64 0]) ?_ 4 _ rfl; (with_reducible repeat (first | refine blk_drewN ?_ _ | refine blk_drew ?_ | refine blk_alloc ?_ _)); refine blk_put (cs := #[.int .i64 t279, .int .i64 t280, .int .i64 t281, .int .i64 0, .int .i64 0]) ?_ 3 _ rfl; (with_reducible repeat (first | refine blk_drewN ?_ _ | refine blk_drew ?_ | refine blk_alloc ?_ _)); refine blk_put (cs := #[.int .i64 t279, .int .i64 t280, .int .i64 0, .int .i64 0, .int .i64 0]) ?_ 2 _ rfl; (with_reducible repeat (first | refine blk_drewN ?_ _ | refine blk_drew ?_ | refine blk_alloc ?_ _)); refine blk_put (cs := #[.int .i64 t279, .int .i64 0, .int .i64 0, .int .i64 0, .int .i64 0]) ?_ 1 _ rfl; (with_reducible repeat (first | refine blk_drewN ?_ _ | refine blk_drew ?_ | refine blk_alloc ?_ _)); refine blk_put (cs := #[.int .i64 0, .int .i64 0, .int .i64 0, .int .i64 0, .int .i64 0]) ?_ 0 _ rfl; (with_reducible repeat (first | refine blk_drewN ?_ _ | refine blk_drew ?_ | refine blk_alloc ?_ _)); exact BK285.out⟩, ⟨by repeat (first | (with_reducible first | exact HB.out | apply below_alloc | apply pw_below_drewN | apply below_drew1 | refine below_set ?_ GE278.out | refine below_set ?_ GE285.out) | exact HB.out)⟩⟩
        case rest =>
          clear HC13
          try clear c1
          try clear c2
          try clear p2
          try clear c6
          try clear c8
          try clear c10
          try clear c19
          try clear c21
          try clear hcz16_0
          try clear hcz16_1
          try clear hcz16_2
          try clear hcz16_3
          try clear hcz16_4
          try clear hcz20_0
          try clear hcz20_1
          try clear hcz20_2
          try clear hcz20_3
          try clear hcz20_4
          try clear hfz16_0
          try clear hfz16_1
          try clear hfz16_2
          try clear hfz16_3
          try clear hfz16_4
          try clear hfz20_0
          try clear hfz20_1
          try clear hfz20_2
          try clear hfz20_3
          try clear hfz20_4
          try clear p2
          obtain ⟨kq, x35_12, rfl, HA, HJ12, BK278, BK285, HB⟩ := hcut
          cases kq with
          | zero => exact absurd HA.out (by simp [impl_PairAddress.j1])
          | succ kj12 =>
            have H := HA.out
            clear HA
            simp only [impl_PairAddress.j1] at H
            by_cases c22 : x35_12 = true
            · subst c22
              rw [if_pos rfl] at H
              simp only [Option.some.injEq, Prod.mk.injEq] at H
              obtain ⟨rfl, rfl⟩ := H
              go_wp2
              go_ret2
              exact ⟨by first | rfl | (simp [errW_none, errW_some] <;> rfl) | (simp [*, errW_none, errW_some] <;> rfl), by repeat (first | (with_reducible first | exact HB.out | apply below_alloc | apply pw_below_drewN | apply below_drew1 | refine below_set ?_ GE278.out | refine below_set ?_ GE285.out) | exact HB.out)⟩
            · replace c22 := Bool.eq_false_iff.mpr c22
              subst c22
              rw [if_neg (show ¬ (false = true) by decide)] at H
              have HC23 := Aside0.mk H
              clear H
              go_upto_region 7 with (fail)
              go_cut [42] (fun v42 wc => ∃ (kq : Nat) (x42_22 : Bool), v42 = .bool x42_22 ∧ Aside0 (impl_PairAddress.j2 kq a2 x42_22 t272 t273 t274 t275 t276 t279 t280 t281 t282 t283 = some (r1, r2)) ∧ Aside0 (kq ≤ kj12) ∧ Aside0 (wc.heap[gb278]? = some (.cells #[.int .i64 t272, .int .i64 t273, .int .i64 t274, .int .i64 t275, .int .i64 t276] 32 (0, 0))) ∧ Aside0 (wc.heap[gb285]? = some (.cells #[.int .i64 t279, .int .i64 t280, .int .i64 t281, .int .i64 t282, .int .i64 t283] 32 (0, 0))) ∧ Aside0 (Below w.heap.size w wc))
              case first =>
                have H := HC23.out
                clear HC23
                by_cases c24 : t272 = 1
                · rw [if_pos c24] at H
                  have c24b0 : (t272 == 1) = true := beq_iff_eq.mpr c24
                  have c24b1 : (t272 != 1) = false := bne_eq_false_iff_eq.mpr c24
                  clear c24
                  (first | rw [c24b0] | (simp only [i64_w, i32_w]; rw [c24b0]) | skip)
                  replace H := Option.bind_eq_some_iff.mp H
                  obtain ⟨t286, A250, H⟩ := H
                  try dsimp only at H
                  have A25 := Aside0.mk A250
                  clear A250
                  by_cases c26 : t286 = true
                  · subst c26
                    rw [if_pos rfl] at H
                    have H' := Aside0.mk H
                    clear H
                    have hnb27 := NB278_285.out
                    have hnc27 := NB285_278.out
                    have hcz28_0 : wc.cell? ⟨gb278, 0, none⟩ = some (.int .i64 t272) := (blk_cell BK278.out 0).trans rfl
                    have hcz28_1 : wc.cell? ⟨gb278, 1, none⟩ = some (.int .i64 t273) := (blk_cell BK278.out 1).trans rfl
                    have hcz28_2 : wc.cell? ⟨gb278, 2, none⟩ = some (.int .i64 t274) := (blk_cell BK278.out 2).trans rfl
                    have hcz28_3 : wc.cell? ⟨gb278, 3, none⟩ = some (.int .i64 t275) := (blk_cell BK278.out 3).trans rfl
                    have hcz28_4 : wc.cell? ⟨gb278, 4, none⟩ = some (.int .i64 t276) := (blk_cell BK278.out 4).trans rfl
                    have hfz28_0 := blk_frozen BK278.out 0
                    have hfz28_1 := blk_frozen BK278.out 1
                    have hfz28_2 := blk_frozen BK278.out 2
                    have hfz28_3 := blk_frozen BK278.out 3
                    have hfz28_4 := blk_frozen BK278.out 4
                    have hcz29_0 : wc.cell? ⟨gb285, 0, none⟩ = some (.int .i64 t279) := (blk_cell BK285.out 0).trans rfl
                    have hcz29_1 : wc.cell? ⟨gb285, 1, none⟩ = some (.int .i64 t280) := (blk_cell BK285.out 1).trans rfl
                    have hcz29_2 : wc.cell? ⟨gb285, 2, none⟩ = some (.int .i64 t281) := (blk_cell BK285.out 2).trans rfl
                    have hcz29_3 : wc.cell? ⟨gb285, 3, none⟩ = some (.int .i64 t282) := (blk_cell BK285.out 3).trans rfl
                    have hcz29_4 : wc.cell? ⟨gb285, 4, none⟩ = some (.int .i64 t283) := (blk_cell BK285.out 4).trans rfl
                    have hfz29_0 := blk_frozen BK285.out 0
                    have hfz29_1 := blk_frozen BK285.out 1
                    have hfz29_2 := blk_frozen BK285.out 2
                    have hfz29_3 := blk_frozen BK285.out 3
                    have hfz29_4 := blk_frozen BK285.out 4
                    go_wp2_with (first | (go_at_call 66; (with_reducible refine (impl_isLow.calls t279 t280 t281 t282 t283 true _ A25.out).mono ?_); rintro e w30 ⟨rfl, hb⟩; have n0_ := Aside0.mk (blk_below (g := gb278) (o := .cells #[.int .i64 t272, .int .i64 t273, .int .i64 t274, .int .i64 t275, .int .i64 t276] 32 (0, 0)) (by (with_reducible repeat (first | refine blk_drewN ?_ _ | refine blk_drew ?_ | refine blk_alloc ?_ _)); exact BK278.out) hb); have n1_ := Aside0.mk (blk_below (g := gb285) (o := .cells #[.int .i64 t279, .int .i64 t280, .int .i64 t281, .int .i64 t282, .int .i64 t283] 32 (0, 0)) (by (with_reducible repeat (first | refine blk_drewN ?_ _ | refine blk_drew ?_ | refine blk_alloc ?_ _)); exact BK285.out) hb); have n2_ := Aside0.mk (below_step (by repeat (first | (with_reducible first | exact HB.out | apply below_alloc | apply pw_below_drewN | apply below_drew1 | refine below_set ?_ GE278.out | refine below_set ?_ GE285.out) | exact HB.out)) hb); clear BK278; clear BK285; clear HB; have BK278 := n0_; have BK285 := n1_; have HB := n2_; clear n0_ n1_ n2_; (try clear hb); (try clear hb2); (try clear hk); (try clear hi); have hcz31_0 : w30.cell? ⟨gb285, 0, none⟩ = some (.int .i64 t279) := (blk_cell BK285.out 0).trans rfl; have hcz31_1 : w30.cell? ⟨gb285, 1, none⟩ = some (.int .i64 t280) := (blk_cell BK285.out 1).trans rfl; have hcz31_2 : w30.cell? ⟨gb285, 2, none⟩ = some (.int .i64 t281) := (blk_cell BK285.out 2).trans rfl; have hcz31_3 : w30.cell? ⟨gb285, 3, none⟩ = some (.int .i64 t282) := (blk_cell BK285.out 3).trans rfl; have hcz31_4 : w30.cell? ⟨gb285, 4, none⟩ = some (.int .i64 t283) := (blk_cell BK285.out 4).trans rfl; have hfz31_0 := blk_frozen BK285.out 0; have hfz31_1 := blk_frozen BK285.out 1; have hfz31_2 := blk_frozen BK285.out 2; have hfz31_3 := blk_frozen BK285.out 3; have hfz31_4 := blk_frozen BK285.out 4; have hcz32_0 : w30.cell? ⟨gb278, 0, none⟩ = some (.int .i64 t272) := (blk_cell BK278.out 0).trans rfl; have hcz32_1 : w30.cell? ⟨gb278, 1, none⟩ = some (.int .i64 t273) := (blk_cell BK278.out 1).trans rfl; have hcz32_2 : w30.cell? ⟨gb278, 2, none⟩ = some (.int .i64 t274) := (blk_cell BK278.out 2).trans rfl; have hcz32_3 : w30.cell? ⟨gb278, 3, none⟩ = some (.int .i64 t275) := (blk_cell BK278.out 3).trans rfl; have hcz32_4 : w30.cell? ⟨gb278, 4, none⟩ = some (.int .i64 t276) := (blk_cell BK278.out 4).trans rfl; have hfz32_0 := blk_frozen BK278.out 0; have hfz32_1 := blk_frozen BK278.out 1; have hfz32_2 := blk_frozen BK278.out 2; have hfz32_3 := blk_frozen BK278.out 3; have hfz32_4 := blk_frozen BK278.out 4))
                    go_meet
                    case rel => exact ⟨_, ((t281 != t273)), (by first | rfl | (simp; done) | (simp [*]; done)), H', ⟨by have := HJ3.out; have := HJ12.out; first | omega | exact Nat.le_refl _⟩, ⟨by (with_reducible repeat (first | refine blk_drewN ?_ _ | refine blk_drew ?_ | refine blk_alloc ?_ _)); exact BK278.out⟩, ⟨by (with_reducible repeat (first | refine blk_drewN ?_ _ | refine blk_drew ?_ | refine blk_alloc ?_ _)); exact BK285.out⟩, ⟨by repeat (first | (with_reducible first | exact HB.out | apply below_alloc | apply pw_below_drewN | apply below_drew1 | refine below_set ?_ GE278.out | refine below_set ?_ GE285.out) | exact HB.out)⟩⟩
                  · replace c26 := Bool.eq_false_iff.mpr c26
                    subst c26
                    rw [if_neg (show ¬ (false = true) by decide)] at H
                    replace H := Option.bind_eq_some_iff.mp H
                    obtain ⟨t287, A330, H⟩ := H
                    try dsimp only at H
                    have A33 := Aside0.mk A330
                    clear A330
                    by_cases c34 : t287 = true
                    · subst c34
                      rw [if_pos rfl] at H
                      have H' := Aside0.mk H
                      clear H
                      have hnb35 := NB278_285.out
                      have hnc35 := NB285_278.out
                      have hcz36_0 : wc.cell? ⟨gb278, 0, none⟩ = some (.int .i64 t272) := (blk_cell BK278.out 0).trans rfl
                      have hcz36_1 : wc.cell? ⟨gb278, 1, none⟩ = some (.int .i64 t273) := (blk_cell BK278.out 1).trans rfl
                      have hcz36_2 : wc.cell? ⟨gb278, 2, none⟩ = some (.int .i64 t274) := (blk_cell BK278.out 2).trans rfl
                      have hcz36_3 : wc.cell? ⟨gb278, 3, none⟩ = some (.int .i64 t275) := (blk_cell BK278.out 3).trans rfl
                      have hcz36_4 : wc.cell? ⟨gb278, 4, none⟩ = some (.int .i64 t276) := (blk_cell BK278.out 4).trans rfl
                      have hfz36_0 := blk_frozen BK278.out 0
                      have hfz36_1 := blk_frozen BK278.out 1
                      have hfz36_2 := blk_frozen BK278.out 2
                      have hfz36_3 := blk_frozen BK278.out 3
                      have hfz36_4 := blk_frozen BK278.out 4
                      have hcz37_0 : wc.cell? ⟨gb285, 0, none⟩ = some (.int .i64 t279) := (blk_cell BK285.out 0).trans rfl
                      have hcz37_1 : wc.cell? ⟨gb285, 1, none⟩ = some (.int .i64 t280) := (blk_cell BK285.out 1).trans rfl
                      have hcz37_2 : wc.cell? ⟨gb285, 2, none⟩ = some (.int .i64 t281) := (blk_cell BK285.out 2).trans rfl
                      have hcz37_3 : wc.cell? ⟨gb285, 3, none⟩ = some (.int .i64 t282) := (blk_cell BK285.out 3).trans rfl
                      have hcz37_4 : wc.cell? ⟨gb285, 4, none⟩ = some (.int .i64 t283) := (blk_cell BK285.out 4).trans rfl
                      have hfz37_0 := blk_frozen BK285.out 0
                      have hfz37_1 := blk_frozen BK285.out 1
                      have hfz37_2 := blk_frozen BK285.out 2
                      have hfz37_3 := blk_frozen BK285.out 3
                      have hfz37_4 := blk_frozen BK285.out 4
                      go_wp2_with (first | (go_at_call 66; (with_reducible refine (impl_isLow.calls t279 t280 t281 t282 t283 false _ A25.out).mono ?_); rintro e w38 ⟨rfl, hb⟩; have n0_ := Aside0.mk (blk_below (g := gb278) (o := .cells #[.int .i64 t272, .int .i64 t273, .int .i64 t274, .int .i64 t275, .int .i64 t276] 32 (0, 0)) (by (with_reducible repeat (first | refine blk_drewN ?_ _ | refine blk_drew ?_ | refine blk_alloc ?_ _)); exact BK278.out) hb); have n1_ := Aside0.mk (blk_below (g := gb285) (o := .cells #[.int .i64 t279, .int .i64 t280, .int .i64 t281, .int .i64 t282, .int .i64 t283] 32 (0, 0)) (by (with_reducible repeat (first | refine blk_drewN ?_ _ | refine blk_drew ?_ | refine blk_alloc ?_ _)); exact BK285.out) hb); have n2_ := Aside0.mk (below_step (by repeat (first | (with_reducible first | exact HB.out | apply below_alloc | apply pw_below_drewN | apply below_drew1 | refine below_set ?_ GE278.out | refine below_set ?_ GE285.out) | exact HB.out)) hb); clear BK278; clear BK285; clear HB; have BK278 := n0_; have BK285 := n1_; have HB := n2_; clear n0_ n1_ n2_; (try clear hb); (try clear hb2); (try clear hk); (try clear hi); have hcz39_0 : w38.cell? ⟨gb285, 0, none⟩ = some (.int .i64 t279) := (blk_cell BK285.out 0).trans rfl; have hcz39_1 : w38.cell? ⟨gb285, 1, none⟩ = some (.int .i64 t280) := (blk_cell BK285.out 1).trans rfl; have hcz39_2 : w38.cell? ⟨gb285, 2, none⟩ = some (.int .i64 t281) := (blk_cell BK285.out 2).trans rfl; have hcz39_3 : w38.cell? ⟨gb285, 3, none⟩ = some (.int .i64 t282) := (blk_cell BK285.out 3).trans rfl; have hcz39_4 : w38.cell? ⟨gb285, 4, none⟩ = some (.int .i64 t283) := (blk_cell BK285.out 4).trans rfl; have hfz39_0 := blk_frozen BK285.out 0; have hfz39_1 := blk_frozen BK285.out 1; have hfz39_2 := blk_frozen BK285.out 2; have hfz39_3 := blk_frozen BK285.out 3; have hfz39_4 := blk_frozen BK285.out 4) | (go_at_call 67; (with_reducible refine (impl_isStore.calls t279 true _ A33.out).mono ?_); rintro e w' ⟨rfl, ⟨nd, rfl⟩⟩; have hcz40_0 : w38.cell? ⟨gb278, 0, none⟩ = some (.int .i64 t272) := (blk_cell BK278.out 0).trans rfl; have hcz40_1 : w38.cell? ⟨gb278, 1, none⟩ = some (.int .i64 t273) := (blk_cell BK278.out 1).trans rfl; have hcz40_2 : w38.cell? ⟨gb278, 2, none⟩ = some (.int .i64 t274) := (blk_cell BK278.out 2).trans rfl; have hcz40_3 : w38.cell? ⟨gb278, 3, none⟩ = some (.int .i64 t275) := (blk_cell BK278.out 3).trans rfl; have hcz40_4 : w38.cell? ⟨gb278, 4, none⟩ = some (.int .i64 t276) := (blk_cell BK278.out 4).trans rfl; have hfz40_0 := blk_frozen BK278.out 0; have hfz40_1 := blk_frozen BK278.out 1; have hfz40_2 := blk_frozen BK278.out 2; have hfz40_3 := blk_frozen BK278.out 3; have hfz40_4 := blk_frozen BK278.out 4))
                      go_meet
                      case rel => exact ⟨_, ((t281 != t273)), (by first | rfl | (simp; done) | (simp [*]; done)), H', ⟨by have := HJ3.out; have := HJ12.out; first | omega | exact Nat.le_refl _⟩, ⟨by (with_reducible repeat (first | refine blk_drewN ?_ _ | refine blk_drew ?_ | refine blk_alloc ?_ _)); exact BK278.out⟩, ⟨by (with_reducible repeat (first | refine blk_drewN ?_ _ | refine blk_drew ?_ | refine blk_alloc ?_ _)); exact BK285.out⟩, ⟨by repeat (first | (with_reducible first | exact HB.out | apply below_alloc | apply pw_below_drewN | apply below_drew1 | refine below_set ?_ GE278.out | refine below_set ?_ GE285.out) | exact HB.out)⟩⟩
                    · replace c34 := Bool.eq_false_iff.mpr c34
                      subst c34
                      rw [if_neg (show ¬ (false = true) by decide)] at H
                      have H' := Aside0.mk H
                      clear H
                      have hnb41 := NB278_285.out
                      have hnc41 := NB285_278.out
                      have hcz42_0 : wc.cell? ⟨gb278, 0, none⟩ = some (.int .i64 t272) := (blk_cell BK278.out 0).trans rfl
                      have hcz42_1 : wc.cell? ⟨gb278, 1, none⟩ = some (.int .i64 t273) := (blk_cell BK278.out 1).trans rfl
                      have hcz42_2 : wc.cell? ⟨gb278, 2, none⟩ = some (.int .i64 t274) := (blk_cell BK278.out 2).trans rfl
                      have hcz42_3 : wc.cell? ⟨gb278, 3, none⟩ = some (.int .i64 t275) := (blk_cell BK278.out 3).trans rfl
                      have hcz42_4 : wc.cell? ⟨gb278, 4, none⟩ = some (.int .i64 t276) := (blk_cell BK278.out 4).trans rfl
                      have hfz42_0 := blk_frozen BK278.out 0
                      have hfz42_1 := blk_frozen BK278.out 1
                      have hfz42_2 := blk_frozen BK278.out 2
                      have hfz42_3 := blk_frozen BK278.out 3
                      have hfz42_4 := blk_frozen BK278.out 4
                      have hcz43_0 : wc.cell? ⟨gb285, 0, none⟩ = some (.int .i64 t279) := (blk_cell BK285.out 0).trans rfl
                      have hcz43_1 : wc.cell? ⟨gb285, 1, none⟩ = some (.int .i64 t280) := (blk_cell BK285.out 1).trans rfl
                      have hcz43_2 : wc.cell? ⟨gb285, 2, none⟩ = some (.int .i64 t281) := (blk_cell BK285.out 2).trans rfl
                      have hcz43_3 : wc.cell? ⟨gb285, 3, none⟩ = some (.int .i64 t282) := (blk_cell BK285.out 3).trans rfl
                      have hcz43_4 : wc.cell? ⟨gb285, 4, none⟩ = some (.int .i64 t283) := (blk_cell BK285.out 4).trans rfl
                      have hfz43_0 := blk_frozen BK285.out 0
                      have hfz43_1 := blk_frozen BK285.out 1
                      have hfz43_2 := blk_frozen BK285.out 2
                      have hfz43_3 := blk_frozen BK285.out 3
                      have hfz43_4 := blk_frozen BK285.out 4
                      go_wp2_with (first | (go_at_call 66; (with_reducible refine (impl_isLow.calls t279 t280 t281 t282 t283 false _ A25.out).mono ?_); rintro e w44 ⟨rfl, hb⟩; have n0_ := Aside0.mk (blk_below (g := gb278) (o := .cells #[.int .i64 t272, .int .i64 t273, .int .i64 t274, .int .i64 t275, .int .i64 t276] 32 (0, 0)) (by (with_reducible repeat (first | refine blk_drewN ?_ _ | refine blk_drew ?_ | refine blk_alloc ?_ _)); exact BK278.out) hb); have n1_ := Aside0.mk (blk_below (g := gb285) (o := .cells #[.int .i64 t279, .int .i64 t280, .int .i64 t281, .int .i64 t282, .int .i64 t283] 32 (0, 0)) (by (with_reducible repeat (first | refine blk_drewN ?_ _ | refine blk_drew ?_ | refine blk_alloc ?_ _)); exact BK285.out) hb); have n2_ := Aside0.mk (below_step (by repeat (first | (with_reducible first | exact HB.out | apply below_alloc | apply pw_below_drewN | apply below_drew1 | refine below_set ?_ GE278.out | refine below_set ?_ GE285.out) | exact HB.out)) hb); clear BK278; clear BK285; clear HB; have BK278 := n0_; have BK285 := n1_; have HB := n2_; clear n0_ n1_ n2_; (try clear hb); (try clear hb2); (try clear hk); (try clear hi); have hcz45_0 : w44.cell? ⟨gb285, 0, none⟩ = some (.int .i64 t279) := (blk_cell BK285.out 0).trans rfl; have hcz45_1 : w44.cell? ⟨gb285, 1, none⟩ = some (.int .i64 t280) := (blk_cell BK285.out 1).trans rfl; have hcz45_2 : w44.cell? ⟨gb285, 2, none⟩ = some (.int .i64 t281) := (blk_cell BK285.out 2).trans rfl; have hcz45_3 : w44.cell? ⟨gb285, 3, none⟩ = some (.int .i64 t282) := (blk_cell BK285.out 3).trans rfl; have hcz45_4 : w44.cell? ⟨gb285, 4, none⟩ = some (.int .i64 t283) := (blk_cell BK285.out 4).trans rfl; have hfz45_0 := blk_frozen BK285.out 0; have hfz45_1 := blk_frozen BK285.out 1; have hfz45_2 := blk_frozen BK285.out 2; have hfz45_3 := blk_frozen BK285.out 3; have hfz45_4 := blk_frozen BK285.out 4) | (go_at_call 67; (with_reducible refine (impl_isStore.calls t279 false _ A33.out).mono ?_); rintro e w' ⟨rfl, ⟨nd, rfl⟩⟩))
                      go_meet
                      case rel => exact ⟨_, (true), (by first | rfl | (simp; done) | (simp [*]; done)), H', ⟨by have := HJ3.out; have := HJ12.out; first | omega | exact Nat.le_refl _⟩, ⟨by (with_reducible repeat (first | refine blk_drewN ?_ _ | refine blk_drew ?_ | refine blk_alloc ?_ _)); exact BK278.out⟩, ⟨by (with_reducible repeat (first | refine blk_drewN ?_ _ | refine blk_drew ?_ | refine blk_alloc ?_ _)); exact BK285.out⟩, ⟨by repeat (first | (with_reducible first | exact HB.out | apply below_alloc | apply pw_below_drewN | apply below_drew1 | refine below_set ?_ GE278.out | refine below_set ?_ GE285.out) | exact HB.out)⟩⟩
                · rw [if_neg c24] at H
                  have c24b0 : (t272 == 1) = false := beq_eq_false_iff_ne.mpr c24
                  have c24b1 : (t272 != 1) = true := bne_iff_ne.mpr c24
                  (first | rw [c24b0] | (simp only [i64_w, i32_w]; rw [c24b0]) | skip)
                  by_cases c46 : t272 = 2
                  · rw [if_pos c46] at H
                    have c46b0 : (t272 == 2) = true := beq_iff_eq.mpr c46
                    have c46b1 : (t272 != 2) = false := bne_eq_false_iff_eq.mpr c46
                    clear c46
                    replace H := Option.bind_eq_some_iff.mp H
                    obtain ⟨t288, A470, H⟩ := H
                    try dsimp only at H
                    have A47 := Aside0.mk A470
                    clear A470
                    by_cases c48 : t288 = true
                    · subst c48
                      rw [if_pos rfl] at H
                      have H' := Aside0.mk H
                      clear H
                      have hnb49 := NB278_285.out
                      have hnc49 := NB285_278.out
                      have hcz50_0 : wc.cell? ⟨gb278, 0, none⟩ = some (.int .i64 t272) := (blk_cell BK278.out 0).trans rfl
                      have hcz50_1 : wc.cell? ⟨gb278, 1, none⟩ = some (.int .i64 t273) := (blk_cell BK278.out 1).trans rfl
                      have hcz50_2 : wc.cell? ⟨gb278, 2, none⟩ = some (.int .i64 t274) := (blk_cell BK278.out 2).trans rfl
                      have hcz50_3 : wc.cell? ⟨gb278, 3, none⟩ = some (.int .i64 t275) := (blk_cell BK278.out 3).trans rfl
                      have hcz50_4 : wc.cell? ⟨gb278, 4, none⟩ = some (.int .i64 t276) := (blk_cell BK278.out 4).trans rfl
                      have hfz50_0 := blk_frozen BK278.out 0
                      have hfz50_1 := blk_frozen BK278.out 1
                      have hfz50_2 := blk_frozen BK278.out 2
                      have hfz50_3 := blk_frozen BK278.out 3
                      have hfz50_4 := blk_frozen BK278.out 4
                      have hcz51_0 : wc.cell? ⟨gb285, 0, none⟩ = some (.int .i64 t279) := (blk_cell BK285.out 0).trans rfl
                      have hcz51_1 : wc.cell? ⟨gb285, 1, none⟩ = some (.int .i64 t280) := (blk_cell BK285.out 1).trans rfl
                      have hcz51_2 : wc.cell? ⟨gb285, 2, none⟩ = some (.int .i64 t281) := (blk_cell BK285.out 2).trans rfl
                      have hcz51_3 : wc.cell? ⟨gb285, 3, none⟩ = some (.int .i64 t282) := (blk_cell BK285.out 3).trans rfl
                      have hcz51_4 : wc.cell? ⟨gb285, 4, none⟩ = some (.int .i64 t283) := (blk_cell BK285.out 4).trans rfl
                      have hfz51_0 := blk_frozen BK285.out 0
                      have hfz51_1 := blk_frozen BK285.out 1
                      have hfz51_2 := blk_frozen BK285.out 2
                      have hfz51_3 := blk_frozen BK285.out 3
                      have hfz51_4 := blk_frozen BK285.out 4
                      go_wp2_with (first | (go_at_call 66; (with_reducible refine (impl_isLow.calls t279 t280 t281 t282 t283 true _ A47.out).mono ?_); rintro e w52 ⟨rfl, hb⟩; have n0_ := Aside0.mk (blk_below (g := gb278) (o := .cells #[.int .i64 t272, .int .i64 t273, .int .i64 t274, .int .i64 t275, .int .i64 t276] 32 (0, 0)) (by (with_reducible repeat (first | refine blk_drewN ?_ _ | refine blk_drew ?_ | refine blk_alloc ?_ _)); exact BK278.out) hb); have n1_ := Aside0.mk (blk_below (g := gb285) (o := .cells #[.int .i64 t279, .int .i64 t280, .int .i64 t281, .int .i64 t282, .int .i64 t283] 32 (0, 0)) (by (with_reducible repeat (first | refine blk_drewN ?_ _ | refine blk_drew ?_ | refine blk_alloc ?_ _)); exact BK285.out) hb); have n2_ := Aside0.mk (below_step (by repeat (first | (with_reducible first | exact HB.out | apply below_alloc | apply pw_below_drewN | apply below_drew1 | refine below_set ?_ GE278.out | refine below_set ?_ GE285.out) | exact HB.out)) hb); clear BK278; clear BK285; clear HB; have BK278 := n0_; have BK285 := n1_; have HB := n2_; clear n0_ n1_ n2_; (try clear hb); (try clear hb2); (try clear hk); (try clear hi); have hcz53_0 : w52.cell? ⟨gb285, 0, none⟩ = some (.int .i64 t279) := (blk_cell BK285.out 0).trans rfl; have hcz53_1 : w52.cell? ⟨gb285, 1, none⟩ = some (.int .i64 t280) := (blk_cell BK285.out 1).trans rfl; have hcz53_2 : w52.cell? ⟨gb285, 2, none⟩ = some (.int .i64 t281) := (blk_cell BK285.out 2).trans rfl; have hcz53_3 : w52.cell? ⟨gb285, 3, none⟩ = some (.int .i64 t282) := (blk_cell BK285.out 3).trans rfl; have hcz53_4 : w52.cell? ⟨gb285, 4, none⟩ = some (.int .i64 t283) := (blk_cell BK285.out 4).trans rfl; have hfz53_0 := blk_frozen BK285.out 0; have hfz53_1 := blk_frozen BK285.out 1; have hfz53_2 := blk_frozen BK285.out 2; have hfz53_3 := blk_frozen BK285.out 3; have hfz53_4 := blk_frozen BK285.out 4; have hcz54_0 : w52.cell? ⟨gb278, 0, none⟩ = some (.int .i64 t272) := (blk_cell BK278.out 0).trans rfl; have hcz54_1 : w52.cell? ⟨gb278, 1, none⟩ = some (.int .i64 t273) := (blk_cell BK278.out 1).trans rfl; have hcz54_2 : w52.cell? ⟨gb278, 2, none⟩ = some (.int .i64 t274) := (blk_cell BK278.out 2).trans rfl; have hcz54_3 : w52.cell? ⟨gb278, 3, none⟩ = some (.int .i64 t275) := (blk_cell BK278.out 3).trans rfl; have hcz54_4 : w52.cell? ⟨gb278, 4, none⟩ = some (.int .i64 t276) := (blk_cell BK278.out 4).trans rfl; have hfz54_0 := blk_frozen BK278.out 0; have hfz54_1 := blk_frozen BK278.out 1; have hfz54_2 := blk_frozen BK278.out 2; have hfz54_3 := blk_frozen BK278.out 3; have hfz54_4 := blk_frozen BK278.out 4))
                      go_meet
                      case rel => exact ⟨_, ((t281 != t273)), (by first | rfl | (simp; done) | (simp [*]; done)), H', ⟨by have := HJ3.out; have := HJ12.out; first | omega | exact Nat.le_refl _⟩, ⟨by (with_reducible repeat (first | refine blk_drewN ?_ _ | refine blk_drew ?_ | refine blk_alloc ?_ _)); exact BK278.out⟩, ⟨by (with_reducible repeat (first | refine blk_drewN ?_ _ | refine blk_drew ?_ | refine blk_alloc ?_ _)); exact BK285.out⟩, ⟨by repeat (first | (with_reducible first | exact HB.out | apply below_alloc | apply pw_below_drewN | apply below_drew1 | refine below_set ?_ GE278.out | refine below_set ?_ GE285.out) | exact HB.out)⟩⟩
                    · replace c48 := Bool.eq_false_iff.mpr c48
                      subst c48
                      rw [if_neg (show ¬ (false = true) by decide)] at H
                      replace H := Option.bind_eq_some_iff.mp H
                      obtain ⟨t289, A550, H⟩ := H
                      try dsimp only at H
                      have A55 := Aside0.mk A550
                      clear A550
                      by_cases c56 : t289 = true
                      · subst c56
                        rw [if_pos rfl] at H
                        have H' := Aside0.mk H
                        clear H
                        have hnb57 := NB278_285.out
                        have hnc57 := NB285_278.out
                        have hcz58_0 : wc.cell? ⟨gb278, 0, none⟩ = some (.int .i64 t272) := (blk_cell BK278.out 0).trans rfl
                        have hcz58_1 : wc.cell? ⟨gb278, 1, none⟩ = some (.int .i64 t273) := (blk_cell BK278.out 1).trans rfl
                        have hcz58_2 : wc.cell? ⟨gb278, 2, none⟩ = some (.int .i64 t274) := (blk_cell BK278.out 2).trans rfl
                        have hcz58_3 : wc.cell? ⟨gb278, 3, none⟩ = some (.int .i64 t275) := (blk_cell BK278.out 3).trans rfl
                        have hcz58_4 : wc.cell? ⟨gb278, 4, none⟩ = some (.int .i64 t276) := (blk_cell BK278.out 4).trans rfl
                        have hfz58_0 := blk_frozen BK278.out 0
                        have hfz58_1 := blk_frozen BK278.out 1
                        have hfz58_2 := blk_frozen BK278.out 2
                        have hfz58_3 := blk_frozen BK278.out 3
                        have hfz58_4 := blk_frozen BK278.out 4
                        have hcz59_0 : wc.cell? ⟨gb285, 0, none⟩ = some (.int .i64 t279) := (blk_cell BK285.out 0).trans rfl
                        have hcz59_1 : wc.cell? ⟨gb285, 1, none⟩ = some (.int .i64 t280) := (blk_cell BK285.out 1).trans rfl
                        have hcz59_2 : wc.cell? ⟨gb285, 2, none⟩ = some (.int .i64 t281) := (blk_cell BK285.out 2).trans rfl
                        have hcz59_3 : wc.cell? ⟨gb285, 3, none⟩ = some (.int .i64 t282) := (blk_cell BK285.out 3).trans rfl
                        have hcz59_4 : wc.cell? ⟨gb285, 4, none⟩ = some (.int .i64 t283) := (blk_cell BK285.out 4).trans rfl
                        have hfz59_0 := blk_frozen BK285.out 0
                        have hfz59_1 := blk_frozen BK285.out 1
                        have hfz59_2 := blk_frozen BK285.out 2
                        have hfz59_3 := blk_frozen BK285.out 3
                        have hfz59_4 := blk_frozen BK285.out 4
                        go_wp2_with (first | (go_at_call 66; (with_reducible refine (impl_isLow.calls t279 t280 t281 t282 t283 false _ A47.out).mono ?_); rintro e w60 ⟨rfl, hb⟩; have n0_ := Aside0.mk (blk_below (g := gb278) (o := .cells #[.int .i64 t272, .int .i64 t273, .int .i64 t274, .int .i64 t275, .int .i64 t276] 32 (0, 0)) (by (with_reducible repeat (first | refine blk_drewN ?_ _ | refine blk_drew ?_ | refine blk_alloc ?_ _)); exact BK278.out) hb); have n1_ := Aside0.mk (blk_below (g := gb285) (o := .cells #[.int .i64 t279, .int .i64 t280, .int .i64 t281, .int .i64 t282, .int .i64 t283] 32 (0, 0)) (by (with_reducible repeat (first | refine blk_drewN ?_ _ | refine blk_drew ?_ | refine blk_alloc ?_ _)); exact BK285.out) hb); have n2_ := Aside0.mk (below_step (by repeat (first | (with_reducible first | exact HB.out | apply below_alloc | apply pw_below_drewN | apply below_drew1 | refine below_set ?_ GE278.out | refine below_set ?_ GE285.out) | exact HB.out)) hb); clear BK278; clear BK285; clear HB; have BK278 := n0_; have BK285 := n1_; have HB := n2_; clear n0_ n1_ n2_; (try clear hb); (try clear hb2); (try clear hk); (try clear hi); have hcz61_0 : w60.cell? ⟨gb285, 0, none⟩ = some (.int .i64 t279) := (blk_cell BK285.out 0).trans rfl; have hcz61_1 : w60.cell? ⟨gb285, 1, none⟩ = some (.int .i64 t280) := (blk_cell BK285.out 1).trans rfl; have hcz61_2 : w60.cell? ⟨gb285, 2, none⟩ = some (.int .i64 t281) := (blk_cell BK285.out 2).trans rfl; have hcz61_3 : w60.cell? ⟨gb285, 3, none⟩ = some (.int .i64 t282) := (blk_cell BK285.out 3).trans rfl; have hcz61_4 : w60.cell? ⟨gb285, 4, none⟩ = some (.int .i64 t283) := (blk_cell BK285.out 4).trans rfl; have hfz61_0 := blk_frozen BK285.out 0; have hfz61_1 := blk_frozen BK285.out 1; have hfz61_2 := blk_frozen BK285.out 2; have hfz61_3 := blk_frozen BK285.out 3; have hfz61_4 := blk_frozen BK285.out 4) | (go_at_call 67; (with_reducible refine (impl_isStore.calls t279 true _ A55.out).mono ?_); rintro e w' ⟨rfl, ⟨nd, rfl⟩⟩; have hcz62_0 : w60.cell? ⟨gb278, 0, none⟩ = some (.int .i64 t272) := (blk_cell BK278.out 0).trans rfl; have hcz62_1 : w60.cell? ⟨gb278, 1, none⟩ = some (.int .i64 t273) := (blk_cell BK278.out 1).trans rfl; have hcz62_2 : w60.cell? ⟨gb278, 2, none⟩ = some (.int .i64 t274) := (blk_cell BK278.out 2).trans rfl; have hcz62_3 : w60.cell? ⟨gb278, 3, none⟩ = some (.int .i64 t275) := (blk_cell BK278.out 3).trans rfl; have hcz62_4 : w60.cell? ⟨gb278, 4, none⟩ = some (.int .i64 t276) := (blk_cell BK278.out 4).trans rfl; have hfz62_0 := blk_frozen BK278.out 0; have hfz62_1 := blk_frozen BK278.out 1; have hfz62_2 := blk_frozen BK278.out 2; have hfz62_3 := blk_frozen BK278.out 3; have hfz62_4 := blk_frozen BK278.out 4))
                        go_meet
                        case rel => exact ⟨_, ((t281 != t273)), (by first | rfl | (simp; done) | (simp [*]; done)), H', ⟨by have := HJ3.out; have := HJ12.out; first | omega | exact Nat.le_refl _⟩, ⟨by (with_reducible repeat (first | refine blk_drewN ?_ _ | refine blk_drew ?_ | refine blk_alloc ?_ _)); exact BK278.out⟩, ⟨by (with_reducible repeat (first | refine blk_drewN ?_ _ | refine blk_drew ?_ | refine blk_alloc ?_ _)); exact BK285.out⟩, ⟨by repeat (first | (with_reducible first | exact HB.out | apply below_alloc | apply pw_below_drewN | apply below_drew1 | refine below_set ?_ GE278.out | refine below_set ?_ GE285.out) | exact HB.out)⟩⟩
                      · replace c56 := Bool.eq_false_iff.mpr c56
                        subst c56
                        rw [if_neg (show ¬ (false = true) by decide)] at H
                        have H' := Aside0.mk H
                        clear H
                        have hnb63 := NB278_285.out
                        have hnc63 := NB285_278.out
                        have hcz64_0 : wc.cell? ⟨gb278, 0, none⟩ = some (.int .i64 t272) := (blk_cell BK278.out 0).trans rfl
                        have hcz64_1 : wc.cell? ⟨gb278, 1, none⟩ = some (.int .i64 t273) := (blk_cell BK278.out 1).trans rfl
                        have hcz64_2 : wc.cell? ⟨gb278, 2, none⟩ = some (.int .i64 t274) := (blk_cell BK278.out 2).trans rfl
                        have hcz64_3 : wc.cell? ⟨gb278, 3, none⟩ = some (.int .i64 t275) := (blk_cell BK278.out 3).trans rfl
                        have hcz64_4 : wc.cell? ⟨gb278, 4, none⟩ = some (.int .i64 t276) := (blk_cell BK278.out 4).trans rfl
                        have hfz64_0 := blk_frozen BK278.out 0
                        have hfz64_1 := blk_frozen BK278.out 1
                        have hfz64_2 := blk_frozen BK278.out 2
                        have hfz64_3 := blk_frozen BK278.out 3
                        have hfz64_4 := blk_frozen BK278.out 4
                        have hcz65_0 : wc.cell? ⟨gb285, 0, none⟩ = some (.int .i64 t279) := (blk_cell BK285.out 0).trans rfl
                        have hcz65_1 : wc.cell? ⟨gb285, 1, none⟩ = some (.int .i64 t280) := (blk_cell BK285.out 1).trans rfl
                        have hcz65_2 : wc.cell? ⟨gb285, 2, none⟩ = some (.int .i64 t281) := (blk_cell BK285.out 2).trans rfl
                        have hcz65_3 : wc.cell? ⟨gb285, 3, none⟩ = some (.int .i64 t282) := (blk_cell BK285.out 3).trans rfl
                        have hcz65_4 : wc.cell? ⟨gb285, 4, none⟩ = some (.int .i64 t283) := (blk_cell BK285.out 4).trans rfl
                        have hfz65_0 := blk_frozen BK285.out 0
                        have hfz65_1 := blk_frozen BK285.out 1
                        have hfz65_2 := blk_frozen BK285.out 2
                        have hfz65_3 := blk_frozen BK285.out 3
                        have hfz65_4 := blk_frozen BK285.out 4
                        go_wp2_with (first | (go_at_call 66; (with_reducible refine (impl_isLow.calls t279 t280 t281 t282 t283 false _ A47.out).mono ?_); rintro e w66 ⟨rfl, hb⟩; have n0_ := Aside0.mk (blk_below (g := gb278) (o := .cells #[.int .i64 t272, .int .i64 t273, .int .i64 t274, .int .i64 t275, .int .i64 t276] 32 (0, 0)) (by (with_reducible repeat (first | refine blk_drewN ?_ _ | refine blk_drew ?_ | refine blk_alloc ?_ _)); exact BK278.out) hb); have n1_ := Aside0.mk (blk_below (g := gb285) (o := .cells #[.int .i64 t279, .int .i64 t280, .int .i64 t281, .int .i64 t282, .int .i64 t283] 32 (0, 0)) (by (with_reducible repeat (first | refine blk_drewN ?_ _ | refine blk_drew ?_ | refine blk_alloc ?_ _)); exact BK285.out) hb); have n2_ := Aside0.mk (below_step (by repeat (first | (with_reducible first | exact HB.out | apply below_alloc | apply pw_below_drewN | apply below_drew1 | refine below_set ?_ GE278.out | refine below_set ?_ GE285.out) | exact HB.out)) hb); clear BK278; clear BK285; clear HB; have BK278 := n0_; have BK285 := n1_; have HB := n2_; clear n0_ n1_ n2_; (try clear hb); (try clear hb2); (try clear hk); (try clear hi); have hcz67_0 : w66.cell? ⟨gb285, 0, none⟩ = some (.int .i64 t279) := (blk_cell BK285.out 0).trans rfl; have hcz67_1 : w66.cell? ⟨gb285, 1, none⟩ = some (.int .i64 t280) := (blk_cell BK285.out 1).trans rfl; have hcz67_2 : w66.cell? ⟨gb285, 2, none⟩ = some (.int .i64 t281) := (blk_cell BK285.out 2).trans rfl; have hcz67_3 : w66.cell? ⟨gb285, 3, none⟩ = some (.int .i64 t282) := (blk_cell BK285.out 3).trans rfl; have hcz67_4 : w66.cell? ⟨gb285, 4, none⟩ = some (.int .i64 t283) := (blk_cell BK285.out 4).trans rfl; have hfz67_0 := blk_frozen BK285.out 0; have hfz67_1 := blk_frozen BK285.out 1; have hfz67_2 := blk_frozen BK285.out 2; have hfz67_3 := blk_frozen BK285.out 3; have hfz67_4 := blk_frozen BK285.out 4) | (go_at_call 67; (with_reducible refine (impl_isStore.calls t279 false _ A55.out).mono ?_); rintro e w' ⟨rfl, ⟨nd, rfl⟩⟩))
                        go_meet
                        case rel => exact ⟨_, (true), (by first | rfl | (simp; done) | (simp [*]; done)), H', ⟨by have := HJ3.out; have := HJ12.out; first | omega | exact Nat.le_refl _⟩, ⟨by (with_reducible repeat (first | refine blk_drewN ?_ _ | refine blk_drew ?_ | refine blk_alloc ?_ _)); exact BK278.out⟩, ⟨by (with_reducible repeat (first | refine blk_drewN ?_ _ | refine blk_drew ?_ | refine blk_alloc ?_ _)); exact BK285.out⟩, ⟨by repeat (first | (with_reducible first | exact HB.out | apply below_alloc | apply pw_below_drewN | apply below_drew1 | refine below_set ?_ GE278.out | refine below_set ?_ GE285.out) | exact HB.out)⟩⟩
                  · rw [if_neg c46] at H
                    have c46b0 : (t272 == 2) = false := beq_eq_false_iff_ne.mpr c46
                    have c46b1 : (t272 != 2) = true := bne_iff_ne.mpr c46
                    have H' := Aside0.mk H
                    clear H
                    have hnb68 := NB278_285.out
                    have hnc68 := NB285_278.out
                    have hcz69_0 : wc.cell? ⟨gb278, 0, none⟩ = some (.int .i64 t272) := (blk_cell BK278.out 0).trans rfl
                    have hcz69_1 : wc.cell? ⟨gb278, 1, none⟩ = some (.int .i64 t273) := (blk_cell BK278.out 1).trans rfl
                    have hcz69_2 : wc.cell? ⟨gb278, 2, none⟩ = some (.int .i64 t274) := (blk_cell BK278.out 2).trans rfl
                    have hcz69_3 : wc.cell? ⟨gb278, 3, none⟩ = some (.int .i64 t275) := (blk_cell BK278.out 3).trans rfl
                    have hcz69_4 : wc.cell? ⟨gb278, 4, none⟩ = some (.int .i64 t276) := (blk_cell BK278.out 4).trans rfl
                    have hfz69_0 := blk_frozen BK278.out 0
                    have hfz69_1 := blk_frozen BK278.out 1
                    have hfz69_2 := blk_frozen BK278.out 2
                    have hfz69_3 := blk_frozen BK278.out 3
                    have hfz69_4 := blk_frozen BK278.out 4
                    go_wp2
                    go_meet
                    case rel => exact ⟨_, (true), (by first | rfl | (simp; done) | (simp [*]; done)), H', ⟨by have := HJ3.out; have := HJ12.out; first | omega | exact Nat.le_refl _⟩, ⟨by (with_reducible repeat (first | refine blk_drewN ?_ _ | refine blk_drew ?_ | refine blk_alloc ?_ _)); exact BK278.out⟩, ⟨by (with_reducible repeat (first | refine blk_drewN ?_ _ | refine blk_drew ?_ | refine blk_alloc ?_ _)); exact BK285.out⟩, ⟨by repeat (first | (with_reducible first | exact HB.out | apply below_alloc | apply pw_below_drewN | apply below_drew1 | refine below_set ?_ GE278.out | refine below_set ?_ GE285.out) | exact HB.out)⟩⟩
              case rest =>
                clear HC23
                try clear c1
                try clear c2
                try clear p2
                try clear c3
                try clear c4
                try clear c5
                try clear c6
                try clear c8
                try clear c10
                try clear c19
                try clear c21
                try clear c22
                try clear c23
                try clear c24
                try clear c24b0
                try clear c24b1
                try clear c26
                try clear c27
                try clear c34
                try clear c35
                try clear c41
                try clear c46
                try clear c46b0
                try clear c46b1
                try clear c48
                try clear c49
                try clear c56
                try clear c57
                try clear c61
                try clear c63
                try clear c65
                try clear c68
                try clear hcz16_0
                try clear hcz16_1
                try clear hcz16_2
                try clear hcz16_3
                try clear hcz16_4
                try clear hcz20_0
                try clear hcz20_1
                try clear hcz20_2
                try clear hcz20_3
                try clear hcz20_4
                try clear hcz28_0
                try clear hcz28_1
                try clear hcz28_2
                try clear hcz28_3
                try clear hcz28_4
                try clear hcz29_0
                try clear hcz29_1
                try clear hcz29_2
                try clear hcz29_3
                try clear hcz29_4
                try clear hcz31_0
                try clear hcz31_1
                try clear hcz31_2
                try clear hcz31_3
                try clear hcz31_4
                try clear hcz32_0
                try clear hcz32_1
                try clear hcz32_2
                try clear hcz32_3
                try clear hcz32_4
                try clear hcz36_0
                try clear hcz36_1
                try clear hcz36_2
                try clear hcz36_3
                try clear hcz36_4
                try clear hcz37_0
                try clear hcz37_1
                try clear hcz37_2
                try clear hcz37_3
                try clear hcz37_4
                try clear hcz39_0
                try clear hcz39_1
                try clear hcz39_2
                try clear hcz39_3
                try clear hcz39_4
                try clear hcz40_0
                try clear hcz40_1
                try clear hcz40_2
                try clear hcz40_3
                try clear hcz40_4
                try clear hcz42_0
                try clear hcz42_1
                try clear hcz42_2
                try clear hcz42_3
                try clear hcz42_4
                try clear hcz43_0
                try clear hcz43_1
                try clear hcz43_2
                try clear hcz43_3
                try clear hcz43_4
                try clear hcz45_0
                try clear hcz45_1
                try clear hcz45_2
                try clear hcz45_3
                try clear hcz45_4
                try clear hcz50_0
                try clear hcz50_1
                try clear hcz50_2
                try clear hcz50_3
                try clear hcz50_4
                try clear hcz51_0
                try clear hcz51_1
                try clear hcz51_2
                try clear hcz51_3
                try clear hcz51_4
                try clear hcz53_0
                try clear hcz53_1
                try clear hcz53_2
                try clear hcz53_3
                try clear hcz53_4
                try clear hcz54_0
                try clear hcz54_1
                try clear hcz54_2
                try clear hcz54_3
                try clear hcz54_4
                try clear hcz58_0
                try clear hcz58_1
                try clear hcz58_2
                try clear hcz58_3
                try clear hcz58_4
                try clear hcz59_0
                try clear hcz59_1
                try clear hcz59_2
                try clear hcz59_3
                try clear hcz59_4
                try clear hcz61_0
                try clear hcz61_1
                try clear hcz61_2
                try clear hcz61_3
                try clear hcz61_4
                try clear hcz62_0
                try clear hcz62_1
                try clear hcz62_2
                try clear hcz62_3
                try clear hcz62_4
                try clear hcz64_0
                try clear hcz64_1
                try clear hcz64_2
                try clear hcz64_3
                try clear hcz64_4
                try clear hcz65_0
                try clear hcz65_1
                try clear hcz65_2
                try clear hcz65_3
                try clear hcz65_4
                try clear hcz67_0
                try clear hcz67_1
                try clear hcz67_2
                try clear hcz67_3
                try clear hcz67_4
                try clear hcz69_0
                try clear hcz69_1
                try clear hcz69_2
                try clear hcz69_3
                try clear hcz69_4
                try clear hfz16_0
                try clear hfz16_1
                try clear hfz16_2
                try clear hfz16_3
                try clear hfz16_4
                try clear hfz20_0
                try clear hfz20_1
                try clear hfz20_2
                try clear hfz20_3
                try clear hfz20_4
                try clear hfz28_0
                try clear hfz28_1
                try clear hfz28_2
                try clear hfz28_3
                try clear hfz28_4
                try clear hfz29_0
                try clear hfz29_1
                try clear hfz29_2
                try clear hfz29_3
                try clear hfz29_4
                try clear hfz31_0
                try clear hfz31_1
                try clear hfz31_2
                try clear hfz31_3
                try clear hfz31_4
                try clear hfz32_0
                try clear hfz32_1
                try clear hfz32_2
                try clear hfz32_3
                try clear hfz32_4
                try clear hfz36_0
                try clear hfz36_1
                try clear hfz36_2
                try clear hfz36_3
                try clear hfz36_4
                try clear hfz37_0
                try clear hfz37_1
                try clear hfz37_2
                try clear hfz37_3
                try clear hfz37_4
                try clear hfz39_0
                try clear hfz39_1
                try clear hfz39_2
                try clear hfz39_3
                try clear hfz39_4
                try clear hfz40_0
                try clear hfz40_1
                try clear hfz40_2
                try clear hfz40_3
                try clear hfz40_4
                try clear hfz42_0
                try clear hfz42_1
                try clear hfz42_2
                try clear hfz42_3
                try clear hfz42_4
                try clear hfz43_0
                try clear hfz43_1
                try clear hfz43_2
                try clear hfz43_3
                try clear hfz43_4
                try clear hfz45_0
                try clear hfz45_1
                try clear hfz45_2
                try clear hfz45_3
                try clear hfz45_4
                try clear hfz50_0
                try clear hfz50_1
                try clear hfz50_2
                try clear hfz50_3
                try clear hfz50_4
                try clear hfz51_0
                try clear hfz51_1
                try clear hfz51_2
                try clear hfz51_3
                try clear hfz51_4
                try clear hfz53_0
                try clear hfz53_1
                try clear hfz53_2
                try clear hfz53_3
                try clear hfz53_4
                try clear hfz54_0
                try clear hfz54_1
                try clear hfz54_2
                try clear hfz54_3
                try clear hfz54_4
                try clear hfz58_0
                try clear hfz58_1
                try clear hfz58_2
                try clear hfz58_3
                try clear hfz58_4
                try clear hfz59_0
                try clear hfz59_1
                try clear hfz59_2
                try clear hfz59_3
                try clear hfz59_4
                try clear hfz61_0
                try clear hfz61_1
                try clear hfz61_2
                try clear hfz61_3
                try clear hfz61_4
                try clear hfz62_0
                try clear hfz62_1
                try clear hfz62_2
                try clear hfz62_3
                try clear hfz62_4
                try clear hfz64_0
                try clear hfz64_1
                try clear hfz64_2
                try clear hfz64_3
                try clear hfz64_4
                try clear hfz65_0
                try clear hfz65_1
                try clear hfz65_2
                try clear hfz65_3
                try clear hfz65_4
                try clear hfz67_0
                try clear hfz67_1
                try clear hfz67_2
                try clear hfz67_3
                try clear hfz67_4
                try clear hfz69_0
                try clear hfz69_1
                try clear hfz69_2
                try clear hfz69_3
                try clear hfz69_4
                try clear p2
                obtain ⟨kq, x42_22, rfl, HA, HJ22, BK278, BK285, HB⟩ := hcut
                cases kq with
                | zero => exact absurd HA.out (by simp [impl_PairAddress.j2])
                | succ kj22 =>
                  have H := HA.out
                  clear HA
                  simp only [impl_PairAddress.j2] at H
                  by_cases c70 : x42_22 = true
                  · subst c70
                    rw [if_pos rfl] at H
                    simp only [Option.some.injEq, Prod.mk.injEq] at H
                    obtain ⟨rfl, rfl⟩ := H
                    go_wp2
                    go_ret2
                    exact ⟨by first | rfl | (simp [errW_none, errW_some] <;> rfl) | (simp [*, errW_none, errW_some] <;> rfl), by repeat (first | (with_reducible first | exact HB.out | apply below_alloc | apply pw_below_drewN | apply below_drew1 | refine below_set ?_ GE278.out | refine below_set ?_ GE285.out) | exact HB.out)⟩
                  · replace c70 := Bool.eq_false_iff.mpr c70
                    subst c70
                    rw [if_neg (show ¬ (false = true) by decide)] at H
                    by_cases c71 : t272 = 2
                    · rw [if_pos c71] at H
                      have c71b0 : (t272 == 2) = true := beq_iff_eq.mpr c71
                      have c71b1 : (t272 != 2) = false := bne_eq_false_iff_eq.mpr c71
                      clear c71
                      simp only [Option.some.injEq, Prod.mk.injEq] at H
                      obtain ⟨rfl, rfl⟩ := H
                      have hnb72 := NB278_285.out
                      have hnc72 := NB285_278.out
                      have hcz73_0 : wc.cell? ⟨gb278, 0, none⟩ = some (.int .i64 t272) := (blk_cell BK278.out 0).trans rfl
                      have hcz73_1 : wc.cell? ⟨gb278, 1, none⟩ = some (.int .i64 t273) := (blk_cell BK278.out 1).trans rfl
                      have hcz73_2 : wc.cell? ⟨gb278, 2, none⟩ = some (.int .i64 t274) := (blk_cell BK278.out 2).trans rfl
                      have hcz73_3 : wc.cell? ⟨gb278, 3, none⟩ = some (.int .i64 t275) := (blk_cell BK278.out 3).trans rfl
                      have hcz73_4 : wc.cell? ⟨gb278, 4, none⟩ = some (.int .i64 t276) := (blk_cell BK278.out 4).trans rfl
                      have hfz73_0 := blk_frozen BK278.out 0
                      have hfz73_1 := blk_frozen BK278.out 1
                      have hfz73_2 := blk_frozen BK278.out 2
                      have hfz73_3 := blk_frozen BK278.out 3
                      have hfz73_4 := blk_frozen BK278.out 4
                      have hcz74_0 : wc.cell? ⟨gb285, 0, none⟩ = some (.int .i64 t279) := (blk_cell BK285.out 0).trans rfl
                      have hcz74_1 : wc.cell? ⟨gb285, 1, none⟩ = some (.int .i64 t280) := (blk_cell BK285.out 1).trans rfl
                      have hcz74_2 : wc.cell? ⟨gb285, 2, none⟩ = some (.int .i64 t281) := (blk_cell BK285.out 2).trans rfl
                      have hcz74_3 : wc.cell? ⟨gb285, 3, none⟩ = some (.int .i64 t282) := (blk_cell BK285.out 3).trans rfl
                      have hcz74_4 : wc.cell? ⟨gb285, 4, none⟩ = some (.int .i64 t283) := (blk_cell BK285.out 4).trans rfl
                      have hfz74_0 := blk_frozen BK285.out 0
                      have hfz74_1 := blk_frozen BK285.out 1
                      have hfz74_2 := blk_frozen BK285.out 2
                      have hfz74_3 := blk_frozen BK285.out 3
                      have hfz74_4 := blk_frozen BK285.out 4
                      go_wp2
                      go_ret2
                      exact ⟨by first | rfl | (simp [errW_none, errW_some] <;> rfl) | (simp [*, errW_none, errW_some] <;> rfl), by repeat (first | (with_reducible first | exact HB.out | apply below_alloc | apply pw_below_drewN | apply below_drew1 | refine below_set ?_ GE278.out | refine below_set ?_ GE285.out) | exact HB.out)⟩
                    · rw [if_neg c71] at H
                      have c71b0 : (t272 == 2) = false := beq_eq_false_iff_ne.mpr c71
                      have c71b1 : (t272 != 2) = true := bne_iff_ne.mpr c71
                      simp only [Option.some.injEq, Prod.mk.injEq] at H
                      obtain ⟨rfl, rfl⟩ := H
                      have hnb75 := NB278_285.out
                      have hnc75 := NB285_278.out
                      have hcz76_0 : wc.cell? ⟨gb278, 0, none⟩ = some (.int .i64 t272) := (blk_cell BK278.out 0).trans rfl
                      have hcz76_1 : wc.cell? ⟨gb278, 1, none⟩ = some (.int .i64 t273) := (blk_cell BK278.out 1).trans rfl
                      have hcz76_2 : wc.cell? ⟨gb278, 2, none⟩ = some (.int .i64 t274) := (blk_cell BK278.out 2).trans rfl
                      have hcz76_3 : wc.cell? ⟨gb278, 3, none⟩ = some (.int .i64 t275) := (blk_cell BK278.out 3).trans rfl
                      have hcz76_4 : wc.cell? ⟨gb278, 4, none⟩ = some (.int .i64 t276) := (blk_cell BK278.out 4).trans rfl
                      have hfz76_0 := blk_frozen BK278.out 0
                      have hfz76_1 := blk_frozen BK278.out 1
                      have hfz76_2 := blk_frozen BK278.out 2
                      have hfz76_3 := blk_frozen BK278.out 3
                      have hfz76_4 := blk_frozen BK278.out 4
                      have hcz77_0 : wc.cell? ⟨gb285, 0, none⟩ = some (.int .i64 t279) := (blk_cell BK285.out 0).trans rfl
                      have hcz77_1 : wc.cell? ⟨gb285, 1, none⟩ = some (.int .i64 t280) := (blk_cell BK285.out 1).trans rfl
                      have hcz77_2 : wc.cell? ⟨gb285, 2, none⟩ = some (.int .i64 t281) := (blk_cell BK285.out 2).trans rfl
                      have hcz77_3 : wc.cell? ⟨gb285, 3, none⟩ = some (.int .i64 t282) := (blk_cell BK285.out 3).trans rfl
                      have hcz77_4 : wc.cell? ⟨gb285, 4, none⟩ = some (.int .i64 t283) := (blk_cell BK285.out 4).trans rfl
                      have hfz77_0 := blk_frozen BK285.out 0
                      have hfz77_1 := blk_frozen BK285.out 1
                      have hfz77_2 := blk_frozen BK285.out 2
                      have hfz77_3 := blk_frozen BK285.out 3
                      have hfz77_4 := blk_frozen BK285.out 4
                      go_wp2
                      go_ret2
                      exact ⟨by first | rfl | (simp [errW_none, errW_some] <;> rfl) | (simp [*, errW_none, errW_some] <;> rfl), by repeat (first | (with_reducible first | exact HB.out | apply below_alloc | apply pw_below_drewN | apply below_drew1 | refine below_set ?_ GE278.out | refine below_set ?_ GE285.out) | exact HB.out)⟩

end Go.Proofs.Ytbbaggpmhiickaa.PFnPair
