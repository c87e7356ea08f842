-- Written by a program for this claim.
import Derived.Test.YtgdjpbknlbhaeaaDoorPFnExactInstrTextx0
namespace Go.Proofs.YtgdjpbknlbhaeaaDoor.PFnExactInstrText
open Go.RowKit Go.Proofs.YtgdjpbknlbhaeaaDoorW.PrintWords Go.Proofs.YtgdjpbknlbhaeaaDoorW.PrintLast Go.Proofs.YtgdjpbknlbhaeaaDoorW.PrintMore
attribute [local go_sem] max2_int min2_int max_two min_two max_three min_three max_four min_four   -- for this text's walks alone
set_option linter.unusedVariables false
set_option linter.unusedSimpArgs false

/-! ### spec_l02Shape: function 23 -/
def spec_l02Shape.f (a0 : Int) : Option (Int × Int × Int × Int) := if a0 = 1 then (some (1, 55, 0, 0)) else (if a0 = 2 then (some (1, 23, 0, 0)) else (if a0 = 3 then (some (2, 111, 0, 0)) else (if a0 = 4 then (some (3, 103, 0, 0)) else (if a0 = 5 then (some (4, 99, 0, 0)) else (if a0 = 6 then (some (4, 99, 1, 0)) else (if a0 = 7 then (some (4, 99, 4, 0)) else (if a0 = 8 then (some (4, 99, 5, 0)) else (if a0 = 9 then (some (4, 99, 6, 0)) else (if a0 = 10 then (some (4, 99, 7, 0)) else (if a0 = 11 then (some (3, 3, 0, 0)) else (if a0 = 12 then (some (3, 3, 1, 0)) else (if a0 = 13 then (some (3, 3, 2, 0)) else (if a0 = 14 then (some (3, 3, 3, 0)) else (if a0 = 15 then (some (3, 3, 4, 0)) else (if a0 = 16 then (some (3, 3, 5, 0)) else (if a0 = 17 then (some (3, 3, 6, 0)) else (if a0 = 18 then (some (5, 35, 0, 0)) else (if a0 = 19 then (some (5, 35, 1, 0)) else (if a0 = 20 then (some (5, 35, 2, 0)) else (if a0 = 21 then (some (5, 35, 3, 0)) else (if a0 = 22 then (some (3, 19, 0, 0)) else (if a0 = 23 then (some (3, 19, 2, 0)) else (if a0 = 24 then (some (3, 19, 3, 0)) else (if a0 = 25 then (some (3, 19, 4, 0)) else (if a0 = 26 then (some (3, 19, 6, 0)) else (if a0 = 27 then (some (3, 19, 7, 0)) else (if a0 = 28 then (some (6, 19, 1, 0)) else (if a0 = 29 then (some (6, 19, 5, 0)) else (if a0 = 30 then (some (6, 19, 5, 32)) else (if a0 = 31 then (some (8, 51, 0, 0)) else (if a0 = 32 then (some (8, 51, 0, 32)) else (if a0 = 33 then (some (8, 51, 1, 0)) else (if a0 = 34 then (some (8, 51, 2, 0)) else (if a0 = 35 then (some (8, 51, 3, 0)) else (if a0 = 36 then (some (8, 51, 4, 0)) else (if a0 = 37 then (some (8, 51, 5, 0)) else (if a0 = 38 then (some (8, 51, 5, 32)) else (if a0 = 39 then (some (8, 51, 6, 0)) else (if a0 = 40 then (some (8, 51, 7, 0)) else (if a0 = 41 then (some (3, 27, 0, 0)) else (if a0 = 42 then (some (7, 27, 1, 0)) else (if a0 = 43 then (some (7, 27, 5, 0)) else (if a0 = 44 then (some (7, 27, 5, 32)) else (if a0 = 45 then (some (8, 59, 0, 0)) else (if a0 = 46 then (some (8, 59, 0, 32)) else (if a0 = 47 then (some (8, 59, 1, 0)) else (if a0 = 48 then (some (8, 59, 5, 0)) else (if a0 = 49 then (some (8, 59, 5, 32)) else (if a0 = 50 then (some (8, 51, 0, 1)) else (if a0 = 51 then (some (8, 51, 1, 1)) else (if a0 = 52 then (some (8, 51, 2, 1)) else (if a0 = 53 then (some (8, 51, 3, 1)) else (if a0 = 54 then (some (8, 51, 4, 1)) else (if a0 = 55 then (some (8, 51, 5, 1)) else (if a0 = 56 then (some (8, 51, 6, 1)) else (if a0 = 57 then (some (8, 51, 7, 1)) else (if a0 = 58 then (some (8, 59, 0, 1)) else (if a0 = 59 then (some (8, 59, 4, 1)) else (if a0 = 60 then (some (8, 59, 5, 1)) else (if a0 = 61 then (some (8, 59, 6, 1)) else (if a0 = 62 then (some (8, 59, 7, 1)) else (if a0 = 63 then (some (9, 115, 0, 0)) else (if a0 = 64 then (some (9, 115, 0, 1)) else (some (0, 0, 0, 0)))))))))))))))))))))))))))))))))))))))))))))))))))))))))))))))))
theorem spec_l02Shape.leaf {a : Act} {w w3 : World} {g : Nat} {a0 r1 r2 r3 r4 v1 v2 v3 v4 : Int} (hp : a.tmps.getD 2 undef = .pointer (some ⟨g, 0, none⟩)) (hd : a.defers = [])
    (BK : Aside0 (w3.heap[g]? = some (.cells #[.int .i64 0, .int .i64 0, .int .i64 0, .int .i64 0] 45 (0, 0)))) (HB : Aside0 (Below w.heap.size w w3)) (GE : Aside0 (w.heap.size ≤ g))
    (H : Aside0 (spec_l02Shape.f a0 = some (r1, r2, r3, r4))) (e : spec_l02Shape.f a0 = some (v1, v2, v3, v4)) :
    bodyPost Tryd.prog Tryd.f23 (fun e w' => e = .returned (.agg #[.int .i64 r1, .int .i64 r2, .int .i64 r3, .int .i64 r4]) ∧ Below w.heap.size w w') .ret a
      ((((w3.setCell ⟨g, 0, none⟩ (.int .i64 v1)).setCell ⟨g, 1, none⟩ (.int .i64 v2)).setCell ⟨g, 2, none⟩ (.int .i64 v3)).setCell ⟨g, 3, none⟩ (.int .i64 v4)) := by
  have h := e.symm.trans H.out
  simp only [Option.some.injEq, Prod.mk.injEq] at h
  obtain ⟨rfl, rfl, rfl, rfl⟩ := h
  refine bodyPost_ret (results_cell_row rfl _ _ g 45 #[.int .i64 v1, .int .i64 v2, .int .i64 v3, .int .i64 v4] (0, 0) _ hp (blk_put (blk_put (blk_put (blk_put BK.out 0 _ rfl) 1 _ rfl) 2 _ rfl) 3 _ rfl) Tryd.underlying45 rfl (by kernel_rfl)) hd ?_
  exact ⟨rfl, below_set (below_set (below_set (below_set HB.out GE.out) GE.out) GE.out) GE.out⟩

set_option maxHeartbeats 8000000 in
set_option maxRecDepth 100000 in
theorem spec_l02Shape.calls (a0 : Int) (r1 : Int) (r2 : Int) (r3 : Int) (r4 : Int) (w : World) (h : spec_l02Shape.f a0 = some (r1, r2, r3, r4)) :
    Calls Tryd.prog 23 #[.int .i64 a0] w fun e w' => e = .returned (.agg #[.int .i64 r1, .int .i64 r2, .int .i64 r3, .int .i64 r4]) ∧ Below w.heap.size w w' := by
  have hu := Tryd.underlying45
  have HB := Aside0.mk (Below.refl w.heap.size w)
  have H := Aside0.mk h
  clear h
  go_enter Tryd.func23, Tryd.ntmps23
  go_wp2_with (first | ((with_reducible refine gate_dst (N := 2) rfl ?_); refine box_event ?hg (N := 2) ?hd (cs := #[.int .i64 0, .int .i64 0, .int .i64 0, .int .i64 0]) (t := 45) ?hr ?_; (case hd => rfl); (case hg => rfl); (case hr => first | (go_simp; done) | (go_simp; rfl)); intro gb102 hg w3 hbox hb; have n0_ := Aside0.mk (below_step (by repeat (first | (with_reducible first | exact HB.out | apply below_alloc | apply pw_below_drewN | apply below_drew1) | exact HB.out)) hb); have n1_ := Aside0.mk (hbox); have n3_ := Aside0.mk ((by rw [hg]; exact (below_size (by repeat (first | (with_reducible first | exact HB.out | apply below_alloc | apply pw_below_drewN | apply below_drew1) | exact HB.out))) : w.heap.size ≤ gb102)); clear HB; have HB := n0_; have BK102 := n1_; have GE102 := n3_; clear n0_ n1_ n3_; clear hb hbox hg; have hcz4_0 : w3.cell? ⟨gb102, 0, none⟩ = some (.int .i64 0) := (blk_cell BK102.out 0).trans rfl; have hcz4_1 : w3.cell? ⟨gb102, 1, none⟩ = some (.int .i64 0) := (blk_cell BK102.out 1).trans rfl; have hcz4_2 : w3.cell? ⟨gb102, 2, none⟩ = some (.int .i64 0) := (blk_cell BK102.out 2).trans rfl; have hcz4_3 : w3.cell? ⟨gb102, 3, none⟩ = some (.int .i64 0) := (blk_cell BK102.out 3).trans rfl; have hfz4_0 := blk_frozen BK102.out 0; have hfz4_1 := blk_frozen BK102.out 1; have hfz4_2 := blk_frozen BK102.out 2; have hfz4_3 := blk_frozen BK102.out 3))
  all_goals
    refine spec_l02Shape.leaf rfl rfl BK102 HB GE102 H ?_
    first
    | (have hx_ := eq_of_beq (by assumption : (a0 == _) = true); subst hx_; rfl)
    | (simp only [beq_eq_false_iff_ne, ne_eq] at *; unfold spec_l02Shape.f; simp only [*, if_false])


/-! ### spec_l01In: function 36 -/
def spec_l01In.f (a0 : Int) (a1 : Int) (a2 : Int) : Option (Bool) := if a0 ≥ a1 then (some (decide (a0 ≤ a2))) else (some false)
set_option maxHeartbeats 8000000 in
set_option maxRecDepth 100000 in
theorem spec_l01In.calls (a0 : Int) (a1 : Int) (a2 : Int) (r : Bool) (w : World) (h : spec_l01In.f a0 a1 a2 = some r) :
    Calls Tryd.prog 36 #[.int .i64 a0, .int .i64 a1, .int .i64 a2] w fun e w' => e = .returned (.bool r) ∧ Drawn0 w w' := by
  have H : (if a0 ≥ a1 then (some (decide (a0 ≤ a2))) else (some false)) = some r := h
  clear h
  by_cases c4 : a0 ≥ a1
  · rw [if_pos c4] at H
    have c4b0 : decide (a1 ≤ a0) = true := decide_eq_true c4
    clear c4
    obtain rfl := Option.some.inj H
    go_enter Tryd.func36, Tryd.ntmps36
    go_wp2
    go_ret
    exact ⟨by first | rfl | (simp; done) | (simp [*]; done), by repeat (first | exact Drawn0.refl _ | apply Drawn0.step)⟩
  · rw [if_neg c4] at H
    have c4b0 : decide (a1 ≤ a0) = false := decide_eq_false c4
    clear c4
    obtain rfl := Option.some.inj H
    go_enter Tryd.func36, Tryd.ntmps36
    go_wp2
    go_ret
    exact ⟨by first | rfl | (simp; done) | (simp [*]; done), by repeat (first | exact Drawn0.refl _ | apply Drawn0.step)⟩

/-! ### spec_l02Op: function 34 -/
def spec_l02Op.f (a0 : Int) : Option (Bool) := (spec_l01In.f a0 1 64).bind fun t102 => (some t102)
set_option maxHeartbeats 8000000 in
set_option maxRecDepth 100000 in
theorem spec_l02Op.calls (a0 : Int) (r : Bool) (w : World) (h : spec_l02Op.f a0 = some r) :
    Calls Tryd.prog 34 #[.int .i64 a0] w fun e w' => e = .returned (.bool r) ∧ Drawn0 w w' := by
  have H : ((spec_l01In.f a0 1 64).bind fun t102 => (some t102)) = some r := h
  clear h
  replace H := Option.bind_eq_some_iff.mp H
  obtain ⟨t102, A20, H⟩ := H
  try dsimp only at H
  have A2 := Aside0.mk A20
  clear A20
  obtain rfl := Option.some.inj H
  go_enter Tryd.func34, Tryd.ntmps34
  go_wp2_with (first | ((with_reducible refine gate_callee (f := 36) rfl ?_); refine goesL_ (some 4) rfl rfl Tryd.func36 (by kernel_rfl) rfl #[.int .i64 a0, .int .i64 1, .int .i64 64] rfl (by (try simp only [List.map_toArray, List.map_cons, List.map_nil]); first | done | rfl | (simp only [List.length_drop, List.length_take]; rfl)) ?_; (with_reducible refine (spec_l01In.calls a0 1 64 t102 _ A2.out).mono ?_); rintro e w' ⟨rfl, ⟨nd, rfl⟩⟩; refine ⟨_, rfl, ?_⟩))
  go_ret
  exact ⟨by first | rfl | (simp; done) | (simp [*]; done), by repeat (first | exact Drawn0.refl _ | apply Drawn0.step)⟩

/-! ### spec_l02Reg: function 35 -/
def spec_l02Reg.f (a0 : Int) : Option (Bool) := (spec_l01In.f a0 0 31).bind fun t103 => (some t103)
set_option maxHeartbeats 8000000 in
set_option maxRecDepth 100000 in
theorem spec_l02Reg.calls (a0 : Int) (r : Bool) (w : World) (h : spec_l02Reg.f a0 = some r) :
    Calls Tryd.prog 35 #[.int .i64 a0] w fun e w' => e = .returned (.bool r) ∧ Drawn0 w w' := by
  have H : ((spec_l01In.f a0 0 31).bind fun t103 => (some t103)) = some r := h
  clear h
  replace H := Option.bind_eq_some_iff.mp H
  obtain ⟨t103, A20, H⟩ := H
  try dsimp only at H
  have A2 := Aside0.mk A20
  clear A20
  obtain rfl := Option.some.inj H
  go_enter Tryd.func35, Tryd.ntmps35
  go_wp2_with (first | ((with_reducible refine gate_callee (f := 36) rfl ?_); refine goesL_ (some 4) rfl rfl Tryd.func36 (by kernel_rfl) rfl #[.int .i64 a0, .int .i64 0, .int .i64 31] rfl (by (try simp only [List.map_toArray, List.map_cons, List.map_nil]); first | done | rfl | (simp only [List.length_drop, List.length_take]; rfl)) ?_; (with_reducible refine (spec_l01In.calls a0 0 31 t103 _ A2.out).mono ?_); rintro e w' ⟨rfl, ⟨nd, rfl⟩⟩; refine ⟨_, rfl, ?_⟩))
  go_ret
  exact ⟨by first | rfl | (simp; done) | (simp [*]; done), by repeat (first | exact Drawn0.refl _ | apply Drawn0.step)⟩

end Go.Proofs.YtgdjpbknlbhaeaaDoor.PFnExactInstrText
