/- The walk of FnExactNewHart: each Go function that the law reaches as a plain Lean function, with the proof that a call does what it says; no conditions. Written by a program for this claim. -/
import Derived.Test.YtbhempnfbginoaaPFnExactNewHartx0
import Derived.Deep.WholeRow
import Derived.Deep.MidRow
import Derived.Laws.CopyOwn
namespace Go.Proofs.Ytbhempnfbginoaa.PFnExactNewHart
open Go.RowKit Go.Proofs.YtbhempnfbginoaaW.PrintWords Go.Proofs.YtbhempnfbginoaaW.PrintLast Go.Proofs.YtbhempnfbginoaaW.PrintMore
attribute [local go_sem] max2_int min2_int max_two min_two max_three min_three max_four min_four   -- for this text's walks alone
set_option linter.unusedVariables false
set_option linter.unusedSimpArgs false

-- NOT PRINTED: function 15 (spec_NewHart)

-- NOT PRINTED: function 16 (impl_NewHart)

-- NOT PRINTED: function 39 (laws_eqIntA32)

-- NOT PRINTED: function 17 (laws_eqHart)

/-! ### laws_FnExactNewHart: function 4: the law on [32]int arrays, walked by hand -/
def laws_FnExactNewHart.f (a0 a1 : Int) : Option Bool := some true
def laws_FnExactNewHart.Z0 : Array Value := Array.replicate 33 (.int .i64 0)
def laws_FnExactNewHart.Z (pc : Int) : Array Value := Array.replicate 32 (.int .i64 0) ++ #[.int .i64 pc]
theorem laws_FnExactNewHart.built (pc : Int) : Try.prog.built 26 [(1, .int .i64 pc)] = some (laws_FnExactNewHart.Z pc) := by kernel_rfl
theorem laws_FnExactNewHart.zero26 : ∀ w, (zeroValue 26).run Try.prog w = .ok (.agg laws_FnExactNewHart.Z0) w := (zero_of_info (P := Try.prog) (t := 26) (v := .agg laws_FnExactNewHart.Z0) (n := 33) (by kernel_rfl)).1
theorem laws_FnExactNewHart.size26 : (Try.prog.info? 26).map (·.size) = some 33 := (zero_of_info (P := Try.prog) (t := 26) (v := .agg laws_FnExactNewHart.Z0) (n := 33) (by kernel_rfl)).2
theorem laws_FnExactNewHart.Z0_size : laws_FnExactNewHart.Z0.size = 33 := rfl
theorem laws_FnExactNewHart.Z_size (pc : Int) : (laws_FnExactNewHart.Z pc).size = 33 := rfl
theorem laws_FnExactNewHart.Z_cell (pc : Int) : (laws_FnExactNewHart.Z pc).all (·.oneCell') = true := by kernel_rfl
theorem laws_FnExactNewHart.wp_mv {P : Program} {o : Oper} {a : Act} {w : World} {K : Act → World → Prop} {Q : Exit → Act → World → Prop} (x : Operand) (h : o.op = .move x) (hk : K (a.put o.dst (a.eval x)) w) : o.wp P a w K Q := by
  unfold Oper.wp execOp; rw [h]; exact hk
theorem laws_FnExactNewHart.alloc26 (w : World) : (Instr.alloc 26 true (.tuple #[])).run Try.prog w = .ok (.pointer (some ⟨w.heap.size, 0, none⟩)) (w.alloc (.cells laws_FnExactNewHart.Z0 26)) := by
  simp only [Instr.alloc, Sem.run_bind, laws_FnExactNewHart.zero26, Result.andThen_ok]
  rfl
theorem laws_FnExactNewHart.wp_alloc26 {o : Oper} {a : Act} {w : World} {K : Act → World → Prop} {Q : Exit → Act → World → Prop} (ho : o.op = .alloc 26)
    (h : K (a.put o.dst (.pointer (some ⟨w.heap.size, 0, none⟩))) (w.alloc (.cells laws_FnExactNewHart.Z0 26))) : o.wp Try.prog a w K Q := by
  unfold Oper.wp execOp
  simp only [ho, Sem.run_bind, laws_FnExactNewHart.alloc26, Result.andThen_ok]
  exact h
theorem laws_FnExactNewHart.wp_bld {P : Program} {o : Oper} {a : Act} {w : World} {K : Act → World → Prop} {Q : Exit → Act → World → Prop} (t : TypeId) (i : Nat) (x : Operand) (y : Value) (cells : Array Value) (ho : o.op = .build t #[(i, x)]) (hy : a.eval x = y)
    (hc : P.built t [(i, y)] = some cells) (h : K (a.put o.dst (.agg cells)) w) : o.wp P a w K Q := by
  have hr := run_build (P := P) w t (#[(i, x)].map fun (i, x) => (i, a.eval x)) cells (by simpa [hy] using hc)
  unfold Oper.wp execOp
  simp only [ho, Sem.run_bind, hr, Result.andThen_ok]
  exact h
set_option maxHeartbeats 2000000 in
set_option maxRecDepth 100000 in
theorem laws_FnExactNewHart.specNew (pc sp : Int) (w : World) :
    Calls Try.prog 15 #[.int .i64 pc, .int .i64 sp] w fun e w' => e = .returned (.agg ((laws_FnExactNewHart.Z pc).setIfInBounds 2 (.int .i64 sp))) ∧ Below w.heap.size w w' := by
  go_enter Try.func15, Try.ntmps15
  go_upto_region 0 with (fail)
  rename_i K hK
  refine wp_region_list ?_
  refine wpList_plain rfl fun K1 hK1 => laws_FnExactNewHart.wp_alloc26 rfl (hK1 _ _ ?_)
  refine wpList_nil ?_
  refine hK _ _ ?_
  simp only [Act.put, List.setIfInBounds_toArray, List.set_cons_zero, List.set_cons_succ]
  generalize hW : w.alloc (.cells laws_FnExactNewHart.Z0 26) = W1
  clear hK
  go_upto_region 1 with (fail)
  rename_i K hK
  refine wp_region_list ?_
  refine wpList_plain rfl fun K1 hK1 => laws_FnExactNewHart.wp_mv _ rfl (hK1 _ _ ?_)
  simp only [Act.put, List.setIfInBounds_toArray, List.set_cons_zero, List.set_cons_succ]
  refine wpList_plain rfl fun K1 hK1 => laws_FnExactNewHart.wp_bld 26 1 (.tmp 6) (.int .i64 pc) (laws_FnExactNewHart.Z pc) rfl rfl (laws_FnExactNewHart.built pc) (hK1 _ _ ?_)
  simp only [Act.put, List.setIfInBounds_toArray, List.set_cons_zero, List.set_cons_succ]
  refine wpList_plain rfl fun K1 hK1 => laws_FnExactNewHart.wp_alloc26 rfl (hK1 _ _ ?_)
  simp only [Act.put, List.setIfInBounds_toArray, List.set_cons_zero, List.set_cons_succ]
  refine wpList_plain rfl fun K1 hK1 => wp_store_row 26 (.tmp 5) (.tmp 7) rfl W1.heap.size (laws_FnExactNewHart.Z pc) rfl rfl 26 laws_FnExactNewHart.Z0 (heap_alloc_last W1 _) (by rw [laws_FnExactNewHart.size26, laws_FnExactNewHart.Z_size]) (by rw [laws_FnExactNewHart.Z_size, laws_FnExactNewHart.Z0_size]) (laws_FnExactNewHart.Z_cell pc) (hK1 _ _ ?_)
  rw [World.setRow_alloc_new]
  refine wpList_nil ?_
  refine hK _ _ ?_
  clear hK
  simp only [Act.put, List.setIfInBounds_toArray, List.set_cons_zero, List.set_cons_succ]
  have hZs := laws_FnExactNewHart.Z_size pc
  generalize hZ : laws_FnExactNewHart.Z pc = zz at *
  go_upto_region 3 with (fail)
  rename_i K hK
  have hs2 : (zz.setIfInBounds 2 (.int .i64 sp)).size = 33 := by rw [Array.size_setIfInBounds, hZs]
  have hone : (zz.setIfInBounds 2 (.int .i64 sp)).all (·.oneCell') = true := by rw [← hZ]; kernel_rfl
  generalize hz2 : zz.setIfInBounds 2 (.int .i64 sp) = z2
  rw [hz2] at hs2 hone
  have hb0 : (W1.alloc (.cells z2 26)).heap[w.heap.size]? = some (.cells laws_FnExactNewHart.Z0 26 (0, 0)) := by
    rw [Below.heap_alloc _ _ _ (by rw [← hW]; simp), ← hW]
    exact heap_alloc_last w _
  refine wp_region_list ?_
  refine wpList_plain rfl fun K1 hK1 => wp_load_row 26 (.tmp 5) rfl W1.heap.size rfl 26 z2 (0, 0) _ (heap_alloc_last W1 _) Try.underlying26 rfl (by rw [laws_FnExactNewHart.size26, hs2]) (hK1 _ _ ?_)
  simp only [Act.put, List.setIfInBounds_toArray, List.set_cons_zero, List.set_cons_succ]
  refine wpList_plain rfl fun K1 hK1 => wp_store_row 26 (.tmp 4) (.tmp 11) rfl w.heap.size z2 rfl rfl 26 laws_FnExactNewHart.Z0 hb0 (by rw [laws_FnExactNewHart.size26, hs2]) (by rw [hs2, laws_FnExactNewHart.Z0_size]) hone (hK1 _ _ ?_)
  refine wpList_nil ?_
  refine hK _ _ ?_
  simp only [Act.put, List.setIfInBounds_toArray, List.set_cons_zero, List.set_cons_succ]
  have hl := run_loadVar_row (P := Try.prog) ((W1.alloc (.cells z2 26)).setRow w.heap.size z2) w.heap.size 26 26 z2 (0, 0) _ (setRow_heap _ _ _ _ _ _ hb0) Try.underlying26 rfl (by rw [laws_FnExactNewHart.size26, hs2])
  go_wp2
  refine bodyPost_ret (v := .agg z2) ?_ rfl ⟨by rw [← hz2, ← hZ], ?_⟩
  · unfold results
    rw [show Try.f15.results = #[.cell 4 26] from rfl]
    simp [asAddr, hl]
  · refine below_setRow ?_ (Nat.le_refl _) _
    rw [← hW]
    exact ((Below.refl _ w).alloc (Nat.le_refl _) _).alloc (by simp) _
set_option maxHeartbeats 2000000 in
set_option maxRecDepth 100000 in
theorem laws_FnExactNewHart.implNew (pc sp : Int) (w : World) :
    Calls Try.prog 16 #[.int .i64 pc, .int .i64 sp] w fun e w' => e = .returned (.agg ((laws_FnExactNewHart.Z pc).setIfInBounds 2 (.int .i64 sp))) ∧ Below w.heap.size w w' := by
  go_enter Try.func16, Try.ntmps16
  go_upto_region 0 with (fail)
  rename_i K hK
  refine wp_region_list ?_
  refine wpList_plain rfl fun K1 hK1 => laws_FnExactNewHart.wp_alloc26 rfl (hK1 _ _ ?_)
  refine wpList_nil ?_
  refine hK _ _ ?_
  simp only [Act.put, List.setIfInBounds_toArray, List.set_cons_zero, List.set_cons_succ]
  generalize hW : w.alloc (.cells laws_FnExactNewHart.Z0 26) = W1
  clear hK
  go_upto_region 1 with (fail)
  rename_i K hK
  refine wp_region_list ?_
  refine wpList_plain rfl fun K1 hK1 => laws_FnExactNewHart.wp_mv _ rfl (hK1 _ _ ?_)
  simp only [Act.put, List.setIfInBounds_toArray, List.set_cons_zero, List.set_cons_succ]
  refine wpList_plain rfl fun K1 hK1 => laws_FnExactNewHart.wp_bld 26 1 (.tmp 6) (.int .i64 pc) (laws_FnExactNewHart.Z pc) rfl rfl (laws_FnExactNewHart.built pc) (hK1 _ _ ?_)
  simp only [Act.put, List.setIfInBounds_toArray, List.set_cons_zero, List.set_cons_succ]
  refine wpList_plain rfl fun K1 hK1 => laws_FnExactNewHart.wp_alloc26 rfl (hK1 _ _ ?_)
  simp only [Act.put, List.setIfInBounds_toArray, List.set_cons_zero, List.set_cons_succ]
  refine wpList_plain rfl fun K1 hK1 => wp_store_row 26 (.tmp 5) (.tmp 7) rfl W1.heap.size (laws_FnExactNewHart.Z pc) rfl rfl 26 laws_FnExactNewHart.Z0 (heap_alloc_last W1 _) (by rw [laws_FnExactNewHart.size26, laws_FnExactNewHart.Z_size]) (by rw [laws_FnExactNewHart.Z_size, laws_FnExactNewHart.Z0_size]) (laws_FnExactNewHart.Z_cell pc) (hK1 _ _ ?_)
  rw [World.setRow_alloc_new]
  refine wpList_nil ?_
  refine hK _ _ ?_
  clear hK
  simp only [Act.put, List.setIfInBounds_toArray, List.set_cons_zero, List.set_cons_succ]
  have hZs := laws_FnExactNewHart.Z_size pc
  generalize hZ : laws_FnExactNewHart.Z pc = zz at *
  go_upto_region 3 with (fail)
  rename_i K hK
  have hs2 : (zz.setIfInBounds 2 (.int .i64 sp)).size = 33 := by rw [Array.size_setIfInBounds, hZs]
  have hone : (zz.setIfInBounds 2 (.int .i64 sp)).all (·.oneCell') = true := by rw [← hZ]; kernel_rfl
  generalize hz2 : zz.setIfInBounds 2 (.int .i64 sp) = z2
  rw [hz2] at hs2 hone
  have hb0 : (W1.alloc (.cells z2 26)).heap[w.heap.size]? = some (.cells laws_FnExactNewHart.Z0 26 (0, 0)) := by
    rw [Below.heap_alloc _ _ _ (by rw [← hW]; simp), ← hW]
    exact heap_alloc_last w _
  refine wp_region_list ?_
  refine wpList_plain rfl fun K1 hK1 => wp_load_row 26 (.tmp 5) rfl W1.heap.size rfl 26 z2 (0, 0) _ (heap_alloc_last W1 _) Try.underlying26 rfl (by rw [laws_FnExactNewHart.size26, hs2]) (hK1 _ _ ?_)
  simp only [Act.put, List.setIfInBounds_toArray, List.set_cons_zero, List.set_cons_succ]
  refine wpList_plain rfl fun K1 hK1 => wp_store_row 26 (.tmp 4) (.tmp 11) rfl w.heap.size z2 rfl rfl 26 laws_FnExactNewHart.Z0 hb0 (by rw [laws_FnExactNewHart.size26, hs2]) (by rw [hs2, laws_FnExactNewHart.Z0_size]) hone (hK1 _ _ ?_)
  refine wpList_nil ?_
  refine hK _ _ ?_
  simp only [Act.put, List.setIfInBounds_toArray, List.set_cons_zero, List.set_cons_succ]
  have hl := run_loadVar_row (P := Try.prog) ((W1.alloc (.cells z2 26)).setRow w.heap.size z2) w.heap.size 26 26 z2 (0, 0) _ (setRow_heap _ _ _ _ _ _ hb0) Try.underlying26 rfl (by rw [laws_FnExactNewHart.size26, hs2])
  go_wp2
  refine bodyPost_ret (v := .agg z2) ?_ rfl ⟨by rw [← hz2, ← hZ], ?_⟩
  · unfold results
    rw [show Try.f16.results = #[.cell 4 26] from rfl]
    simp [asAddr, hl]
  · refine below_setRow ?_ (Nat.le_refl _) _
    rw [← hW]
    exact ((Below.refl _ w).alloc (Nat.le_refl _) _).alloc (by simp) _
set_option maxHeartbeats 2000000 in
set_option maxRecDepth 100000 in
theorem laws_FnExactNewHart.eqA (cs : Array Value) (hs : cs.size = 32) (hI : ∀ i, i < 32 → ∃ z, cs[i]? = some (.int .i64 z)) (w : World) :
    Calls Try.prog 39 #[.agg cs, .agg cs] w fun e w' => e = .returned (.bool true) ∧ Below w.heap.size w w' := by
  go_enter Try.func39, Try.ntmps39
  go_wp2
  go_loopg [5] 32 (fun gg s5 wr => ∃ kk : Nat, kk ≤ 32 ∧ 32 - kk ≤ gg ∧ s5 = .int .i64 kk ∧ Aside0 (wr.heap[w.heap.size]? = some (.cells cs 22 (0, 0))) ∧ Aside0 (wr.heap[w.heap.size + 1]? = some (.cells cs 22 (0, 0))) ∧ Aside0 (Below w.heap.size w wr))
  case atStart =>
    refine ⟨0, by omega, by omega, rfl, ⟨?_⟩, ⟨?_⟩, ⟨((Below.refl _ w).alloc (Nat.le_refl _) _).alloc (by simp) _⟩⟩
    · rw [Below.heap_alloc _ _ _ (by simp)]; exact heap_alloc_last w _
    · have := heap_alloc_last (w.alloc (.cells cs 22)) (.cells cs 22)
      simpa using this
  case round =>
    obtain ⟨kk, hkk, hg, rfl, B1, B2, BW⟩ := hrel
    by_cases hlt : kk < 32
    · have hltz : (kk : Int) < 32 := by omega
      obtain ⟨z, hz⟩ := hI kk hlt
      have q1 : wr.cell? ⟨w.heap.size, kk, none⟩ = some (.int .i64 z) := (cell_of_row _ _ kk cs 22 (0, 0) B1.out).trans hz
      have q2 : wr.cell? ⟨w.heap.size + 1, kk, none⟩ = some (.int .i64 z) := (cell_of_row _ _ kk cs 22 (0, 0) B2.out).trans hz
      clear hI hs hz
      go_wp2
      go_quiet ((fail))
      go_wp2
      go_roundg (32 - (kk + 1))
      case measure => omega
      case rel => exact ⟨kk + 1, by omega, by omega, by go_num, ⟨B1.out⟩, ⟨B2.out⟩, ⟨pw_below_drewN BW.out _⟩⟩
    · obtain rfl : kk = 32 := by omega
      go_wp2
      go_ret
      exact ⟨rfl, BW.out⟩
set_option maxHeartbeats 2000000 in
set_option maxRecDepth 100000 in
theorem laws_FnExactNewHart.eqH (cs : Array Value) (hs : cs.size = 33) (hI : ∀ i, i < 33 → ∃ z, cs[i]? = some (.int .i64 z)) (w : World) :
    Calls Try.prog 17 #[.agg cs, .agg cs] w fun e w' => e = .returned (.bool true) ∧ Below w.heap.size w w' := by
  have hsz22 : (Try.prog.info? 22).map (·.size) = some 32 := (zero_of_info (P := Try.prog) (t := 22) (v := .agg (Array.replicate 32 (.int .i64 0))) (n := 32) (by kernel_rfl)).2
  have hlen : (Try.prog.info? 22).map (·.size) = some (cs.toList.take 32).length := by rw [hsz22]; simp [hs]
  have h1 : ∀ wc : World, ∀ b, wc.heap[b]? = some (.cells cs 26 (0, 0)) → wc.rangeAt b 0 (cs.toList.take 32) := fun wc b hb j v hv => by
      rw [Nat.zero_add, cell_of_row _ _ j cs 26 (0, 0) hb]
      rw [List.getElem?_take] at hv
      split at hv
      · simpa using hv
      · cases hv
  have g1 : ((w.alloc (.cells cs 26)).alloc (.cells cs 26)).heap[w.heap.size]? = some (.cells cs 26 (0, 0)) := by rw [Below.heap_alloc _ _ _ (by simp)]; exact heap_alloc_last w _
  have g2 : ((w.alloc (.cells cs 26)).alloc (.cells cs 26)).heap[w.heap.size + 1]? = some (.cells cs 26 (0, 0)) := by have := heap_alloc_last (w.alloc (.cells cs 26)) (.cells cs 26); simpa using this
  have l1 := Aside0.mk (h1 _ _ g1)
  have l2 := Aside0.mk (h1 _ _ g2)
  obtain ⟨p, hp⟩ := hI 32 (by omega)
  have c1 := Aside0.mk ((cell_of_row _ _ 32 cs 26 (0, 0) g1).trans hp)
  have c2 := Aside0.mk ((cell_of_row _ _ 32 cs 26 (0, 0) g2).trans hp)
  have hA := Aside0.mk (laws_FnExactNewHart.eqA (cs.toList.take 32).toArray (by simp [hs]) (fun i hi => by
    obtain ⟨z, hz⟩ := hI i (by omega)
    refine ⟨z, ?_⟩
    rw [List.getElem?_toArray, List.getElem?_take, if_pos hi]
    simpa using hz))
  have HL := Aside0.mk hlen
  clear h1 g1 g2 hp hI hsz22 hs hlen
  generalize cs.toList.take 32 = ct at *
  go_enter Try.func17, Try.ntmps17
  go_wp2_with (first | ((with_reducible refine gate_dst (N := 6) rfl ?_); refine wpList_load_mid rfl 22 (.tmp 5) rfl w.heap.size 0 rfl ct _ l1.out Try.underlying22 rfl HL.out ?_) | ((with_reducible refine gate_dst (N := 8) rfl ?_); refine wpList_load_mid rfl 22 (.tmp 7) rfl (w.heap.size + 1) 0 rfl ct _ l2.out Try.underlying22 rfl HL.out ?_) | (go_at_call 39; refine (hA.out _).mono ?_; rintro e w' ⟨rfl, hb'⟩; have f1 : w'.cell? ⟨w.heap.size, 32, none⟩ = some (.int .i64 p) := (hb'.cell (p := ⟨w.heap.size, 32, none⟩) (by simp; omega)).trans c1.out; have f2 : w'.cell? ⟨w.heap.size + 1, 32, none⟩ = some (.int .i64 p) := (hb'.cell (p := ⟨w.heap.size + 1, 32, none⟩) (by simp)).trans c2.out; have HB := Aside0.mk hb'; clear hb' hA))
  go_ret
  exact ⟨rfl, (((Below.refl _ w).alloc (Nat.le_refl _) _).alloc (by simp) _).trans (HB.out.mono (by simp; omega))⟩
set_option maxHeartbeats 2000000 in
set_option maxRecDepth 100000 in
theorem laws_FnExactNewHart.lawNew (pc sp : Int) (w : World) :
    Calls Try.prog 4 #[.int .i64 pc, .int .i64 sp] w fun e w' => e = .returned (.bool true) ∧ Below w.heap.size w w' := by
  have hz : (laws_FnExactNewHart.Z pc).setIfInBounds 2 (.int .i64 sp) = ((List.replicate 2 (0 : Int) ++ [sp] ++ List.replicate 29 0 ++ [pc]).map (fun z => Value.int .i64 z)).toArray := by kernel_rfl
  have hE := Aside0.mk (laws_FnExactNewHart.eqH ((laws_FnExactNewHart.Z pc).setIfInBounds 2 (.int .i64 sp)) (by rw [Array.size_setIfInBounds, laws_FnExactNewHart.Z_size]) (fun i hi => by
    rw [hz, List.getElem?_toArray, List.getElem?_map, List.getElem?_eq_getElem (by simp; omega)]
    exact ⟨_, rfl⟩))
  have hS := Aside0.mk (laws_FnExactNewHart.specNew pc sp)
  have hN := Aside0.mk (laws_FnExactNewHart.implNew pc sp)
  have hs : Aside0 (((laws_FnExactNewHart.Z pc).setIfInBounds 2 (.int .i64 sp)).size = 33) := ⟨by rw [Array.size_setIfInBounds, laws_FnExactNewHart.Z_size]⟩
  have hone : Aside0 (((laws_FnExactNewHart.Z pc).setIfInBounds 2 (.int .i64 sp)).all (·.oneCell') = true) := ⟨by kernel_rfl⟩
  clear hz
  generalize (laws_FnExactNewHart.Z pc).setIfInBounds 2 (.int .i64 sp) = cs at *
  go_enter Try.func4, Try.ntmps4
  go_wp2_with (first
    | (go_at_call 15; refine (hS.out _).mono ?_; rintro e w1 ⟨rfl, hb1⟩; have B1 := Aside0.mk hb1; clear hb1 hS)
    | ((with_reducible refine gate_dst (N := 5) rfl ?_); refine wpList_plain rfl fun K1 hK1 => laws_FnExactNewHart.wp_alloc26 rfl (hK1 _ _ ?_); clear hK1 K1)
    | ((with_reducible refine gate_store (t := 26) (p := 5) rfl ?_); refine wpList_plain rfl fun K1 hK1 => wp_store_row 26 (.tmp 5) _ rfl w1.heap.size cs rfl rfl 26 laws_FnExactNewHart.Z0 (heap_alloc_last w1 _) (by rw [laws_FnExactNewHart.size26, hs.out]) (by rw [hs.out, laws_FnExactNewHart.Z0_size]) hone.out (hK1 _ _ ?_); clear hK1 K1; rw [World.setRow_alloc_new])
    | (go_at_call 16; refine (hN.out _).mono ?_; rintro e w2 ⟨rfl, hb2⟩; have B2 := Aside0.mk hb2; have G1 : Aside0 (∀ o, (w2.alloc o).heap[w1.heap.size]? = some (.cells cs 26 (0, 0))) := ⟨fun o => by rw [Below.heap_alloc _ _ _ (by have := hb2.size; simp at this; omega), hb2.block _ (by simp)]; exact heap_alloc_last w1 _⟩; clear hb2 hN)
    | ((with_reducible refine gate_dst (N := 6) rfl ?_); refine wpList_plain rfl fun K1 hK1 => laws_FnExactNewHart.wp_alloc26 rfl (hK1 _ _ ?_); clear hK1 K1)
    | ((with_reducible refine gate_store (t := 26) (p := 6) rfl ?_); refine wpList_plain rfl fun K1 hK1 => wp_store_row 26 (.tmp 6) _ rfl w2.heap.size cs rfl rfl 26 laws_FnExactNewHart.Z0 (heap_alloc_last w2 _) (by rw [laws_FnExactNewHart.size26, hs.out]) (by rw [hs.out, laws_FnExactNewHart.Z0_size]) hone.out (hK1 _ _ ?_); clear hK1 K1; rw [World.setRow_alloc_new])
    | ((with_reducible refine gate_dst (N := 13) rfl ?_); refine wpList_plain rfl fun K1 hK1 => wp_load_row 26 (.tmp 6) rfl w2.heap.size rfl 26 cs (0, 0) _ (heap_alloc_last w2 _) Try.underlying26 rfl (by rw [laws_FnExactNewHart.size26, hs.out]) (hK1 _ _ ?_); clear hK1 K1)
    | ((with_reducible refine gate_dst (N := 14) rfl ?_); refine wpList_plain rfl fun K1 hK1 => wp_load_row 26 (.tmp 5) rfl w1.heap.size rfl 26 cs (0, 0) _ (G1.out _) Try.underlying26 rfl (by rw [laws_FnExactNewHart.size26, hs.out]) (hK1 _ _ ?_); clear hK1 K1)
    | (go_at_call 17; refine (hE.out _).mono ?_; rintro e w3 ⟨rfl, hb3⟩; have B3 := Aside0.mk hb3; clear hb3 hE))
  go_ret
  have s1 := B1.out.size
  have s2 := B2.out.size
  have s3 := B3.out.size
  simp at s2 s3
  exact ⟨rfl, (((B1.out.alloc s1 _).trans (B2.out.mono (by simp; omega))).alloc (by omega) _).trans (B3.out.mono (by simp; omega))⟩
theorem laws_FnExactNewHart.calls (a0 a1 : Int) (r : Bool) (hT : r = true) (w : World) (h : laws_FnExactNewHart.f a0 a1 = some r) :
    Calls Try.prog 4 #[.int .i64 a0, .int .i64 a1] w fun e w' => e = .returned (.bool r) ∧ Below w.heap.size w w' := by
  obtain rfl := Option.some.inj h
  exact laws_FnExactNewHart.lawNew a0 a1 w

end Go.Proofs.Ytbhempnfbginoaa.PFnExactNewHart
