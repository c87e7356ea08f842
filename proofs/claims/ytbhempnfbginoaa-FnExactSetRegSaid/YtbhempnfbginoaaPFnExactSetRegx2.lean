/- The walk of FnExactSetReg: [32]int arrays by value, walked by hand; no conditions. Written for this claim. -/
import Derived.Test.YtbhempnfbginoaaPFnExactHartOKx1
import Derived.Test.YtbhempnfbginoaaPFnExactSetRegx1
import Derived.Laws.ResultCell
namespace Go.Proofs.Ytbhempnfbginoaa.PFnExactSetReg
open Go.RowKit Go.Proofs.YtbhempnfbginoaaW.PrintWords Go.Proofs.YtbhempnfbginoaaW.PrintLast Go.Proofs.YtbhempnfbginoaaW.PrintMore
open Go.Proofs.Ytbhempnfbginoaa.PFnExactNewHart.laws_FnExactNewHart Go.Proofs.Ytbhempnfbginoaa.PFnExactHartOK
set_option linter.unusedVariables false
set_option linter.unusedSimpArgs false
def putr (cs : Array Value) (k : Nat) (v : Int) : Array Value := if k = 0 then cs else cs.setIfInBounds k (.int .i64 v)
theorem putr_size (cs : Array Value) (k : Nat) (v : Int) : (putr cs k v).size = cs.size := by unfold putr; split <;> simp
theorem putr_int (cs : Array Value) (hs : cs.size = 33) (hI : ∀ i, i < 33 → ∃ z, cs[i]? = some (.int .i64 z)) (k : Nat) (v : Int) : ∀ i, i < 33 → ∃ z, (putr cs k v)[i]? = some (.int .i64 z) := by
  intro i hi
  unfold putr
  split
  · exact hI i hi
  · rw [Array.getElem?_setIfInBounds]
    split
    · rw [if_pos (by omega)]; exact ⟨v, rfl⟩
    · exact hI i hi
set_option maxHeartbeats 2000000 in
set_option maxRecDepth 100000 in
theorem set41 (cs : Array Value) (hs : cs.size = 33) (hI : ∀ i, i < 33 → ∃ z, cs[i]? = some (.int .i64 z)) (k : Nat) (hk : k < 32) (v : Int) (w : World) :
    Calls Try.prog 41 #[.agg cs, .int .i64 (k : Int), .int .i64 v] w fun e w' => e = .returned (.agg (putr cs k v)) ∧ Below w.heap.size w w' := by
  have hps := putr_size cs k v
  rw [hs] at hps
  have hpo := ones (putr cs k v) 33 hps (putr_int cs hs hI k v)
  have HPS := Aside0.mk hps
  have HPO := Aside0.mk hpo
  have HS := Aside0.mk hs
  clear hps hpo hI
  go_enter Try.func41, Try.ntmps41
  go_upto_region 1 with (fail)
  generalize hW : ((w.alloc (.cells cs 26)).alloc (.cells #[Value.int .i64 0, Value.int .i64 0, Value.int .i64 0, Value.int .i64 0, Value.int .i64 0, Value.int .i64 0, Value.int .i64 0, Value.int .i64 0, Value.int .i64 0, Value.int .i64 0, Value.int .i64 0, Value.int .i64 0, Value.int .i64 0, Value.int .i64 0, Value.int .i64 0, Value.int .i64 0, Value.int .i64 0, Value.int .i64 0, Value.int .i64 0, Value.int .i64 0, Value.int .i64 0, Value.int .i64 0, Value.int .i64 0, Value.int .i64 0, Value.int .i64 0, Value.int .i64 0, Value.int .i64 0, Value.int .i64 0, Value.int .i64 0, Value.int .i64 0, Value.int .i64 0, Value.int .i64 0, Value.int .i64 0] 26)) = W0
  have BX : Aside0 (W0.heap[w.heap.size]? = some (.cells cs 26 (0, 0))) := ⟨by rw [← hW, Below.heap_alloc _ _ _ (by simp)]; exact heap_alloc_last w _⟩
  have BY : Aside0 (W0.heap[w.heap.size + 1]? = some (.cells Z0 26 (0, 0))) := ⟨by
    rw [← hW]
    have e : (w.alloc (.cells cs 26)).heap.size = w.heap.size + 1 := by simp
    rw [← e]
    exact heap_alloc_last _ _⟩
  have HB : Aside0 (Below w.heap.size w W0) := ⟨by rw [← hW]; exact ((Below.refl _ w).alloc (Nat.le_refl _) _).alloc (by simp) _⟩
  clear hW
  by_cases h0 : k = 0
  · subst h0
    have HE : Aside0 (putr cs 0 v = cs) := ⟨rfl⟩
    rw [HE.out] at *
    have hz0 : ((0 : Nat) : Int) = 0 := rfl
    simp only [hz0]
    go_wp2_with (first
      | ((with_reducible refine gate_dst (N := 13) rfl ?_); refine wpList_plain rfl fun K1 hK1 => wp_load_row 26 (.tmp 3) rfl w.heap.size rfl 26 cs (0, 0) _ BX.out Try.underlying26 rfl (by rw [size26, HS.out]) (hK1 _ _ ?_); clear hK1 K1)
      | ((with_reducible refine gate_store (t := 26) (p := 6) rfl ?_); refine wpList_plain rfl fun K1 hK1 => wp_store_row 26 (.tmp 6) _ rfl (w.heap.size + 1) cs rfl rfl 26 Z0 BY.out (by rw [size26, HS.out]) (by rw [HS.out]; rfl) HPO.out (hK1 _ _ ?_); clear hK1 K1))
    have hl := run_loadVar_row (P := Try.prog) (W0.setRow (w.heap.size + 1) cs) (w.heap.size + 1) 26 26 cs (0, 0) _ (setRow_heap _ _ _ _ _ _ BY.out) Try.underlying26 rfl (by rw [size26, HS.out])
    refine bodyPost_ret (v := .agg cs) ?_ rfl ⟨rfl, ?_⟩
    · unfold results
      rw [show Try.f41.results = #[.cell 6 26] from rfl]
      simp [asAddr, Act.put, hl]
    · exact below_setRow HB.out (by omega) _
  · have hkz : decide ((0 : Int) < (k : Int)) = true := decide_eq_true (by omega)
    have hkn : ((k : Int) != 0) = true := bne_iff_ne.mpr (by omega)
    have hk2 : (k : Int) < 32 := by omega
    have hkp : 0 < k := by omega
    have hkq : decide (0 < k) = true := decide_eq_true hkp
    have hkm : (k != 0) = true := bne_iff_ne.mpr h0
    have HE : Aside0 (cs.setIfInBounds k (.int .i64 v) = putr cs k v) := ⟨by unfold putr; rw [if_neg h0]⟩
    obtain ⟨u, hu⟩ : ∃ u, cs[k]? = some u := ⟨_, Array.getElem?_eq_getElem (by rw [HS.out]; omega)⟩
    have m1 : W0.cell? ⟨w.heap.size, k, none⟩ = some u := (cell_of_row _ _ k cs 26 (0, 0) BX.out).trans hu
    have m2 := blk_frozen BX.out k
    have K4 : Aside0 ((W0.setCell ⟨w.heap.size, k, none⟩ (.int .i64 v)).heap[w.heap.size]? = some (.cells (putr cs k v) 26 (0, 0))) := ⟨blk_put BX.out k _ HE.out⟩
    have K5 : Aside0 ((W0.setCell ⟨w.heap.size, k, none⟩ (.int .i64 v)).heap[w.heap.size + 1]? = some (.cells Z0 26 (0, 0))) := ⟨blk_far BY.out (by show w.heap.size + 1 ≠ w.heap.size; omega) _⟩
    have KB : Aside0 (Below w.heap.size w (W0.setCell ⟨w.heap.size, k, none⟩ (.int .i64 v))) := ⟨below_set HB.out (by omega)⟩
    clear hu hs h0
    generalize hz2 : putr cs k v = z2 at *
    go_wp2_with (first
      | ((with_reducible refine gate_dst (N := 13) rfl ?_); refine wpList_plain rfl fun K1 hK1 => wp_load_row 26 (.tmp 3) rfl w.heap.size rfl 26 z2 (0, 0) _ K4.out Try.underlying26 rfl (by rw [size26, HPS.out]) (hK1 _ _ ?_); clear hK1 K1)
      | ((with_reducible refine gate_store (t := 26) (p := 6) rfl ?_); refine wpList_plain rfl fun K1 hK1 => wp_store_row 26 (.tmp 6) _ rfl (w.heap.size + 1) z2 rfl rfl 26 Z0 K5.out (by rw [size26, HPS.out]) (by rw [HPS.out]; rfl) HPO.out (hK1 _ _ ?_); clear hK1 K1))
    have hl := run_loadVar_row (P := Try.prog) ((W0.setCell ⟨w.heap.size, k, none⟩ (.int .i64 v)).setRow (w.heap.size + 1) z2) (w.heap.size + 1) 26 26 z2 (0, 0) _ (setRow_heap _ _ _ _ _ _ K5.out) Try.underlying26 rfl (by rw [size26, HPS.out])
    refine bodyPost_ret (v := .agg z2) ?_ rfl ⟨by first | rfl | rw [hz2], ?_⟩
    · unfold results
      rw [show Try.f41.results = #[.cell 6 26] from rfl]
      simp [asAddr, Act.put, hl]
    · exact below_setRow KB.out (by omega) _
set_option maxHeartbeats 2000000 in
set_option maxRecDepth 100000 in
theorem set43 (cs : Array Value) (hs : cs.size = 33) (hI : ∀ i, i < 33 → ∃ z, cs[i]? = some (.int .i64 z)) (k : Nat) (hk : k < 32) (v : Int) (w : World) :
    Calls Try.prog 43 #[.agg cs, .int .i64 (k : Int), .int .i64 v] w fun e w' => e = .returned (.agg (putr cs k v)) ∧ Below w.heap.size w w' := by
  have hps := putr_size cs k v
  rw [hs] at hps
  have hpo := ones (putr cs k v) 33 hps (putr_int cs hs hI k v)
  have HPS := Aside0.mk hps
  have HPO := Aside0.mk hpo
  have HS := Aside0.mk hs
  clear hps hpo hI
  go_enter Try.func43, Try.ntmps43
  go_upto_region 1 with (fail)
  generalize hW : ((w.alloc (.cells cs 26)).alloc (.cells #[Value.int .i64 0, Value.int .i64 0, Value.int .i64 0, Value.int .i64 0, Value.int .i64 0, Value.int .i64 0, Value.int .i64 0, Value.int .i64 0, Value.int .i64 0, Value.int .i64 0, Value.int .i64 0, Value.int .i64 0, Value.int .i64 0, Value.int .i64 0, Value.int .i64 0, Value.int .i64 0, Value.int .i64 0, Value.int .i64 0, Value.int .i64 0, Value.int .i64 0, Value.int .i64 0, Value.int .i64 0, Value.int .i64 0, Value.int .i64 0, Value.int .i64 0, Value.int .i64 0, Value.int .i64 0, Value.int .i64 0, Value.int .i64 0, Value.int .i64 0, Value.int .i64 0, Value.int .i64 0, Value.int .i64 0] 26)) = W0
  have BX : Aside0 (W0.heap[w.heap.size]? = some (.cells cs 26 (0, 0))) := ⟨by rw [← hW, Below.heap_alloc _ _ _ (by simp)]; exact heap_alloc_last w _⟩
  have BY : Aside0 (W0.heap[w.heap.size + 1]? = some (.cells Z0 26 (0, 0))) := ⟨by
    rw [← hW]
    have e : (w.alloc (.cells cs 26)).heap.size = w.heap.size + 1 := by simp
    rw [← e]
    exact heap_alloc_last _ _⟩
  have HB : Aside0 (Below w.heap.size w W0) := ⟨by rw [← hW]; exact ((Below.refl _ w).alloc (Nat.le_refl _) _).alloc (by simp) _⟩
  clear hW
  by_cases h0 : k = 0
  · subst h0
    have HE : Aside0 (putr cs 0 v = cs) := ⟨rfl⟩
    rw [HE.out] at *
    have hz0 : ((0 : Nat) : Int) = 0 := rfl
    simp only [hz0]
    go_wp2_with (first
      | ((with_reducible refine gate_dst (N := 13) rfl ?_); refine wpList_plain rfl fun K1 hK1 => wp_load_row 26 (.tmp 3) rfl w.heap.size rfl 26 cs (0, 0) _ BX.out Try.underlying26 rfl (by rw [size26, HS.out]) (hK1 _ _ ?_); clear hK1 K1)
      | ((with_reducible refine gate_store (t := 26) (p := 6) rfl ?_); refine wpList_plain rfl fun K1 hK1 => wp_store_row 26 (.tmp 6) _ rfl (w.heap.size + 1) cs rfl rfl 26 Z0 BY.out (by rw [size26, HS.out]) (by rw [HS.out]; rfl) HPO.out (hK1 _ _ ?_); clear hK1 K1))
    have hl := run_loadVar_row (P := Try.prog) (W0.setRow (w.heap.size + 1) cs) (w.heap.size + 1) 26 26 cs (0, 0) _ (setRow_heap _ _ _ _ _ _ BY.out) Try.underlying26 rfl (by rw [size26, HS.out])
    refine bodyPost_ret (v := .agg cs) ?_ rfl ⟨rfl, ?_⟩
    · unfold results
      rw [show Try.f43.results = #[.cell 6 26] from rfl]
      simp [asAddr, Act.put, hl]
    · exact below_setRow HB.out (by omega) _
  · have hkz : decide ((0 : Int) < (k : Int)) = true := decide_eq_true (by omega)
    have hkn : ((k : Int) != 0) = true := bne_iff_ne.mpr (by omega)
    have hk2 : (k : Int) < 32 := by omega
    have hkp : 0 < k := by omega
    have hkq : decide (0 < k) = true := decide_eq_true hkp
    have hkm : (k != 0) = true := bne_iff_ne.mpr h0
    have HE : Aside0 (cs.setIfInBounds k (.int .i64 v) = putr cs k v) := ⟨by unfold putr; rw [if_neg h0]⟩
    obtain ⟨u, hu⟩ : ∃ u, cs[k]? = some u := ⟨_, Array.getElem?_eq_getElem (by rw [HS.out]; omega)⟩
    have m1 : W0.cell? ⟨w.heap.size, k, none⟩ = some u := (cell_of_row _ _ k cs 26 (0, 0) BX.out).trans hu
    have m2 := blk_frozen BX.out k
    have K4 : Aside0 ((W0.setCell ⟨w.heap.size, k, none⟩ (.int .i64 v)).heap[w.heap.size]? = some (.cells (putr cs k v) 26 (0, 0))) := ⟨blk_put BX.out k _ HE.out⟩
    have K5 : Aside0 ((W0.setCell ⟨w.heap.size, k, none⟩ (.int .i64 v)).heap[w.heap.size + 1]? = some (.cells Z0 26 (0, 0))) := ⟨blk_far BY.out (by show w.heap.size + 1 ≠ w.heap.size; omega) _⟩
    have KB : Aside0 (Below w.heap.size w (W0.setCell ⟨w.heap.size, k, none⟩ (.int .i64 v))) := ⟨below_set HB.out (by omega)⟩
    clear hu hs h0
    generalize hz2 : putr cs k v = z2 at *
    go_wp2_with (first
      | ((with_reducible refine gate_dst (N := 13) rfl ?_); refine wpList_plain rfl fun K1 hK1 => wp_load_row 26 (.tmp 3) rfl w.heap.size rfl 26 z2 (0, 0) _ K4.out Try.underlying26 rfl (by rw [size26, HPS.out]) (hK1 _ _ ?_); clear hK1 K1)
      | ((with_reducible refine gate_store (t := 26) (p := 6) rfl ?_); refine wpList_plain rfl fun K1 hK1 => wp_store_row 26 (.tmp 6) _ rfl (w.heap.size + 1) z2 rfl rfl 26 Z0 K5.out (by rw [size26, HPS.out]) (by rw [HPS.out]; rfl) HPO.out (hK1 _ _ ?_); clear hK1 K1))
    have hl := run_loadVar_row (P := Try.prog) ((W0.setCell ⟨w.heap.size, k, none⟩ (.int .i64 v)).setRow (w.heap.size + 1) z2) (w.heap.size + 1) 26 26 z2 (0, 0) _ (setRow_heap _ _ _ _ _ _ K5.out) Try.underlying26 rfl (by rw [size26, HPS.out])
    refine bodyPost_ret (v := .agg z2) ?_ rfl ⟨by first | rfl | rw [hz2], ?_⟩
    · unfold results
      rw [show Try.f43.results = #[.cell 6 26] from rfl]
      simp [asAddr, Act.put, hl]
    · exact below_setRow KB.out (by omega) _
theorem built0 : Try.prog.built 26 [] = some Z0 := by kernel_rfl
theorem wp_bld0 {o : Oper} {a : Act} {w : World} {K : Act → World → Prop} {Q : Exit → Act → World → Prop} (ho : o.op = .build 26 #[]) (h : K (a.put o.dst (.agg Z0)) w) : o.wp Try.prog a w K Q := by
  have hr := run_build (P := Try.prog) w 26 (#[].map fun (i, x) => (i, a.eval x)) Z0 (by simpa using built0)
  unfold Oper.wp execOp
  simp only [ho, Sem.run_bind, hr, Result.andThen_ok]
  exact h
theorem Z0_one : Z0.all (·.oneCell') = true := by kernel_rfl
theorem Z0_int : ∀ i, i < 33 → ∃ z, Z0[i]? = some (.int .i64 z) := fun i hi => by
  have e : Z0 = ((List.replicate 33 (0 : Int)).map (fun z => Value.int .i64 z)).toArray := by kernel_rfl
  rw [e, List.getElem?_toArray, List.getElem?_map, List.getElem?_eq_getElem (by simp; omega)]
  exact ⟨_, rfl⟩
def outc (cs : Array Value) (z r v : Int) : Array Value := if z = 0 then (if 0 ≤ r ∧ r ≤ 31 then putr cs r.toNat v else Z0) else Z0
def oute (z r : Int) : Int := if z = 0 then (if 0 ≤ r ∧ r ≤ 31 then 0 else 4) else 1
theorem outc_size (cs : Array Value) (hs : cs.size = 33) (z r v : Int) : (outc cs z r v).size = 33 := by
  unfold outc
  split
  · split
    · rw [putr_size, hs]
    · rfl
  · rfl
theorem outc_int (cs : Array Value) (hs : cs.size = 33) (hI : ∀ i, i < 33 → ∃ z, cs[i]? = some (.int .i64 z)) (z r v : Int) : ∀ i, i < 33 → ∃ z2, (outc cs z r v)[i]? = some (.int .i64 z2) := by
  unfold outc
  split
  · split
    · exact putr_int cs hs hI _ _
    · exact Z0_int
  · exact Z0_int
theorem reg40 (r : Int) (W : World) : Calls Try.prog 40 #[.int .i64 r] W fun e w' => e = .returned (.bool (decide (0 ≤ r ∧ r ≤ 31))) ∧ Below W.heap.size W w' := by
  refine (spec_l02Reg.calls r (decide (0 ≤ r ∧ r ≤ 31)) W (by unfold spec_l02Reg.f spec_l01In.f; by_cases h : 0 ≤ r <;> simp [h])).mono ?_
  rintro e w' ⟨rfl, ⟨nd, rfl⟩⟩
  exact ⟨rfl, pw_below_drewN (Below.refl _ _) nd⟩
theorem reg42 (r : Int) (W : World) : Calls Try.prog 42 #[.int .i64 r] W fun e w' => e = .returned (.bool (decide (0 ≤ r ∧ r ≤ 31))) ∧ Below W.heap.size W w' := by
  refine (impl_isReg.calls r (decide (0 ≤ r ∧ r ≤ 31)) W (by unfold impl_isReg.f impl_within.f; by_cases h : 0 ≤ r <;> simp [h])).mono ?_
  rintro e w' ⟨rfl, ⟨nd, rfl⟩⟩
  exact ⟨rfl, pw_below_drewN (Below.refl _ _) nd⟩
set_option maxHeartbeats 2000000 in
set_option maxRecDepth 100000 in
theorem setReg18 (cs : Array Value) (hs : cs.size = 33) (hI : ∀ i, i < 33 → ∃ z, cs[i]? = some (.int .i64 z)) (z : Int) (hz : cs[0]? = some (.int .i64 z)) (r v : Int) (w : World) :
    Calls Try.prog 18 #[.agg cs, .int .i64 r, .int .i64 v] w fun e w' => e = .returned (.tuple #[.agg (outc cs z r v), .int .i64 (oute z r)]) ∧ Below w.heap.size w w' := by
  have hH := Aside0.mk (specOK cs hs z hz)
  have hR := Aside0.mk (reg40 r)
  have HS := Aside0.mk hs
  have HO : Aside0 (∀ k, (putr cs k v).size = 33) := ⟨fun k => by rw [putr_size, hs]⟩
  have HO1 : Aside0 (∀ k, (putr cs k v).all (·.oneCell') = true) := ⟨fun k => ones _ 33 (by rw [putr_size, hs]) (putr_int cs hs hI k v)⟩
  have hSet : Aside0 (∀ (k : Nat), k < 32 → ∀ W : World, Calls Try.prog 41 #[.agg cs, .int .i64 (k : Int), .int .i64 v] W fun e w' => e = .returned (.agg (putr cs k v)) ∧ Below W.heap.size W w') := ⟨fun k hk W => set41 cs hs hI k hk v W⟩
  clear hI hs hz
  go_enter Try.func18, Try.ntmps18
  go_upto_region 1 with (fail)
  generalize hW : ((w.alloc (.cells cs 26)).alloc (.cells #[Value.int .i64 0, Value.int .i64 0, Value.int .i64 0, Value.int .i64 0, Value.int .i64 0, Value.int .i64 0, Value.int .i64 0, Value.int .i64 0, Value.int .i64 0, Value.int .i64 0, Value.int .i64 0, Value.int .i64 0, Value.int .i64 0, Value.int .i64 0, Value.int .i64 0, Value.int .i64 0, Value.int .i64 0, Value.int .i64 0, Value.int .i64 0, Value.int .i64 0, Value.int .i64 0, Value.int .i64 0, Value.int .i64 0, Value.int .i64 0, Value.int .i64 0, Value.int .i64 0, Value.int .i64 0, Value.int .i64 0, Value.int .i64 0, Value.int .i64 0, Value.int .i64 0, Value.int .i64 0, Value.int .i64 0] 26)) = W0
  have BX : Aside0 (W0.heap[w.heap.size]? = some (.cells cs 26 (0, 0))) := ⟨by rw [← hW, Below.heap_alloc _ _ _ (by simp)]; exact heap_alloc_last w _⟩
  have BY : Aside0 (W0.heap[w.heap.size + 1]? = some (.cells Z0 26 (0, 0))) := ⟨by
    rw [← hW]
    have e : (w.alloc (.cells cs 26)).heap.size = w.heap.size + 1 := by simp
    rw [← e]
    exact heap_alloc_last _ _⟩
  have HB : Aside0 (Below w.heap.size w W0) := ⟨by rw [← hW]; exact ((Below.refl _ w).alloc (Nat.le_refl _) _).alloc (by simp) _⟩
  clear hW
  by_cases c1 : z = 0
  · have e1 : (z == 0) = true := by simp [c1]
    rw [e1] at hH
    by_cases c2 : 0 ≤ r ∧ r ≤ 31
    · rw [decide_eq_true c2] at hR
      obtain ⟨k, rfl⟩ := Int.eq_ofNat_of_zero_le c2.1
      have hSk := Aside0.mk (hSet.out k (by omega))
      have HOk := Aside0.mk (HO.out k)
      have HO1k := Aside0.mk (HO1.out k)
      have E1 : Aside0 (outc cs z (k : Int) v = putr cs k v) := ⟨by unfold outc; rw [if_pos c1, if_pos c2]; rfl⟩
      have E2 : Aside0 (oute z (k : Int) = 0) := ⟨by unfold oute; rw [if_pos c1, if_pos c2]⟩
      clear hSet HO HO1 c1 c2 e1
      generalize putr cs k v = z2 at *
      go_wp2_with (first
        | ((with_reducible refine gate_dst (N := 8) rfl ?_); refine wpList_plain rfl fun K1 hK1 => wp_load_row 26 (.tmp 3) rfl w.heap.size rfl 26 cs (0, 0) _ BX.out Try.underlying26 rfl (by rw [size26, HS.out]) (hK1 _ _ ?_); clear hK1 K1)
        | ((with_reducible refine gate_dst (N := 16) rfl ?_); refine wpList_plain rfl fun K1 hK1 => wp_load_row 26 (.tmp 3) rfl w.heap.size rfl 26 cs (0, 0) _ BX.out Try.underlying26 rfl (by rw [size26, HS.out]) (hK1 _ _ ?_); clear hK1 K1)
        | (go_at_call 12; refine (hH.out _).mono ?_; rintro e w1 ⟨rfl, hb⟩; have HB2 := Aside0.mk (HB.out.trans (hb.mono HB.out.size)); have BX2 := Aside0.mk ((hb.block _ (blk_lt BX.out)).trans BX.out); have BY2 := Aside0.mk ((hb.block _ (blk_lt BY.out)).trans BY.out); clear HB BX BY hb; have HB := HB2; have BX := BX2; have BY := BY2; clear HB2 BX2 BY2)
        | (go_at_call 40; refine (hR.out _).mono ?_; rintro e w1 ⟨rfl, hb⟩; have HB2 := Aside0.mk (HB.out.trans (hb.mono HB.out.size)); have BX2 := Aside0.mk ((hb.block _ (blk_lt BX.out)).trans BX.out); have BY2 := Aside0.mk ((hb.block _ (blk_lt BY.out)).trans BY.out); clear HB BX BY hb; have HB := HB2; have BX := BX2; have BY := BY2; clear HB2 BX2 BY2)
        | (go_at_call 41; refine (hSk.out _).mono ?_; rintro e w1 ⟨rfl, hb⟩; have HB2 := Aside0.mk (HB.out.trans (hb.mono HB.out.size)); have BX2 := Aside0.mk ((hb.block _ (blk_lt BX.out)).trans BX.out); have BY2 := Aside0.mk ((hb.block _ (blk_lt BY.out)).trans BY.out); clear HB BX BY hb; have HB := HB2; have BX := BX2; have BY := BY2; clear HB2 BX2 BY2)
        | ((with_reducible refine gate_store (t := 26) (p := 6) rfl ?_); refine wpList_plain rfl fun K1 hK1 => wp_store_row 26 (.tmp 6) _ rfl (w.heap.size + 1) z2 rfl rfl 26 Z0 BY.out (by rw [size26, HOk.out]) (by first | rfl | (rw [HOk.out]; rfl)) HO1k.out (hK1 _ _ ?_); clear hK1 K1))
      have hl := run_loadVar_row (P := Try.prog) (w1.setRow (w.heap.size + 1) z2) (w.heap.size + 1) 26 26 z2 (0, 0) _ (setRow_heap _ _ _ _ _ _ BY.out) Try.underlying26 rfl (by rw [size26, HOk.out])
      refine bodyPost_ret (v := .tuple #[.agg z2, .int .i64 0]) ?_ rfl ⟨by rw [E1.out, E2.out], ?_⟩
      · rw [results_cell_tmp (p := 6) (u := 7) (ty := 26) rfl]
        simp [asAddr, Act.put, Result.andThen, hl]
      · exact below_setRow HB.out (by omega) _
    · rw [decide_eq_false c2] at hR
      have E1 : Aside0 (outc cs z r v = Z0) := ⟨by unfold outc; rw [if_pos c1, if_neg c2]⟩
      have E2 : Aside0 (oute z r = 4) := ⟨by unfold oute; rw [if_pos c1, if_neg c2]⟩
      clear hSet HO HO1 c1 c2 e1
      go_wp2_with (first
        | ((with_reducible refine gate_dst (N := 8) rfl ?_); refine wpList_plain rfl fun K1 hK1 => wp_load_row 26 (.tmp 3) rfl w.heap.size rfl 26 cs (0, 0) _ BX.out Try.underlying26 rfl (by rw [size26, HS.out]) (hK1 _ _ ?_); clear hK1 K1)
        | ((with_reducible refine gate_dst (N := 15) rfl ?_); refine wpList_plain rfl fun K1 hK1 => wp_bld0 rfl (hK1 _ _ ?_); clear hK1 K1)
        | (go_at_call 12; refine (hH.out _).mono ?_; rintro e w1 ⟨rfl, hb⟩; have HB2 := Aside0.mk (HB.out.trans (hb.mono HB.out.size)); have BX2 := Aside0.mk ((hb.block _ (blk_lt BX.out)).trans BX.out); have BY2 := Aside0.mk ((hb.block _ (blk_lt BY.out)).trans BY.out); clear HB BX BY hb; have HB := HB2; have BX := BX2; have BY := BY2; clear HB2 BX2 BY2)
        | (go_at_call 40; refine (hR.out _).mono ?_; rintro e w1 ⟨rfl, hb⟩; have HB2 := Aside0.mk (HB.out.trans (hb.mono HB.out.size)); have BX2 := Aside0.mk ((hb.block _ (blk_lt BX.out)).trans BX.out); have BY2 := Aside0.mk ((hb.block _ (blk_lt BY.out)).trans BY.out); clear HB BX BY hb; have HB := HB2; have BX := BX2; have BY := BY2; clear HB2 BX2 BY2)
        | ((with_reducible refine gate_store (t := 26) (p := 6) rfl ?_); refine wpList_plain rfl fun K1 hK1 => wp_store_row 26 (.tmp 6) _ rfl (w.heap.size + 1) Z0 rfl rfl 26 Z0 BY.out (by rw [size26, Z0_size]) (by first | rfl | (rw [Z0_size]; rfl)) Z0_one (hK1 _ _ ?_); clear hK1 K1))
      have hl := run_loadVar_row (P := Try.prog) (w1.setRow (w.heap.size + 1) Z0) (w.heap.size + 1) 26 26 Z0 (0, 0) _ (setRow_heap _ _ _ _ _ _ BY.out) Try.underlying26 rfl (by rw [size26, Z0_size])
      refine bodyPost_ret (v := .tuple #[.agg Z0, .int .i64 4]) ?_ rfl ⟨by rw [E1.out, E2.out], ?_⟩
      · rw [results_cell_tmp (p := 6) (u := 7) (ty := 26) rfl]
        simp [asAddr, Act.put, Result.andThen, hl]
      · exact below_setRow HB.out (by omega) _
  · have e1 : (z == 0) = false := by simp [c1]
    rw [e1] at hH
    have E1 : Aside0 (outc cs z r v = Z0) := ⟨by unfold outc; rw [if_neg c1]⟩
    have E2 : Aside0 (oute z r = 1) := ⟨by unfold oute; rw [if_neg c1]⟩
    clear hSet HO HO1 c1 e1
    go_wp2_with (first
      | ((with_reducible refine gate_dst (N := 8) rfl ?_); refine wpList_plain rfl fun K1 hK1 => wp_load_row 26 (.tmp 3) rfl w.heap.size rfl 26 cs (0, 0) _ BX.out Try.underlying26 rfl (by rw [size26, HS.out]) (hK1 _ _ ?_); clear hK1 K1)
      | ((with_reducible refine gate_dst (N := 11) rfl ?_); refine wpList_plain rfl fun K1 hK1 => wp_bld0 rfl (hK1 _ _ ?_); clear hK1 K1)
      | (go_at_call 12; refine (hH.out _).mono ?_; rintro e w1 ⟨rfl, hb⟩; have HB2 := Aside0.mk (HB.out.trans (hb.mono HB.out.size)); have BX2 := Aside0.mk ((hb.block _ (blk_lt BX.out)).trans BX.out); have BY2 := Aside0.mk ((hb.block _ (blk_lt BY.out)).trans BY.out); clear HB BX BY hb; have HB := HB2; have BX := BX2; have BY := BY2; clear HB2 BX2 BY2)
      | ((with_reducible refine gate_store (t := 26) (p := 6) rfl ?_); refine wpList_plain rfl fun K1 hK1 => wp_store_row 26 (.tmp 6) _ rfl (w.heap.size + 1) Z0 rfl rfl 26 Z0 BY.out (by rw [size26, Z0_size]) (by first | rfl | (rw [Z0_size]; rfl)) Z0_one (hK1 _ _ ?_); clear hK1 K1))
    have hl := run_loadVar_row (P := Try.prog) (w1.setRow (w.heap.size + 1) Z0) (w.heap.size + 1) 26 26 Z0 (0, 0) _ (setRow_heap _ _ _ _ _ _ BY.out) Try.underlying26 rfl (by rw [size26, Z0_size])
    refine bodyPost_ret (v := .tuple #[.agg Z0, .int .i64 1]) ?_ rfl ⟨by rw [E1.out, E2.out], ?_⟩
    · rw [results_cell_tmp (p := 6) (u := 7) (ty := 26) rfl]
      simp [asAddr, Act.put, Result.andThen, hl]
    · exact below_setRow HB.out (by omega) _
set_option maxHeartbeats 2000000 in
set_option maxRecDepth 100000 in
theorem setReg19 (cs : Array Value) (hs : cs.size = 33) (hI : ∀ i, i < 33 → ∃ z, cs[i]? = some (.int .i64 z)) (z : Int) (hz : cs[0]? = some (.int .i64 z)) (r v : Int) (w : World) :
    Calls Try.prog 19 #[.agg cs, .int .i64 r, .int .i64 v] w fun e w' => e = .returned (.tuple #[.agg (outc cs z r v), .int .i64 (oute z r)]) ∧ Below w.heap.size w w' := by
  have hH := Aside0.mk (implOK cs hs z hz)
  have hR := Aside0.mk (reg42 r)
  have HS := Aside0.mk hs
  have HO : Aside0 (∀ k, (putr cs k v).size = 33) := ⟨fun k => by rw [putr_size, hs]⟩
  have HO1 : Aside0 (∀ k, (putr cs k v).all (·.oneCell') = true) := ⟨fun k => ones _ 33 (by rw [putr_size, hs]) (putr_int cs hs hI k v)⟩
  have hSet : Aside0 (∀ (k : Nat), k < 32 → ∀ W : World, Calls Try.prog 43 #[.agg cs, .int .i64 (k : Int), .int .i64 v] W fun e w' => e = .returned (.agg (putr cs k v)) ∧ Below W.heap.size W w') := ⟨fun k hk W => set43 cs hs hI k hk v W⟩
  clear hI hs hz
  go_enter Try.func19, Try.ntmps19
  go_upto_region 1 with (fail)
  generalize hW : ((w.alloc (.cells cs 26)).alloc (.cells #[Value.int .i64 0, Value.int .i64 0, Value.int .i64 0, Value.int .i64 0, Value.int .i64 0, Value.int .i64 0, Value.int .i64 0, Value.int .i64 0, Value.int .i64 0, Value.int .i64 0, Value.int .i64 0, Value.int .i64 0, Value.int .i64 0, Value.int .i64 0, Value.int .i64 0, Value.int .i64 0, Value.int .i64 0, Value.int .i64 0, Value.int .i64 0, Value.int .i64 0, Value.int .i64 0, Value.int .i64 0, Value.int .i64 0, Value.int .i64 0, Value.int .i64 0, Value.int .i64 0, Value.int .i64 0, Value.int .i64 0, Value.int .i64 0, Value.int .i64 0, Value.int .i64 0, Value.int .i64 0, Value.int .i64 0] 26)) = W0
  have BX : Aside0 (W0.heap[w.heap.size]? = some (.cells cs 26 (0, 0))) := ⟨by rw [← hW, Below.heap_alloc _ _ _ (by simp)]; exact heap_alloc_last w _⟩
  have BY : Aside0 (W0.heap[w.heap.size + 1]? = some (.cells Z0 26 (0, 0))) := ⟨by
    rw [← hW]
    have e : (w.alloc (.cells cs 26)).heap.size = w.heap.size + 1 := by simp
    rw [← e]
    exact heap_alloc_last _ _⟩
  have HB : Aside0 (Below w.heap.size w W0) := ⟨by rw [← hW]; exact ((Below.refl _ w).alloc (Nat.le_refl _) _).alloc (by simp) _⟩
  clear hW
  by_cases c1 : z = 0
  · have e1 : (z == 0) = true := by simp [c1]
    rw [e1] at hH
    by_cases c2 : 0 ≤ r ∧ r ≤ 31
    · rw [decide_eq_true c2] at hR
      obtain ⟨k, rfl⟩ := Int.eq_ofNat_of_zero_le c2.1
      have hSk := Aside0.mk (hSet.out k (by omega))
      have HOk := Aside0.mk (HO.out k)
      have HO1k := Aside0.mk (HO1.out k)
      have E1 : Aside0 (outc cs z (k : Int) v = putr cs k v) := ⟨by unfold outc; rw [if_pos c1, if_pos c2]; rfl⟩
      have E2 : Aside0 (oute z (k : Int) = 0) := ⟨by unfold oute; rw [if_pos c1, if_pos c2]⟩
      clear hSet HO HO1 c1 c2 e1
      generalize putr cs k v = z2 at *
      go_wp2_with (first
        | ((with_reducible refine gate_dst (N := 9) rfl ?_); refine wpList_plain rfl fun K1 hK1 => wp_load_row 26 (.tmp 3) rfl w.heap.size rfl 26 cs (0, 0) _ BX.out Try.underlying26 rfl (by rw [size26, HS.out]) (hK1 _ _ ?_); clear hK1 K1)
        | ((with_reducible refine gate_dst (N := 18) rfl ?_); refine wpList_plain rfl fun K1 hK1 => wp_load_row 26 (.tmp 3) rfl w.heap.size rfl 26 cs (0, 0) _ BX.out Try.underlying26 rfl (by rw [size26, HS.out]) (hK1 _ _ ?_); clear hK1 K1)
        | (go_at_call 14; refine (hH.out _).mono ?_; rintro e w1 ⟨rfl, hb⟩; have HB2 := Aside0.mk (HB.out.trans (hb.mono HB.out.size)); have BX2 := Aside0.mk ((hb.block _ (blk_lt BX.out)).trans BX.out); have BY2 := Aside0.mk ((hb.block _ (blk_lt BY.out)).trans BY.out); clear HB BX BY hb; have HB := HB2; have BX := BX2; have BY := BY2; clear HB2 BX2 BY2)
        | (go_at_call 42; refine (hR.out _).mono ?_; rintro e w1 ⟨rfl, hb⟩; have HB2 := Aside0.mk (HB.out.trans (hb.mono HB.out.size)); have BX2 := Aside0.mk ((hb.block _ (blk_lt BX.out)).trans BX.out); have BY2 := Aside0.mk ((hb.block _ (blk_lt BY.out)).trans BY.out); clear HB BX BY hb; have HB := HB2; have BX := BX2; have BY := BY2; clear HB2 BX2 BY2)
        | (go_at_call 43; refine (hSk.out _).mono ?_; rintro e w1 ⟨rfl, hb⟩; have HB2 := Aside0.mk (HB.out.trans (hb.mono HB.out.size)); have BX2 := Aside0.mk ((hb.block _ (blk_lt BX.out)).trans BX.out); have BY2 := Aside0.mk ((hb.block _ (blk_lt BY.out)).trans BY.out); clear HB BX BY hb; have HB := HB2; have BX := BX2; have BY := BY2; clear HB2 BX2 BY2)
        | ((with_reducible refine gate_store (t := 26) (p := 6) rfl ?_); refine wpList_plain rfl fun K1 hK1 => wp_store_row 26 (.tmp 6) _ rfl (w.heap.size + 1) z2 rfl rfl 26 Z0 BY.out (by rw [size26, HOk.out]) (by first | rfl | (rw [HOk.out]; rfl)) HO1k.out (hK1 _ _ ?_); clear hK1 K1))
      have hl := run_loadVar_row (P := Try.prog) (w1.setRow (w.heap.size + 1) z2) (w.heap.size + 1) 26 26 z2 (0, 0) _ (setRow_heap _ _ _ _ _ _ BY.out) Try.underlying26 rfl (by rw [size26, HOk.out])
      refine bodyPost_ret (v := .tuple #[.agg z2, .int .i64 0]) ?_ rfl ⟨by rw [E1.out, E2.out], ?_⟩
      · rw [results_cell_tmp (p := 6) (u := 7) (ty := 26) rfl]
        simp [asAddr, Act.put, Result.andThen, hl]
      · exact below_setRow HB.out (by omega) _
    · rw [decide_eq_false c2] at hR
      have E1 : Aside0 (outc cs z r v = Z0) := ⟨by unfold outc; rw [if_pos c1, if_neg c2]⟩
      have E2 : Aside0 (oute z r = 4) := ⟨by unfold oute; rw [if_pos c1, if_neg c2]⟩
      clear hSet HO HO1 c1 c2 e1
      go_wp2_with (first
        | ((with_reducible refine gate_dst (N := 9) rfl ?_); refine wpList_plain rfl fun K1 hK1 => wp_load_row 26 (.tmp 3) rfl w.heap.size rfl 26 cs (0, 0) _ BX.out Try.underlying26 rfl (by rw [size26, HS.out]) (hK1 _ _ ?_); clear hK1 K1)
        | ((with_reducible refine gate_dst (N := 17) rfl ?_); refine wpList_plain rfl fun K1 hK1 => wp_bld0 rfl (hK1 _ _ ?_); clear hK1 K1)
        | (go_at_call 14; refine (hH.out _).mono ?_; rintro e w1 ⟨rfl, hb⟩; have HB2 := Aside0.mk (HB.out.trans (hb.mono HB.out.size)); have BX2 := Aside0.mk ((hb.block _ (blk_lt BX.out)).trans BX.out); have BY2 := Aside0.mk ((hb.block _ (blk_lt BY.out)).trans BY.out); clear HB BX BY hb; have HB := HB2; have BX := BX2; have BY := BY2; clear HB2 BX2 BY2)
        | (go_at_call 42; refine (hR.out _).mono ?_; rintro e w1 ⟨rfl, hb⟩; have HB2 := Aside0.mk (HB.out.trans (hb.mono HB.out.size)); have BX2 := Aside0.mk ((hb.block _ (blk_lt BX.out)).trans BX.out); have BY2 := Aside0.mk ((hb.block _ (blk_lt BY.out)).trans BY.out); clear HB BX BY hb; have HB := HB2; have BX := BX2; have BY := BY2; clear HB2 BX2 BY2)
        | ((with_reducible refine gate_store (t := 26) (p := 6) rfl ?_); refine wpList_plain rfl fun K1 hK1 => wp_store_row 26 (.tmp 6) _ rfl (w.heap.size + 1) Z0 rfl rfl 26 Z0 BY.out (by rw [size26, Z0_size]) (by first | rfl | (rw [Z0_size]; rfl)) Z0_one (hK1 _ _ ?_); clear hK1 K1))
      have hl := run_loadVar_row (P := Try.prog) (w1.setRow (w.heap.size + 1) Z0) (w.heap.size + 1) 26 26 Z0 (0, 0) _ (setRow_heap _ _ _ _ _ _ BY.out) Try.underlying26 rfl (by rw [size26, Z0_size])
      refine bodyPost_ret (v := .tuple #[.agg Z0, .int .i64 4]) ?_ rfl ⟨by rw [E1.out, E2.out], ?_⟩
      · rw [results_cell_tmp (p := 6) (u := 7) (ty := 26) rfl]
        simp [asAddr, Act.put, Result.andThen, hl]
      · exact below_setRow HB.out (by omega) _
  · have e1 : (z == 0) = false := by simp [c1]
    rw [e1] at hH
    have E1 : Aside0 (outc cs z r v = Z0) := ⟨by unfold outc; rw [if_neg c1]⟩
    have E2 : Aside0 (oute z r = 1) := ⟨by unfold oute; rw [if_neg c1]⟩
    clear hSet HO HO1 c1 e1
    go_wp2_with (first
      | ((with_reducible refine gate_dst (N := 9) rfl ?_); refine wpList_plain rfl fun K1 hK1 => wp_load_row 26 (.tmp 3) rfl w.heap.size rfl 26 cs (0, 0) _ BX.out Try.underlying26 rfl (by rw [size26, HS.out]) (hK1 _ _ ?_); clear hK1 K1)
      | ((with_reducible refine gate_dst (N := 12) rfl ?_); refine wpList_plain rfl fun K1 hK1 => wp_bld0 rfl (hK1 _ _ ?_); clear hK1 K1)
      | (go_at_call 14; refine (hH.out _).mono ?_; rintro e w1 ⟨rfl, hb⟩; have HB2 := Aside0.mk (HB.out.trans (hb.mono HB.out.size)); have BX2 := Aside0.mk ((hb.block _ (blk_lt BX.out)).trans BX.out); have BY2 := Aside0.mk ((hb.block _ (blk_lt BY.out)).trans BY.out); clear HB BX BY hb; have HB := HB2; have BX := BX2; have BY := BY2; clear HB2 BX2 BY2)
      | ((with_reducible refine gate_store (t := 26) (p := 6) rfl ?_); refine wpList_plain rfl fun K1 hK1 => wp_store_row 26 (.tmp 6) _ rfl (w.heap.size + 1) Z0 rfl rfl 26 Z0 BY.out (by rw [size26, Z0_size]) (by first | rfl | (rw [Z0_size]; rfl)) Z0_one (hK1 _ _ ?_); clear hK1 K1))
    have hl := run_loadVar_row (P := Try.prog) (w1.setRow (w.heap.size + 1) Z0) (w.heap.size + 1) 26 26 Z0 (0, 0) _ (setRow_heap _ _ _ _ _ _ BY.out) Try.underlying26 rfl (by rw [size26, Z0_size])
    refine bodyPost_ret (v := .tuple #[.agg Z0, .int .i64 1]) ?_ rfl ⟨by rw [E1.out, E2.out], ?_⟩
    · rw [results_cell_tmp (p := 6) (u := 7) (ty := 26) rfl]
      simp [asAddr, Act.put, Result.andThen, hl]
    · exact below_setRow HB.out (by omega) _
set_option maxHeartbeats 2000000 in
set_option maxRecDepth 100000 in
theorem lawSet (cs : Array Value) (hs : cs.size = 33) (hI : ∀ i, i < 33 → ∃ z, cs[i]? = some (.int .i64 z)) (r v : Int) (w : World) :
    Calls Try.prog 5 #[.agg cs, .int .i64 r, .int .i64 v] w fun e w' => e = .returned (.bool true) ∧ Below w.heap.size w w' := by
  obtain ⟨z, hz⟩ := hI 0 (by omega)
  have hT := Aside0.mk (toH cs hs hI)
  have hS := Aside0.mk (setReg18 cs hs hI z hz r v)
  have hP := Aside0.mk (setReg19 cs hs hI z hz r v)
  have hE := Aside0.mk (eqH (outc cs z r v) (outc_size cs hs z r v) (outc_int cs hs hI z r v))
  have hRS := Aside0.mk (outc_size cs hs z r v)
  have hRO := Aside0.mk (ones _ 33 (outc_size cs hs z r v) (outc_int cs hs hI z r v))
  have HS := Aside0.mk hs
  have HB := Aside0.mk ((Below.refl w.heap.size w).alloc (Nat.le_refl _) (.cells cs 24))
  have BX : Aside0 ((w.alloc (.cells cs 24)).heap[w.heap.size]? = some (.cells cs 24 (0, 0))) := ⟨heap_alloc_last w _⟩
  clear hI hs hz
  generalize outc cs z r v = R at *
  generalize oute z r = E at *
  go_enter Try.func5, Try.ntmps5
  go_wp2_with (first
    | ((with_reducible refine gate_dst (N := 12) rfl ?_); refine wpList_plain rfl fun K1 hK1 => wp_load_row 24 (.tmp 3) rfl w.heap.size rfl 24 cs (0, 0) _ BX.out Try.underlying24 rfl (by rw [size24, HS.out]) (hK1 _ _ ?_); clear hK1 K1)
    | ((with_reducible refine gate_dst (N := 20) rfl ?_); refine wpList_plain rfl fun K1 hK1 => wp_load_row 24 (.tmp 3) rfl w.heap.size rfl 24 cs (0, 0) _ BX.out Try.underlying24 rfl (by rw [size24, HS.out]) (hK1 _ _ ?_); clear hK1 K1)
    | (go_at_call 13; refine (hT.out _).mono ?_; rintro e w1 ⟨rfl, hb⟩; have G12 := Aside0.mk ((hb.block _ (blk_lt G1.out)).trans G1.out); have HB2 := Aside0.mk (HB.out.trans (hb.mono HB.out.size)); have BX2 := Aside0.mk ((hb.block _ (blk_lt BX.out)).trans BX.out); clear HB BX hb G1; have HB := HB2; have BX := BX2; have G1 := G12; clear HB2 BX2 G12)
    | (go_at_call 13; refine (hT.out _).mono ?_; rintro e w1 ⟨rfl, hb⟩; have HB2 := Aside0.mk (HB.out.trans (hb.mono HB.out.size)); have BX2 := Aside0.mk ((hb.block _ (blk_lt BX.out)).trans BX.out); clear HB BX hb; have HB := HB2; have BX := BX2; clear HB2 BX2)
    | (go_at_call 18; refine (hS.out _).mono ?_; rintro e wb ⟨rfl, hb⟩
       have HB2 := Aside0.mk ((HB.out.trans (hb.mono HB.out.size)).alloc (Nat.le_trans HB.out.size hb.size) (.cells R 26))
       have BX2 : Aside0 ((wb.alloc (.cells R 26)).heap[w.heap.size]? = some (.cells cs 24 (0, 0))) := ⟨(Below.heap_alloc _ _ _ (Nat.lt_of_lt_of_le (blk_lt BX.out) hb.size)).trans ((hb.block _ (blk_lt BX.out)).trans BX.out)⟩
       have G1 : Aside0 ((wb.alloc (.cells R 26)).heap[wb.heap.size]? = some (.cells R 26 (0, 0))) := ⟨heap_alloc_last wb _⟩
       clear HB BX hb hS; have HB := HB2; have BX := BX2; clear HB2 BX2)
    | ((with_reducible refine gate_dst (N := 7) rfl ?_); refine wpList_plain rfl fun K1 hK1 => wp_alloc26 rfl (hK1 _ _ ?_); clear hK1 K1)
    | ((with_reducible refine gate_store (t := 26) (p := 7) rfl ?_); refine wpList_plain rfl fun K1 hK1 => wp_store_row 26 (.tmp 7) _ rfl wb.heap.size R rfl rfl 26 Z0 (heap_alloc_last wb _) (by rw [size26, hRS.out]) (by rw [hRS.out, Z0_size]) hRO.out (hK1 _ _ ?_); clear hK1 K1; rw [World.setRow_alloc_new])
    | (go_at_call 19; refine (hP.out _).mono ?_; rintro e wd ⟨rfl, hb⟩
       have HB2 := Aside0.mk ((HB.out.trans (hb.mono HB.out.size)).alloc (Nat.le_trans HB.out.size hb.size) (.cells R 26))
       have G12 : Aside0 ((wd.alloc (.cells R 26)).heap[wb.heap.size]? = some (.cells R 26 (0, 0))) := ⟨(Below.heap_alloc _ _ _ (Nat.lt_of_lt_of_le (blk_lt G1.out) hb.size)).trans ((hb.block _ (blk_lt G1.out)).trans G1.out)⟩
       have G2 : Aside0 ((wd.alloc (.cells R 26)).heap[wd.heap.size]? = some (.cells R 26 (0, 0))) := ⟨heap_alloc_last wd _⟩
       clear HB BX hb hP G1; have HB := HB2; have G1 := G12; clear HB2 G12)
    | ((with_reducible refine gate_dst (N := 9) rfl ?_); refine wpList_plain rfl fun K1 hK1 => wp_alloc26 rfl (hK1 _ _ ?_); clear hK1 K1)
    | ((with_reducible refine gate_store (t := 26) (p := 9) rfl ?_); refine wpList_plain rfl fun K1 hK1 => wp_store_row 26 (.tmp 9) _ rfl wd.heap.size R rfl rfl 26 Z0 (heap_alloc_last wd _) (by rw [size26, hRS.out]) (by rw [hRS.out, Z0_size]) hRO.out (hK1 _ _ ?_); clear hK1 K1; rw [World.setRow_alloc_new])
    | ((with_reducible refine gate_dst (N := 27) rfl ?_); refine wpList_plain rfl fun K1 hK1 => wp_load_row 26 (.tmp 9) rfl wd.heap.size rfl 26 R (0, 0) _ G2.out Try.underlying26 rfl (by rw [size26, hRS.out]) (hK1 _ _ ?_); clear hK1 K1)
    | ((with_reducible refine gate_dst (N := 28) rfl ?_); refine wpList_plain rfl fun K1 hK1 => wp_load_row 26 (.tmp 7) rfl wb.heap.size rfl 26 R (0, 0) _ G1.out Try.underlying26 rfl (by rw [size26, hRS.out]) (hK1 _ _ ?_); clear hK1 K1)
    | (go_at_call 17; refine (hE.out _).mono ?_; rintro e we ⟨rfl, hb⟩; have HB2 := Aside0.mk (HB.out.trans (hb.mono HB.out.size)); clear HB hb hE; have HB := HB2; clear HB2))
  go_ret
  exact ⟨rfl, HB.out⟩
end Go.Proofs.Ytbhempnfbginoaa.PFnExactSetReg
