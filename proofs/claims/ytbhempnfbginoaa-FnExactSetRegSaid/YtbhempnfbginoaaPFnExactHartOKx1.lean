/- The walk of FnExactHartOK: [32]int arrays by value, walked by hand; no conditions. Written for this claim. -/
import Derived.Test.YtbhempnfbginoaaPFnExactNewHartx1
namespace Go.Proofs.Ytbhempnfbginoaa.PFnExactHartOK
open Go.RowKit Go.Proofs.YtbhempnfbginoaaW.PrintWords Go.Proofs.YtbhempnfbginoaaW.PrintLast Go.Proofs.YtbhempnfbginoaaW.PrintMore
open Go.Proofs.Ytbhempnfbginoaa.PFnExactNewHart.laws_FnExactNewHart
set_option linter.unusedVariables false
set_option linter.unusedSimpArgs false
def Z32 : Array Value := #[.int .i64 0, .int .i64 0, .int .i64 0, .int .i64 0, .int .i64 0, .int .i64 0, .int .i64 0, .int .i64 0, .int .i64 0, .int .i64 0, .int .i64 0, .int .i64 0, .int .i64 0, .int .i64 0, .int .i64 0, .int .i64 0, .int .i64 0, .int .i64 0, .int .i64 0, .int .i64 0, .int .i64 0, .int .i64 0, .int .i64 0, .int .i64 0, .int .i64 0, .int .i64 0, .int .i64 0, .int .i64 0, .int .i64 0, .int .i64 0, .int .i64 0, .int .i64 0]
theorem size22 : (Try.prog.info? 22).map (·.size) = some 32 := (zero_of_info (P := Try.prog) (t := 22) (v := .agg Z32) (n := 32) (by kernel_rfl)).2
/-- The first k cells of cs, the rest noughts. -/
def mixed (cs : Array Value) (k : Nat) : Array Value := (cs.toList.take k ++ List.replicate (32 - k) (Value.int .i64 0)).toArray
theorem mixed_size (cs : Array Value) (hs : cs.size = 32) (k : Nat) (hk : k ≤ 32) : (mixed cs k).size = 32 := by unfold mixed; simp; omega
theorem mixed_zero (cs : Array Value) : mixed cs 0 = Z32 := by
  unfold mixed
  rw [List.take_zero, List.nil_append]
  rfl
theorem mixed_all (cs : Array Value) (hs : cs.size = 32) : mixed cs 32 = cs := by
  unfold mixed
  rw [List.take_of_length_le (by simp [hs])]
  simp
theorem mixed_set (cs : Array Value) (hs : cs.size = 32) (k : Nat) (hk : k < 32) (z : Value) (hz : cs[k]? = some z) : (mixed cs k).setIfInBounds k z = mixed cs (k + 1) := by
  unfold mixed
  have hk2 : k < cs.toList.length := by simp [hs]; exact hk
  have e : cs.toList[k] = z := by
    have := hz
    rw [Array.getElem?_eq_getElem (by omega)] at this
    simpa using this
  rw [List.take_succ_eq_append_getElem hk2, e]
  simp only [List.setIfInBounds_toArray]
  congr 1
  rw [List.set_append_right _ _ (by simp; omega)]
  have hl : (cs.toList.take k).length = k := by simp; omega
  rw [hl, Nat.sub_self, show 32 - k = (32 - (k + 1)) + 1 by omega, List.replicate_succ, List.set_cons_zero, List.append_assoc]
  rfl
theorem ones (cs : Array Value) (n : Nat) (hs : cs.size = n) (hI : ∀ i, i < n → ∃ z, cs[i]? = some (.int .i64 z)) : cs.all (·.oneCell') = true := by
  rw [Array.all_eq_true_iff_forall_mem]
  intro x hx
  obtain ⟨i, hi, rfl⟩ := Array.mem_iff_getElem.1 hx
  obtain ⟨z, hz⟩ := hI i (by omega)
  rw [Array.getElem?_eq_getElem hi] at hz
  rw [Option.some.inj hz]
  rfl
set_option maxHeartbeats 2000000 in
set_option maxRecDepth 100000 in
theorem toA (cs : Array Value) (hs : cs.size = 32) (hI : ∀ i, i < 32 → ∃ z, cs[i]? = some (.int .i64 z)) (w : World) :
    Calls Try.prog 38 #[.agg cs] w fun e w' => e = .returned (.agg cs) ∧ Below w.heap.size w w' := by
  go_enter Try.func38, Try.ntmps38
  go_wp2
  go_loopg [4] 32 (fun gg s4 wr => ∃ kk : Nat, kk ≤ 32 ∧ 32 - kk ≤ gg ∧ s4 = .int .i64 kk ∧ Aside0 (wr.heap[w.heap.size]? = some (.cells cs 22 (0, 0))) ∧ Aside0 (wr.heap[w.heap.size + 1]? = some (.cells Z32 22 (0, 0))) ∧ Aside0 (wr.heap[w.heap.size + 1 + 1]? = some (.cells (mixed cs kk) 22 (0, 0))) ∧ Aside0 (Below w.heap.size w wr))
  case atStart =>
    refine ⟨0, by omega, by omega, rfl, ⟨?_⟩, ⟨?_⟩, ⟨?_⟩, ⟨(((Below.refl _ w).alloc (Nat.le_refl _) _).alloc (by simp) _).alloc (by simp; omega) _⟩⟩
    · rw [Below.heap_alloc _ _ _ (by simp; omega), Below.heap_alloc _ _ _ (by simp)]; exact heap_alloc_last w _
    · rw [Below.heap_alloc _ _ _ (by simp)]
      have e : (w.alloc (.cells cs 22)).heap.size = w.heap.size + 1 := by simp
      rw [← e]
      exact heap_alloc_last _ _
    · rw [mixed_zero]
      have e : ((w.alloc (.cells cs 22)).alloc (.cells Z32 22)).heap.size = w.heap.size + 1 + 1 := by simp
      rw [← e]
      exact heap_alloc_last ((w.alloc (.cells cs 22)).alloc (.cells Z32 22)) _
  case round =>
    obtain ⟨kk, hkk, hg, rfl, B0, B1, B2, BW⟩ := hrel
    by_cases hlt : kk < 32
    · have hltz : (kk : Int) < 32 := by omega
      obtain ⟨z, hz⟩ := hI kk hlt
      have q1 : wr.cell? ⟨w.heap.size, kk, none⟩ = some (.int .i64 z) := (cell_of_row _ _ kk cs 22 (0, 0) B0.out).trans hz
      have hm := mixed_size cs hs kk hkk
      obtain ⟨u, hu⟩ : ∃ u, (mixed cs kk)[kk]? = some u := ⟨_, Array.getElem?_eq_getElem (by omega)⟩
      have q2 : wr.cell? ⟨w.heap.size + 1 + 1, kk, none⟩ = some u := (cell_of_row _ _ kk _ 22 (0, 0) B2.out).trans hu
      have q3 := blk_frozen B2.out kk
      have HM := Aside0.mk (mixed_set cs hs kk hlt _ hz)
      clear hI hs hz hm hu
      go_wp2
      go_roundg (32 - (kk + 1))
      case measure => omega
      case rel => exact ⟨kk + 1, by omega, by omega, by go_num, ⟨blk_far B0.out (by show w.heap.size ≠ w.heap.size + 1 + 1; omega) _⟩, ⟨blk_far B1.out (by show w.heap.size + 1 ≠ w.heap.size + 1 + 1; omega) _⟩, ⟨blk_put B2.out kk _ HM.out⟩, ⟨below_set BW.out (by omega)⟩⟩
    · obtain rfl : kk = 32 := by omega
      have B3 : Aside0 (wr.heap[w.heap.size + 1 + 1]? = some (.cells cs 22 (0, 0))) := ⟨by have := B2.out; rw [mixed_all cs hs] at this; exact this⟩
      clear B2
      have HS := Aside0.mk hs
      have hone : Aside0 (cs.all (·.oneCell') = true) := ⟨by
        rw [Array.all_eq_true_iff_forall_mem]
        intro x hx
        obtain ⟨i, hi, rfl⟩ := Array.mem_iff_getElem.1 hx
        obtain ⟨z, hz⟩ := hI i (by omega)
        rw [Array.getElem?_eq_getElem hi] at hz
        rw [Option.some.inj hz]
        rfl⟩
      clear hs hI
      go_wp2_with (first
        | ((with_reducible refine gate_dst (N := 14) rfl ?_); refine wpList_plain rfl fun K1 hK1 => wp_load_row 22 (.tmp 3) rfl (w.heap.size + 1 + 1) rfl 22 cs (0, 0) _ B3.out Try.underlying22 rfl (by rw [size22, HS.out]) (hK1 _ _ ?_); clear hK1 K1)
        | ((with_reducible refine gate_store (t := 22) (p := 2) rfl ?_); refine wpList_plain rfl fun K1 hK1 => wp_store_row 22 (.tmp 2) _ rfl (w.heap.size + 1) cs rfl rfl 22 Z32 B1.out (by rw [size22, HS.out]) (by rw [HS.out]; rfl) hone.out (hK1 _ _ ?_); clear hK1 K1))
      have hl := run_loadVar_row (P := Try.prog) (wr.setRow (w.heap.size + 1) cs) (w.heap.size + 1) 22 22 cs (0, 0) _ (setRow_heap _ _ _ _ _ _ B1.out) Try.underlying22 rfl (by rw [size22, HS.out])
      refine bodyPost_ret (v := .agg cs) ?_ rfl ⟨rfl, ?_⟩
      · unfold results
        rw [show Try.f38.results = #[.cell 2 22] from rfl]
        simp [asAddr, Act.put, hl]
      · exact below_setRow BW.out (by omega) _
set_option maxHeartbeats 2000000 in
set_option maxRecDepth 100000 in
theorem specOK (cs : Array Value) (hs : cs.size = 33) (z : Int) (hz : cs[0]? = some (.int .i64 z)) (w : World) :
    Calls Try.prog 12 #[.agg cs] w fun e w' => e = .returned (.bool (z == 0)) ∧ Below w.heap.size w w' := by
  have hb : (w.alloc (.cells cs 26)).cell? ⟨w.heap.size, 0, none⟩ = some (.int .i64 z) := (cell_of_row _ _ 0 cs 26 (0, 0) (heap_alloc_last w _)).trans hz
  go_enter Try.func12, Try.ntmps12
  go_wp2
  go_ret
  exact ⟨rfl, (Below.refl _ w).alloc (Nat.le_refl _) _⟩
set_option maxHeartbeats 2000000 in
set_option maxRecDepth 100000 in
theorem implOK (cs : Array Value) (hs : cs.size = 33) (z : Int) (hz : cs[0]? = some (.int .i64 z)) (w : World) :
    Calls Try.prog 14 #[.agg cs] w fun e w' => e = .returned (.bool (z == 0)) ∧ Below w.heap.size w w' := by
  have hb : (w.alloc (.cells cs 26)).cell? ⟨w.heap.size, 0, none⟩ = some (.int .i64 z) := (cell_of_row _ _ 0 cs 26 (0, 0) (heap_alloc_last w _)).trans hz
  go_enter Try.func14, Try.ntmps14
  go_wp2
  go_ret
  exact ⟨rfl, (Below.refl _ w).alloc (Nat.le_refl _) _⟩
set_option maxHeartbeats 2000000 in
set_option maxRecDepth 100000 in
theorem toH (cs : Array Value) (hs : cs.size = 33) (hI : ∀ i, i < 33 → ∃ z, cs[i]? = some (.int .i64 z)) (w : World) :
    Calls Try.prog 13 #[.agg cs] w fun e w' => e = .returned (.agg cs) ∧ Below w.heap.size w w' := by
  obtain ⟨p, hp⟩ := hI 32 (by omega)
  have HS := Aside0.mk hs
  have HL : Aside0 ((Try.prog.info? 22).map (·.size) = some (cs.toList.take 32).length) := ⟨by rw [size22]; simp [hs]⟩
  have HLl : Aside0 ((cs.toList.take 32).length = 32) := ⟨by simp [hs]⟩
  have HC : Aside0 (∀ wc : World, ∀ b t, wc.heap[b]? = some (.cells cs t (0, 0)) → wc.rangeAt b 0 (cs.toList.take 32)) := ⟨fun wc b t hb j v hv => by
      rw [Nat.zero_add, cell_of_row _ _ j cs t (0, 0) hb]
      rw [List.getElem?_take] at hv
      split at hv
      · simpa using hv
      · cases hv⟩
  have HP := Aside0.mk hp
  have hone : Aside0 (cs.all (·.oneCell') = true) := ⟨ones cs 33 hs hI⟩
  have hone2 : Aside0 ((cs.toList.take 32).toArray.all (·.oneCell') = true) := ⟨ones _ 32 (by simp [hs]) (fun i hi => by
    obtain ⟨z, hz⟩ := hI i (by omega)
    refine ⟨z, ?_⟩
    rw [List.getElem?_toArray, List.getElem?_take, if_pos hi]
    simpa using hz)⟩
  have hA := Aside0.mk (toA (cs.toList.take 32).toArray (by simp [hs]) (fun i hi => by
    obtain ⟨z, hz⟩ := hI i (by omega)
    refine ⟨z, ?_⟩
    rw [List.getElem?_toArray, List.getElem?_take, if_pos hi]
    simpa using hz))
  have HF : Aside0 (∀ c : Array Value, c.size = 33 → c.toList = cs.toList.take 32 ++ Z0.toList.drop 32 → c.setIfInBounds 32 (.int .i64 p) = cs) := ⟨fun c h1 h2 => by
    apply Array.ext'
    rw [Array.toList_setIfInBounds, h2, show Z0.toList.drop 32 = [Value.int .i64 0] from rfl, List.set_append_right _ _ (by simp; omega)]
    have hl : (cs.toList.take 32).length = 32 := by simp [hs]
    rw [hl, Nat.sub_self, List.set_cons_zero]
    have h3 : cs.toList = cs.toList.take 32 ++ cs.toList.drop 32 := (List.take_append_drop 32 _).symm
    have h4 : cs.toList.drop 32 = [Value.int .i64 p] := by
      have hk : 32 < cs.toList.length := by simp [hs]
      rw [List.drop_eq_getElem_cons hk, List.drop_eq_nil_of_le (by simp [hs])]
      congr 1
      rw [Array.getElem?_eq_getElem (by omega)] at hp
      simpa using hp
    conv => rhs; rw [h3, h4]⟩
  clear hI hs hp
  generalize cs.toList.take 32 = ct at *
  go_enter Try.func13, Try.ntmps13
  go_upto_region 1 with (fail)
  rename_i K hK
  generalize hW : ((w.alloc (.cells cs 24)).alloc (.cells #[Value.int .i64 0, Value.int .i64 0, Value.int .i64 0, Value.int .i64 0, Value.int .i64 0, Value.int .i64 0, Value.int .i64 0, Value.int .i64 0, Value.int .i64 0, Value.int .i64 0, Value.int .i64 0, Value.int .i64 0, Value.int .i64 0, Value.int .i64 0, Value.int .i64 0, Value.int .i64 0, Value.int .i64 0, Value.int .i64 0, Value.int .i64 0, Value.int .i64 0, Value.int .i64 0, Value.int .i64 0, Value.int .i64 0, Value.int .i64 0, Value.int .i64 0, Value.int .i64 0, Value.int .i64 0, Value.int .i64 0, Value.int .i64 0, Value.int .i64 0, Value.int .i64 0, Value.int .i64 0, Value.int .i64 0] 26)) = W0
  have g0 : W0.heap[w.heap.size]? = some (.cells cs 24 (0, 0)) := by rw [← hW, Below.heap_alloc _ _ _ (by simp)]; exact heap_alloc_last w _
  have g1 : W0.heap[w.heap.size + 1]? = some (.cells Z0 26 (0, 0)) := by
    rw [← hW]
    have e : (w.alloc (.cells cs 24)).heap.size = w.heap.size + 1 := by simp
    rw [← e]
    exact heap_alloc_last _ _
  have gs : W0.heap.size = w.heap.size + 1 + 1 := by rw [← hW]; simp
  have gb : Below w.heap.size w W0 := by rw [← hW]; exact ((Below.refl _ w).alloc (Nat.le_refl _) _).alloc (by simp) _
  clear hW
  refine wp_region_list ?_
  refine wpList_plain rfl fun K1 hK1 => wp_alloc26 rfl (hK1 _ _ ?_)
  refine wpList_nil ?_
  refine hK _ _ ?_
  clear hK1 K1 hK
  simp only [Act.put, List.setIfInBounds_toArray, List.set_cons_zero, List.set_cons_succ]
  have f0 : (W0.alloc (.cells Z0 26)).heap[w.heap.size]? = some (.cells cs 24 (0, 0)) := by rw [Below.heap_alloc _ _ _ (by omega)]; exact g0
  have f1 : Aside0 ((W0.alloc (.cells Z0 26)).heap[w.heap.size + 1]? = some (.cells Z0 26 (0, 0))) := ⟨by rw [Below.heap_alloc _ _ _ (by omega)]; exact g1⟩
  have f2 : Aside0 ((W0.alloc (.cells Z0 26)).heap[W0.heap.size]? = some (.cells Z0 26 (0, 0))) := ⟨heap_alloc_last _ _⟩
  have fs : Aside0 ((W0.alloc (.cells Z0 26)).heap.size = W0.heap.size + 1) := ⟨by simp⟩
  have fb : Aside0 (Below w.heap.size w (W0.alloc (.cells Z0 26))) := ⟨gb.alloc (by omega) _⟩
  have l0 := Aside0.mk (HC.out _ _ _ f0)
  have F0 := Aside0.mk f0
  have GS := Aside0.mk gs
  clear f0 g0 g1 gs gb
  generalize W0.alloc (.cells Z0 26) = W1 at *
  go_wp2_with (first
    | ((with_reducible refine gate_dst (N := 5) rfl ?_); refine wpList_load_mid rfl 22 (.tmp 4) rfl w.heap.size 0 rfl ct _ l0.out Try.underlying22 rfl HL.out ?_)
    | (go_at_call 38; refine (hA.out _).mono ?_; rintro e w2 ⟨rfl, hb2⟩
       have k0 : w2.heap[w.heap.size]? = some (.cells cs 24 (0, 0)) := (hb2.block _ (by rw [fs.out, GS.out]; omega)).trans F0.out
       have k1 : w2.heap[w.heap.size + 1]? = some (.cells Z0 26 (0, 0)) := (hb2.block _ (by rw [fs.out, GS.out]; omega)).trans f1.out
       have k2 : w2.heap[W0.heap.size]? = some (.cells Z0 26 (0, 0)) := (hb2.block _ (by rw [fs.out]; omega)).trans f2.out
       obtain ⟨c3, k3, k3s, k3l⟩ := setCells_row ct 0 w2 Z0 k2 (by rw [HLl.out, Z0_size]; omega)
       have m0 : (w2.setCells W0.heap.size 0 ct).cell? ⟨w.heap.size, 32, none⟩ = some (.int .i64 p) := (cell_of_row _ _ 32 cs 24 (0, 0) ((setCells_far ct 0 _ (by rw [GS.out]; omega)).trans k0)).trans HP.out
       obtain ⟨u, hu⟩ : ∃ u, c3[32]? = some u := ⟨_, Array.getElem?_eq_getElem (by rw [k3s, Z0_size]; omega)⟩
       have m1 : (w2.setCells W0.heap.size 0 ct).cell? ⟨W0.heap.size, 32, none⟩ = some u := (cell_of_row _ _ 32 c3 26 (0, 0) k3).trans hu
       have m2 := blk_frozen k3 32
       have K4 : Aside0 (((w2.setCells W0.heap.size 0 ct).setCell ⟨W0.heap.size, 32, none⟩ (.int .i64 p)).heap[W0.heap.size]? = some (.cells cs 26 (0, 0))) := ⟨blk_put k3 32 _ (HF.out c3 (by rw [k3s, Z0_size]) (by rw [k3l, HLl.out]; rfl))⟩
       have K5 : Aside0 (((w2.setCells W0.heap.size 0 ct).setCell ⟨W0.heap.size, 32, none⟩ (.int .i64 p)).heap[w.heap.size + 1]? = some (.cells Z0 26 (0, 0))) := ⟨blk_far ((setCells_far ct 0 _ (by rw [GS.out]; omega)).trans k1) (by show w.heap.size + 1 ≠ W0.heap.size; rw [GS.out]; omega) _⟩
       have TH : Aside0 (w2.there W0.heap.size 0 ct.toArray.size) := ⟨fun j hj => by
         rw [Nat.zero_add]
         refine ⟨?_, blk_frozen k2 j⟩
         rw [cell_of_row _ _ j Z0 26 (0, 0) k2, Array.getElem?_eq_getElem (by rw [Z0_size]; have := HLl.out; simp at hj; omega)]
         rfl⟩
       have KB : Aside0 (Below w.heap.size w ((w2.setCells W0.heap.size 0 ct).setCell ⟨W0.heap.size, 32, none⟩ (.int .i64 p))) := ⟨by
         refine below_set ?_ (by rw [GS.out]; omega)
         obtain ⟨s1, s2, s3, s4⟩ := setCells_same W0.heap.size ct 0 w2
         have hb3 := fb.out.trans (hb2.mono (by rw [fs.out, GS.out]; omega))
         exact ⟨s1.trans hb3.os, s2.trans hb3.tape, s3.trans hb3.output, by rw [s4]; exact hb3.size, fun k hk => (setCells_far ct 0 k (by rw [GS.out]; omega)).trans (hb3.block k hk)⟩⟩
       clear k0 k1 k2 k3 k3s k3l hu hb2)
    | ((with_reducible refine gate_store (t := 22) (p := 7) rfl ?_); refine wpList_plain rfl fun K1 hK1 => wp_store_mid 22 (.tmp 7) _ rfl W0.heap.size 0 ct.toArray rfl rfl TH.out (by rw [HL.out]; simp) hone2.out (hK1 _ _ ?_); clear hK1 K1; (try simp only [List.toList_toArray]))
    | ((with_reducible refine gate_dst (N := 11) rfl ?_); refine wpList_plain rfl fun K1 hK1 => wp_load_row 26 (.tmp 3) rfl W0.heap.size rfl 26 cs (0, 0) _ K4.out Try.underlying26 rfl (by rw [size26, HS.out]) (hK1 _ _ ?_); clear hK1 K1)
    | ((with_reducible refine gate_store (t := 26) (p := 2) rfl ?_); refine wpList_plain rfl fun K1 hK1 => wp_store_row 26 (.tmp 2) _ rfl (w.heap.size + 1) cs rfl rfl 26 Z0 K5.out (by rw [size26, HS.out]) (by rw [HS.out]; rfl) hone.out (hK1 _ _ ?_); clear hK1 K1))
  have hl := run_loadVar_row (P := Try.prog) (((w2.setCells W0.heap.size 0 ct).setCell ⟨W0.heap.size, 32, none⟩ (.int .i64 p)).setRow (w.heap.size + 1) cs) (w.heap.size + 1) 26 26 cs (0, 0) _ (setRow_heap _ _ _ _ _ _ K5.out) Try.underlying26 rfl (by rw [size26, HS.out])
  refine bodyPost_ret (v := .agg cs) ?_ rfl ⟨rfl, ?_⟩
  · unfold results
    rw [show Try.f13.results = #[.cell 2 26] from rfl]
    simp [asAddr, Act.put, hl]
  · exact below_setRow KB.out (by omega) _
theorem size24 : (Try.prog.info? 24).map (·.size) = some 33 := (zero_of_info (P := Try.prog) (t := 24) (v := .agg Z0) (n := 33) (by kernel_rfl)).2
set_option maxHeartbeats 2000000 in
set_option maxRecDepth 100000 in
theorem lawOK (cs : Array Value) (hs : cs.size = 33) (hI : ∀ i, i < 33 → ∃ z, cs[i]? = some (.int .i64 z)) (w : World) :
    Calls Try.prog 3 #[.agg cs] w fun e w' => e = .returned (.bool true) ∧ Below w.heap.size w w' := by
  obtain ⟨z, hz⟩ := hI 0 (by omega)
  have hT := Aside0.mk (toH cs hs hI)
  have hS := Aside0.mk (specOK cs hs z hz)
  have hP := Aside0.mk (implOK cs hs z hz)
  have HS := Aside0.mk hs
  have HB := Aside0.mk ((Below.refl w.heap.size w).alloc (Nat.le_refl _) (.cells cs 24))
  have BX : Aside0 ((w.alloc (.cells cs 24)).heap[w.heap.size]? = some (.cells cs 24 (0, 0))) := ⟨heap_alloc_last w _⟩
  clear hI hs hz
  generalize (z == 0) = b at *
  go_enter Try.func3, Try.ntmps3
  go_wp2_with (first
    | ((with_reducible refine gate_dst (N := 5) rfl ?_); refine wpList_plain rfl fun K1 hK1 => wp_load_row 24 (.tmp 1) rfl w.heap.size rfl 24 cs (0, 0) _ BX.out Try.underlying24 rfl (by rw [size24, HS.out]) (hK1 _ _ ?_); clear hK1 K1)
    | ((with_reducible refine gate_dst (N := 8) rfl ?_); refine wpList_plain rfl fun K1 hK1 => wp_load_row 24 (.tmp 1) rfl w.heap.size rfl 24 cs (0, 0) _ BX.out Try.underlying24 rfl (by rw [size24, HS.out]) (hK1 _ _ ?_); clear hK1 K1)
    | (go_at_call 13; refine (hT.out _).mono ?_; rintro e w1 ⟨rfl, hb⟩; have HB2 := Aside0.mk (HB.out.trans (hb.mono HB.out.size)); have BX2 := Aside0.mk ((hb.block _ (blk_lt BX.out)).trans BX.out); clear HB BX hb; have HB := HB2; have BX := BX2; clear HB2 BX2)
    | (go_at_call 12; refine (hS.out _).mono ?_; rintro e w1 ⟨rfl, hb⟩; have HB2 := Aside0.mk (HB.out.trans (hb.mono HB.out.size)); have BX2 := Aside0.mk ((hb.block _ (blk_lt BX.out)).trans BX.out); clear HB BX hb; have HB := HB2; have BX := BX2; clear HB2 BX2)
    | (go_at_call 14; refine (hP.out _).mono ?_; rintro e w1 ⟨rfl, hb⟩; have HB2 := Aside0.mk (HB.out.trans (hb.mono HB.out.size)); have BX2 := Aside0.mk ((hb.block _ (blk_lt BX.out)).trans BX.out); clear HB BX hb; have HB := HB2; have BX := BX2; clear HB2 BX2))
  go_ret
  exact ⟨rfl, HB.out⟩
end Go.Proofs.Ytbhempnfbginoaa.PFnExactHartOK
