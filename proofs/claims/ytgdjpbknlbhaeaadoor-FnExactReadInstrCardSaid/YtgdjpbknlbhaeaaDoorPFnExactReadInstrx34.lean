-- Written by a program for this claim.
import Derived.Test.YtgdjpbknlbhaeaaDoorZFnExactReadInstra
import Derived.Test.YtgdjpbknlbhaeaaDoorProg
import Derived.Below
import Derived.Deep.Draws
import Derived.Deep.AppendLies
import Derived.Maps.AppendAt
import Derived.OwnWalk
import Derived.Laws.BytesArg
import Derived.Laws.MakeOwn
import Derived.Laws.OwnMore
import Derived.Deep.OwnRows
import Derived.Tactics
import Derived.Lib.ConvBytes
import Derived.Laws.Slices
import Derived.WalkKit
import Derived.KernelRfl
import Derived.RowKit3
import Derived.Deep.LoopGhost
import Derived.Deep.QuietTactic
import Derived.BigQuiet
import Derived.WideLaws
import Derived.Deep.DeepCutAuto
import Derived.Deep.CutBlock
import Derived.Deep.RegionHeld3
import Derived.Laws.Rows
import Derived.Lib.AppendStr
import Derived.ArgAppend
import Derived.Laws.IdiomCopy
import Derived.OrdersHeld
import Derived.Laws.BitsLemmas
import Derived.StillTailTactics
import Derived.RowKit
import Derived.Test.YtgdjpbknlbhaeaaDoorPFnExactInstrTextx8
import Derived.Test.YtgdjpbknlbhaeaaDoorPFnExactReadInstrx30
import Derived.Test.YtgdjpbknlbhaeaaDoorPFnExactReadInstrx33
import Derived.Test.YtgdjpbknlbhaeaaDoorShelfR
namespace Go.Proofs.YtgdjpbknlbhaeaaDoor.PFnExactInstrText
open Go.RowKit Go.Proofs.YtgdjpbknlbhaeaaDoorW.PrintWords Go.Proofs.YtgdjpbknlbhaeaaDoorW.PrintLast Go.Proofs.YtgdjpbknlbhaeaaDoorW.PrintMore
attribute [local go_sem] max2_int min2_int max_two min_two max_three min_three max_four min_four   -- for this text's walks alone
set_option linter.unusedVariables false
set_option linter.unusedSimpArgs false

/-! ### impl_readInstr: function 13, walked by hand -/
def impl_readInstr.wd (l : List ByteArray) (z : Int) : ByteArray := if z < (l.length : Int) then rdOf ByteArray.empty l z else ⟨#[]⟩
/-- The fields, by the form. -/
def impl_readInstr.d (F r1 : Int) : Int := if F = 1 ∨ F = 2 ∨ F = 3 ∨ F = 6 ∨ F = 7 ∨ F = 8 then r1 else 0
def impl_readInstr.a (F r1 r2 : Int) : Int := if F = 3 ∨ F = 6 ∨ F = 7 ∨ F = 5 ∨ F = 8 then r2 else if F = 4 then r1 else 0
def impl_readInstr.b (F r1 r2 r3 : Int) : Int := if F = 4 then r2 else if F = 5 then r1 else if F = 8 then r3 else 0
def impl_readInstr.i (F n2 n3 : Int) : Int := if F = 1 ∨ F = 2 then n2 else if F = 8 ∨ F = 9 then 0 else n3
def impl_readInstr.f (k : Nat) (l0 : List ByteArray) : Option (Int × Int × Int × Int × Int × Bool) :=
  if l0.length = 0 then some (0, 0, 0, 0, 0, false) else (impl_OpOf.f (rdOf ByteArray.empty l0 0)).bind fun o => if o = 0 then some (0, 0, 0, 0, 0, false) else
  (impl_shapeOf.f o).bind fun s => (impl_readReg.f (impl_readInstr.wd l0 1)).bind fun r1 => (impl_readReg.f (impl_readInstr.wd l0 2)).bind fun r2 => (impl_readReg.f (impl_readInstr.wd l0 3)).bind fun r3 =>
  (impl_readInt.f (impl_readInstr.wd l0 2)).bind fun n2 => (impl_readInt.f (impl_readInstr.wd l0 3)).bind fun n3 =>
  (impl_InstrOK.f k o (impl_readInstr.d s.1 r1) (impl_readInstr.a s.1 r1 r2) (impl_readInstr.b s.1 r1 r2 r3) (impl_readInstr.i s.1 n2.1 n3.1)).bind fun ok =>
  if ok = true then (impl_instrText.f k o (impl_readInstr.d s.1 r1) (impl_readInstr.a s.1 r1 r2) (impl_readInstr.b s.1 r1 r2 r3) (impl_readInstr.i s.1 n2.1 n3.1)).bind fun t =>
    if l0.length ≤ 140737488355328 ∧ (Go.Lib.join (l0.map (·.data.toList)) [32]).length ≤ 140737488355328 then some (o, impl_readInstr.d s.1 r1, impl_readInstr.a s.1 r1 r2, impl_readInstr.b s.1 r1 r2 r3, impl_readInstr.i s.1 n2.1 n3.1, decide (t.toList = Go.Lib.join (l0.map (·.data.toList)) [32])) else none
  else some (o, impl_readInstr.d s.1 r1, impl_readInstr.a s.1 r1 r2, impl_readInstr.b s.1 r1 r2 r3, impl_readInstr.i s.1 n2.1 n3.1, false)
theorem impl_readInstr.mono : ∀ l0 k, LeO (impl_readInstr.f k l0) (impl_readInstr.f (k + 1) l0) := by
  intro l0 k
  unfold impl_readInstr.f
  repeat' (with_reducible first | apply impl_InstrOK.mono | apply impl_instrText.mono | apply LeO.refl | apply LeO.none | apply LeO.ite | refine LeO.bind ?_ (fun _ => ?_))
theorem impl_readInstr.word (l : List ByteArray) (A : Option Addr) (c g : Nat) (z : Int) (W : World) (hc : W.cell? ⟨g, 0, none⟩ = some (.slice A l.length c)) (hr : Kd.C Kd.string W A l.length l) (h0 : 0 ≤ z) (h3 : z ≤ 3) :
    Calls Tryd.prog 26 #[.int .i64 z, .pointer (some ⟨g, 0, none⟩)] W fun e w' => e = .returned (.string (impl_readInstr.wd l z)) ∧ Drawn0 W w' := by
  unfold impl_readInstr.wd
  by_cases h : z < (l.length : Int)
  · obtain ⟨ad, e, hx⟩ := Kd.at_string hr z h0 h
    cases e
    rw [if_pos h]
    have h1 := eq_true h0
    have h2 := eq_true h
    have h4 := decide_eq_true h
    clear h h0 h3
    go_enter Tryd.func26, Tryd.ntmps26
    go_wp2
    go_ret
    exact ⟨rfl, 0, rfl⟩
  · rw [if_neg h]
    have h4 := decide_eq_false h
    clear h h0 h3
    go_enter Tryd.func26, Tryd.ntmps26
    go_wp2
    go_ret
    exact ⟨rfl, 0, rfl⟩
theorem impl_readInstr.spot {w : World} {a : Addr} {v : Value} (h : w.cell? a = some v) : ∃ b o, a = ⟨b, o, none⟩ := by
  obtain ⟨b, o, s⟩ := a
  cases s with
  | none => exact ⟨b, o, rfl⟩
  | some x =>
    unfold World.cell? at h
    split at h <;> simp at h
theorem impl_readInstr.cells {w : World} {b o : Nat} {l : List ByteArray} (h : Kd.C Kd.string w (some ⟨b, o, none⟩) l.length l) (h0 : 0 < l.length) (j : Nat) (x : ByteArray) (hx : l[j]? = some x) : w.cell? ⟨b, o + j, none⟩ = some (.string x) := by
  obtain ⟨_, _, h3⟩ := h
  obtain ⟨ad, e, hc⟩ := h3 h0
  cases e
  obtain ⟨c, _, rfl, hcc⟩ := hc j x hx
  have e : (⟨b, o, none⟩ : Addr).add (j * Kd.string.sz + 0) = ⟨b, o + j, none⟩ := by
    show (⟨b, o, none⟩ : Addr).add (j * 1 + 0) = _
    rw [Nat.mul_one, Nat.add_zero]
    cases j <;> simp [Addr.add]
  exact e ▸ hcc 0 (.string x) rfl
theorem impl_readInstr.join (w : World) (b o c : Nat) (l : List ByteArray) (h : Kd.C Kd.string w (some ⟨b, o, none⟩) l.length l) (h0 : 0 < l.length) (hc : l.length ≤ c) (hl : l.length ≤ 140737488355328 ∧ (Go.Lib.join (l.map (·.data.toList)) [32]).length ≤ 140737488355328) :
    Calls Tryd.prog 30 #[.slice (some ⟨b, o, none⟩) l.length c, .string ⟨#[32]⟩] w fun e w' => e = .returned (.string ⟨(Go.Lib.join (l.map (·.data.toList)) [32]).toArray⟩) ∧ Below w.heap.size w w' := by
  have hcell := impl_readInstr.cells h h0
  have hx := hcell 0 _ (List.getElem?_eq_getElem h0)
  exact Tryd.strings_Join b o c l ⟨#[32]⟩ w hcell (World.block_lt_of_cell? _ _ hx) hl.1 hc hl.2
theorem impl_readInstr.cel {w : World} {g : Nat} {t : TypeId} {z0 z1 z2 z3 z4 : Value} (h : w.heap[g]? = some (.cells #[z0, z1, z2, z3, z4] t (0, 0))) : w.cell? ⟨g, 0, none⟩ = some z0 ∧ w.cell? ⟨g, 1, none⟩ = some z1 ∧ w.cell? ⟨g, 2, none⟩ = some z2 ∧ w.cell? ⟨g, 3, none⟩ = some z3 ∧ w.cell? ⟨g, 4, none⟩ = some z4 ∧ w.frozen? ⟨g, 0, none⟩ = false ∧ w.frozen? ⟨g, 1, none⟩ = false ∧ w.frozen? ⟨g, 2, none⟩ = false ∧ w.frozen? ⟨g, 3, none⟩ = false ∧ w.frozen? ⟨g, 4, none⟩ = false :=
  ⟨(blk_cell h 0).trans rfl, (blk_cell h 1).trans rfl, (blk_cell h 2).trans rfl, (blk_cell h 3).trans rfl, (blk_cell h 4).trans rfl, blk_frozen h 0, blk_frozen h 1, blk_frozen h 2, blk_frozen h 3, blk_frozen h 4⟩
set_option maxRecDepth 100000 in
set_option maxHeartbeats 4000000 in
theorem impl_readInstr.calls (k : Nat) (A0 : Option Addr) (c0 : Nat) (l0 : List ByteArray) (r1 r2 r3 r4 r5 : Int) (r6 : Bool) (w : World) (hr0 : Kd.C Kd.string w A0 l0.length l0) (hc0 : l0.length ≤ c0) (h : impl_readInstr.f k l0 = some (r1, r2, r3, r4, r5, r6)) (TB : TabB w := by exact tabOn TBX.out (by repeat (first | (with_reducible first | exact HB.out | apply below_alloc | apply pw_below_drewN | apply below_drew1) | exact HB.out))) (LB : LaidB w := by exact laidOn LBX.out (by repeat (first | (with_reducible first | exact HB.out | apply below_alloc | apply pw_below_drewN | apply below_drew1) | exact HB.out))) :
    Calls Tryd.prog 13 #[.slice A0 l0.length c0] w fun e w' => e = .returned (.tuple #[.agg #[.int .i64 r1, .int .i64 r2, .int .i64 r3, .int .i64 r4, .int .i64 r5], .bool r6]) ∧ Below w.heap.size w w' := by
  unfold impl_readInstr.f at h
  have TBX := Aside0.mk TB
  have LBX := Aside0.mk LB
  have hu23 := Tryd.underlying23
  have hu45 := Tryd.underlying45
  have hfd45_0 : ∀ (q0_ q1_ q2_ q3_ : Value) (W_ : World), (Instr.field 45 (.agg #[q0_, q1_, q2_, q3_]) 0).run Tryd.prog W_ = .ok q0_ W_ := by intros; simp [Instr.field, run_underlying Tryd.underlying45, run_underlying Tryd.underlying3, asAgg, part, isAgg, sizeOf, typeInfo]
  clear TB LB
  by_cases hl : l0.length = 0
  · rw [if_pos hl] at h
    obtain ⟨rfl, rfl, rfl, rfl, rfl, rfl⟩ := by simpa using h
    have hlz : ((l0.length : Int) == 0) = true := by simp [hl]
    clear h hr0 hc0
    go_enter Tryd.func13, Tryd.ntmps13
    go_wp2
    refine bodyPost_ret (results_ct rfl _ _ (w.heap.size + 1) 23 #[.int .i64 0, .int .i64 0, .int .i64 0, .int .i64 0, .int .i64 0] (0, 0) _ rfl (by have := blk_new (w.alloc (.cells #[.slice A0 0 c0] 36)) (.cells #[.int .i64 0, .int .i64 0, .int .i64 0, .int .i64 0, .int .i64 0] 23); simpa using this) Tryd.underlying23 rfl (by kernel_rfl)) rfl ?_
    exact ⟨rfl, ((Below.refl _ w).alloc (Nat.le_refl _) _).alloc (by simp) _⟩
  · rw [if_neg hl] at h
    have hlz : ((l0.length : Int) == 0) = false := by
      rw [beq_eq_false_iff_ne]
      omega
    obtain ⟨o, ho, h⟩ := Option.bind_eq_some_iff.mp h
    have HO := Aside0.mk ho
    have HRW := Aside0.mk hr0
    have HCW := Aside0.mk hc0
    have HH := Aside0.mk h
    have hmf : ∀ (fn : Fn) (first cap : Array Value) (w : World), (Instr.makeFunc fn first cap).run Tryd.prog w = .ok (.func fn first cap) w := fun _ _ _ _ => rfl
    have HL := Aside0.mk (show 0 < l0.length by omega)
    clear ho hr0 hc0 h hl
    go_enter Tryd.func13, Tryd.ntmps13
    go_upto_region 3 with (fail)
    have BK1 := Aside0.mk (blk_alloc (blk_new w (.cells #[.slice A0 l0.length c0] 36)) (.cells #[.int .i64 0, .int .i64 0, .int .i64 0, .int .i64 0, .int .i64 0] 23))
    have BK2 := Aside0.mk (blk_new (w.alloc (.cells #[.slice A0 l0.length c0] 36)) (.cells #[.int .i64 0, .int .i64 0, .int .i64 0, .int .i64 0, .int .i64 0] 23))
    have HRA := Aside0.mk (Kd.C_alloc (Kd.C_alloc HRW.out (.cells #[.slice A0 l0.length c0] 36)) (.cells #[.int .i64 0, .int .i64 0, .int .i64 0, .int .i64 0, .int .i64 0] 23))
    have HB := Aside0.mk (show Below w.heap.size w ((w.alloc (.cells #[.slice A0 l0.length c0] 36)).alloc (.cells #[.int .i64 0, .int .i64 0, .int .i64 0, .int .i64 0, .int .i64 0] 23)) from ((Below.refl _ w).alloc (Nat.le_refl _) _).alloc (by simp) _)
    have hsz : (w.alloc (.cells #[.slice A0 l0.length c0] 36)).heap.size = w.heap.size + 1 := by simp
    rw [hsz] at BK2
    clear hsz
    generalize ((w.alloc (.cells #[.slice A0 l0.length c0] 36)).alloc (.cells #[.int .i64 0, .int .i64 0, .int .i64 0, .int .i64 0, .int .i64 0] 23)) = wA at BK1 BK2 HRA HB ⊢
    obtain ⟨ad, e0, hx0⟩ := Kd.at_string HRA.out 0 (Int.le_refl _) (by have := HL.out; omega)
    cases e0
    replace hx0 : wA.cell? ad = some (.string (rdOf ByteArray.empty l0 0)) := by simpa [Addr.add] using hx0
    have hc1 : wA.cell? ⟨w.heap.size, 0, none⟩ = some (.slice (some ad) l0.length c0) := (blk_cell BK1.out 0).trans rfl
    have HSP := Aside0.mk (impl_readInstr.spot hx0)
    have hp2 := eq_true HL.out
    have hp0 := eq_true (show (0 : Int) < (l0.length : Int) by have := HL.out; omega)
    have hp1 := decide_eq_true (show (0 : Int) < (l0.length : Int) by have := HL.out; omega)
    go_upto_region 4 with (first | (go_at_call 25; refine (impl_OpOf.calls _ o _ HO.out).mono ?_; rintro e w' ⟨rfl, hb⟩))
    have hsb := hb.size
    have h1A := blk_lt BK1.out
    have h2A := blk_lt BK2.out
    replace BK1 := Aside0.mk (blk_alloc (blk_below BK1.out hb) (.cells #[.int .i64 o, .int .i64 0, .int .i64 0, .int .i64 0, .int .i64 0] 23))
    replace BK2 := Aside0.mk (blk_alloc (blk_below BK2.out hb) (.cells #[.int .i64 o, .int .i64 0, .int .i64 0, .int .i64 0, .int .i64 0] 23))
    have BK4 := Aside0.mk (blk_new w' (.cells #[.int .i64 o, .int .i64 0, .int .i64 0, .int .i64 0, .int .i64 0] 23))
    have GE4 := Aside0.mk (show w.heap.size ≤ w'.heap.size by omega)
    have GN1 := Aside0.mk (show w.heap.size ≠ w'.heap.size by omega)
    have GN2 := Aside0.mk (show w.heap.size + 1 ≠ w'.heap.size by omega)
    replace HB := Aside0.mk ((below_step HB.out hb).alloc GE4.out (.cells #[.int .i64 o, .int .i64 0, .int .i64 0, .int .i64 0, .int .i64 0] 23))
    clear HRA hsb h1A h2A hb hx0 hc1
    generalize w'.alloc (.cells #[.int .i64 o, .int .i64 0, .int .i64 0, .int .i64 0, .int .i64 0] 23) = wB at BK1 BK2 BK4 HB ⊢
    generalize w'.heap.size = g4 at BK4 GE4 GN1 GN2 ⊢
    clear hp0 hp1 hp2
    obtain ⟨z0, z1, z2, z3, z4, y0, y1, y2, y3, y4⟩ := impl_readInstr.cel BK4.out
    replace h := HH.out
    clear HH
    by_cases hz : o = 0
    · rw [if_pos hz] at h
      obtain ⟨rfl, rfl, rfl, rfl, rfl, rfl⟩ := by simpa using h
      subst hz
      clear h HO
      have hc2 := impl_readInstr.cel BK2.out
      obtain ⟨s0, s1, s2, s3, s4, f0, f1, f2, f3, f4⟩ := hc2
      go_wp2
      refine bodyPost_ret (results_ct rfl _ _ (w.heap.size + 1) 23 #[.int .i64 0, .int .i64 0, .int .i64 0, .int .i64 0, .int .i64 0] (0, 0) _ rfl (blk_put (blk_put (blk_put (blk_put (blk_put BK2.out 0 _ rfl) 1 _ rfl) 2 _ rfl) 3 _ rfl) 4 _ rfl) Tryd.underlying23 rfl (by kernel_rfl)) rfl ?_
      have ge : w.heap.size ≤ w.heap.size + 1 := Nat.le_succ _
      exact ⟨rfl, below_set (below_set (below_set (below_set (below_set HB.out ge) ge) ge) ge) ge⟩
    · rw [if_neg hz] at h
      have hzb : (o == 0) = false := beq_eq_false_iff_ne.mpr hz
      obtain ⟨⟨F, c, f3, f7⟩, hS, h⟩ := Option.bind_eq_some_iff.mp h
      obtain ⟨q1, hq1, h⟩ := Option.bind_eq_some_iff.mp h
      obtain ⟨q2, hq2, h⟩ := Option.bind_eq_some_iff.mp h
      obtain ⟨q3, hq3, h⟩ := Option.bind_eq_some_iff.mp h
      obtain ⟨n2, hn2, h⟩ := Option.bind_eq_some_iff.mp h
      obtain ⟨n3, hn3, h⟩ := Option.bind_eq_some_iff.mp h
      have HS := Aside0.mk hS
      have HQ1 := Aside0.mk hq1
      have HQ2 := Aside0.mk hq2
      have HQ3 := Aside0.mk hq3
      have HN2 := Aside0.mk hn2
      have HN3 := Aside0.mk hn3
      have HH := Aside0.mk h
      clear h hS hq1 hq2 hq3 hn2 hn3
      go_upto_block 0 with (first | (go_at_call 27; refine (impl_shapeOf.calls _ _ _ _ _ _ HS.out).mono ?_; rintro e w' ⟨rfl, hb⟩; clear z0 z1 z2 z3 z4 y0 y1 y2 y3 y4; replace BK1 := Aside0.mk (blk_below (by (with_reducible repeat (first | refine blk_drewN ?_ _ | refine blk_drew ?_ | refine blk_alloc ?_ _)); exact BK1.out) hb); replace BK2 := Aside0.mk (blk_below (by (with_reducible repeat (first | refine blk_drewN ?_ _ | refine blk_drew ?_ | refine blk_alloc ?_ _)); exact BK2.out) hb); replace BK4 := Aside0.mk (blk_below (by (with_reducible repeat (first | refine blk_drewN ?_ _ | refine blk_drew ?_ | refine blk_alloc ?_ _)); exact BK4.out) hb); replace HB := Aside0.mk (below_step (by repeat (first | (with_reducible first | exact HB.out | apply below_alloc | apply pw_below_drewN | apply below_drew1) | exact HB.out)) hb); clear hb; obtain ⟨z0, z1, z2, z3, z4, y0, y1, y2, y3, y4⟩ := impl_readInstr.cel BK4.out))
      go_cut [7] (fun v7 wc => ∃ x7 : Int, v7 = .int .i64 x7 ∧ Aside0 (x7 = if F = 1 ∨ F = 2 then 2 else 3) ∧ Aside0 (wc.heap[w.heap.size]? = some (.cells #[.slice (some ad) l0.length c0] 36 (0, 0))) ∧ Aside0 (wc.heap[w.heap.size + 1]? = some (.cells #[.int .i64 0, .int .i64 0, .int .i64 0, .int .i64 0, .int .i64 0] 23 (0, 0))) ∧ Aside0 (wc.heap[g4]? = some (.cells #[.int .i64 o, .int .i64 (impl_readInstr.d F q1), .int .i64 (impl_readInstr.a F q1 q2), .int .i64 (impl_readInstr.b F q1 q2 q3), .int .i64 0] 23 (0, 0))) ∧ Aside0 (Below w.heap.size w wc))
      case first =>
          by_cases c1 : F = 1
          · subst c1
            go_wp2_with (first | (go_at_call 26; refine (impl_readInstr.word l0 (some ad) c0 w.heap.size _ _ ((blk_cell (g := w.heap.size) (t := 36) (cs := #[.slice (some ad) l0.length c0]) (by (with_reducible repeat (first | refine blk_drewN ?_ _ | refine blk_drew ?_ | refine blk_alloc ?_ _)); exact BK1.out) 0).trans rfl) (Kd.C_below HRW.out (by repeat (first | (with_reducible first | exact HB.out | apply below_alloc | apply pw_below_drewN | apply below_drew1 | refine below_set ?_ GE4.out) | exact HB.out))) (by decide) (by decide)).mono ?_; rintro e w' ⟨rfl, ⟨nd, rfl⟩⟩) | (go_at_call 28; (first | (with_reducible refine (impl_readReg.calls (impl_readInstr.wd l0 1) q1 _ HQ1.out).mono ?_) | (with_reducible refine (impl_readReg.calls (impl_readInstr.wd l0 2) q2 _ HQ2.out).mono ?_) | (with_reducible refine (impl_readReg.calls (impl_readInstr.wd l0 3) q3 _ HQ3.out).mono ?_)); rintro e w' ⟨rfl, hb⟩; (try clear z0 z1 z2 z3 z4 y0 y1 y2 y3 y4); replace BK1 := Aside0.mk (blk_below (g := w.heap.size) (o := .cells #[.slice (some ad) l0.length c0] 36 (0, 0)) (by (with_reducible repeat (first | refine blk_drewN ?_ _ | refine blk_drew ?_ | refine blk_alloc ?_ _)); exact BK1.out) hb); replace BK2 := Aside0.mk (blk_below (g := w.heap.size + 1) (o := .cells #[.int .i64 0, .int .i64 0, .int .i64 0, .int .i64 0, .int .i64 0] 23 (0, 0)) (by (with_reducible repeat (first | refine blk_drewN ?_ _ | refine blk_drew ?_ | refine blk_alloc ?_ _)); exact BK2.out) hb); replace BK4 := Aside0.mk (blk_below (g := g4) (o := .cells #[.int .i64 o, .int .i64 0, .int .i64 0, .int .i64 0, .int .i64 0] 23 (0, 0)) (by (with_reducible repeat (first | refine blk_drewN ?_ _ | refine blk_drew ?_ | refine blk_alloc ?_ _)); exact BK4.out) hb); replace HB := Aside0.mk (below_step (by repeat (first | (with_reducible first | exact HB.out | apply below_alloc | apply pw_below_drewN | apply below_drew1 | refine below_set ?_ GE4.out) | exact HB.out)) hb); clear hb; obtain ⟨z0, z1, z2, z3, z4, y0, y1, y2, y3, y4⟩ := impl_readInstr.cel BK4.out))
            go_meet
            case rel => exact ⟨_, rfl, ⟨by simp⟩, ⟨by repeat (first | exact BK1.out | refine blk_far ?_ GN1.out _)⟩, ⟨by repeat (first | exact BK2.out | refine blk_far ?_ GN2.out _)⟩, ⟨blk_put (BK4.out) 1 _ rfl⟩, ⟨(by repeat (first | (with_reducible first | exact HB.out | apply below_alloc | apply pw_below_drewN | apply below_drew1 | refine below_set ?_ GE4.out) | exact HB.out))⟩⟩
          have c1b : (F == 1) = false := beq_eq_false_iff_ne.mpr c1
          by_cases c2 : F = 2
          · subst c2
            go_wp2_with (first | (go_at_call 26; refine (impl_readInstr.word l0 (some ad) c0 w.heap.size _ _ ((blk_cell (g := w.heap.size) (t := 36) (cs := #[.slice (some ad) l0.length c0]) (by (with_reducible repeat (first | refine blk_drewN ?_ _ | refine blk_drew ?_ | refine blk_alloc ?_ _)); exact BK1.out) 0).trans rfl) (Kd.C_below HRW.out (by repeat (first | (with_reducible first | exact HB.out | apply below_alloc | apply pw_below_drewN | apply below_drew1 | refine below_set ?_ GE4.out) | exact HB.out))) (by decide) (by decide)).mono ?_; rintro e w' ⟨rfl, ⟨nd, rfl⟩⟩) | (go_at_call 28; (first | (with_reducible refine (impl_readReg.calls (impl_readInstr.wd l0 1) q1 _ HQ1.out).mono ?_) | (with_reducible refine (impl_readReg.calls (impl_readInstr.wd l0 2) q2 _ HQ2.out).mono ?_) | (with_reducible refine (impl_readReg.calls (impl_readInstr.wd l0 3) q3 _ HQ3.out).mono ?_)); rintro e w' ⟨rfl, hb⟩; (try clear z0 z1 z2 z3 z4 y0 y1 y2 y3 y4); replace BK1 := Aside0.mk (blk_below (g := w.heap.size) (o := .cells #[.slice (some ad) l0.length c0] 36 (0, 0)) (by (with_reducible repeat (first | refine blk_drewN ?_ _ | refine blk_drew ?_ | refine blk_alloc ?_ _)); exact BK1.out) hb); replace BK2 := Aside0.mk (blk_below (g := w.heap.size + 1) (o := .cells #[.int .i64 0, .int .i64 0, .int .i64 0, .int .i64 0, .int .i64 0] 23 (0, 0)) (by (with_reducible repeat (first | refine blk_drewN ?_ _ | refine blk_drew ?_ | refine blk_alloc ?_ _)); exact BK2.out) hb); replace BK4 := Aside0.mk (blk_below (g := g4) (o := .cells #[.int .i64 o, .int .i64 0, .int .i64 0, .int .i64 0, .int .i64 0] 23 (0, 0)) (by (with_reducible repeat (first | refine blk_drewN ?_ _ | refine blk_drew ?_ | refine blk_alloc ?_ _)); exact BK4.out) hb); replace HB := Aside0.mk (below_step (by repeat (first | (with_reducible first | exact HB.out | apply below_alloc | apply pw_below_drewN | apply below_drew1 | refine below_set ?_ GE4.out) | exact HB.out)) hb); clear hb; obtain ⟨z0, z1, z2, z3, z4, y0, y1, y2, y3, y4⟩ := impl_readInstr.cel BK4.out))
            go_meet
            case rel => exact ⟨_, rfl, ⟨by simp⟩, ⟨by repeat (first | exact BK1.out | refine blk_far ?_ GN1.out _)⟩, ⟨by repeat (first | exact BK2.out | refine blk_far ?_ GN2.out _)⟩, ⟨blk_put (BK4.out) 1 _ rfl⟩, ⟨(by repeat (first | (with_reducible first | exact HB.out | apply below_alloc | apply pw_below_drewN | apply below_drew1 | refine below_set ?_ GE4.out) | exact HB.out))⟩⟩
          have c2b : (F == 2) = false := beq_eq_false_iff_ne.mpr c2
          by_cases c3 : F = 3
          · subst c3
            go_wp2_with (first | (go_at_call 26; refine (impl_readInstr.word l0 (some ad) c0 w.heap.size _ _ ((blk_cell (g := w.heap.size) (t := 36) (cs := #[.slice (some ad) l0.length c0]) (by (with_reducible repeat (first | refine blk_drewN ?_ _ | refine blk_drew ?_ | refine blk_alloc ?_ _)); exact BK1.out) 0).trans rfl) (Kd.C_below HRW.out (by repeat (first | (with_reducible first | exact HB.out | apply below_alloc | apply pw_below_drewN | apply below_drew1 | refine below_set ?_ GE4.out) | exact HB.out))) (by decide) (by decide)).mono ?_; rintro e w' ⟨rfl, ⟨nd, rfl⟩⟩) | (go_at_call 28; (first | (with_reducible refine (impl_readReg.calls (impl_readInstr.wd l0 1) q1 _ HQ1.out).mono ?_) | (with_reducible refine (impl_readReg.calls (impl_readInstr.wd l0 2) q2 _ HQ2.out).mono ?_) | (with_reducible refine (impl_readReg.calls (impl_readInstr.wd l0 3) q3 _ HQ3.out).mono ?_)); rintro e w' ⟨rfl, hb⟩; (try clear z0 z1 z2 z3 z4 y0 y1 y2 y3 y4); replace BK1 := Aside0.mk (blk_below (g := w.heap.size) (o := .cells #[.slice (some ad) l0.length c0] 36 (0, 0)) (by (with_reducible repeat (first | refine blk_drewN ?_ _ | refine blk_drew ?_ | refine blk_alloc ?_ _)); exact BK1.out) hb); replace BK2 := Aside0.mk (blk_below (g := w.heap.size + 1) (o := .cells #[.int .i64 0, .int .i64 0, .int .i64 0, .int .i64 0, .int .i64 0] 23 (0, 0)) (by (with_reducible repeat (first | refine blk_drewN ?_ _ | refine blk_drew ?_ | refine blk_alloc ?_ _)); exact BK2.out) hb); replace BK4 := Aside0.mk (blk_below (g := g4) (o := .cells #[.int .i64 o, .int .i64 0, .int .i64 0, .int .i64 0, .int .i64 0] 23 (0, 0)) (by (with_reducible repeat (first | refine blk_drewN ?_ _ | refine blk_drew ?_ | refine blk_alloc ?_ _)); exact BK4.out) hb); replace HB := Aside0.mk (below_step (by repeat (first | (with_reducible first | exact HB.out | apply below_alloc | apply pw_below_drewN | apply below_drew1 | refine below_set ?_ GE4.out) | exact HB.out)) hb); clear hb; obtain ⟨z0, z1, z2, z3, z4, y0, y1, y2, y3, y4⟩ := impl_readInstr.cel BK4.out))
            go_meet
            case rel => exact ⟨_, rfl, ⟨by simp⟩, ⟨by repeat (first | exact BK1.out | refine blk_far ?_ GN1.out _)⟩, ⟨by repeat (first | exact BK2.out | refine blk_far ?_ GN2.out _)⟩, ⟨blk_put (blk_put (BK4.out) 1 _ rfl) 2 _ rfl⟩, ⟨(by repeat (first | (with_reducible first | exact HB.out | apply below_alloc | apply pw_below_drewN | apply below_drew1 | refine below_set ?_ GE4.out) | exact HB.out))⟩⟩
          have c3b : (F == 3) = false := beq_eq_false_iff_ne.mpr c3
          by_cases c4 : F = 4
          · subst c4
            go_wp2_with (first | (go_at_call 26; refine (impl_readInstr.word l0 (some ad) c0 w.heap.size _ _ ((blk_cell (g := w.heap.size) (t := 36) (cs := #[.slice (some ad) l0.length c0]) (by (with_reducible repeat (first | refine blk_drewN ?_ _ | refine blk_drew ?_ | refine blk_alloc ?_ _)); exact BK1.out) 0).trans rfl) (Kd.C_below HRW.out (by repeat (first | (with_reducible first | exact HB.out | apply below_alloc | apply pw_below_drewN | apply below_drew1 | refine below_set ?_ GE4.out) | exact HB.out))) (by decide) (by decide)).mono ?_; rintro e w' ⟨rfl, ⟨nd, rfl⟩⟩) | (go_at_call 28; (first | (with_reducible refine (impl_readReg.calls (impl_readInstr.wd l0 1) q1 _ HQ1.out).mono ?_) | (with_reducible refine (impl_readReg.calls (impl_readInstr.wd l0 2) q2 _ HQ2.out).mono ?_) | (with_reducible refine (impl_readReg.calls (impl_readInstr.wd l0 3) q3 _ HQ3.out).mono ?_)); rintro e w' ⟨rfl, hb⟩; (try clear z0 z1 z2 z3 z4 y0 y1 y2 y3 y4); replace BK1 := Aside0.mk (blk_below (g := w.heap.size) (o := .cells #[.slice (some ad) l0.length c0] 36 (0, 0)) (by (with_reducible repeat (first | refine blk_drewN ?_ _ | refine blk_drew ?_ | refine blk_alloc ?_ _)); exact BK1.out) hb); replace BK2 := Aside0.mk (blk_below (g := w.heap.size + 1) (o := .cells #[.int .i64 0, .int .i64 0, .int .i64 0, .int .i64 0, .int .i64 0] 23 (0, 0)) (by (with_reducible repeat (first | refine blk_drewN ?_ _ | refine blk_drew ?_ | refine blk_alloc ?_ _)); exact BK2.out) hb); replace BK4 := Aside0.mk (blk_below (g := g4) (o := .cells #[.int .i64 o, .int .i64 0, .int .i64 0, .int .i64 0, .int .i64 0] 23 (0, 0)) (by (with_reducible repeat (first | refine blk_drewN ?_ _ | refine blk_drew ?_ | refine blk_alloc ?_ _)); exact BK4.out) hb); replace HB := Aside0.mk (below_step (by repeat (first | (with_reducible first | exact HB.out | apply below_alloc | apply pw_below_drewN | apply below_drew1 | refine below_set ?_ GE4.out) | exact HB.out)) hb); clear hb; obtain ⟨z0, z1, z2, z3, z4, y0, y1, y2, y3, y4⟩ := impl_readInstr.cel BK4.out))
            go_meet
            case rel => exact ⟨_, rfl, ⟨by simp⟩, ⟨by repeat (first | exact BK1.out | refine blk_far ?_ GN1.out _)⟩, ⟨by repeat (first | exact BK2.out | refine blk_far ?_ GN2.out _)⟩, ⟨blk_put (blk_put (BK4.out) 2 _ rfl) 3 _ rfl⟩, ⟨(by repeat (first | (with_reducible first | exact HB.out | apply below_alloc | apply pw_below_drewN | apply below_drew1 | refine below_set ?_ GE4.out) | exact HB.out))⟩⟩
          have c4b : (F == 4) = false := beq_eq_false_iff_ne.mpr c4
          by_cases c5 : F = 5
          · subst c5
            go_wp2_with (first | (go_at_call 26; refine (impl_readInstr.word l0 (some ad) c0 w.heap.size _ _ ((blk_cell (g := w.heap.size) (t := 36) (cs := #[.slice (some ad) l0.length c0]) (by (with_reducible repeat (first | refine blk_drewN ?_ _ | refine blk_drew ?_ | refine blk_alloc ?_ _)); exact BK1.out) 0).trans rfl) (Kd.C_below HRW.out (by repeat (first | (with_reducible first | exact HB.out | apply below_alloc | apply pw_below_drewN | apply below_drew1 | refine below_set ?_ GE4.out) | exact HB.out))) (by decide) (by decide)).mono ?_; rintro e w' ⟨rfl, ⟨nd, rfl⟩⟩) | (go_at_call 28; (first | (with_reducible refine (impl_readReg.calls (impl_readInstr.wd l0 1) q1 _ HQ1.out).mono ?_) | (with_reducible refine (impl_readReg.calls (impl_readInstr.wd l0 2) q2 _ HQ2.out).mono ?_) | (with_reducible refine (impl_readReg.calls (impl_readInstr.wd l0 3) q3 _ HQ3.out).mono ?_)); rintro e w' ⟨rfl, hb⟩; (try clear z0 z1 z2 z3 z4 y0 y1 y2 y3 y4); replace BK1 := Aside0.mk (blk_below (g := w.heap.size) (o := .cells #[.slice (some ad) l0.length c0] 36 (0, 0)) (by (with_reducible repeat (first | refine blk_drewN ?_ _ | refine blk_drew ?_ | refine blk_alloc ?_ _)); exact BK1.out) hb); replace BK2 := Aside0.mk (blk_below (g := w.heap.size + 1) (o := .cells #[.int .i64 0, .int .i64 0, .int .i64 0, .int .i64 0, .int .i64 0] 23 (0, 0)) (by (with_reducible repeat (first | refine blk_drewN ?_ _ | refine blk_drew ?_ | refine blk_alloc ?_ _)); exact BK2.out) hb); replace BK4 := Aside0.mk (blk_below (g := g4) (o := .cells #[.int .i64 o, .int .i64 0, .int .i64 0, .int .i64 0, .int .i64 0] 23 (0, 0)) (by (with_reducible repeat (first | refine blk_drewN ?_ _ | refine blk_drew ?_ | refine blk_alloc ?_ _)); exact BK4.out) hb); replace HB := Aside0.mk (below_step (by repeat (first | (with_reducible first | exact HB.out | apply below_alloc | apply pw_below_drewN | apply below_drew1 | refine below_set ?_ GE4.out) | exact HB.out)) hb); clear hb; obtain ⟨z0, z1, z2, z3, z4, y0, y1, y2, y3, y4⟩ := impl_readInstr.cel BK4.out))
            go_meet
            case rel => exact ⟨_, rfl, ⟨by simp⟩, ⟨by repeat (first | exact BK1.out | refine blk_far ?_ GN1.out _)⟩, ⟨by repeat (first | exact BK2.out | refine blk_far ?_ GN2.out _)⟩, ⟨blk_put (blk_put (BK4.out) 3 _ rfl) 2 _ rfl⟩, ⟨(by repeat (first | (with_reducible first | exact HB.out | apply below_alloc | apply pw_below_drewN | apply below_drew1 | refine below_set ?_ GE4.out) | exact HB.out))⟩⟩
          have c5b : (F == 5) = false := beq_eq_false_iff_ne.mpr c5
          by_cases c6 : F = 6
          · subst c6
            go_wp2_with (first | (go_at_call 26; refine (impl_readInstr.word l0 (some ad) c0 w.heap.size _ _ ((blk_cell (g := w.heap.size) (t := 36) (cs := #[.slice (some ad) l0.length c0]) (by (with_reducible repeat (first | refine blk_drewN ?_ _ | refine blk_drew ?_ | refine blk_alloc ?_ _)); exact BK1.out) 0).trans rfl) (Kd.C_below HRW.out (by repeat (first | (with_reducible first | exact HB.out | apply below_alloc | apply pw_below_drewN | apply below_drew1 | refine below_set ?_ GE4.out) | exact HB.out))) (by decide) (by decide)).mono ?_; rintro e w' ⟨rfl, ⟨nd, rfl⟩⟩) | (go_at_call 28; (first | (with_reducible refine (impl_readReg.calls (impl_readInstr.wd l0 1) q1 _ HQ1.out).mono ?_) | (with_reducible refine (impl_readReg.calls (impl_readInstr.wd l0 2) q2 _ HQ2.out).mono ?_) | (with_reducible refine (impl_readReg.calls (impl_readInstr.wd l0 3) q3 _ HQ3.out).mono ?_)); rintro e w' ⟨rfl, hb⟩; (try clear z0 z1 z2 z3 z4 y0 y1 y2 y3 y4); replace BK1 := Aside0.mk (blk_below (g := w.heap.size) (o := .cells #[.slice (some ad) l0.length c0] 36 (0, 0)) (by (with_reducible repeat (first | refine blk_drewN ?_ _ | refine blk_drew ?_ | refine blk_alloc ?_ _)); exact BK1.out) hb); replace BK2 := Aside0.mk (blk_below (g := w.heap.size + 1) (o := .cells #[.int .i64 0, .int .i64 0, .int .i64 0, .int .i64 0, .int .i64 0] 23 (0, 0)) (by (with_reducible repeat (first | refine blk_drewN ?_ _ | refine blk_drew ?_ | refine blk_alloc ?_ _)); exact BK2.out) hb); replace BK4 := Aside0.mk (blk_below (g := g4) (o := .cells #[.int .i64 o, .int .i64 0, .int .i64 0, .int .i64 0, .int .i64 0] 23 (0, 0)) (by (with_reducible repeat (first | refine blk_drewN ?_ _ | refine blk_drew ?_ | refine blk_alloc ?_ _)); exact BK4.out) hb); replace HB := Aside0.mk (below_step (by repeat (first | (with_reducible first | exact HB.out | apply below_alloc | apply pw_below_drewN | apply below_drew1 | refine below_set ?_ GE4.out) | exact HB.out)) hb); clear hb; obtain ⟨z0, z1, z2, z3, z4, y0, y1, y2, y3, y4⟩ := impl_readInstr.cel BK4.out))
            go_meet
            case rel => exact ⟨_, rfl, ⟨by simp⟩, ⟨by repeat (first | exact BK1.out | refine blk_far ?_ GN1.out _)⟩, ⟨by repeat (first | exact BK2.out | refine blk_far ?_ GN2.out _)⟩, ⟨blk_put (blk_put (BK4.out) 1 _ rfl) 2 _ rfl⟩, ⟨(by repeat (first | (with_reducible first | exact HB.out | apply below_alloc | apply pw_below_drewN | apply below_drew1 | refine below_set ?_ GE4.out) | exact HB.out))⟩⟩
          have c6b : (F == 6) = false := beq_eq_false_iff_ne.mpr c6
          by_cases c7 : F = 7
          · subst c7
            go_wp2_with (first | (go_at_call 26; refine (impl_readInstr.word l0 (some ad) c0 w.heap.size _ _ ((blk_cell (g := w.heap.size) (t := 36) (cs := #[.slice (some ad) l0.length c0]) (by (with_reducible repeat (first | refine blk_drewN ?_ _ | refine blk_drew ?_ | refine blk_alloc ?_ _)); exact BK1.out) 0).trans rfl) (Kd.C_below HRW.out (by repeat (first | (with_reducible first | exact HB.out | apply below_alloc | apply pw_below_drewN | apply below_drew1 | refine below_set ?_ GE4.out) | exact HB.out))) (by decide) (by decide)).mono ?_; rintro e w' ⟨rfl, ⟨nd, rfl⟩⟩) | (go_at_call 28; (first | (with_reducible refine (impl_readReg.calls (impl_readInstr.wd l0 1) q1 _ HQ1.out).mono ?_) | (with_reducible refine (impl_readReg.calls (impl_readInstr.wd l0 2) q2 _ HQ2.out).mono ?_) | (with_reducible refine (impl_readReg.calls (impl_readInstr.wd l0 3) q3 _ HQ3.out).mono ?_)); rintro e w' ⟨rfl, hb⟩; (try clear z0 z1 z2 z3 z4 y0 y1 y2 y3 y4); replace BK1 := Aside0.mk (blk_below (g := w.heap.size) (o := .cells #[.slice (some ad) l0.length c0] 36 (0, 0)) (by (with_reducible repeat (first | refine blk_drewN ?_ _ | refine blk_drew ?_ | refine blk_alloc ?_ _)); exact BK1.out) hb); replace BK2 := Aside0.mk (blk_below (g := w.heap.size + 1) (o := .cells #[.int .i64 0, .int .i64 0, .int .i64 0, .int .i64 0, .int .i64 0] 23 (0, 0)) (by (with_reducible repeat (first | refine blk_drewN ?_ _ | refine blk_drew ?_ | refine blk_alloc ?_ _)); exact BK2.out) hb); replace BK4 := Aside0.mk (blk_below (g := g4) (o := .cells #[.int .i64 o, .int .i64 0, .int .i64 0, .int .i64 0, .int .i64 0] 23 (0, 0)) (by (with_reducible repeat (first | refine blk_drewN ?_ _ | refine blk_drew ?_ | refine blk_alloc ?_ _)); exact BK4.out) hb); replace HB := Aside0.mk (below_step (by repeat (first | (with_reducible first | exact HB.out | apply below_alloc | apply pw_below_drewN | apply below_drew1 | refine below_set ?_ GE4.out) | exact HB.out)) hb); clear hb; obtain ⟨z0, z1, z2, z3, z4, y0, y1, y2, y3, y4⟩ := impl_readInstr.cel BK4.out))
            go_meet
            case rel => exact ⟨_, rfl, ⟨by simp⟩, ⟨by repeat (first | exact BK1.out | refine blk_far ?_ GN1.out _)⟩, ⟨by repeat (first | exact BK2.out | refine blk_far ?_ GN2.out _)⟩, ⟨blk_put (blk_put (BK4.out) 1 _ rfl) 2 _ rfl⟩, ⟨(by repeat (first | (with_reducible first | exact HB.out | apply below_alloc | apply pw_below_drewN | apply below_drew1 | refine below_set ?_ GE4.out) | exact HB.out))⟩⟩
          have c7b : (F == 7) = false := beq_eq_false_iff_ne.mpr c7
          by_cases c8 : F = 8
          · subst c8
            go_wp2_with (first | (go_at_call 26; refine (impl_readInstr.word l0 (some ad) c0 w.heap.size _ _ ((blk_cell (g := w.heap.size) (t := 36) (cs := #[.slice (some ad) l0.length c0]) (by (with_reducible repeat (first | refine blk_drewN ?_ _ | refine blk_drew ?_ | refine blk_alloc ?_ _)); exact BK1.out) 0).trans rfl) (Kd.C_below HRW.out (by repeat (first | (with_reducible first | exact HB.out | apply below_alloc | apply pw_below_drewN | apply below_drew1 | refine below_set ?_ GE4.out) | exact HB.out))) (by decide) (by decide)).mono ?_; rintro e w' ⟨rfl, ⟨nd, rfl⟩⟩) | (go_at_call 28; (first | (with_reducible refine (impl_readReg.calls (impl_readInstr.wd l0 1) q1 _ HQ1.out).mono ?_) | (with_reducible refine (impl_readReg.calls (impl_readInstr.wd l0 2) q2 _ HQ2.out).mono ?_) | (with_reducible refine (impl_readReg.calls (impl_readInstr.wd l0 3) q3 _ HQ3.out).mono ?_)); rintro e w' ⟨rfl, hb⟩; (try clear z0 z1 z2 z3 z4 y0 y1 y2 y3 y4); replace BK1 := Aside0.mk (blk_below (g := w.heap.size) (o := .cells #[.slice (some ad) l0.length c0] 36 (0, 0)) (by (with_reducible repeat (first | refine blk_drewN ?_ _ | refine blk_drew ?_ | refine blk_alloc ?_ _)); exact BK1.out) hb); replace BK2 := Aside0.mk (blk_below (g := w.heap.size + 1) (o := .cells #[.int .i64 0, .int .i64 0, .int .i64 0, .int .i64 0, .int .i64 0] 23 (0, 0)) (by (with_reducible repeat (first | refine blk_drewN ?_ _ | refine blk_drew ?_ | refine blk_alloc ?_ _)); exact BK2.out) hb); replace BK4 := Aside0.mk (blk_below (g := g4) (o := .cells #[.int .i64 o, .int .i64 0, .int .i64 0, .int .i64 0, .int .i64 0] 23 (0, 0)) (by (with_reducible repeat (first | refine blk_drewN ?_ _ | refine blk_drew ?_ | refine blk_alloc ?_ _)); exact BK4.out) hb); replace HB := Aside0.mk (below_step (by repeat (first | (with_reducible first | exact HB.out | apply below_alloc | apply pw_below_drewN | apply below_drew1 | refine below_set ?_ GE4.out) | exact HB.out)) hb); clear hb; obtain ⟨z0, z1, z2, z3, z4, y0, y1, y2, y3, y4⟩ := impl_readInstr.cel BK4.out))
            go_meet
            case rel => exact ⟨_, rfl, ⟨by simp⟩, ⟨by repeat (first | exact BK1.out | refine blk_far ?_ GN1.out _)⟩, ⟨by repeat (first | exact BK2.out | refine blk_far ?_ GN2.out _)⟩, ⟨blk_put (blk_put (blk_put (BK4.out) 1 _ rfl) 2 _ rfl) 3 _ rfl⟩, ⟨(by repeat (first | (with_reducible first | exact HB.out | apply below_alloc | apply pw_below_drewN | apply below_drew1 | refine below_set ?_ GE4.out) | exact HB.out))⟩⟩
          have c8b : (F == 8) = false := beq_eq_false_iff_ne.mpr c8
          go_wp2
          go_meet
          case rel => exact ⟨_, rfl, ⟨by rw [if_neg (by omega)]⟩, BK1, BK2, by simpa [impl_readInstr.d, impl_readInstr.a, impl_readInstr.b, c1, c2, c3, c4, c5, c6, c7, c8] using BK4, HB⟩
      case rest =>
          clear BK1 BK2 BK4 HB z0 z1 z2 z3 z4 y0 y1 y2 y3 y4
          obtain ⟨x7, rfl, E7, BK1, BK2, BK4, HB⟩ := hcut
          go_upto_region 22 with (fail)
          go_cut [85] (fun v85 wc => v85 = .bool (F != 8 && F != 9) ∧ Aside0 (wc.heap[w.heap.size]? = some (.cells #[.slice (some ad) l0.length c0] 36 (0, 0))) ∧ Aside0 (wc.heap[w.heap.size + 1]? = some (.cells #[.int .i64 0, .int .i64 0, .int .i64 0, .int .i64 0, .int .i64 0] 23 (0, 0))) ∧ Aside0 (wc.heap[g4]? = some (.cells #[.int .i64 o, .int .i64 (impl_readInstr.d F q1), .int .i64 (impl_readInstr.a F q1 q2), .int .i64 (impl_readInstr.b F q1 q2 q3), .int .i64 0] 23 (0, 0))) ∧ Aside0 (Below w.heap.size w wc))
          case first =>
            by_cases c8 : F = 8
            · subst c8
              go_wp2
              go_meet
              case rel => exact ⟨rfl, BK1, BK2, BK4, HB⟩
            have c8b : (F != 8) = true := bne_iff_ne.mpr c8
            go_wp2
            go_meet
            case rel => exact ⟨by simp [c8b], BK1, BK2, BK4, HB⟩
          case rest =>
            clear BK1 BK2 BK4 HB
            obtain ⟨rfl, BK1, BK2, BK4, HB⟩ := hcut
            go_upto_if 85 with (fail)
            go_cut [7] (fun v7 wc => Aside0 (wc.heap[w.heap.size]? = some (.cells #[.slice (some ad) l0.length c0] 36 (0, 0))) ∧ Aside0 (wc.heap[w.heap.size + 1]? = some (.cells #[.int .i64 0, .int .i64 0, .int .i64 0, .int .i64 0, .int .i64 0] 23 (0, 0))) ∧ Aside0 (wc.heap[g4]? = some (.cells #[.int .i64 o, .int .i64 (impl_readInstr.d F q1), .int .i64 (impl_readInstr.a F q1 q2), .int .i64 (impl_readInstr.b F q1 q2 q3), .int .i64 (impl_readInstr.i F n2.1 n3.1)] 23 (0, 0))) ∧ Aside0 (Below w.heap.size w wc))
            case first =>
              by_cases c8 : F = 8
              · subst c8
                go_wp2
                go_meet
                case rel => exact ⟨BK1, BK2, BK4, HB⟩
              by_cases c9 : F = 9
              · subst c9
                go_wp2
                go_meet
                case rel => exact ⟨BK1, BK2, BK4, HB⟩
              have cb : (F != 8 && F != 9) = true := by simp [c8, c9]
              rw [cb]
              obtain ⟨z0, z1, z2, z3, z4, y0, y1, y2, y3, y4⟩ := impl_readInstr.cel BK4.out
              by_cases c12 : F = 1 ∨ F = 2
              · obtain rfl : x7 = 2 := by rw [E7.out, if_pos c12]
                go_wp2_with (first | (go_at_call 26; refine (impl_readInstr.word l0 (some ad) c0 w.heap.size _ _ ((blk_cell (g := w.heap.size) (t := 36) (cs := #[.slice (some ad) l0.length c0]) (by (with_reducible repeat (first | refine blk_drewN ?_ _ | refine blk_drew ?_ | refine blk_alloc ?_ _)); exact BK1.out) 0).trans rfl) (Kd.C_below HRW.out (by repeat (first | (with_reducible first | exact HB.out | apply below_alloc | apply pw_below_drewN | apply below_drew1 | refine below_set ?_ GE4.out) | exact HB.out))) (by decide) (by decide)).mono ?_; rintro e w' ⟨rfl, ⟨nd, rfl⟩⟩) | (go_at_call 29; (first | (with_reducible refine (impl_readInt.calls (impl_readInstr.wd l0 2) n2.1 n2.2 _ HN2.out).mono ?_) | (with_reducible refine (impl_readInt.calls (impl_readInstr.wd l0 3) n3.1 n3.2 _ HN3.out).mono ?_)); rintro e w' ⟨rfl, hb⟩; (try clear z0 z1 z2 z3 z4 y0 y1 y2 y3 y4); replace BK1 := Aside0.mk (blk_below (g := w.heap.size) (o := .cells #[.slice (some ad) l0.length c0] 36 (0, 0)) (by (with_reducible repeat (first | refine blk_drewN ?_ _ | refine blk_drew ?_ | refine blk_alloc ?_ _)); exact BK1.out) hb); replace BK2 := Aside0.mk (blk_below (g := w.heap.size + 1) (o := .cells #[.int .i64 0, .int .i64 0, .int .i64 0, .int .i64 0, .int .i64 0] 23 (0, 0)) (by (with_reducible repeat (first | refine blk_drewN ?_ _ | refine blk_drew ?_ | refine blk_alloc ?_ _)); exact BK2.out) hb); replace BK4 := Aside0.mk (blk_below (g := g4) (o := .cells #[.int .i64 o, .int .i64 (impl_readInstr.d F q1), .int .i64 (impl_readInstr.a F q1 q2), .int .i64 (impl_readInstr.b F q1 q2 q3), .int .i64 0] 23 (0, 0)) (by (with_reducible repeat (first | refine blk_drewN ?_ _ | refine blk_drew ?_ | refine blk_alloc ?_ _)); exact BK4.out) hb); replace HB := Aside0.mk (below_step (by repeat (first | (with_reducible first | exact HB.out | apply below_alloc | apply pw_below_drewN | apply below_drew1 | refine below_set ?_ GE4.out) | exact HB.out)) hb); clear hb; obtain ⟨z0, z1, z2, z3, z4, y0, y1, y2, y3, y4⟩ := impl_readInstr.cel BK4.out))
                go_meet
                have ei : impl_readInstr.i F n2.1 n3.1 = n2.1 := by simp [impl_readInstr.i, c12, c8, c9]
                rw [ei]
                case rel => exact ⟨⟨by repeat (first | exact BK1.out | refine blk_far ?_ GN1.out _)⟩, ⟨by repeat (first | exact BK2.out | refine blk_far ?_ GN2.out _)⟩, ⟨blk_put (BK4.out) 4 _ rfl⟩, ⟨(by repeat (first | (with_reducible first | exact HB.out | apply below_alloc | apply pw_below_drewN | apply below_drew1 | refine below_set ?_ GE4.out) | exact HB.out))⟩⟩
              · obtain rfl : x7 = 3 := by rw [E7.out, if_neg c12]
                go_wp2_with (first | (go_at_call 26; refine (impl_readInstr.word l0 (some ad) c0 w.heap.size _ _ ((blk_cell (g := w.heap.size) (t := 36) (cs := #[.slice (some ad) l0.length c0]) (by (with_reducible repeat (first | refine blk_drewN ?_ _ | refine blk_drew ?_ | refine blk_alloc ?_ _)); exact BK1.out) 0).trans rfl) (Kd.C_below HRW.out (by repeat (first | (with_reducible first | exact HB.out | apply below_alloc | apply pw_below_drewN | apply below_drew1 | refine below_set ?_ GE4.out) | exact HB.out))) (by decide) (by decide)).mono ?_; rintro e w' ⟨rfl, ⟨nd, rfl⟩⟩) | (go_at_call 29; (first | (with_reducible refine (impl_readInt.calls (impl_readInstr.wd l0 2) n2.1 n2.2 _ HN2.out).mono ?_) | (with_reducible refine (impl_readInt.calls (impl_readInstr.wd l0 3) n3.1 n3.2 _ HN3.out).mono ?_)); rintro e w' ⟨rfl, hb⟩; (try clear z0 z1 z2 z3 z4 y0 y1 y2 y3 y4); replace BK1 := Aside0.mk (blk_below (g := w.heap.size) (o := .cells #[.slice (some ad) l0.length c0] 36 (0, 0)) (by (with_reducible repeat (first | refine blk_drewN ?_ _ | refine blk_drew ?_ | refine blk_alloc ?_ _)); exact BK1.out) hb); replace BK2 := Aside0.mk (blk_below (g := w.heap.size + 1) (o := .cells #[.int .i64 0, .int .i64 0, .int .i64 0, .int .i64 0, .int .i64 0] 23 (0, 0)) (by (with_reducible repeat (first | refine blk_drewN ?_ _ | refine blk_drew ?_ | refine blk_alloc ?_ _)); exact BK2.out) hb); replace BK4 := Aside0.mk (blk_below (g := g4) (o := .cells #[.int .i64 o, .int .i64 (impl_readInstr.d F q1), .int .i64 (impl_readInstr.a F q1 q2), .int .i64 (impl_readInstr.b F q1 q2 q3), .int .i64 0] 23 (0, 0)) (by (with_reducible repeat (first | refine blk_drewN ?_ _ | refine blk_drew ?_ | refine blk_alloc ?_ _)); exact BK4.out) hb); replace HB := Aside0.mk (below_step (by repeat (first | (with_reducible first | exact HB.out | apply below_alloc | apply pw_below_drewN | apply below_drew1 | refine below_set ?_ GE4.out) | exact HB.out)) hb); clear hb; obtain ⟨z0, z1, z2, z3, z4, y0, y1, y2, y3, y4⟩ := impl_readInstr.cel BK4.out))
                go_meet
                have ei : impl_readInstr.i F n2.1 n3.1 = n3.1 := by simp [impl_readInstr.i, c12, c8, c9]
                rw [ei]
                case rel => exact ⟨⟨by repeat (first | exact BK1.out | refine blk_far ?_ GN1.out _)⟩, ⟨by repeat (first | exact BK2.out | refine blk_far ?_ GN2.out _)⟩, ⟨blk_put (BK4.out) 4 _ rfl⟩, ⟨(by repeat (first | (with_reducible first | exact HB.out | apply below_alloc | apply pw_below_drewN | apply below_drew1 | refine below_set ?_ GE4.out) | exact HB.out))⟩⟩
            case rest =>
              clear BK1 BK2 BK4 HB
              obtain ⟨BK1, BK2, BK4, HB⟩ := hcut
              go_upto_region 24 with (fail)
              obtain ⟨ab, ao, rfl⟩ := HSP.out
              clear HSP E7
              obtain ⟨ok, hk, h⟩ := Option.bind_eq_some_iff.mp HH.out
              have HK := Aside0.mk hk
              clear hk HH
              replace BK1 := Aside0.mk (blk_drew BK1.out)
              replace BK2 := Aside0.mk (blk_drew BK2.out)
              replace BK4 := Aside0.mk (blk_drew BK4.out)
              replace HB := Aside0.mk (below_drew1 HB.out)
              refine start_ (n := 12) (S := fun w' => w'.cell? ⟨g4, 0, none⟩ = some (.int .i64 o) ∧ w'.cell? ⟨g4, 1, none⟩ = some (.int .i64 (impl_readInstr.d F q1)) ∧ w'.cell? ⟨g4, 2, none⟩ = some (.int .i64 (impl_readInstr.a F q1 q2)) ∧ w'.cell? ⟨g4, 3, none⟩ = some (.int .i64 (impl_readInstr.b F q1 q2 q3)) ∧ w'.cell? ⟨g4, 4, none⟩ = some (.int .i64 (impl_readInstr.i F n2.1 n3.1)) ∧ w'.cell? ⟨w.heap.size, 0, none⟩ = some (.slice (some ⟨ab, ao, none⟩) l0.length c0)) (ds := [10]) #[false, false, false, false, false, false, false, false, false, false, false, false] (by kernel_rfl) rfl rfl ⟨(blk_cell BK4.out 0).trans rfl, (blk_cell BK4.out 1).trans rfl, (blk_cell BK4.out 2).trans rfl, (blk_cell BK4.out 3).trans rfl, (blk_cell BK4.out 4).trans rfl, (blk_cell BK1.out 0).trans rfl⟩ (fun hHeld => ?_)
              generalize wc.drew = wd at BK1 BK2 BK4 HB hHeld ⊢
              refine take_ (i := 0) (N := some 94) (v := ?_) (a' := ?_) #[true, false, false, false, false, false, false, false, false, false, false, false] rfl rfl (by kernel_rfl) (fun _ _ _ h => h) (Or.inl ⟨by rfl, ?_⟩) hHeld ?_ ?_
              rotate_left
              · rintro w' ⟨s0, s1, s2, s3, s4, s5⟩
                go_simp
                with_reducible rfl
              rotate_left
              · simp only [Act.put, List.setIfInBounds_toArray, List.set_cons_zero, List.set_cons_succ, i64_w, i32_w]
                rfl
              refine take_ (i := 1) (N := some 95) (v := ?_) (a' := ?_) #[true, true, false, false, false, false, false, false, false, false, false, false] rfl rfl (by kernel_rfl) (fun _ _ _ h => h) (Or.inl ⟨by rfl, ?_⟩) hHeld ?_ ?_
              rotate_left
              · rintro w' ⟨s0, s1, s2, s3, s4, s5⟩
                go_simp
                with_reducible rfl
              rotate_left
              · simp only [Act.put, List.setIfInBounds_toArray, List.set_cons_zero, List.set_cons_succ, i64_w, i32_w]
                rfl
              refine one_ (i := 2) (N := some 96) #[true, true, true, false, false, false, false, false, false, false, false, false] rfl rfl (by kernel_rfl) (by decide) (fun K hK => ?_)
              refine goes_ Tryd.func17 (by kernel_rfl) rfl #[.agg #[.int .i64 o, .int .i64 (impl_readInstr.d F q1), .int .i64 (impl_readInstr.a F q1 q2), .int .i64 (impl_readInstr.b F q1 q2 q3), .int .i64 (impl_readInstr.i F n2.1 n3.1)]] (by rfl) rfl rfl (by (try simp only [List.map_toArray, List.map_cons, List.map_nil]); first | done | rfl | (go_simp; done)) ?_
              with_reducible refine (impl_InstrOK.calls k o (impl_readInstr.d F q1) (impl_readInstr.a F q1 q2) (impl_readInstr.b F q1 q2 q3) (impl_readInstr.i F n2.1 n3.1) ok _ HK.out).mono ?_
              rintro e w' ⟨rfl, hb⟩
              refine ⟨_, rfl, ?_⟩
              replace BK1 := Aside0.mk (blk_below (g := w.heap.size) (o := .cells #[.slice (some ⟨ab, ao, none⟩) l0.length c0] 36 (0, 0)) BK1.out hb); replace BK2 := Aside0.mk (blk_below (g := w.heap.size + 1) (o := .cells #[.int .i64 0, .int .i64 0, .int .i64 0, .int .i64 0, .int .i64 0] 23 (0, 0)) BK2.out hb); replace BK4 := Aside0.mk (blk_below (g := g4) (o := .cells #[.int .i64 o, .int .i64 (impl_readInstr.d F q1), .int .i64 (impl_readInstr.a F q1 q2), .int .i64 (impl_readInstr.b F q1 q2 q3), .int .i64 (impl_readInstr.i F n2.1 n3.1)] 23 (0, 0)) BK4.out hb); replace HB := Aside0.mk (below_step HB.out hb); clear hb
              refine hK.out _ _ ⟨(blk_cell BK4.out 0).trans rfl, (blk_cell BK4.out 1).trans rfl, (blk_cell BK4.out 2).trans rfl, (blk_cell BK4.out 3).trans rfl, (blk_cell BK4.out 4).trans rfl, (blk_cell BK1.out 0).trans rfl⟩ (fun hHeld => ?_)
              clear hK K
              refine norm_ (a' := ?_) ?_ ?_
              rotate_left
              · show Act.put _ (some 96) _ = _
                simp only [Act.put, List.setIfInBounds_toArray, List.set_cons_zero, List.set_cons_succ, i64_w, i32_w]
                rfl
              cases ok with
              | false =>
                rw [if_neg (by decide)] at h
                simp only [Option.some.injEq, Prod.mk.injEq] at h
                obtain ⟨rfl, rfl, rfl, rfl, rfl, rfl⟩ := h
                refine pure_ (i := 3) (N := some 97) (v := ?_) (a' := ?_) #[true, true, true, true, false, false, false, false, false, false, false, false] rfl rfl (by kernel_rfl) (fun _ _ _ h => h) (Or.inl ⟨by rfl, ?_⟩) ?_ ?_
                rotate_left
                · intro w'
                  go_simp
                  with_reducible rfl
                rotate_left
                · simp only [Act.put, List.setIfInBounds_toArray, List.set_cons_zero, List.set_cons_succ, i64_w, i32_w]
                  rfl
                refine pure_ (i := 4) (N := some 98) (v := undef) (a' := ?_) #[true, true, true, true, true, false, false, false, false, false, false, false] rfl rfl (by kernel_rfl) (fun _ _ _ h => h) (Or.inr ⟨by rfl, rfl⟩) ?_ ?_
                rotate_left
                · simp only [Act.put, List.setIfInBounds_toArray, List.set_cons_zero, List.set_cons_succ, i64_w, i32_w]
                  rfl
                refine pure_ (i := 5) (N := some 99) (v := undef) (a' := ?_) #[true, true, true, true, true, true, false, false, false, false, false, false] rfl rfl (by kernel_rfl) (fun _ _ _ h => h) (Or.inr ⟨by rfl, rfl⟩) ?_ ?_
                rotate_left
                · simp only [Act.put, List.setIfInBounds_toArray, List.set_cons_zero, List.set_cons_succ, i64_w, i32_w]
                  rfl
                refine pure_ (i := 6) (N := some 100) (v := undef) (a' := ?_) #[true, true, true, true, true, true, true, false, false, false, false, false] rfl rfl (by kernel_rfl) (fun _ _ _ h => h) (Or.inr ⟨by rfl, rfl⟩) ?_ ?_
                rotate_left
                · simp only [Act.put, List.setIfInBounds_toArray, List.set_cons_zero, List.set_cons_succ, i64_w, i32_w]
                  rfl
                refine pure_ (i := 7) (N := some 101) (v := undef) (a' := ?_) #[true, true, true, true, true, true, true, true, false, false, false, false] rfl rfl (by kernel_rfl) (fun _ _ _ h => h) (Or.inr ⟨by rfl, rfl⟩) ?_ ?_
                rotate_left
                · simp only [Act.put, List.setIfInBounds_toArray, List.set_cons_zero, List.set_cons_succ, i64_w, i32_w]
                  rfl
                refine pure_ (i := 8) (N := some 102) (v := undef) (a' := ?_) #[true, true, true, true, true, true, true, true, true, false, false, false] rfl rfl (by kernel_rfl) (fun _ _ _ h => h) (Or.inr ⟨by rfl, rfl⟩) ?_ ?_
                rotate_left
                · simp only [Act.put, List.setIfInBounds_toArray, List.set_cons_zero, List.set_cons_succ, i64_w, i32_w]
                  rfl
                refine pure_ (i := 9) (N := some 103) (v := ?_) (a' := ?_) #[true, true, true, true, true, true, true, true, true, true, false, false] rfl rfl (by kernel_rfl) (fun _ _ _ h => h) (Or.inl ⟨by rfl, ?_⟩) ?_ ?_
                rotate_left
                · intro w'
                  go_simp
                  with_reducible rfl
                rotate_left
                · simp only [Act.put, List.setIfInBounds_toArray, List.set_cons_zero, List.set_cons_succ, i64_w, i32_w]
                  rfl
                refine last_ (i := 10) (N := none) #[true, true, true, true, true, true, true, true, true, true, true, false] rfl rfl (by kernel_rfl) (by decide) (fun K hK => ?_)
                obtain ⟨t0, t1, t2, t3, t4, f0, f1, f2, f3_, f4⟩ := impl_readInstr.cel BK2.out
                refine skip_ (w1 := ?_) (by rfl) rfl ?_ ?_
                rotate_left
                · go_simp
                  rfl
                refine hK.out _ _ ?_
                clear hK K
                refine pure_ (i := 11) (N := some 3) (v := ?_) (a' := ?_) #[true, true, true, true, true, true, true, true, true, true, true, true] rfl rfl (by kernel_rfl) (fun _ _ _ h => h) (Or.inl ⟨by rfl, ?_⟩) ?_ ?_
                rotate_left
                · intro w'
                  go_simp
                  with_reducible rfl
                rotate_left
                · simp only [Act.put, List.setIfInBounds_toArray, List.set_cons_zero, List.set_cons_succ, i64_w, i32_w]
                  rfl
                refine done_ (by kernel_rfl) ?_
                try go_wp2
                have ge : w.heap.size ≤ w.heap.size + 1 := Nat.le_succ _
                refine bodyPost_ret (results_ct rfl _ _ (w.heap.size + 1) 23 #[.int .i64 o, .int .i64 (impl_readInstr.d F q1), .int .i64 (impl_readInstr.a F q1 q2), .int .i64 (impl_readInstr.b F q1 q2 q3), .int .i64 (impl_readInstr.i F n2.1 n3.1)] (0, 0) _ rfl (blk_put (blk_put (blk_put (blk_put (blk_put BK2.out 0 _ rfl) 1 _ rfl) 2 _ rfl) 3 _ rfl) 4 _ rfl) Tryd.underlying23 rfl (by kernel_rfl)) rfl ?_
                exact ⟨by first | rfl | (simp; done) | (simp; rw [Bool.eq_iff_iff]; exact ⟨fun h => decide_eq_true (eq_of_beq h), fun h => beq_iff_eq.mpr (of_decide_eq_true h)⟩), below_set (below_set (below_set (below_set (below_set HB.out ge) ge) ge) ge) ge⟩
              | true =>
                rw [if_pos rfl] at h
                obtain ⟨t, ht, h⟩ := Option.bind_eq_some_iff.mp h
                have HT := Aside0.mk ht
                clear ht
                split at h
                · rename_i hj
                  have HJ := Aside0.mk hj
                  simp only [Option.some.injEq, Prod.mk.injEq] at h
                  obtain ⟨rfl, rfl, rfl, rfl, rfl, rfl⟩ := h
                  clear hj
                  refine pure_ (i := 3) (N := some 97) (v := ?_) (a' := ?_) #[true, true, true, true, false, false, false, false, false, false, false, false] rfl rfl (by kernel_rfl) (fun _ _ _ h => h) (Or.inl ⟨by rfl, ?_⟩) ?_ ?_
                  rotate_left
                  · intro w'
                    go_simp
                    with_reducible rfl
                  rotate_left
                  · simp only [Act.put, List.setIfInBounds_toArray, List.set_cons_zero, List.set_cons_succ, i64_w, i32_w]
                    rfl
                  refine take_ (i := 4) (N := some 98) (v := ?_) (a' := ?_) #[true, true, true, true, true, false, false, false, false, false, false, false] rfl rfl (by kernel_rfl) (fun _ _ _ h => h) (Or.inl ⟨by rfl, ?_⟩) hHeld ?_ ?_
                  rotate_left
                  · rintro w' ⟨s0, s1, s2, s3, s4, s5⟩
                    go_simp
                    with_reducible rfl
                  rotate_left
                  · simp only [Act.put, List.setIfInBounds_toArray, List.set_cons_zero, List.set_cons_succ, i64_w, i32_w]
                    rfl
                  refine take_ (i := 6) (N := some 100) (v := ?_) (a' := ?_) #[true, true, true, true, true, false, true, false, false, false, false, false] rfl rfl (by kernel_rfl) (fun _ _ _ h => h) (Or.inl ⟨by rfl, ?_⟩) hHeld ?_ ?_
                  rotate_left
                  · rintro w' ⟨s0, s1, s2, s3, s4, s5⟩
                    go_simp
                    with_reducible rfl
                  rotate_left
                  · simp only [Act.put, List.setIfInBounds_toArray, List.set_cons_zero, List.set_cons_succ, i64_w, i32_w]
                    rfl
                  refine one_ (i := 5) (N := some 99) #[true, true, true, true, true, true, true, false, false, false, false, false] rfl rfl (by kernel_rfl) (by decide) (fun K hK => ?_)
                  refine goes_ Tryd.func18 (by kernel_rfl) rfl #[.agg #[.int .i64 o, .int .i64 (impl_readInstr.d F q1), .int .i64 (impl_readInstr.a F q1 q2), .int .i64 (impl_readInstr.b F q1 q2 q3), .int .i64 (impl_readInstr.i F n2.1 n3.1)]] (by rfl) rfl rfl (by (try simp only [List.map_toArray, List.map_cons, List.map_nil]); first | done | rfl | (go_simp; done)) ?_
                  with_reducible refine (impl_instrText.calls k o (impl_readInstr.d F q1) (impl_readInstr.a F q1 q2) (impl_readInstr.b F q1 q2 q3) (impl_readInstr.i F n2.1 n3.1) t _ HT.out).mono ?_
                  rintro e w' ⟨rfl, hb⟩
                  refine ⟨_, rfl, ?_⟩
                  replace BK1 := Aside0.mk (blk_below (g := w.heap.size) (o := .cells #[.slice (some ⟨ab, ao, none⟩) l0.length c0] 36 (0, 0)) BK1.out hb); replace BK2 := Aside0.mk (blk_below (g := w.heap.size + 1) (o := .cells #[.int .i64 0, .int .i64 0, .int .i64 0, .int .i64 0, .int .i64 0] 23 (0, 0)) BK2.out hb); replace BK4 := Aside0.mk (blk_below (g := g4) (o := .cells #[.int .i64 o, .int .i64 (impl_readInstr.d F q1), .int .i64 (impl_readInstr.a F q1 q2), .int .i64 (impl_readInstr.b F q1 q2 q3), .int .i64 (impl_readInstr.i F n2.1 n3.1)] 23 (0, 0)) BK4.out hb); replace HB := Aside0.mk (below_step HB.out hb); clear hb
                  refine hK.out _ _ ⟨(blk_cell BK4.out 0).trans rfl, (blk_cell BK4.out 1).trans rfl, (blk_cell BK4.out 2).trans rfl, (blk_cell BK4.out 3).trans rfl, (blk_cell BK4.out 4).trans rfl, (blk_cell BK1.out 0).trans rfl⟩ (fun hHeld => ?_)
                  clear hK K
                  refine norm_ (a' := ?_) ?_ ?_
                  rotate_left
                  · show Act.put _ (some 99) _ = _
                    simp only [Act.put, List.setIfInBounds_toArray, List.set_cons_zero, List.set_cons_succ, i64_w, i32_w]
                    rfl
                  refine one_ (i := 7) (N := some 101) #[true, true, true, true, true, true, true, true, false, false, false, false] rfl rfl (by kernel_rfl) (by decide) (fun K hK => ?_)
                  refine goes_ Tryd.func30 (by kernel_rfl) rfl #[.slice (some ⟨ab, ao, none⟩) l0.length c0, .string ⟨#[32]⟩] (by rfl) rfl rfl (by (try simp only [List.map_toArray, List.map_cons, List.map_nil]); first | done | rfl | (go_simp; done)) ?_
                  with_reducible refine (impl_readInstr.join _ ab ao c0 l0 (Kd.C_below HRW.out (by repeat (first | (with_reducible first | exact HB.out | apply below_alloc | apply pw_below_drewN | apply below_drew1 | refine below_set ?_ GE4.out) | exact HB.out))) HL.out HCW.out HJ.out).mono ?_
                  rintro e w' ⟨rfl, hb⟩
                  refine ⟨_, rfl, ?_⟩
                  replace BK1 := Aside0.mk (blk_below (g := w.heap.size) (o := .cells #[.slice (some ⟨ab, ao, none⟩) l0.length c0] 36 (0, 0)) BK1.out hb); replace BK2 := Aside0.mk (blk_below (g := w.heap.size + 1) (o := .cells #[.int .i64 0, .int .i64 0, .int .i64 0, .int .i64 0, .int .i64 0] 23 (0, 0)) BK2.out hb); replace BK4 := Aside0.mk (blk_below (g := g4) (o := .cells #[.int .i64 o, .int .i64 (impl_readInstr.d F q1), .int .i64 (impl_readInstr.a F q1 q2), .int .i64 (impl_readInstr.b F q1 q2 q3), .int .i64 (impl_readInstr.i F n2.1 n3.1)] 23 (0, 0)) BK4.out hb); replace HB := Aside0.mk (below_step HB.out hb); clear hb
                  refine hK.out _ _ ⟨(blk_cell BK4.out 0).trans rfl, (blk_cell BK4.out 1).trans rfl, (blk_cell BK4.out 2).trans rfl, (blk_cell BK4.out 3).trans rfl, (blk_cell BK4.out 4).trans rfl, (blk_cell BK1.out 0).trans rfl⟩ (fun hHeld => ?_)
                  clear hK K
                  refine norm_ (a' := ?_) ?_ ?_
                  rotate_left
                  · show Act.put _ (some 101) _ = _
                    simp only [Act.put, List.setIfInBounds_toArray, List.set_cons_zero, List.set_cons_succ, i64_w, i32_w]
                    rfl
                  refine pure_ (i := 8) (N := some 102) (v := ?_) (a' := ?_) #[true, true, true, true, true, true, true, true, true, false, false, false] rfl rfl (by kernel_rfl) (fun _ _ _ h => h) (Or.inl ⟨by rfl, ?_⟩) ?_ ?_
                  rotate_left
                  · intro w'
                    go_simp
                    with_reducible rfl
                  rotate_left
                  · simp only [Act.put, List.setIfInBounds_toArray, List.set_cons_zero, List.set_cons_succ, i64_w, i32_w]
                    rfl
                  refine pure_ (i := 9) (N := some 103) (v := ?_) (a' := ?_) #[true, true, true, true, true, true, true, true, true, true, false, false] rfl rfl (by kernel_rfl) (fun _ _ _ h => h) (Or.inl ⟨by rfl, ?_⟩) ?_ ?_
                  rotate_left
                  · intro w'
                    go_simp
                    with_reducible rfl
                  rotate_left
                  · simp only [Act.put, List.setIfInBounds_toArray, List.set_cons_zero, List.set_cons_succ, i64_w, i32_w]
                    rfl
                  refine last_ (i := 10) (N := none) #[true, true, true, true, true, true, true, true, true, true, true, false] rfl rfl (by kernel_rfl) (by decide) (fun K hK => ?_)
                  obtain ⟨t0, t1, t2, t3, t4, f0, f1, f2, f3_, f4⟩ := impl_readInstr.cel BK2.out
                  refine skip_ (w1 := ?_) (by rfl) rfl ?_ ?_
                  rotate_left
                  · go_simp
                    rfl
                  refine hK.out _ _ ?_
                  clear hK K
                  refine pure_ (i := 11) (N := some 3) (v := ?_) (a' := ?_) #[true, true, true, true, true, true, true, true, true, true, true, true] rfl rfl (by kernel_rfl) (fun _ _ _ h => h) (Or.inl ⟨by rfl, ?_⟩) ?_ ?_
                  rotate_left
                  · intro w'
                    go_simp
                    with_reducible rfl
                  rotate_left
                  · simp only [Act.put, List.setIfInBounds_toArray, List.set_cons_zero, List.set_cons_succ, i64_w, i32_w]
                    rfl
                  refine done_ (by kernel_rfl) ?_
                  try go_wp2
                  have ge : w.heap.size ≤ w.heap.size + 1 := Nat.le_succ _
                  refine bodyPost_ret (results_ct rfl _ _ (w.heap.size + 1) 23 #[.int .i64 o, .int .i64 (impl_readInstr.d F q1), .int .i64 (impl_readInstr.a F q1 q2), .int .i64 (impl_readInstr.b F q1 q2 q3), .int .i64 (impl_readInstr.i F n2.1 n3.1)] (0, 0) _ rfl (blk_put (blk_put (blk_put (blk_put (blk_put BK2.out 0 _ rfl) 1 _ rfl) 2 _ rfl) 3 _ rfl) 4 _ rfl) Tryd.underlying23 rfl (by kernel_rfl)) rfl ?_
                  exact ⟨by first | rfl | (simp; done) | (simp; rw [Bool.eq_iff_iff]; exact ⟨fun h => decide_eq_true (eq_of_beq h), fun h => beq_iff_eq.mpr (of_decide_eq_true h)⟩), below_set (below_set (below_set (below_set (below_set HB.out ge) ge) ge) ge) ge⟩
                · cases h

-- NOT PRINTED: function 55 (slices_IndexFunc_string_string)

-- NOT PRINTED: function 31 (slices_DeleteFunc_string_string)

-- NOT PRINTED: function 75 (utf8_RuneCountInString)

-- NOT PRINTED: function 83 (utf8_decodeRuneInStringSlow)

-- NOT PRINTED: function 76 (utf8_DecodeRuneInString)

-- NOT PRINTED: function 63 (strings_explode)

-- NOT PRINTED: function 94 (bytealg_IndexByteString)

end Go.Proofs.YtgdjpbknlbhaeaaDoor.PFnExactInstrText
