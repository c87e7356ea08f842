/- The walk of FnExactGetBytes: each Go function that the law reaches as a plain Lean function, with the proof that a call does what it says; no conditions. Written by a program for this claim. -/
import Derived.Test.YtbhempnfbginoaaZFnExactGetBytesa
import Derived.Test.YtbhempnfbginoaaRows
import Derived.Test.YtbhempnfbginoaaPFnExactGetBytesx8
import Derived.Test.YtbhempnfbginoaaPureFnExactGetBytes
import Derived.WalkKit
import Derived.ProofKit
import Derived.OpenShut
import Derived.ShutString
import Derived.ChangeOld
import Derived.Below
import Derived.SizedLaws
import Derived.Deep.Fields
import Derived.Deep.Fields
import Derived.Deep.Slices
namespace Go.Proofs.Ytbhempnfbginoaa.fnExactGetBytes
open Go.ChangeShapes Go.WideShapes Go.ChangeAt Go.RowKit Go.Deep Go.Deep Go.Proofs.Ytbhempnfbginoaa.PFnExactGetBytes Go.Proofs.YtbhempnfbginoaaW.PrintWords Go.Proofs.YtbhempnfbginoaaW.PrintLast
open Go.ChangeMaps (open_string shut_string)
set_option linter.unusedVariables false
theorem own : ownKnob Try.prog.godebug = none := by kernel_rfl
theorem laidOut : laidOutB Try.prog = true := by kernel_rfl
def IsRow (k : IntKind) (w : World) (a : Option Addr) (len cap : Nat) (zs : List Int) : Prop :=
  (a = none ∧ len = 0 ∧ cap = 0 ∧ zs = []) ∨
  ∃ x, a = some x ∧ len ≤ cap ∧ cap ≤ maxLen ∧ zs.length = cap ∧ (∀ i, i < zs.length → w.cell? (x.add i) = some (.int k (zs.getD i 0))) ∧ ∀ n ∈ zs, (Lit.int k n).wf = true
theorem list_of {α : Type} {Q : Nat → α → Prop} : ∀ n : Nat, (∀ i, i < n → ∃ x, Q i x) → ∃ l : List α, l.length = n ∧ ∀ j x, l[j]? = some x → Q j x
  | 0, _ => ⟨[], rfl, fun j x h => by simp at h⟩
  | n + 1, h => by
    obtain ⟨l, hl, hq⟩ := list_of n (fun i hi => h i (by omega))
    obtain ⟨x, hx⟩ := h n (by omega)
    refine ⟨l ++ [x], by simp [hl], fun j y hy => ?_⟩
    by_cases c : j < n
    · rw [List.getElem?_append_left (by omega)] at hy
      exact hq j y hy
    · rw [List.getElem?_append_right (by omega)] at hy
      have hj : j - l.length = 0 := by
        by_cases e : j - l.length = 0
        · exact e
        · obtain ⟨m, hm⟩ : ∃ m, j - l.length = m + 1 := ⟨j - l.length - 1, by omega⟩
          rw [hm] at hy
          simp at hy
      rw [hj] at hy
      have e1 : x = y := by simpa using hy
      have e2 : j = n := by omega
      rw [← e1, e2]
      exact hx
section
variable {H : Type} {enc : TypeId × Value → H} {P : Program} {w : World} {base : Nat}
theorem rows_94 {t e : TypeId} {f0 f1 f2 : Field} {fuel : Nat} {c : Value} {x : DataW H × List MemPlace} (ht : P.underlying t = some (.slice e)) (hs : P.underlying e = some (.struct #[f0, f1, f2])) (hone : oneCellFields P #[f0, f1, f2] = true) (hC : P.cellsOf e = 3)
    (i0 : P.underlying f0.type = some (.int .i64)) (i1 : P.underlying f1.type = some (.int .i64)) (i2 : P.underlying f2.type = some (.string)) (h : DataW.trod enc P w base (fun _ => true) true fuel t [c] = some x) :
    ∃ (a : Option Addr) (cap : Nat) (l : List S94), c = .slice a l.length cap ∧ Kd.C k94 w a l.length l ∧ l.length ≤ cap ∧ l.length ≤ maxLen ∧ ∀ x ∈ l, (Lit.int .i64 x.f0).wf = true ∧ (Lit.int .i64 x.f1).wf = true ∧ x.f2.size ≤ maxLen := by
  rcases open_slice ht h with ⟨hcs, _⟩ | ⟨a, len, cap, m, n, D, Pl, hcs, _, hl, hm, hmm, _, hi⟩
  · obtain rfl : c = .slice none 0 0 := by simpa using hcs
    exact ⟨none, 0, [], rfl, ⟨rfl, by decide, fun h => absurd h (by decide)⟩, Nat.le_refl _, by decide, fun x hx => by simp at hx⟩
  · obtain rfl : c = .slice (some a) len cap := by simpa using hcs
    have hq : ∀ i, i < len → ∃ x : S94, (w.cell? (a.add (i * 3 + 0)) = some (.int .i64 x.f0) ∧ w.cell? (a.add (i * 3 + 1)) = some (.int .i64 x.f1) ∧ w.cell? (a.add (i * 3 + 2)) = some (.string x.f2)) ∧ (Lit.int .i64 x.f0).wf = true ∧ (Lit.int .i64 x.f1).wf = true ∧ x.f2.size ≤ maxLen := by
      intro i hil
      obtain ⟨cs, hc, htr⟩ := hi i (by rw [hmm]; simp; omega)
      rw [hC] at hc
      obtain ⟨_, hlen, hat⟩ := World.cells?_some hc
      obtain ⟨xs, n2, _, _, _, hxl, hg⟩ := DataW.trod_struct hs htr
      match cs, xs, hlen, hxl with
      | [c0, c1, c2], [y0, y1, y2], _, _ =>
        obtain ⟨o0, q0⟩ := hone_of hone 0 f0 rfl
        have g0 : DataW.trod enc P w base (fun _ => true) true n2 f0.type [c0] = some y0 := by simpa [Value.cells, o0, q0] using hg 0 f0 rfl
        obtain ⟨z0, e0, _, w0⟩ := DataW.trod_int i0 g0
        obtain rfl : c0 = .int .i64 z0 := by simpa using e0
        have t0 := hat 0 (by decide)
        obtain ⟨o1, q1⟩ := hone_of hone 1 f1 rfl
        have g1 : DataW.trod enc P w base (fun _ => true) true n2 f1.type [c1] = some y1 := by simpa [Value.cells, o1, q1] using hg 1 f1 rfl
        obtain ⟨z1, e1, _, w1⟩ := DataW.trod_int i1 g1
        obtain rfl : c1 = .int .i64 z1 := by simpa using e1
        have t1 := hat 1 (by decide)
        obtain ⟨o2, q2⟩ := hone_of hone 2 f2 rfl
        have g2 : DataW.trod enc P w base (fun _ => true) true n2 f2.type [c2] = some y2 := by simpa [Value.cells, o2, q2] using hg 2 f2 rfl
        obtain ⟨z2, e2, _, w2⟩ := DataW.trod_string i2 g2
        obtain rfl : c2 = .string z2 := by simpa using e2
        have t2 := hat 2 (by decide)
        simp only [Go.Deep.add_add] at t0 t1 t2
        exact ⟨⟨z0, z1, z2⟩, ⟨t0, t1, t2⟩, w0, w1, w2⟩
    obtain ⟨l, hll, hlq⟩ := list_of len hq
    subst hll
    refine ⟨some a, cap, l, rfl, ⟨rfl, ?_, fun _ => ⟨a, rfl, fun j x hx => ?_⟩⟩, hl, by omega, fun x hx => ?_⟩
    · have : maxLen ≤ 9223372036854775807 := by decide
      omega
    · obtain ⟨⟨u0, u1, u2⟩, _⟩ := hlq j x hx
      refine ⟨_, rfl, k94_mk w x, fun i u hu => ?_⟩
      match i, hu with
      | 0, hu => cases hu; exact u0
      | 1, hu => cases hu; exact u1
      | 2, hu => cases hu; exact u2
      | i + 3, hu => simp at hu
    · obtain ⟨j, hj, rfl⟩ := List.mem_iff_getElem.1 hx
      exact (hlq j _ (List.getElem?_eq_getElem hj)).2
end
section
variable {H : Type} {enc : TypeId × Value → H} {P : Program} {w : World} {base : Nat} {spare : Nat → Bool} {held : Bool}
theorem open_whole1 {r : Reach} {b0 : Nat} {t : TypeId} {f0 : Field} {v : Value} {d : DataW H} {p : List MemPlace} (hs : P.underlying t = some (.struct #[f0])) (hone : oneCellFields P #[f0] = true) (hC : P.cellsOf t = 1)
    (hv : Value.okWide P w r b0 t v) (h : DataW.Trod enc P w base spare held t v d p) :
    ∃ (c0 : Value) (y0 : DataW H × List MemPlace) (n : Nat), v = .agg #[c0] ∧ DataW.trod enc P w base spare held n f0.type [c0] = some y0 := by
  obtain ⟨⟨cs⟩, rfl, hsz⟩ := okWide_struct hs hv
  obtain ⟨fuel, hf⟩ := h
  obtain ⟨xs, n, _, _, _, hlen, hg⟩ := DataW.trod_struct hs hf
  match cs, xs, hsz.trans hC, hlen with
  | [c0], [y0], _, _ =>
    obtain ⟨o0, q0⟩ := hone_of hone 0 f0 rfl
    have g0 : DataW.trod enc P w base spare held n f0.type [c0] = some y0 := by simpa [Value.cells, o0, q0] using hg 0 f0 rfl
    exact ⟨c0, y0, n, rfl, g0⟩
end
set_option maxRecDepth 100000 in
theorem lifted (os : Os) (started : os.Started) (H : Type) (enc : TypeId × Value → H) :
    ReturnsInHanded {} Try.checked os 8 .any (Rows.fnExactGetBytesSpec.pre6 enc Try.prog Try.f8 Rows.fnExactGetBytesRow.domain false) (Rows.fnExactGetBytesSpec.post enc Try.prog Try.f8 false true false false) := by
  refine returnsInHanded_of_change_sized (C := Try.checked) own started (by kernel_rfl) Try.func8
    (ChangeSpec.witness6 (enc := enc) (C := Try.checked) false ⟨#[], #[.agg #[.slice none 0 0], .int .i64 0, .int .i64 0], []⟩ 8 (by kernel_rfl) (by kernel_rfl) (by kernel_rfl) (by kernel_rfl)) ?_
  intro W base args ds gs before hval0 hW hcnd hsz0 _
  have hsz : (DataW.weightsEach Try.prog (Try.f8.params.toList ++ Rows.fnExactGetBytesSpec.plain.varTypes Try.prog) (ds ++ gs)).all (· ≤ reachBytes) = true := hsz0
  have hval : ∀ (j : Nat) t v, Try.f8.params[j]? = some t → args[j]? = some v → Value.okWide Try.prog W .any base t v := hval0
  have hW' := hW
  obtain ⟨p, q, hA0, hV, rfl, hfz, hnd⟩ := hW
  have hA : DataW.TrodAll enc Try.prog W 0 (fun _ => true) true Try.f8.params.toList args.toList ds p := hA0
  rw [Try.params8] at hA hval hsz
  obtain ⟨v0, vs0, d0, ds0, p0, q0, hargs, rfl, rfl, h0, r0⟩ := trodAll_cons hA
  obtain ⟨v1, vs1, d1, ds1, p1, q1, rfl, rfl, rfl, h1, r1⟩ := trodAll_cons r0
  obtain ⟨v2, vs2, d2, ds2, p2, q2, rfl, rfl, rfl, h2, r2⟩ := trodAll_cons r1
  obtain ⟨rfl, rfl, rfl⟩ := trodAll_nil r2
  obtain rfl : args = #[v0, v1, v2] := by cases args; simp_all
  obtain ⟨rfl, rfl⟩ := trodVars_none hV
  have k0 := h0
  have lt0 : ∀ x ∈ p0, x.block < W.heap.size := by obtain ⟨m, hm⟩ := k0; exact DataW.trod_lt m _ _ _ hm
  obtain ⟨C0_0, Y0_0, n0_, rfl, g0_0⟩ := open_whole1 Try.underlying39 (by kernel_rfl) (by kernel_rfl) (hval 0 39 v0 rfl rfl) h0
  obtain ⟨a0_0, cap0_0, l0_0, rfl, r0_0, c0_0, m0_0, f0_0⟩ := rows_94 Try.underlying37 Try.underlying94 (by kernel_rfl) (by kernel_rfl) Try.underlying3 Try.underlying3 Try.underlying9 g0_0
  obtain ⟨a1, rfl, rfl, rfl, w1⟩ := open_int Try.underlying3 (hval 1 3 v1 rfl rfl) h1
  obtain ⟨a2, rfl, rfl, rfl, w2⟩ := open_int Try.underlying3 (hval 2 3 v2 rfl rfl) h2
  clear hA0 hval0 hsz0 hsz
  refine (PFnExactGetBytes.laws_FnExactGetBytes.walk Pure.FnExactGetBytes a0_0 cap0_0 l0_0 a1 a2 W r0_0 c0_0 m0_0 f0_0 w1 w2).mono fun e W' ⟨he, bel⟩ => ?_
  subst he
  exact ⟨_, rfl, _, _, _, [], _, [], hW', trodAll_mk1 (shut_bool Try.underlying4 _), (trodAll_cons_mk (Below.trod laidOut (by kernel_rfl) (of_decide_eq_true (by kernel_rfl)) k0 bel lt0) (trodAll_cons_mk (shut_int Try.underlying3 w1) (trodAll_cons_mk (shut_int Try.underlying3 w2) trodAll_mk0))), rfl, bel.frame _, fun h => by cases h⟩
theorem over : Rows.fnExactGetBytesRow.holds Try.pinned (OpenSpec.ofChange Rows.fnExactGetBytesSpec) :=
  OpenClaim.holds_of_wide 8 Try.f8 rfl rfl rfl rfl rfl rfl rfl ⟨rfl, rfl, rfl, rfl, rfl⟩ rfl rfl rfl rfl rfl (by kernel_rfl) Try.func8 (by kernel_rfl)
    (of_decide_eq_true (by kernel_rfl)) (by unfold Func.isWrapper; first | (rw [if_pos (by decide +kernel)]; kernel_rfl) | (rw [if_neg (by decide +kernel)]; exact ⟨rfl, rfl⟩))
    (fun os started H enc _ => lifted os started H enc)
theorem proved : Rows.FnExactGetBytesSaid := over
#print axioms proved
end Go.Proofs.Ytbhempnfbginoaa.fnExactGetBytes
namespace Go.Proofs.Ytbhempnfbginoaa
/-- The row, under a short name, for the claim. -/
theorem fnExactGetBytes_holds : Rows.FnExactGetBytesSaid := fnExactGetBytes.proved
end Go.Proofs.Ytbhempnfbginoaa
