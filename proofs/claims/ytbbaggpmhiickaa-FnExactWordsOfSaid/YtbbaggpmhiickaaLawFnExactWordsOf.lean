/- The walk of FnExactWordsOf: each Go function that the law reaches as a plain Lean function, with the proof that a call does what it says; no conditions. Written by a program for this claim. -/
import Derived.Test.YtbbaggpmhiickaaZFnExactWordsOfa
import Derived.Test.YtbbaggpmhiickaaRows
import Derived.Test.YtbbaggpmhiickaaPFnExactWordsOfx9
import Derived.Test.YtbbaggpmhiickaaPureFnExactWordsOf
import Derived.WalkKit
import Derived.ProofKit
import Derived.OpenShut
import Derived.ShutString
import Derived.ChangeOld
import Derived.Below
import Derived.SizedLaws
import Derived.Deep.Fields
import Derived.Deep.Slices
namespace Go.Proofs.Ytbbaggpmhiickaa.fnExactWordsOf
open Go.ChangeShapes Go.WideShapes Go.ChangeAt Go.RowKit Go.Deep Go.Proofs.Ytbbaggpmhiickaa.PFnExactWordsOf Go.Proofs.YtbbaggpmhiickaaW.PrintWords Go.Proofs.YtbbaggpmhiickaaW.PrintLast
open Go.ChangeMaps (open_string shut_string)
set_option linter.unusedVariables false
theorem own : ownKnob Try.prog.godebug = none := by kernel_rfl
theorem laidOut : laidOutB Try.prog = true := by kernel_rfl
def IsRow (k : IntKind) (w : World) (a : Option Addr) (len cap : Nat) (zs : List Int) : Prop :=
  (a = none ∧ len = 0 ∧ cap = 0 ∧ zs = []) ∨
  ∃ x, a = some x ∧ len ≤ cap ∧ cap ≤ maxLen ∧ zs.length = cap ∧ (∀ i, i < zs.length → w.cell? (x.add i) = some (.int k (zs.getD i 0))) ∧ ∀ n ∈ zs, (Lit.int k n).wf = true
theorem list_of {α : Type} {Q : Nat → α → Prop} : ∀ n : Nat, (∀ i, i < n → ∃ x, Q i x) → ∃ l : List α, l.length = n ∧ ∀ j x, l[j]? = some x → Q j x
  | 0, _ => ⟨[], rfl, fun j x h => by simp at h⟩
  | n + 1, h => by
    obtain ⟨l, hl, hq⟩ := list_of n (fun i hi => h i (by omega))
    obtain ⟨x, hx⟩ := h n (by omega)
    refine ⟨l ++ [x], by simp [hl], fun j y hy => ?_⟩
    by_cases c : j < n
    · rw [List.getElem?_append_left (by omega)] at hy
      exact hq j y hy
    · rw [List.getElem?_append_right (by omega)] at hy
      have hj : j - l.length = 0 := by
        by_cases e : j - l.length = 0
        · exact e
        · obtain ⟨m, hm⟩ : ∃ m, j - l.length = m + 1 := ⟨j - l.length - 1, by omega⟩
          rw [hm] at hy
          simp at hy
      rw [hj] at hy
      have e1 : x = y := by simpa using hy
      have e2 : j = n := by omega
      rw [← e1, e2]
      exact hx
section
variable {H : Type} {enc : TypeId × Value → H} {P : Program} {w : World} {base : Nat}
theorem rows_54 {t e : TypeId} {f0 f1 f2 f3 f4 : Field} {fuel : Nat} {c : Value} {x : DataW H × List MemPlace} (ht : P.underlying t = some (.slice e)) (hs : P.underlying e = some (.struct #[f0, f1, f2, f3, f4])) (hone : oneCellFields P #[f0, f1, f2, f3, f4] = true) (hC : P.cellsOf e = 5)
    (i0 : P.underlying f0.type = some (.int .i64)) (i1 : P.underlying f1.type = some (.int .i64)) (i2 : P.underlying f2.type = some (.int .i64)) (i3 : P.underlying f3.type = some (.int .i64)) (i4 : P.underlying f4.type = some (.int .i64)) (h : DataW.trod enc P w base (fun _ => true) true fuel t [c] = some x) :
    ∃ (a : Option Addr) (cap : Nat) (l : List S54), c = .slice a l.length cap ∧ Kd.C k54 w a l.length l ∧ l.length ≤ cap ∧ l.length ≤ maxLen ∧ ∀ x ∈ l, (Lit.int .i64 x.f0).wf = true ∧ (Lit.int .i64 x.f1).wf = true ∧ (Lit.int .i64 x.f2).wf = true ∧ (Lit.int .i64 x.f3).wf = true ∧ (Lit.int .i64 x.f4).wf = true := by
  rcases open_slice ht h with ⟨hcs, _⟩ | ⟨a, len, cap, m, n, D, Pl, hcs, _, hl, hm, hmm, _, hi⟩
  · obtain rfl : c = .slice none 0 0 := by simpa using hcs
    exact ⟨none, 0, [], rfl, ⟨rfl, by decide, fun h => absurd h (by decide)⟩, Nat.le_refl _, by decide, fun x hx => by simp at hx⟩
  · obtain rfl : c = .slice (some a) len cap := by simpa using hcs
    have hq : ∀ i, i < len → ∃ x : S54, (w.cell? (a.add (i * 5 + 0)) = some (.int .i64 x.f0) ∧ w.cell? (a.add (i * 5 + 1)) = some (.int .i64 x.f1) ∧ w.cell? (a.add (i * 5 + 2)) = some (.int .i64 x.f2) ∧ w.cell? (a.add (i * 5 + 3)) = some (.int .i64 x.f3) ∧ w.cell? (a.add (i * 5 + 4)) = some (.int .i64 x.f4)) ∧ (Lit.int .i64 x.f0).wf = true ∧ (Lit.int .i64 x.f1).wf = true ∧ (Lit.int .i64 x.f2).wf = true ∧ (Lit.int .i64 x.f3).wf = true ∧ (Lit.int .i64 x.f4).wf = true := by
      intro i hil
      obtain ⟨cs, hc, htr⟩ := hi i (by rw [hmm]; simp; omega)
      rw [hC] at hc
      obtain ⟨_, hlen, hat⟩ := World.cells?_some hc
      obtain ⟨xs, n2, _, _, _, hxl, hg⟩ := DataW.trod_struct hs htr
      match cs, xs, hlen, hxl with
      | [c0, c1, c2, c3, c4], [y0, y1, y2, y3, y4], _, _ =>
        obtain ⟨o0, q0⟩ := hone_of hone 0 f0 rfl
        have g0 : DataW.trod enc P w base (fun _ => true) true n2 f0.type [c0] = some y0 := by simpa [Value.cells, o0, q0] using hg 0 f0 rfl
        obtain ⟨z0, e0, _, w0⟩ := DataW.trod_int i0 g0
        obtain rfl : c0 = .int .i64 z0 := by simpa using e0
        have t0 := hat 0 (by decide)
        obtain ⟨o1, q1⟩ := hone_of hone 1 f1 rfl
        have g1 : DataW.trod enc P w base (fun _ => true) true n2 f1.type [c1] = some y1 := by simpa [Value.cells, o1, q1] using hg 1 f1 rfl
        obtain ⟨z1, e1, _, w1⟩ := DataW.trod_int i1 g1
        obtain rfl : c1 = .int .i64 z1 := by simpa using e1
        have t1 := hat 1 (by decide)
        obtain ⟨o2, q2⟩ := hone_of hone 2 f2 rfl
        have g2 : DataW.trod enc P w base (fun _ => true) true n2 f2.type [c2] = some y2 := by simpa [Value.cells, o2, q2] using hg 2 f2 rfl
        obtain ⟨z2, e2, _, w2⟩ := DataW.trod_int i2 g2
        obtain rfl : c2 = .int .i64 z2 := by simpa using e2
        have t2 := hat 2 (by decide)
        obtain ⟨o3, q3⟩ := hone_of hone 3 f3 rfl
        have g3 : DataW.trod enc P w base (fun _ => true) true n2 f3.type [c3] = some y3 := by simpa [Value.cells, o3, q3] using hg 3 f3 rfl
        obtain ⟨z3, e3, _, w3⟩ := DataW.trod_int i3 g3
        obtain rfl : c3 = .int .i64 z3 := by simpa using e3
        have t3 := hat 3 (by decide)
        obtain ⟨o4, q4⟩ := hone_of hone 4 f4 rfl
        have g4 : DataW.trod enc P w base (fun _ => true) true n2 f4.type [c4] = some y4 := by simpa [Value.cells, o4, q4] using hg 4 f4 rfl
        obtain ⟨z4, e4, _, w4⟩ := DataW.trod_int i4 g4
        obtain rfl : c4 = .int .i64 z4 := by simpa using e4
        have t4 := hat 4 (by decide)
        simp only [Go.Deep.add_add] at t0 t1 t2 t3 t4
        exact ⟨⟨z0, z1, z2, z3, z4⟩, ⟨t0, t1, t2, t3, t4⟩, w0, w1, w2, w3, w4⟩
    obtain ⟨l, hll, hlq⟩ := list_of len hq
    subst hll
    refine ⟨some a, cap, l, rfl, ⟨rfl, ?_, fun _ => ⟨a, rfl, fun j x hx => ?_⟩⟩, hl, by omega, fun x hx => ?_⟩
    · have : maxLen ≤ 9223372036854775807 := by decide
      omega
    · obtain ⟨⟨u0, u1, u2, u3, u4⟩, _⟩ := hlq j x hx
      refine ⟨_, rfl, k54_mk w x, fun i u hu => ?_⟩
      match i, hu with
      | 0, hu => cases hu; exact u0
      | 1, hu => cases hu; exact u1
      | 2, hu => cases hu; exact u2
      | 3, hu => cases hu; exact u3
      | 4, hu => cases hu; exact u4
      | i + 5, hu => simp at hu
    · obtain ⟨j, hj, rfl⟩ := List.mem_iff_getElem.1 hx
      exact (hlq j _ (List.getElem?_eq_getElem hj)).2
end
set_option maxRecDepth 100000 in
theorem lifted (os : Os) (started : os.Started) (H : Type) (enc : TypeId × Value → H) :
    ReturnsInHanded {} Try.checked os 14 .any (Rows.fnExactWordsOfSpec.pre6 enc Try.prog Try.f14 Rows.fnExactWordsOfRow.domain false) (Rows.fnExactWordsOfSpec.post enc Try.prog Try.f14 false true false false) := by
  refine returnsInHanded_of_change_sized (C := Try.checked) own started (by kernel_rfl) Try.func14
    (ChangeSpec.witness6 (enc := enc) (C := Try.checked) false ⟨#[], #[.slice none 0 0], []⟩ 8 (by kernel_rfl) (by kernel_rfl) (by kernel_rfl) (by kernel_rfl)) ?_
  intro W base args ds gs before hval0 hW hcnd hsz0 _
  have hsz : (DataW.weightsEach Try.prog (Try.f14.params.toList ++ Rows.fnExactWordsOfSpec.plain.varTypes Try.prog) (ds ++ gs)).all (· ≤ reachBytes) = true := hsz0
  have hval : ∀ (j : Nat) t v, Try.f14.params[j]? = some t → args[j]? = some v → Value.okWide Try.prog W .any base t v := hval0
  have hW' := hW
  obtain ⟨p, q, hA0, hV, rfl, hfz, hnd⟩ := hW
  have hA : DataW.TrodAll enc Try.prog W 0 (fun _ => true) true Try.f14.params.toList args.toList ds p := hA0
  rw [Try.params14] at hA hval hsz
  obtain ⟨v0, vs0, d0, ds0, p0, q0, hargs, rfl, rfl, h0, r0⟩ := trodAll_cons hA
  obtain ⟨rfl, rfl, rfl⟩ := trodAll_nil r0
  obtain rfl : args = #[v0] := by cases args; simp_all
  obtain ⟨rfl, rfl⟩ := trodVars_none hV
  have k0 := h0
  have lt0 : ∀ x ∈ p0, x.block < W.heap.size := by obtain ⟨m, hm⟩ := k0; exact DataW.trod_lt m _ _ _ hm
  obtain ⟨_, _, _, hu0_⟩ := okWide_slice Try.underlying58 (hval 0 58 v0 rfl rfl)
  obtain ⟨fuel0_, hf0_⟩ := h0
  rw [hu0_] at hf0_
  obtain ⟨a0, cap0, l0, hE0_, r0, c0, m0, f0⟩ := rows_54 Try.underlying58 Try.underlying54 (by kernel_rfl) (by kernel_rfl) Try.underlying3 Try.underlying3 Try.underlying3 Try.underlying3 Try.underlying3 hf0_
  obtain rfl : v0 = .slice a0 l0.length cap0 := hu0_.trans hE0_
  clear hA0 hval0 hsz0 hsz
  refine (PFnExactWordsOf.laws_FnExactWordsOf.walk Pure.FnExactWordsOf a0 cap0 l0 W r0 c0 m0 f0).mono fun e W' ⟨he, bel⟩ => ?_
  subst he
  exact ⟨_, rfl, _, _, _, [], _, [], hW', trodAll_mk1 (shut_bool Try.underlying4 _), (trodAll_cons_mk (Below.trod laidOut (by kernel_rfl) (of_decide_eq_true (by kernel_rfl)) k0 bel lt0) trodAll_mk0), rfl, bel.frame _, fun h => by cases h⟩
theorem over : Rows.fnExactWordsOfRow.holds Try.pinned (OpenSpec.ofChange Rows.fnExactWordsOfSpec) :=
  OpenClaim.holds_of_wide 14 Try.f14 rfl rfl rfl rfl rfl rfl rfl ⟨rfl, rfl, rfl, rfl, rfl⟩ rfl rfl rfl rfl rfl (by kernel_rfl) Try.func14 (by kernel_rfl)
    (of_decide_eq_true (by kernel_rfl)) (by unfold Func.isWrapper; first | (rw [if_pos (by decide +kernel)]; kernel_rfl) | (rw [if_neg (by decide +kernel)]; exact ⟨rfl, rfl⟩))
    (fun os started H enc _ => lifted os started H enc)
theorem proved : Rows.FnExactWordsOfSaid := over
#print axioms proved
end Go.Proofs.Ytbbaggpmhiickaa.fnExactWordsOf
namespace Go.Proofs.Ytbbaggpmhiickaa
/-- The row, under a short name, for the claim. -/
theorem fnExactWordsOf_holds : Rows.FnExactWordsOfSaid := fnExactWordsOf.proved
end Go.Proofs.Ytbbaggpmhiickaa
