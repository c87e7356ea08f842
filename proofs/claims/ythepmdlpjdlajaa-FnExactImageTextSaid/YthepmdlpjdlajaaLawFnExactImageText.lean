-- Written by a program for this claim.
import Derived.Test.YthepmdlpjdlajaaZFnExactImageTexta
import Derived.Test.YthepmdlpjdlajaaRows
import Derived.Test.YthepmdlpjdlajaaPFnExactImageTextx34
import Derived.Test.YthepmdlpjdlajaaPureFnExactImageText
import Derived.WalkKit
import Derived.ProofKit
import Derived.OpenShut
import Derived.ShutString
import Derived.ChangeOld
import Derived.Below
import Derived.SizedLaws
import Derived.Deep.Fields
import Derived.Deep.Fields
import Derived.Deep.Slices
namespace Go.Proofs.Ythepmdlpjdlajaa.fnExactImageText
open Go.ChangeShapes Go.WideShapes Go.ChangeAt Go.RowKit Go.Deep Go.Deep Go.Proofs.Ythepmdlpjdlajaa.PFnExactLintImage Go.Proofs.YthepmdlpjdlajaaW.PrintWords Go.Proofs.YthepmdlpjdlajaaW.PrintLast
open Go.ChangeMaps (open_string shut_string)
set_option linter.unusedVariables false
theorem own : ownKnob Try.prog.godebug = none := by kernel_rfl
theorem laidOut : laidOutB Try.prog = true := by kernel_rfl
def IsRow (k : IntKind) (w : World) (a : Option Addr) (len cap : Nat) (zs : List Int) : Prop :=
  (a = none ∧ len = 0 ∧ cap = 0 ∧ zs = []) ∨
  ∃ x, a = some x ∧ len ≤ cap ∧ cap ≤ maxLen ∧ zs.length = cap ∧ (∀ i, i < zs.length → w.cell? (x.add i) = some (.int k (zs.getD i 0))) ∧ ∀ n ∈ zs, (Lit.int k n).wf = true
theorem list_of {α : Type} {Q : Nat → α → Prop} : ∀ n : Nat, (∀ i, i < n → ∃ x, Q i x) → ∃ l : List α, l.length = n ∧ ∀ j x, l[j]? = some x → Q j x
  | 0, _ => ⟨[], rfl, fun j x h => by simp at h⟩
  | n + 1, h => by
    obtain ⟨l, hl, hq⟩ := list_of n (fun i hi => h i (by omega))
    obtain ⟨x, hx⟩ := h n (by omega)
    refine ⟨l ++ [x], by simp [hl], fun j y hy => ?_⟩
    by_cases c : j < n
    · rw [List.getElem?_append_left (by omega)] at hy
      exact hq j y hy
    · rw [List.getElem?_append_right (by omega)] at hy
      have hj : j - l.length = 0 := by
        by_cases e : j - l.length = 0
        · exact e
        · obtain ⟨m, hm⟩ : ∃ m, j - l.length = m + 1 := ⟨j - l.length - 1, by omega⟩
          rw [hm] at hy
          simp at hy
      rw [hj] at hy
      have e1 : x = y := by simpa using hy
      have e2 : j = n := by omega
      rw [← e1, e2]
      exact hx
section
variable {H : Type} {enc : TypeId × Value → H} {P : Program} {w : World} {base : Nat}
theorem rows_78 {t e : TypeId} {f0 f1 f2 f3 f4 : Field} {fuel : Nat} {c : Value} {x : DataW H × List MemPlace} (ht : P.underlying t = some (.slice e)) (hs : P.underlying e = some (.struct #[f0, f1, f2, f3, f4])) (hone : oneCellFields P #[f0, f1, f2, f3, f4] = true) (hC : P.cellsOf e = 5)
    (i0 : P.underlying f0.type = some (.string)) (i1 : P.underlying f1.type = some (.int .i64)) (i2 : P.underlying f2.type = some (.int .i64)) (i3 : P.underlying f3.type = some (.int .i64)) (i4 : P.underlying f4.type = some (.int .i64)) (h : DataW.trod enc P w base (fun _ => true) true fuel t [c] = some x) :
    ∃ (a : Option Addr) (cap : Nat) (l : List S78), c = .slice a l.length cap ∧ Kd.C k78 w a l.length l ∧ l.length ≤ cap ∧ l.length ≤ maxLen ∧ ∀ x ∈ l, x.f0.size ≤ maxLen ∧ (Lit.int .i64 x.f1).wf = true ∧ (Lit.int .i64 x.f2).wf = true ∧ (Lit.int .i64 x.f3).wf = true ∧ (Lit.int .i64 x.f4).wf = true := by
  rcases open_slice ht h with ⟨hcs, _⟩ | ⟨a, len, cap, m, n, D, Pl, hcs, _, hl, hm, hmm, _, hi⟩
  · obtain rfl : c = .slice none 0 0 := by simpa using hcs
    exact ⟨none, 0, [], rfl, ⟨rfl, by decide, fun h => absurd h (by decide)⟩, Nat.le_refl _, by decide, fun x hx => by simp at hx⟩
  · obtain rfl : c = .slice (some a) len cap := by simpa using hcs
    have hq : ∀ i, i < len → ∃ x : S78, (w.cell? (a.add (i * 5 + 0)) = some (.string x.f0) ∧ w.cell? (a.add (i * 5 + 1)) = some (.int .i64 x.f1) ∧ w.cell? (a.add (i * 5 + 2)) = some (.int .i64 x.f2) ∧ w.cell? (a.add (i * 5 + 3)) = some (.int .i64 x.f3) ∧ w.cell? (a.add (i * 5 + 4)) = some (.int .i64 x.f4)) ∧ x.f0.size ≤ maxLen ∧ (Lit.int .i64 x.f1).wf = true ∧ (Lit.int .i64 x.f2).wf = true ∧ (Lit.int .i64 x.f3).wf = true ∧ (Lit.int .i64 x.f4).wf = true := by
      intro i hil
      obtain ⟨cs, hc, htr⟩ := hi i (by rw [hmm]; simp; omega)
      rw [hC] at hc
      obtain ⟨_, hlen, hat⟩ := World.cells?_some hc
      obtain ⟨xs, n2, _, _, _, hxl, hg⟩ := DataW.trod_struct hs htr
      match cs, xs, hlen, hxl with
      | [c0, c1, c2, c3, c4], [y0, y1, y2, y3, y4], _, _ =>
        obtain ⟨o0, q0⟩ := hone_of hone 0 f0 rfl
        have g0 : DataW.trod enc P w base (fun _ => true) true n2 f0.type [c0] = some y0 := by simpa [Value.cells, o0, q0] using hg 0 f0 rfl
        obtain ⟨z0, e0, _, w0⟩ := DataW.trod_string i0 g0
        obtain rfl : c0 = .string z0 := by simpa using e0
        have t0 := hat 0 (by decide)
        obtain ⟨o1, q1⟩ := hone_of hone 1 f1 rfl
        have g1 : DataW.trod enc P w base (fun _ => true) true n2 f1.type [c1] = some y1 := by simpa [Value.cells, o1, q1] using hg 1 f1 rfl
        obtain ⟨z1, e1, _, w1⟩ := DataW.trod_int i1 g1
        obtain rfl : c1 = .int .i64 z1 := by simpa using e1
        have t1 := hat 1 (by decide)
        obtain ⟨o2, q2⟩ := hone_of hone 2 f2 rfl
        have g2 : DataW.trod enc P w base (fun _ => true) true n2 f2.type [c2] = some y2 := by simpa [Value.cells, o2, q2] using hg 2 f2 rfl
        obtain ⟨z2, e2, _, w2⟩ := DataW.trod_int i2 g2
        obtain rfl : c2 = .int .i64 z2 := by simpa using e2
        have t2 := hat 2 (by decide)
        obtain ⟨o3, q3⟩ := hone_of hone 3 f3 rfl
        have g3 : DataW.trod enc P w base (fun _ => true) true n2 f3.type [c3] = some y3 := by simpa [Value.cells, o3, q3] using hg 3 f3 rfl
        obtain ⟨z3, e3, _, w3⟩ := DataW.trod_int i3 g3
        obtain rfl : c3 = .int .i64 z3 := by simpa using e3
        have t3 := hat 3 (by decide)
        obtain ⟨o4, q4⟩ := hone_of hone 4 f4 rfl
        have g4 : DataW.trod enc P w base (fun _ => true) true n2 f4.type [c4] = some y4 := by simpa [Value.cells, o4, q4] using hg 4 f4 rfl
        obtain ⟨z4, e4, _, w4⟩ := DataW.trod_int i4 g4
        obtain rfl : c4 = .int .i64 z4 := by simpa using e4
        have t4 := hat 4 (by decide)
        simp only [Go.Deep.add_add] at t0 t1 t2 t3 t4
        exact ⟨⟨z0, z1, z2, z3, z4⟩, ⟨t0, t1, t2, t3, t4⟩, w0, w1, w2, w3, w4⟩
    obtain ⟨l, hll, hlq⟩ := list_of len hq
    subst hll
    refine ⟨some a, cap, l, rfl, ⟨rfl, ?_, fun _ => ⟨a, rfl, fun j x hx => ?_⟩⟩, hl, by omega, fun x hx => ?_⟩
    · have : maxLen ≤ 9223372036854775807 := by decide
      omega
    · obtain ⟨⟨u0, u1, u2, u3, u4⟩, _⟩ := hlq j x hx
      refine ⟨_, rfl, k78_mk w x, fun i u hu => ?_⟩
      match i, hu with
      | 0, hu => cases hu; exact u0
      | 1, hu => cases hu; exact u1
      | 2, hu => cases hu; exact u2
      | 3, hu => cases hu; exact u3
      | 4, hu => cases hu; exact u4
      | i + 5, hu => simp at hu
    · obtain ⟨j, hj, rfl⟩ := List.mem_iff_getElem.1 hx
      exact (hlq j _ (List.getElem?_eq_getElem hj)).2
end
section
variable {H : Type} {enc : TypeId × Value → H} {P : Program} {w : World} {base : Nat} {spare : Nat → Bool} {held : Bool}
theorem open_whole3 {r : Reach} {b0 : Nat} {t : TypeId} {f0 f1 f2 : Field} {v : Value} {d : DataW H} {p : List MemPlace} (hs : P.underlying t = some (.struct #[f0, f1, f2])) (hone : oneCellFields P #[f0, f1, f2] = true) (hC : P.cellsOf t = 3)
    (hv : Value.okWide P w r b0 t v) (h : DataW.Trod enc P w base spare held t v d p) :
    ∃ (c0 c1 c2 : Value) (y0 y1 y2 : DataW H × List MemPlace) (n : Nat), v = .agg #[c0, c1, c2] ∧ DataW.trod enc P w base spare held n f0.type [c0] = some y0 ∧ DataW.trod enc P w base spare held n f1.type [c1] = some y1 ∧ DataW.trod enc P w base spare held n f2.type [c2] = some y2 := by
  obtain ⟨⟨cs⟩, rfl, hsz⟩ := okWide_struct hs hv
  obtain ⟨fuel, hf⟩ := h
  obtain ⟨xs, n, _, _, _, hlen, hg⟩ := DataW.trod_struct hs hf
  match cs, xs, hsz.trans hC, hlen with
  | [c0, c1, c2], [y0, y1, y2], _, _ =>
    obtain ⟨o0, q0⟩ := hone_of hone 0 f0 rfl
    have g0 : DataW.trod enc P w base spare held n f0.type [c0] = some y0 := by simpa [Value.cells, o0, q0] using hg 0 f0 rfl
    obtain ⟨o1, q1⟩ := hone_of hone 1 f1 rfl
    have g1 : DataW.trod enc P w base spare held n f1.type [c1] = some y1 := by simpa [Value.cells, o1, q1] using hg 1 f1 rfl
    obtain ⟨o2, q2⟩ := hone_of hone 2 f2 rfl
    have g2 : DataW.trod enc P w base spare held n f2.type [c2] = some y2 := by simpa [Value.cells, o2, q2] using hg 2 f2 rfl
    exact ⟨c0, c1, c2, y0, y1, y2, n, rfl, g0, g1, g2⟩
end
set_option maxRecDepth 100000 in
theorem lifted (os : Os) (started : os.Started) (H : Type) (enc : TypeId × Value → H) :
    ReturnsInHanded {} Try.checked os 4 .any (Rows.fnExactImageTextSpec.pre6 enc Try.prog Try.f4 Rows.fnExactImageTextRow.domain false) (Rows.fnExactImageTextSpec.post enc Try.prog Try.f4 false true false false) := by
  refine returnsInHanded_of_change_sized (C := Try.checked) own started (by kernel_rfl) Try.func4
    (ChangeSpec.witness6 (enc := enc) (C := Try.checked) false ⟨#[], #[.agg #[.string ByteArray.empty, .string ByteArray.empty, .slice none 0 0]], []⟩ 8 (by kernel_rfl) (by kernel_rfl) (by kernel_rfl) (by kernel_rfl)) ?_
  intro W base args ds gs before hval0 hW hcnd hsz0 _
  have hsz : (DataW.weightsEach Try.prog (Try.f4.params.toList ++ Rows.fnExactImageTextSpec.plain.varTypes Try.prog) (ds ++ gs)).all (· ≤ reachBytes) = true := hsz0
  have hval : ∀ (j : Nat) t v, Try.f4.params[j]? = some t → args[j]? = some v → Value.okWide Try.prog W .any base t v := hval0
  have hW' := hW
  obtain ⟨p, q, hA0, hV, rfl, hfz, hnd⟩ := hW
  have hA : DataW.TrodAll enc Try.prog W 0 (fun _ => true) true Try.f4.params.toList args.toList ds p := hA0
  rw [Try.params4] at hA hval hsz
  obtain ⟨v0, vs0, d0, ds0, p0, q0, hargs, rfl, rfl, h0, r0⟩ := trodAll_cons hA
  obtain ⟨rfl, rfl, rfl⟩ := trodAll_nil r0
  obtain rfl : args = #[v0] := by cases args; simp_all
  obtain ⟨rfl, rfl⟩ := trodVars_none hV
  have k0 := h0
  have lt0 : ∀ x ∈ p0, x.block < W.heap.size := by obtain ⟨m, hm⟩ := k0; exact DataW.trod_lt m _ _ _ hm
  obtain ⟨C0_0, C0_1, C0_2, Y0_0, Y0_1, Y0_2, n0_, rfl, g0_0, g0_1, g0_2⟩ := open_whole3 Try.underlying24 (by kernel_rfl) (by kernel_rfl) (hval 0 24 v0 rfl rfl) h0
  obtain ⟨a0_0, e0_0, _, w0_0⟩ := DataW.trod_string Try.underlying9 g0_0
  obtain rfl : C0_0 = .string a0_0 := by simpa using e0_0
  obtain ⟨a0_1, e0_1, _, w0_1⟩ := DataW.trod_string Try.underlying9 g0_1
  obtain rfl : C0_1 = .string a0_1 := by simpa using e0_1
  obtain ⟨a0_2, cap0_2, l0_2, rfl, r0_2, c0_2, m0_2, f0_2⟩ := rows_78 Try.underlying22 Try.underlying78 (by kernel_rfl) (by kernel_rfl) Try.underlying9 Try.underlying3 Try.underlying3 Try.underlying3 Try.underlying3 g0_2
  clear hA0 hval0 hsz0 hsz
  refine (PFnExactLintImage.laws_FnExactImageText.walk Pure.FnExactImageText a0_0 a0_1 a0_2 cap0_2 l0_2 W w0_0 w0_1 r0_2 c0_2 m0_2 f0_2).mono fun e W' ⟨he, bel⟩ => ?_
  subst he
  exact ⟨_, rfl, _, _, _, [], _, [], hW', trodAll_mk1 (shut_bool Try.underlying4 _), (trodAll_cons_mk (Below.trod laidOut (by kernel_rfl) (of_decide_eq_true (by kernel_rfl)) k0 bel lt0) trodAll_mk0), rfl, bel.frame _, fun h => by cases h⟩
theorem over : Rows.fnExactImageTextRow.holds Try.pinned (OpenSpec.ofChange Rows.fnExactImageTextSpec) :=
  OpenClaim.holds_of_wide 4 Try.f4 rfl rfl rfl rfl rfl rfl rfl ⟨rfl, rfl, rfl, rfl, rfl⟩ rfl rfl rfl rfl rfl (by kernel_rfl) Try.func4 (by kernel_rfl)
    (of_decide_eq_true (by kernel_rfl)) (by unfold Func.isWrapper; first | (rw [if_pos (by decide +kernel)]; kernel_rfl) | (rw [if_neg (by decide +kernel)]; exact ⟨rfl, rfl⟩))
    (fun os started H enc _ => lifted os started H enc)
theorem proved : Rows.FnExactImageTextSaid := over
#print axioms proved
end Go.Proofs.Ythepmdlpjdlajaa.fnExactImageText
namespace Go.Proofs.Ythepmdlpjdlajaa
/-- The row, under a short name, for the claim. -/
theorem fnExactImageText_holds : Rows.FnExactImageTextSaid := fnExactImageText.proved
end Go.Proofs.Ythepmdlpjdlajaa
