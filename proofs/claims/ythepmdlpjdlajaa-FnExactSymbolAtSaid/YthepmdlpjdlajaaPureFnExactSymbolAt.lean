/- SymbolAt of the program is SymbolAt of the reference, for all images and addresses. -/
import Derived.Test.YthepmdlpjdlajaaPFnExactSymbolAtx32
import Derived.Test.YthepmdlpjdlajaaPureFnExactLintImage
import Derived.Laws.BitsLemmas
set_option linter.unusedVariables false
set_option linter.unusedSimpArgs false
namespace Go.Proofs.Ythepmdlpjdlajaa.Pure
open Go.RowKit Go.Proofs.Ythepmdlpjdlajaa.PFnExactLintImage Go.Proofs.YthepmdlpjdlajaaW.PrintWords Go.Proofs.YthepmdlpjdlajaaW.PrintLast Go.Proofs.YthepmdlpjdlajaaW.PrintMore

theorem imageOK_same (C D : ByteArray) (l : List S54) : ∃ (b : Bool) (k0 : Nat), (b = true → l.length ≤ 16 ∧ C.size ≤ 1024 ∧ D.size ≤ 256 ∧ ∀ j, j < l.length → symGood C l j) ∧ ∀ k, k0 ≤ k → spec_ImageOK.f k C D l = some b ∧ impl_ImageOK.f k C D l = some b := by
  obtain ⟨r, k0, h1, h⟩ := image_same C D l
  refine ⟨r.2.2 == 0, k0, fun hb => h1 (beq_iff_eq.mp hb), fun k hk => ?_⟩
  unfold spec_ImageOK.f impl_ImageOK.f
  rw [(h k hk).1, (h k hk).2]
  exact ⟨rfl, rfl⟩

theorem symAt_l (C D : ByteArray) (l : List S54) (hl : l.length ≤ 16) (hg : ∀ j, j < l.length → symGood C l j) (x : Int) (n : Nat) : ∀ (i : Nat), i + n = l.length → ∃ r, ∀ k, n < k → spec_SymbolAt.l0 k x (i : Int) C D l = some r ∧ impl_SymbolAt.l0 k x l (l.length : Int) (i : Int) = some r := by
  induction n with
  | zero =>
    intro i hi
    refine ⟨(0, 0, 23), fun k hk => ?_⟩
    obtain ⟨k, rfl⟩ : ∃ m, k = m + 1 := ⟨k - 1, by omega⟩
    rw [spec_SymbolAt.l0, impl_SymbolAt.l0, if_neg (by omega), if_neg (by omega)]
    exact ⟨rfl, rfl⟩
  | succ n ih =>
    intro i hi
    have e : wrap64 ((i : Int) + 1) = ((i + 1 : Nat) : Int) := by rw [w64_id (by omega) (by omega)]; omega
    obtain ⟨r, h⟩ := ih (i + 1) (by omega)
    obtain ⟨g1, g2, g3, _⟩ := hg i (by omega)
    have hp : ∃ p, impl_Symbol_address.f (rd_T54 l (i : Int)).f0 (rd_T54 l (i : Int)).f1 (rd_T54 l (i : Int)).f2 (rd_T54 l (i : Int)).f3 (rd_T54 l (i : Int)).f4 = some p ∧ 0 ≤ p ∧ p ≤ 100000 := by
      unfold impl_Symbol_address.f
      rw [w64_id (n := 4096 + (rd_T54 l (i : Int)).f2) (by omega) (by omega), w64_id (n := 16384 + (rd_T54 l (i : Int)).f2) (by omega) (by omega)]
      split
      · exact ⟨_, rfl, by omega, by omega⟩
      · exact ⟨_, rfl, by omega, by omega⟩
    obtain ⟨p, hp, p0, p1⟩ := hp
    have e1 : wrap64 (p + (rd_T54 l (i : Int)).f3) = p + (rd_T54 l (i : Int)).f3 := w64_id (by omega) (by omega)
    have e2 : wrap64 (p + (rd_T54 l (i : Int)).f3 - 1) = p + (rd_T54 l (i : Int)).f3 - 1 := w64_id (by omega) (by omega)
    have sS : ∀ k, spec_SymbolAt.l0 (k + 1) x (i : Int) C D l = if p ≤ x ∧ x < p + (rd_T54 l (i : Int)).f3 then some ((i : Int), wrap64 (x - p), 0) else spec_SymbolAt.l0 k x ((i + 1 : Nat) : Int) C D l := fun k => by
      rw [spec_SymbolAt.l0, if_pos (by omega), if_pos (by omega), place_same, hp, Option.bind_some, e1, e]
      by_cases c1 : p ≤ x
      · by_cases c2 : x < p + (rd_T54 l (i : Int)).f3
        · rw [if_pos c1, if_pos c2, if_pos ⟨c1, c2⟩]
        · rw [if_pos c1, if_neg c2, if_neg (fun z => c2 z.2)]
      · rw [if_neg c1, if_neg (fun z => c1 z.1)]
    have sI : ∀ k, impl_SymbolAt.l0 (k + 1) x l (l.length : Int) (i : Int) = if p ≤ x ∧ x < p + (rd_T54 l (i : Int)).f3 then some ((i : Int), wrap64 (x - p), 0) else impl_SymbolAt.l0 k x l (l.length : Int) ((i + 1 : Nat) : Int) := fun k => by
      rw [impl_SymbolAt.l0, if_pos (by omega), if_pos (by omega), if_pos (by omega), hp, Option.bind_some, e1, e2, e]
      unfold impl_within.f
      by_cases c1 : p ≤ x
      · by_cases c2 : x < p + (rd_T54 l (i : Int)).f3
        · rw [if_pos c1, decide_eq_true (by omega), Option.bind_some, if_pos rfl, if_pos ⟨c1, c2⟩]
        · rw [if_pos c1, decide_eq_false (by omega), Option.bind_some, if_neg (by decide), if_neg (fun z => c2 z.2)]
      · rw [if_neg c1, Option.bind_some, if_neg (by decide), if_neg (fun z => c1 z.1)]
    by_cases c : p ≤ x ∧ x < p + (rd_T54 l (i : Int)).f3
    · refine ⟨((i : Int), wrap64 (x - p), 0), fun k hk => ?_⟩
      obtain ⟨k, rfl⟩ : ∃ m, k = m + 1 := ⟨k - 1, by omega⟩
      rw [sS, sI, if_pos c, if_pos c]
      exact ⟨rfl, rfl⟩
    · refine ⟨r, fun k hk => ?_⟩
      obtain ⟨k, rfl⟩ : ∃ m, k = m + 1 := ⟨k - 1, by omega⟩
      rw [sS, sI, if_neg c, if_neg c]
      exact h k (by omega)
theorem symAt_same (C D : ByteArray) (l : List S54) (a : Int) : ∃ r k0, ∀ k, k0 ≤ k → spec_SymbolAt.f k C D l a = some r ∧ impl_SymbolAt.f k C D l a = some r := by
  obtain ⟨b, k0, hb, h⟩ := imageOK_same C D l
  unfold spec_SymbolAt.f impl_SymbolAt.f
  cases b with
  | false => exact ⟨(0, 0, 1), k0, fun k hk => by rw [(h k hk).1, (h k hk).2]; exact ⟨rfl, rfl⟩⟩
  | true =>
    obtain ⟨h16, _, _, hg⟩ := hb rfl
    obtain ⟨r, hr⟩ := symAt_l C D l h16 hg a l.length 0 (by omega)
    refine ⟨r, k0 + l.length + 1, fun k hk => ?_⟩
    rw [(h k (by omega)).1, (h k (by omega)).2]
    exact hr k (by omega)
theorem FnExactSymbolAt : laws_FnExactSymbolAt.Pure := by
  intro C D l a hC hD hl _ _
  obtain ⟨t, ht, k0, h0⟩ := szImage_ev C D l (Nat.le_trans hC (by decide)) (Nat.le_trans hD (by decide)) (Nat.le_trans hl (by decide))
  unfold laws_FnExactSymbolAt.f
  by_cases h1 : t < 0
  · exact ⟨k0, by rw [h0 k0 (Nat.le_refl _), Option.bind_some, if_pos h1]⟩
  · have hz := ht h1
    obtain ⟨r, k1, h⟩ := symAt_same C D (toSym l) a
    obtain ⟨k, hk⟩ : ∃ k : Nat, k0 + k1 + l.length + 10 < k := ⟨k0 + k1 + l.length + 11, by omega⟩
    refine ⟨k + 1, ?_⟩
    rw [h0 (k + 1) (by omega), Option.bind_some, if_neg h1, toImage_is C D l (by omega) (k + 1) (by omega), Option.bind_some]
    dsimp only
    rw [(h (k + 1) (by omega)).1, Option.bind_some, Option.bind_some]
    dsimp only
    rw [(h (k + 1) (by omega)).2, Option.bind_some, if_pos rfl, if_pos rfl, bne_self_eq_false, laws_FnExactSymbolAt.j0, if_neg (by decide), toImage_is C D l (by omega) k (by omega), Option.bind_some]
    dsimp only
    rw [eqImage_is C D (toSym l) (by simp [toSym]; omega) k (by simp [toSym]; omega)]
    rfl

end Go.Proofs.Ythepmdlpjdlajaa.Pure
