/- AddressOf of the program is AddressOf of the reference, for all images and numbers. -/
import Derived.Test.YthepmdlpjdlajaaPFnExactAddressOfx31
import Derived.Test.YthepmdlpjdlajaaPureFnExactLintImage
import Derived.Laws.BitsLemmas
set_option linter.unusedVariables false
set_option linter.unusedSimpArgs false
namespace Go.Proofs.Ythepmdlpjdlajaa.Pure
open Go.RowKit Go.Proofs.Ythepmdlpjdlajaa.PFnExactLintImage Go.Proofs.YthepmdlpjdlajaaW.PrintWords Go.Proofs.YthepmdlpjdlajaaW.PrintLast Go.Proofs.YthepmdlpjdlajaaW.PrintMore

theorem imageOK_same (C D : ByteArray) (l : List S54) : ∃ (b : Bool) (k0 : Nat), (b = true → l.length ≤ 16 ∧ C.size ≤ 1024 ∧ D.size ≤ 256 ∧ ∀ j, j < l.length → symGood C l j) ∧ ∀ k, k0 ≤ k → spec_ImageOK.f k C D l = some b ∧ impl_ImageOK.f k C D l = some b := by
  obtain ⟨r, k0, h1, h⟩ := image_same C D l
  refine ⟨r.2.2 == 0, k0, fun hb => h1 (beq_iff_eq.mp hb), fun k hk => ?_⟩
  unfold spec_ImageOK.f impl_ImageOK.f
  rw [(h k hk).1, (h k hk).2]
  exact ⟨rfl, rfl⟩

theorem address_same (C D : ByteArray) (l : List S54) (a : Int) : ∃ r k0, ∀ k, k0 ≤ k → spec_AddressOf.f k C D l a = some r ∧ impl_AddressOf.f k C D l a = some r := by
  obtain ⟨b, k0, hb, h⟩ := imageOK_same C D l
  unfold spec_AddressOf.f impl_AddressOf.f
  cases b with
  | false => exact ⟨(0, 1), k0, fun k hk => by rw [(h k hk).1, (h k hk).2]; exact ⟨rfl, rfl⟩⟩
  | true =>
    obtain ⟨h16, _, _, _⟩ := hb rfl
    have e : wrap64 ((l.length : Int) - 1) = (l.length : Int) - 1 := w64_id (by omega) (by omega)
    by_cases h1 : a < 0
    · refine ⟨(0, 23), k0, fun k hk => ?_⟩
      rw [(h k hk).1, (h k hk).2]
      unfold impl_within.f
      rw [Option.bind_some, Option.bind_some, if_pos rfl, if_pos rfl, if_pos h1, if_neg (by omega)]
      exact ⟨rfl, rfl⟩
    · by_cases h2 : a ≥ (l.length : Int)
      · refine ⟨(0, 23), k0, fun k hk => ?_⟩
        rw [(h k hk).1, (h k hk).2]
        unfold impl_within.f
        rw [Option.bind_some, Option.bind_some, if_pos rfl, if_pos rfl, if_neg h1, if_pos h2, if_pos (by omega), e, decide_eq_false (by omega)]
        exact ⟨rfl, rfl⟩
      · obtain ⟨p, hp⟩ := place_some (rd_T54 l a).f0 (rd_T54 l a).f1 (rd_T54 l a).f2 (rd_T54 l a).f3 (rd_T54 l a).f4
        refine ⟨(p, 0), k0, fun k hk => ?_⟩
        rw [(h k hk).1, (h k hk).2]
        unfold impl_within.f
        rw [Option.bind_some, Option.bind_some, if_pos rfl, if_pos rfl, if_neg h1, if_neg h2, if_pos (by omega), if_pos (by omega), e, if_pos (by omega), decide_eq_true (by omega), Option.bind_some, if_pos rfl, if_pos (by omega), place_same, hp]
        exact ⟨rfl, by rw [if_pos (by omega)]; rfl⟩
theorem FnExactAddressOf : laws_FnExactAddressOf.Pure := by
  intro C D l a hC hD hl _ _
  obtain ⟨t, ht, k0, h0⟩ := szImage_ev C D l (Nat.le_trans hC (by decide)) (Nat.le_trans hD (by decide)) (Nat.le_trans hl (by decide))
  unfold laws_FnExactAddressOf.f
  by_cases h1 : t < 0
  · exact ⟨k0, by rw [h0 k0 (Nat.le_refl _), Option.bind_some, if_pos h1]⟩
  · have hz := ht h1
    obtain ⟨r, k1, h⟩ := address_same C D (toSym l) a
    obtain ⟨k, hk⟩ : ∃ k : Nat, k0 + k1 + l.length + 10 < k := ⟨k0 + k1 + l.length + 11, by omega⟩
    refine ⟨k + 1, ?_⟩
    rw [h0 (k + 1) (by omega), Option.bind_some, if_neg h1, toImage_is C D l (by omega) (k + 1) (by omega), Option.bind_some]
    dsimp only
    rw [(h (k + 1) (by omega)).1, Option.bind_some, Option.bind_some]
    dsimp only
    rw [(h (k + 1) (by omega)).2, Option.bind_some, if_pos rfl, bne_self_eq_false, laws_FnExactAddressOf.j0, if_neg (by decide), toImage_is C D l (by omega) k (by omega), Option.bind_some]
    dsimp only
    rw [eqImage_is C D (toSym l) (by simp [toSym]; omega) k (by simp [toSym]; omega)]
    rfl

end Go.Proofs.Ythepmdlpjdlajaa.Pure
