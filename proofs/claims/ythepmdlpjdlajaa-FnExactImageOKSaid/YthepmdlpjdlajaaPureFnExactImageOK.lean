/- ImageOK of the program is ImageOK of the reference, for all images. -/
import Derived.Test.YthepmdlpjdlajaaPFnExactImageOKx31
import Derived.Test.YthepmdlpjdlajaaPureFnExactLintImage
import Derived.Laws.BitsLemmas
set_option linter.unusedVariables false
set_option linter.unusedSimpArgs false
namespace Go.Proofs.Ythepmdlpjdlajaa.Pure
open Go.RowKit Go.Proofs.Ythepmdlpjdlajaa.PFnExactLintImage Go.Proofs.YthepmdlpjdlajaaW.PrintWords Go.Proofs.YthepmdlpjdlajaaW.PrintLast Go.Proofs.YthepmdlpjdlajaaW.PrintMore

theorem imageOK_same (C D : ByteArray) (l : List S54) : ∃ (b : Bool) (k0 : Nat), (b = true → l.length ≤ 16 ∧ C.size ≤ 1024 ∧ D.size ≤ 256 ∧ ∀ j, j < l.length → symGood C l j) ∧ ∀ k, k0 ≤ k → spec_ImageOK.f k C D l = some b ∧ impl_ImageOK.f k C D l = some b := by
  obtain ⟨r, k0, h1, h⟩ := image_same C D l
  refine ⟨r.2.2 == 0, k0, fun hb => h1 (beq_iff_eq.mp hb), fun k hk => ?_⟩
  unfold spec_ImageOK.f impl_ImageOK.f
  rw [(h k hk).1, (h k hk).2]
  exact ⟨rfl, rfl⟩

theorem FnExactImageOK : laws_FnExactImageOK.Pure := by
  intro C D l hC hD hl _
  obtain ⟨t, ht, k0, h0⟩ := szImage_ev C D l (Nat.le_trans hC (by decide)) (Nat.le_trans hD (by decide)) (Nat.le_trans hl (by decide))
  unfold laws_FnExactImageOK.f
  by_cases h1 : t < 0
  · exact ⟨k0, by rw [h0 k0 (Nat.le_refl _), Option.bind_some, if_pos h1]⟩
  · have hz := ht h1
    obtain ⟨r, k1, _, h⟩ := imageOK_same C D (toSym l)
    obtain ⟨k, hk⟩ : ∃ k : Nat, k0 + k1 + l.length + 10 < k := ⟨k0 + k1 + l.length + 11, by omega⟩
    refine ⟨k, ?_⟩
    rw [h0 k (by omega), Option.bind_some, if_neg h1, toImage_is C D l (by omega) k (by omega), Option.bind_some]
    dsimp only
    rw [(h k (by omega)).1, Option.bind_some, Option.bind_some]
    dsimp only
    rw [(h k (by omega)).2, Option.bind_some, bne_self_eq_false, if_neg (by decide), Option.bind_some]
    dsimp only
    rw [eqImage_is C D (toSym l) (by simp [toSym]; omega) k (by simp [toSym]; omega)]
    rfl

end Go.Proofs.Ythepmdlpjdlajaa.Pure
