/- SymbolNamed of the program is SymbolNamed of the reference, for all images and names. -/
import Derived.Test.YthepmdlpjdlajaaPFnExactSymbolNamedx31
import Derived.Test.YthepmdlpjdlajaaPureFnExactLintImage
import Derived.Laws.BitsLemmas
set_option linter.unusedVariables false
set_option linter.unusedSimpArgs false
namespace Go.Proofs.Ythepmdlpjdlajaa.Pure
open Go.RowKit Go.Proofs.Ythepmdlpjdlajaa.PFnExactLintImage Go.Proofs.YthepmdlpjdlajaaW.PrintWords Go.Proofs.YthepmdlpjdlajaaW.PrintLast Go.Proofs.YthepmdlpjdlajaaW.PrintMore

theorem imageOK_same (C D : ByteArray) (l : List S54) : ∃ (b : Bool) (k0 : Nat), (b = true → l.length ≤ 16 ∧ C.size ≤ 1024 ∧ D.size ≤ 256 ∧ ∀ j, j < l.length → symGood C l j) ∧ ∀ k, k0 ≤ k → spec_ImageOK.f k C D l = some b ∧ impl_ImageOK.f k C D l = some b := by
  obtain ⟨r, k0, h1, h⟩ := image_same C D l
  refine ⟨r.2.2 == 0, k0, fun hb => h1 (beq_iff_eq.mp hb), fun k hk => ?_⟩
  unfold spec_ImageOK.f impl_ImageOK.f
  rw [(h k hk).1, (h k hk).2]
  exact ⟨rfl, rfl⟩

theorem named_l (C D a : ByteArray) (l : List S54) (hl : l.length ≤ 16) : ∀ (n i : Nat), i + n = l.length → ∀ k, n < k → spec_SymbolNamed.l0 k a (i : Int) C D l = some (if impl_Image_named.at_ a (l.drop i) i < 0 then (0, 23) else (impl_Image_named.at_ a (l.drop i) i, 0)) := by
  intro n
  induction n with
  | zero =>
    intro i hi k hk
    obtain ⟨k, rfl⟩ : ∃ m, k = m + 1 := ⟨k - 1, by omega⟩
    rw [spec_SymbolNamed.l0, if_neg (by omega), List.drop_eq_nil_of_le (by omega), impl_Image_named.at_, if_pos (by decide)]
  | succ n ih =>
    intro i hi k hk
    obtain ⟨k, rfl⟩ : ∃ m, k = m + 1 := ⟨k - 1, by omega⟩
    have hlt : i < l.length := by omega
    have hr : rd_T54 l (i : Int) = l[i] := by
      unfold rd_T54
      simp [List.getD_eq_getElem?_getD, List.getElem?_eq_getElem hlt]
    have e : wrap64 ((i : Int) + 1) = ((i + 1 : Nat) : Int) := by rw [w64_id (by omega) (by omega)]; omega
    rw [spec_SymbolNamed.l0, if_pos (by omega), if_pos (by omega), hr, e, ih (i + 1) (by omega) k (by omega), List.drop_eq_getElem_cons hlt, impl_Image_named.at_]
    by_cases c : l[i].f0.toList = a.toList
    · rw [if_pos c, if_pos (show impl_Image_named.has a l[i] = true from decide_eq_true c), if_neg (by omega)]
    · rw [if_neg c, if_neg (show ¬ impl_Image_named.has a l[i] = true from fun z => c (of_decide_eq_true z))]
theorem named_same (C D : ByteArray) (l : List S54) (a : ByteArray) : ∃ r k0, ∀ k, k0 ≤ k → spec_SymbolNamed.f k C D l a = some r ∧ impl_SymbolNamed.f k C D l a = some r := by
  obtain ⟨b, k0, hb, h⟩ := imageOK_same C D l
  unfold spec_SymbolNamed.f impl_SymbolNamed.f impl_isLong.f
  by_cases c : (a.size : Int) > 65536
  · exact ⟨(0, 2), 0, fun k _ => by rw [if_pos c, Option.bind_some, if_pos (decide_eq_true c)]; exact ⟨rfl, rfl⟩⟩
  · have cd : ¬ decide ((a.size : Int) > 65536) = true := fun z => c (of_decide_eq_true z)
    cases b with
    | false => exact ⟨(0, 1), k0, fun k hk => by rw [if_neg c, Option.bind_some, if_neg cd, (h k hk).1, (h k hk).2]; exact ⟨rfl, rfl⟩⟩
    | true =>
      obtain ⟨h16, _, _, _⟩ := hb rfl
      refine ⟨if impl_Image_named.at_ a (l.drop 0) 0 < 0 then (0, 23) else (impl_Image_named.at_ a (l.drop 0) 0, 0), k0 + l.length + 1, fun k hk => ?_⟩
      have hn := named_l C D a l h16 l.length 0 (by omega) k (by omega)
      rw [if_neg c, Option.bind_some, if_neg cd, (h k (by omega)).1, (h k (by omega)).2, Option.bind_some, Option.bind_some, if_pos rfl, if_pos rfl]
      refine ⟨hn, ?_⟩
      unfold impl_Image_named.f
      rw [Option.bind_some, List.drop_zero]
      by_cases q : impl_Image_named.at_ a l 0 < 0
      · rw [if_pos q, if_pos q]
      · rw [if_neg q, if_neg q]
theorem FnExactSymbolNamed : laws_FnExactSymbolNamed.Pure := by
  intro C D l a hC hD hl _ _
  obtain ⟨t, ht, k0, h0⟩ := szImage_ev C D l (Nat.le_trans hC (by decide)) (Nat.le_trans hD (by decide)) (Nat.le_trans hl (by decide))
  unfold laws_FnExactSymbolNamed.f
  by_cases ha : (a.size : Int) > 1048576
  · exact ⟨0, by rw [if_pos ha]⟩
  by_cases h1 : t < 0
  · exact ⟨k0, by rw [if_neg ha, h0 k0 (Nat.le_refl _), Option.bind_some, if_pos h1]⟩
  · have hz := ht h1
    obtain ⟨r, k1, h⟩ := named_same C D (toSym l) a
    obtain ⟨k, hk⟩ : ∃ k : Nat, k0 + k1 + l.length + 10 < k := ⟨k0 + k1 + l.length + 11, by omega⟩
    refine ⟨k + 1, ?_⟩
    rw [if_neg ha, h0 (k + 1) (by omega), Option.bind_some, if_neg h1, toImage_is C D l (by omega) (k + 1) (by omega), Option.bind_some]
    dsimp only
    rw [(h (k + 1) (by omega)).1, Option.bind_some, Option.bind_some]
    dsimp only
    rw [(h (k + 1) (by omega)).2, Option.bind_some, if_pos rfl, bne_self_eq_false, laws_FnExactSymbolNamed.j0, if_neg (by decide), toImage_is C D l (by omega) k (by omega), Option.bind_some]
    dsimp only
    rw [eqImage_is C D (toSym l) (by simp [toSym]; omega) k (by simp [toSym]; omega)]
    rfl

end Go.Proofs.Ythepmdlpjdlajaa.Pure
