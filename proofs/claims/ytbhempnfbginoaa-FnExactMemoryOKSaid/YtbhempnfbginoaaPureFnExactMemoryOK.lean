/- MemoryOK of the program is MemoryOK of the reference, for all memories, and leaves the memory as it was. -/
import Derived.Test.YtbhempnfbginoaaPFnExactMemoryOKx5
import Derived.Laws.BitsLemmas
set_option linter.unusedVariables false
set_option linter.unusedSimpArgs false
namespace Go.Proofs.Ytbhempnfbginoaa.Pure
open Go.RowKit Go.Proofs.Ytbhempnfbginoaa.PFnExactMemoryOK Go.Proofs.YtbhempnfbginoaaW.PrintWords Go.Proofs.YtbhempnfbginoaaW.PrintLast Go.Proofs.YtbhempnfbginoaaW.PrintMore

theorem w64_id {n : Int} (h0 : -9223372036854775808 ≤ n) (h1 : n ≤ 9223372036854775807) : wrap64 n = n := by unfold wrap64; omega
/-- A page of the law's own kind as the program has it. -/
def pg (x : S94) : S77 := ⟨x.f0, x.f1, x.f2⟩
theorem rdq_at (l : List S94) (i : Nat) (h : i < l.length) : rd_T94 l (i : Int) = l[i] := by
  unfold rd_T94
  simp [List.getD_eq_getElem?_getD, List.getElem?_eq_getElem h]
theorem topage_l (l : List S94) (hl : l.length ≤ 1048576) (d : Nat) : ∀ (i k : Nat) (y : List S77), i + d = l.length → y.length = l.length → d < k → (∀ j, j < i → y[j]? = (l.map pg)[j]?) → laws_toPageS.l0 k l y (i : Int) = some (l.map pg) := by
  induction d with
  | zero =>
    intro i k y h hy hk hj
    obtain ⟨k, rfl⟩ : ∃ n, k = n + 1 := ⟨k - 1, by omega⟩
    rw [laws_toPageS.l0, if_neg (by omega)]
    refine congrArg some (List.ext_getElem? fun j => ?_)
    by_cases c : j < i
    · exact hj j c
    · rw [List.getElem?_eq_none (by omega), List.getElem?_eq_none (by simp; omega)]
  | succ d ih =>
    intro i k y h hy hk hj
    obtain ⟨k, rfl⟩ : ∃ n, k = n + 1 := ⟨k - 1, by omega⟩
    have hil : i < l.length := by omega
    have e1 : wrap64 ((i : Int) + 1) = ((i + 1 : Nat) : Int) := by rw [w64_id (by omega) (by omega)]; omega
    unfold laws_toPageS.l0 laws_toPage.f
    rw [if_pos (by omega), if_pos (by omega), Option.bind_some]
    dsimp only
    rw [if_pos (by omega), Int.toNat_natCast, e1, rdq_at l i hil]
    refine ih (i + 1) k _ (by omega) (by simp [hy]) (by omega) fun j hj2 => ?_
    by_cases c : j = i
    · subst c
      rw [List.getElem?_set_self (by omega), List.getElem?_map, List.getElem?_eq_getElem hil]
      rfl
    · rw [List.getElem?_set_ne (by omega)]
      exact hj j (by omega)
theorem tomem_is (l : List S94) (hl : l.length ≤ 1048576) (k : Nat) (hk : l.length < k) : laws_toMemory.f k l = some (l.map pg) := by
  unfold laws_toMemory.f laws_toPageS.f
  rw [if_pos (by omega), Int.toNat_natCast, if_pos (by omega), show (0 : Int) = ((0 : Nat) : Int) from rfl, topage_l l hl l.length 0 k _ (by omega) (by simp) (by omega) (fun j hj => by omega), Option.bind_some]
theorem eqpage_l (l : List S77) (hl : l.length ≤ 1048576) (d : Nat) : ∀ (i k : Nat), i + d = l.length → d < k → laws_eqPageS.l0 k l l (i : Int) = some true := by
  induction d with
  | zero =>
    intro i k hi hk
    obtain ⟨k, rfl⟩ : ∃ m, k = m + 1 := ⟨k - 1, by omega⟩
    simp only [laws_eqPageS.l0]
    rw [if_neg (by omega)]
  | succ d ih =>
    intro i k hi hk
    obtain ⟨k, rfl⟩ : ∃ m, k = m + 1 := ⟨k - 1, by omega⟩
    simp only [laws_eqPageS.l0, laws_eqPage.f, if_true, Option.bind_some]
    rw [if_pos (by omega), if_pos (by omega), if_pos (by omega), w64_id (by omega) (by omega)]
    exact ih (i + 1) k (by omega) (by omega)
theorem eqmem_is (l : List S77) (hl : l.length ≤ 1048576) (k : Nat) (hk : l.length < k) : laws_eqMemory.f k l l = some true := by
  unfold laws_eqMemory.f laws_eqPageS.f
  rw [if_pos rfl, show (0 : Int) = ((0 : Nat) : Int) from rfl, eqpage_l l hl l.length 0 k (by omega) hk, Option.bind_some, if_pos rfl]
/-- The size of a memory: told or too large; a memory that is not too large has few pages. -/
theorem szpage_l (l : List S94) (hl : l.length ≤ 1048576) (hs : ∀ x ∈ l, x.f2.size ≤ 9223372036854775807) (d : Nat) : ∀ (i k : Nat) (z : Int), i + d = l.length → d < k → 0 ≤ z → z ≤ 1048576 → ∃ r, laws_szPageS.l0 k l z (i : Int) = some r := by
  induction d with
  | zero =>
    intro i k z hi hk h0 h1
    obtain ⟨k, rfl⟩ : ∃ m, k = m + 1 := ⟨k - 1, by omega⟩
    rw [laws_szPageS.l0, if_neg (by omega)]
    exact ⟨_, rfl⟩
  | succ d ih =>
    intro i k z hi hk h0 h1
    obtain ⟨k, rfl⟩ : ∃ m, k = m + 1 := ⟨k - 1, by omega⟩
    have hil : i < l.length := by omega
    have hz := hs l[i] (List.getElem_mem hil)
    have e1 : wrap64 ((i : Int) + 1) = ((i + 1 : Nat) : Int) := by rw [w64_id (by omega) (by omega)]; omega
    rw [laws_szPageS.l0, if_pos (by omega), if_pos (by omega), rdq_at l i hil]
    unfold laws_szPage.f
    generalize l[i].f2.size = q at *
    rw [w64_id (n := z - (q : Int)) (by omega) (by omega)]
    by_cases c : z - (q : Int) < 0
    · rw [if_pos c, Option.bind_some, if_pos (by decide)]
      exact ⟨_, rfl⟩
    · rw [if_neg c, Option.bind_some, if_neg c, e1]
      exact ih (i + 1) k _ (by omega) (by omega) (by omega) (by omega)
theorem szmem_is (l : List S94) (hm : l.length ≤ maxLen) (hs : ∀ x ∈ l, x.f2.size ≤ maxLen) (k : Nat) (hk : l.length < k) : ∃ r, laws_szMemory.f k l 1048576 = some r ∧ (¬ r < 0 → l.length ≤ 1048576) := by
  have hml : l.length ≤ 9223372036854775807 := hm
  unfold laws_szMemory.f laws_szPageS.f
  rw [w64_id (n := 1048576 - (l.length : Int)) (by omega) (by omega)]
  by_cases c : 1048576 - (l.length : Int) < 0
  · rw [if_pos c, Option.bind_some, if_pos (by decide)]
    exact ⟨_, rfl, fun h => absurd (by decide) h⟩
  · obtain ⟨r, hr⟩ := szpage_l l (by omega) hs l.length 0 k (1048576 - (l.length : Int)) (by omega) hk (by omega) (by omega)
    rw [if_neg c, show (0 : Int) = ((0 : Nat) : Int) from rfl, hr, Option.bind_some]
    by_cases d : r < ((0 : Nat) : Int)
    · rw [if_pos d]
      exact ⟨_, rfl, fun _ => by omega⟩
    · rw [if_neg d]
      exact ⟨_, rfl, fun _ => by omega⟩
theorem base_both (a : Int) : ∃ z, spec_l04Base.f a = some z ∧ impl_isBase.f a = some z := by
  unfold spec_l04Base.f impl_isBase.f spec_l01In.f impl_within.f
  by_cases h : 0 ≤ a
  · by_cases h2 : a ≤ 1048575
    · exact ⟨_, by simp [h, h2]; rfl, by simp [h, h2]⟩
    · exact ⟨false, by simp [h, h2], by simp [h, h2]⟩
  · exact ⟨false, by simp [h], by simp [h]⟩
theorem perm_both (a : Int) : ∃ z, spec_l04Perm.f a = some z ∧ impl_isPerm.f a = some z := by
  unfold spec_l04Perm.f impl_isPerm.f spec_l01In.f impl_within.f
  by_cases h : 0 ≤ a
  · exact ⟨_, by simp [h]; rfl, by simp [h]⟩
  · exact ⟨false, by simp [h], by simp [h]⟩
theorem memok_l (l : List S77) (hl : l.length ≤ 64) (d : Nat) : ∀ (i k : Nat), i + d = l.length → d < k → ∃ r, spec_MemoryOK.l0 k (i : Int) l = some r ∧ impl_MemoryOK.l0 k l (l.length : Int) (i : Int) l = some r := by
  induction d with
  | zero =>
    intro i k hi hk
    obtain ⟨k, rfl⟩ : ∃ m, k = m + 1 := ⟨k - 1, by omega⟩
    rw [spec_MemoryOK.l0, impl_MemoryOK.l0, if_neg (by omega), if_neg (by omega)]
    exact ⟨_, rfl, rfl⟩
  | succ d ih =>
    intro i k hi hk
    obtain ⟨k, rfl⟩ : ∃ m, k = m + 1 := ⟨k - 1, by omega⟩
    have hil : i < l.length := by omega
    have e1 : wrap64 ((i : Int) + 1) = ((i + 1 : Nat) : Int) := by rw [w64_id (by omega) (by omega)]; omega
    obtain ⟨r, r1, r2⟩ := ih (i + 1) k (by omega) (by omega)
    have h1 : (i : Int) < (l.length : Int) := by omega
    have h2 : (0 : Int) ≤ (i : Int) := by omega
    have key : ∀ x : S77, rd_T77 l (i : Int) = x → ∃ r, spec_MemoryOK.l0 (k + 1) (i : Int) l = some r ∧ impl_MemoryOK.l0 (k + 1) l (l.length : Int) (i : Int) l = some r := by
      intro x hx
      obtain ⟨b, b1, b2⟩ := base_both x.f0
      obtain ⟨p, p1, p2⟩ := perm_both x.f1
      cases b
      · refine ⟨false, ?_, ?_⟩
        · rw [spec_MemoryOK.l0, if_pos h1, if_pos h2, hx, b1, Option.bind_some, if_neg (by decide)]
        · rw [impl_MemoryOK.l0, if_pos h1, if_pos h2, if_pos h1, hx, b2, Option.bind_some, if_neg (by decide)]
      · cases p
        · refine ⟨false, ?_, ?_⟩
          · rw [spec_MemoryOK.l0, if_pos h1, if_pos h2, hx, b1, Option.bind_some, if_pos rfl, p1, Option.bind_some, if_neg (by decide)]
          · rw [impl_MemoryOK.l0, if_pos h1, if_pos h2, if_pos h1, hx, b2, Option.bind_some, if_pos rfl, p2, Option.bind_some, if_neg (by decide)]
        · by_cases c : (x.f2.size : Int) = 128
          · by_cases c2 : (i : Int) > 0
            · have e2 : wrap64 ((i : Int) - 1) = ((i - 1 : Nat) : Int) := by rw [w64_id (by omega) (by omega)]; omega
              have h3 : (0 : Int) ≤ ((i - 1 : Nat) : Int) := by omega
              have h4 : ((i - 1 : Nat) : Int) < (l.length : Int) := by omega
              by_cases c3 : x.f0 ≤ (rd_T77 l ((i - 1 : Nat) : Int)).f0
              · refine ⟨false, ?_, ?_⟩
                · rw [spec_MemoryOK.l0, if_pos h1, if_pos h2, hx, b1, Option.bind_some, if_pos rfl, p1, Option.bind_some, if_pos rfl, if_pos c, if_pos c2, e2, if_pos h3, if_pos h4, if_pos c3]
                · rw [impl_MemoryOK.l0, if_pos h1, if_pos h2, if_pos h1, hx, b2, Option.bind_some, if_pos rfl, p2, Option.bind_some, if_pos rfl, if_pos c, if_pos c2, e2, if_pos h3, if_pos h4, if_pos (show (rd_T77 l ((i - 1 : Nat) : Int)).f0 ≥ x.f0 from c3)]
              · refine ⟨r, ?_, ?_⟩
                · rw [spec_MemoryOK.l0, if_pos h1, if_pos h2, hx, b1, Option.bind_some, if_pos rfl, p1, Option.bind_some, if_pos rfl, if_pos c, if_pos c2, e2, if_pos h3, if_pos h4, if_neg c3, e1]
                  exact r1
                · rw [impl_MemoryOK.l0, if_pos h1, if_pos h2, if_pos h1, hx, b2, Option.bind_some, if_pos rfl, p2, Option.bind_some, if_pos rfl, if_pos c, if_pos c2, e2, if_pos h3, if_pos h4, if_neg (show ¬ (rd_T77 l ((i - 1 : Nat) : Int)).f0 ≥ x.f0 from c3), e1]
                  exact r2
            · refine ⟨r, ?_, ?_⟩
              · rw [spec_MemoryOK.l0, if_pos h1, if_pos h2, hx, b1, Option.bind_some, if_pos rfl, p1, Option.bind_some, if_pos rfl, if_pos c, if_neg c2, e1]
                exact r1
              · rw [impl_MemoryOK.l0, if_pos h1, if_pos h2, if_pos h1, hx, b2, Option.bind_some, if_pos rfl, p2, Option.bind_some, if_pos rfl, if_pos c, if_neg c2, e1]
                exact r2
          · refine ⟨false, ?_, ?_⟩
            · rw [spec_MemoryOK.l0, if_pos h1, if_pos h2, hx, b1, Option.bind_some, if_pos rfl, p1, Option.bind_some, if_pos rfl, if_neg c]
            · rw [impl_MemoryOK.l0, if_pos h1, if_pos h2, if_pos h1, hx, b2, Option.bind_some, if_pos rfl, p2, Option.bind_some, if_pos rfl, if_neg c]
    exact key _ rfl
theorem memok_is (l : List S77) (k : Nat) (hk : 65 < k) : ∃ r, spec_MemoryOK.f k l = some r ∧ impl_MemoryOK.f k l = some r ∧ (r = true → l.length ≤ 64) := by
  unfold spec_MemoryOK.f impl_MemoryOK.f
  by_cases c : (l.length : Int) > 64
  · rw [if_pos c, if_pos c]
    exact ⟨false, rfl, rfl, fun h => by cases h⟩
  · rw [if_neg c, if_neg c]
    obtain ⟨r, r1, r2⟩ := memok_l l (by omega) l.length 0 k (by omega) (by omega)
    exact ⟨r, r1, r2, fun _ => by omega⟩

theorem FnExactMemoryOK : laws_FnExactMemoryOK.Pure := by
  intro l hm hw
  obtain ⟨k, hk⟩ : ∃ k : Nat, l.length + 100 < k := ⟨l.length + 101, by omega⟩
  refine ⟨k, ?_⟩
  unfold laws_FnExactMemoryOK.f
  obtain ⟨r, hr, hl⟩ := szmem_is l hm (fun x hx => (hw x hx).2.2) k (by omega)
  rw [hr, Option.bind_some]
  by_cases c : r < 0
  · rw [if_pos c]
  · have hl := hl c
    obtain ⟨z, z1, z2, _⟩ := memok_is (l.map pg) k (by omega)
    rw [if_neg c, tomem_is l hl k (by omega), Option.bind_some, z1, Option.bind_some, Option.bind_some, z2, Option.bind_some, if_neg (by simp), Option.bind_some, eqmem_is (l.map pg) (by simp; omega) k (by simp; omega), Option.bind_some, if_pos rfl]

end Go.Proofs.Ytbhempnfbginoaa.Pure
