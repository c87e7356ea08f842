/- GetBytes of the program is GetBytes of the reference, for all memories and numbers, and leaves the memory as it was. -/
import Derived.Test.YtbhempnfbginoaaPFnExactGetBytesx8
import Derived.Laws.BitsLemmas
set_option linter.unusedVariables false
set_option linter.unusedSimpArgs false
namespace Go.Proofs.Ytbhempnfbginoaa.Pure
open Go.RowKit Go.Proofs.Ytbhempnfbginoaa.PFnExactGetBytes Go.Proofs.YtbhempnfbginoaaW.PrintWords Go.Proofs.YtbhempnfbginoaaW.PrintLast Go.Proofs.YtbhempnfbginoaaW.PrintMore

theorem wf64 {x : Int} (h : (Lit.int .i64 x).wf = true) : -9223372036854775808 ≤ x ∧ x ≤ 9223372036854775807 := by
  simp only [Lit.wf, IntKind.min, IntKind.max, IntKind.signed, IntKind.bits, Bool.and_eq_true, decide_eq_true_eq, if_true] at h
  omega
theorem w64_id {n : Int} (h0 : -9223372036854775808 ≤ n) (h1 : n ≤ 9223372036854775807) : wrap64 n = n := by unfold wrap64; omega
/-- A page of the law's own kind as the program has it. -/
def pg (x : S94) : S77 := ⟨x.f0, x.f1, x.f2⟩
theorem rdq_at (l : List S94) (i : Nat) (h : i < l.length) : rd_T94 l (i : Int) = l[i] := by
  unfold rd_T94
  simp [List.getD_eq_getElem?_getD, List.getElem?_eq_getElem h]
theorem rdp_at (l : List S77) (i : Nat) (h : i < l.length) : rd_T77 l (i : Int) = l[i] := by
  unfold rd_T77
  simp [List.getD_eq_getElem?_getD, List.getElem?_eq_getElem h]
theorem topage_l (l : List S94) (hl : l.length ≤ 1048576) (d : Nat) : ∀ (i k : Nat) (y : List S77), i + d = l.length → y.length = l.length → d < k → (∀ j, j < i → y[j]? = (l.map pg)[j]?) → laws_toPageS.l0 k l y (i : Int) = some (l.map pg) := by
  induction d with
  | zero =>
    intro i k y h hy hk hj
    obtain ⟨k, rfl⟩ : ∃ n, k = n + 1 := ⟨k - 1, by omega⟩
    rw [laws_toPageS.l0, if_neg (by omega)]
    refine congrArg some (List.ext_getElem? fun j => ?_)
    by_cases c : j < i
    · exact hj j c
    · rw [List.getElem?_eq_none (by omega), List.getElem?_eq_none (by simp; omega)]
  | succ d ih =>
    intro i k y h hy hk hj
    obtain ⟨k, rfl⟩ : ∃ n, k = n + 1 := ⟨k - 1, by omega⟩
    have hil : i < l.length := by omega
    have e1 : wrap64 ((i : Int) + 1) = ((i + 1 : Nat) : Int) := by rw [w64_id (by omega) (by omega)]; omega
    unfold laws_toPageS.l0 laws_toPage.f
    rw [if_pos (by omega), if_pos (by omega), Option.bind_some]
    dsimp only
    rw [if_pos (by omega), Int.toNat_natCast, e1, rdq_at l i hil]
    refine ih (i + 1) k _ (by omega) (by simp [hy]) (by omega) fun j hj2 => ?_
    by_cases c : j = i
    · subst c
      rw [List.getElem?_set_self (by omega), List.getElem?_map, List.getElem?_eq_getElem hil]
      rfl
    · rw [List.getElem?_set_ne (by omega)]
      exact hj j (by omega)
theorem tomem_is (l : List S94) (hl : l.length ≤ 1048576) (k : Nat) (hk : l.length < k) : laws_toMemory.f k l = some (l.map pg) := by
  unfold laws_toMemory.f laws_toPageS.f
  rw [if_pos (by omega), Int.toNat_natCast, if_pos (by omega), show (0 : Int) = ((0 : Nat) : Int) from rfl, topage_l l hl l.length 0 k _ (by omega) (by simp) (by omega) (fun j hj => by omega), Option.bind_some]
theorem eqpage_l (l : List S77) (hl : l.length ≤ 1048576) (d : Nat) : ∀ (i k : Nat), i + d = l.length → d < k → laws_eqPageS.l0 k l l (i : Int) = some true := by
  induction d with
  | zero =>
    intro i k hi hk
    obtain ⟨k, rfl⟩ : ∃ m, k = m + 1 := ⟨k - 1, by omega⟩
    simp only [laws_eqPageS.l0]
    rw [if_neg (by omega)]
  | succ d ih =>
    intro i k hi hk
    obtain ⟨k, rfl⟩ : ∃ m, k = m + 1 := ⟨k - 1, by omega⟩
    simp only [laws_eqPageS.l0, laws_eqPage.f, if_true, Option.bind_some]
    rw [if_pos (by omega), if_pos (by omega), if_pos (by omega), w64_id (by omega) (by omega)]
    exact ih (i + 1) k (by omega) (by omega)
theorem eqmem_is (l : List S77) (hl : l.length ≤ 1048576) (k : Nat) (hk : l.length < k) : laws_eqMemory.f k l l = some true := by
  unfold laws_eqMemory.f laws_eqPageS.f
  rw [if_pos rfl, show (0 : Int) = ((0 : Nat) : Int) from rfl, eqpage_l l hl l.length 0 k (by omega) hk, Option.bind_some, if_pos rfl]
/-- The size of a memory: told or too large; a memory that is not too large has few pages. -/
theorem szpage_l (l : List S94) (hl : l.length ≤ 1048576) (hs : ∀ x ∈ l, x.f2.size ≤ 9223372036854775807) (d : Nat) : ∀ (i k : Nat) (z : Int), i + d = l.length → d < k → 0 ≤ z → z ≤ 1048576 → ∃ r, laws_szPageS.l0 k l z (i : Int) = some r := by
  induction d with
  | zero =>
    intro i k z hi hk h0 h1
    obtain ⟨k, rfl⟩ : ∃ m, k = m + 1 := ⟨k - 1, by omega⟩
    rw [laws_szPageS.l0, if_neg (by omega)]
    exact ⟨_, rfl⟩
  | succ d ih =>
    intro i k z hi hk h0 h1
    obtain ⟨k, rfl⟩ : ∃ m, k = m + 1 := ⟨k - 1, by omega⟩
    have hil : i < l.length := by omega
    have hz := hs l[i] (List.getElem_mem hil)
    have e1 : wrap64 ((i : Int) + 1) = ((i + 1 : Nat) : Int) := by rw [w64_id (by omega) (by omega)]; omega
    rw [laws_szPageS.l0, if_pos (by omega), if_pos (by omega), rdq_at l i hil]
    unfold laws_szPage.f
    generalize l[i].f2.size = q at *
    rw [w64_id (n := z - (q : Int)) (by omega) (by omega)]
    by_cases c : z - (q : Int) < 0
    · rw [if_pos c, Option.bind_some, if_pos (by decide)]
      exact ⟨_, rfl⟩
    · rw [if_neg c, Option.bind_some, if_neg c, e1]
      exact ih (i + 1) k _ (by omega) (by omega) (by omega) (by omega)
theorem szmem_is (l : List S94) (hm : l.length ≤ maxLen) (hs : ∀ x ∈ l, x.f2.size ≤ maxLen) (k : Nat) (hk : l.length < k) : ∃ r, laws_szMemory.f k l 1048576 = some r ∧ (¬ r < 0 → l.length ≤ 1048576) := by
  have hml : l.length ≤ 9223372036854775807 := hm
  unfold laws_szMemory.f laws_szPageS.f
  rw [w64_id (n := 1048576 - (l.length : Int)) (by omega) (by omega)]
  by_cases c : 1048576 - (l.length : Int) < 0
  · rw [if_pos c, Option.bind_some, if_pos (by decide)]
    exact ⟨_, rfl, fun h => absurd (by decide) h⟩
  · obtain ⟨r, hr⟩ := szpage_l l (by omega) hs l.length 0 k (1048576 - (l.length : Int)) (by omega) hk (by omega) (by omega)
    rw [if_neg c, show (0 : Int) = ((0 : Nat) : Int) from rfl, hr, Option.bind_some]
    by_cases d : r < ((0 : Nat) : Int)
    · rw [if_pos d]
      exact ⟨_, rfl, fun _ => by omega⟩
    · rw [if_neg d]
      exact ⟨_, rfl, fun _ => by omega⟩
theorem base_both (a : Int) : ∃ z, spec_l04Base.f a = some z ∧ impl_isBase.f a = some z := by
  unfold spec_l04Base.f impl_isBase.f spec_l01In.f impl_within.f
  by_cases h : 0 ≤ a
  · by_cases h2 : a ≤ 1048575
    · exact ⟨_, by simp [h, h2]; rfl, by simp [h, h2]⟩
    · exact ⟨false, by simp [h, h2], by simp [h, h2]⟩
  · exact ⟨false, by simp [h], by simp [h]⟩
theorem perm_both (a : Int) : ∃ z, spec_l04Perm.f a = some z ∧ impl_isPerm.f a = some z := by
  unfold spec_l04Perm.f impl_isPerm.f spec_l01In.f impl_within.f
  by_cases h : 0 ≤ a
  · exact ⟨_, by simp [h]; rfl, by simp [h]⟩
  · exact ⟨false, by simp [h], by simp [h]⟩
/-- What a page of an accepted memory is. -/
def okp (x : S77) : Prop := 0 ≤ x.f0 ∧ x.f0 ≤ 1048575 ∧ x.f0 % 128 = 0 ∧ x.f2.size = 128
theorem base_ok (a : Int) (h : impl_isBase.f a = some true) : 0 ≤ a ∧ a ≤ 1048575 ∧ a % 128 = 0 := by
  unfold impl_isBase.f impl_within.f at h
  by_cases h1 : 0 ≤ a
  · by_cases h2 : a ≤ 1048575
    · simp [h1, h2] at h
      rw [Int.tmod_eq_emod_of_nonneg h1] at h
      exact ⟨h1, h2, h⟩
    · simp [h1, h2] at h
  · simp [h1] at h
theorem memok_l (l : List S77) (hl : l.length ≤ 64) (d : Nat) : ∀ (i k : Nat), i + d = l.length → d < k → ∃ r, spec_MemoryOK.l0 k (i : Int) l = some r ∧ impl_MemoryOK.l0 k l (l.length : Int) (i : Int) l = some r ∧ (r = true → ∀ j (h : j < l.length), i ≤ j → okp l[j]) := by
  induction d with
  | zero =>
    intro i k hi hk
    obtain ⟨k, rfl⟩ : ∃ m, k = m + 1 := ⟨k - 1, by omega⟩
    rw [spec_MemoryOK.l0, impl_MemoryOK.l0, if_neg (by omega), if_neg (by omega)]
    exact ⟨_, rfl, rfl, fun _ j hj hij => by omega⟩
  | succ d ih =>
    intro i k hi hk
    obtain ⟨k, rfl⟩ : ∃ m, k = m + 1 := ⟨k - 1, by omega⟩
    have hil : i < l.length := by omega
    have e1 : wrap64 ((i : Int) + 1) = ((i + 1 : Nat) : Int) := by rw [w64_id (by omega) (by omega)]; omega
    obtain ⟨r, r1, r2, r3⟩ := ih (i + 1) k (by omega) (by omega)
    have h1 : (i : Int) < (l.length : Int) := by omega
    have h2 : (0 : Int) ≤ (i : Int) := by omega
    have key : ∀ x : S77, rd_T77 l (i : Int) = x → ∃ r, spec_MemoryOK.l0 (k + 1) (i : Int) l = some r ∧ impl_MemoryOK.l0 (k + 1) l (l.length : Int) (i : Int) l = some r ∧ (r = true → ∀ j (h : j < l.length), i ≤ j → okp l[j]) := by
      intro x hx
      have hxi : l[i] = x := by rw [← hx, rdp_at l i hil]
      have fin : r = true → okp x → ∀ j (h : j < l.length), i ≤ j → okp l[j] := fun hr ho j hj hij => by
        by_cases e : j = i
        · subst e
          rw [hxi]
          exact ho
        · exact r3 hr j hj (by omega)
      obtain ⟨b, b1, b2⟩ := base_both x.f0
      obtain ⟨p, p1, p2⟩ := perm_both x.f1
      cases b
      · refine ⟨false, ?_, ?_, fun h => by cases h⟩
        · rw [spec_MemoryOK.l0, if_pos h1, if_pos h2, hx, b1, Option.bind_some, if_neg (by decide)]
        · rw [impl_MemoryOK.l0, if_pos h1, if_pos h2, if_pos h1, hx, b2, Option.bind_some, if_neg (by decide)]
      · cases p
        · refine ⟨false, ?_, ?_, fun h => by cases h⟩
          · rw [spec_MemoryOK.l0, if_pos h1, if_pos h2, hx, b1, Option.bind_some, if_pos rfl, p1, Option.bind_some, if_neg (by decide)]
          · rw [impl_MemoryOK.l0, if_pos h1, if_pos h2, if_pos h1, hx, b2, Option.bind_some, if_pos rfl, p2, Option.bind_some, if_neg (by decide)]
        · by_cases c : (x.f2.size : Int) = 128
          · by_cases c2 : (i : Int) > 0
            · have e2 : wrap64 ((i : Int) - 1) = ((i - 1 : Nat) : Int) := by rw [w64_id (by omega) (by omega)]; omega
              have h3 : (0 : Int) ≤ ((i - 1 : Nat) : Int) := by omega
              have h4 : ((i - 1 : Nat) : Int) < (l.length : Int) := by omega
              by_cases c3 : x.f0 ≤ (rd_T77 l ((i - 1 : Nat) : Int)).f0
              · refine ⟨false, ?_, ?_, fun h => by cases h⟩
                · rw [spec_MemoryOK.l0, if_pos h1, if_pos h2, hx, b1, Option.bind_some, if_pos rfl, p1, Option.bind_some, if_pos rfl, if_pos c, if_pos c2, e2, if_pos h3, if_pos h4, if_pos c3]
                · rw [impl_MemoryOK.l0, if_pos h1, if_pos h2, if_pos h1, hx, b2, Option.bind_some, if_pos rfl, p2, Option.bind_some, if_pos rfl, if_pos c, if_pos c2, e2, if_pos h3, if_pos h4, if_pos (show (rd_T77 l ((i - 1 : Nat) : Int)).f0 ≥ x.f0 from c3)]
              · refine ⟨r, ?_, ?_, fun hr => fin hr ⟨(base_ok _ b2).1, (base_ok _ b2).2.1, (base_ok _ b2).2.2, by omega⟩⟩
                · rw [spec_MemoryOK.l0, if_pos h1, if_pos h2, hx, b1, Option.bind_some, if_pos rfl, p1, Option.bind_some, if_pos rfl, if_pos c, if_pos c2, e2, if_pos h3, if_pos h4, if_neg c3, e1]
                  exact r1
                · rw [impl_MemoryOK.l0, if_pos h1, if_pos h2, if_pos h1, hx, b2, Option.bind_some, if_pos rfl, p2, Option.bind_some, if_pos rfl, if_pos c, if_pos c2, e2, if_pos h3, if_pos h4, if_neg (show ¬ (rd_T77 l ((i - 1 : Nat) : Int)).f0 ≥ x.f0 from c3), e1]
                  exact r2
            · refine ⟨r, ?_, ?_, fun hr => fin hr ⟨(base_ok _ b2).1, (base_ok _ b2).2.1, (base_ok _ b2).2.2, by omega⟩⟩
              · rw [spec_MemoryOK.l0, if_pos h1, if_pos h2, hx, b1, Option.bind_some, if_pos rfl, p1, Option.bind_some, if_pos rfl, if_pos c, if_neg c2, e1]
                exact r1
              · rw [impl_MemoryOK.l0, if_pos h1, if_pos h2, if_pos h1, hx, b2, Option.bind_some, if_pos rfl, p2, Option.bind_some, if_pos rfl, if_pos c, if_neg c2, e1]
                exact r2
          · refine ⟨false, ?_, ?_, fun h => by cases h⟩
            · rw [spec_MemoryOK.l0, if_pos h1, if_pos h2, hx, b1, Option.bind_some, if_pos rfl, p1, Option.bind_some, if_pos rfl, if_neg c]
            · rw [impl_MemoryOK.l0, if_pos h1, if_pos h2, if_pos h1, hx, b2, Option.bind_some, if_pos rfl, p2, Option.bind_some, if_pos rfl, if_neg c]
    exact key _ rfl
theorem memok_is (l : List S77) (k : Nat) (hk : 65 < k) : ∃ r, spec_MemoryOK.f k l = some r ∧ impl_MemoryOK.f k l = some r ∧ (r = true → l.length ≤ 64 ∧ ∀ j (h : j < l.length), okp l[j]) := by
  unfold spec_MemoryOK.f impl_MemoryOK.f
  by_cases c : (l.length : Int) > 64
  · rw [if_pos c, if_pos c]
    exact ⟨false, rfl, rfl, fun h => by cases h⟩
  · rw [if_neg c, if_neg c]
    obtain ⟨r, r1, r2, r3⟩ := memok_l l (by omega) l.length 0 k (by omega) (by omega)
    exact ⟨r, r1, r2, fun hr => ⟨by omega, fun j hj => r3 hr j hj (by omega)⟩⟩

theorem has_is (a : Int) (x : S77) (h : okp x) : impl_Memory_page.has a x = true ↔ (x.f0 ≤ a ∧ a ≤ x.f0 + 127) := by
  obtain ⟨h0, h1, _, _⟩ := h
  unfold impl_Memory_page.has
  rw [w64_id (n := x.f0 + 128) (by omega) (by omega), w64_id (n := x.f0 + 128 - 1) (by omega) (by omega)]
  simp
  omega
theorem find_l (l : List S77) (hl : l.length ≤ 64) (hok : ∀ j (h : j < l.length), okp l[j]) (a : Int) (a1 : a ≤ 9223372036854775807) (d : Nat) : ∀ (i k : Nat), i + d = l.length → d < k → spec_l04Find.l0 k a (i : Int) l = some (impl_Memory_page.at_ a (l.drop i) i) := by
  induction d with
  | zero =>
    intro i k hi hk
    obtain ⟨k, rfl⟩ : ∃ m, k = m + 1 := ⟨k - 1, by omega⟩
    rw [spec_l04Find.l0, if_neg (by omega), List.drop_of_length_le (by omega)]
    rfl
  | succ d ih =>
    intro i k hi hk
    obtain ⟨k, rfl⟩ : ∃ m, k = m + 1 := ⟨k - 1, by omega⟩
    have hil : i < l.length := by omega
    have e1 : wrap64 ((i : Int) + 1) = ((i + 1 : Nat) : Int) := by rw [w64_id (by omega) (by omega)]; omega
    have ho := hok i hil
    have hb := ho
    obtain ⟨b0, b1, _, _⟩ := hb
    have hh := has_is a l[i] ho
    rw [spec_l04Find.l0, if_pos (by omega), if_pos (by omega), rdp_at l i hil, List.drop_eq_getElem_cons hil, impl_Memory_page.at_]
    by_cases c : l[i].f0 ≤ a
    · rw [if_pos c, w64_id (n := a - l[i].f0) (by omega) (by omega)]
      by_cases c2 : a - l[i].f0 < 128
      · rw [if_pos c2, if_pos (hh.2 ⟨c, by omega⟩)]
      · rw [if_neg c2, if_neg (fun h => by have := hh.1 h; omega), e1]
        exact ih (i + 1) k (by omega) (by omega)
    · rw [if_neg c, if_neg (fun h => by have := hh.1 h; omega), e1]
      exact ih (i + 1) k (by omega) (by omega)
theorem find_is (l : List S77) (hl : l.length ≤ 64) (hok : ∀ j (h : j < l.length), okp l[j]) (a : Int) (a1 : a ≤ 9223372036854775807) (k : Nat) (hk : 65 < k) : spec_l04Find.f k l a = some (impl_Memory_page.at_ a l 0) := by
  unfold spec_l04Find.f
  have h := find_l l hl hok a a1 l.length 0 k (by omega) (by omega)
  rw [List.drop_zero] at h
  exact h
theorem at_cases (a : Int) : ∀ (l : List S77) (i : Nat), impl_Memory_page.at_ a l i = -1 ∨ ∃ j, ∃ h : j < l.length, impl_Memory_page.at_ a l i = ((i + j : Nat) : Int) ∧ impl_Memory_page.has a l[j] = true
  | [], _ => .inl rfl
  | x :: r, i => by
    unfold impl_Memory_page.at_
    by_cases c : impl_Memory_page.has a x = true
    · rw [if_pos c]
      exact .inr ⟨0, by simp, rfl, c⟩
    · rw [if_neg c]
      rcases at_cases a r (i + 1) with h | ⟨j, hj, h, h2⟩
      · exact .inl h
      · exact .inr ⟨j + 1, by simpa using hj, by rw [h]; congr 1; omega, by simpa using h2⟩
/-- Where an address lies: nowhere, or in the page j at the place o. -/
theorem page_is (l : List S77) (hok : ∀ j (h : j < l.length), okp l[j]) (a : Int) : impl_Memory_page.at_ a l 0 = -1 ∨ ∃ (j : Nat) (h : j < l.length) (o : Nat), impl_Memory_page.at_ a l 0 = (j : Int) ∧ a = l[j].f0 + (o : Int) ∧ o < 128 ∧ 0 ≤ a ∧ a ≤ 1048575 := by
  rcases at_cases a l 0 with h | ⟨j, hj, h, h2⟩
  · exact .inl h
  · have ho := hok j hj
    have h3 := (has_is a l[j] ho).1 h2
    obtain ⟨b0, b1, b2, _⟩ := ho
    exact .inr ⟨j, hj, (a - l[j].f0).toNat, by rw [h, Nat.zero_add], by omega, by omega, by omega, by omega⟩
/-- All bytes have pages. -/
theorem has_all (l : List S77) (hl : l.length ≤ 64) (hok : ∀ j (h : j < l.length), okp l[j]) (a : Int) (a0 : -9223372036854775808 ≤ a) (n : Nat) (hn : n ≤ 8192) (ha : 0 ≤ a ∧ a ≤ 1048575 ∨ n = 0) (d : Nat) : ∀ (i k : Nat), i + d = n → d + 70 < k →
    ∃ b, spec_l04Has.l0 k a (n : Int) (i : Int) l = some b ∧ impl_Memory_isMoved.l0 k a (n : Int) (i : Int) l = some b ∧ (b = true → ∀ q, i ≤ q → q < n → ∃ (j : Nat) (h : j < l.length) (o : Nat), impl_Memory_page.at_ (a + (q : Int)) l 0 = (j : Int) ∧ a + (q : Int) = l[j].f0 + (o : Int) ∧ o < 128) := by
  induction d with
  | zero =>
    intro i k hi hk
    obtain ⟨k, rfl⟩ : ∃ m, k = m + 1 := ⟨k - 1, by omega⟩
    rw [spec_l04Has.l0, impl_Memory_isMoved.l0, if_neg (by omega), if_neg (by omega)]
    exact ⟨true, rfl, rfl, fun _ q h1 h2 => by omega⟩
  | succ d ih =>
    intro i k hi hk
    obtain ⟨k, rfl⟩ : ∃ m, k = m + 1 := ⟨k - 1, by omega⟩
    have e1 : wrap64 ((i : Int) + 1) = ((i + 1 : Nat) : Int) := by rw [w64_id (by omega) (by omega)]; omega
    have e2 : wrap64 (a + (i : Int)) = a + (i : Int) := w64_id (by omega) (by omega)
    rw [spec_l04Has.l0, impl_Memory_isMoved.l0, if_pos (by omega), if_pos (by omega), e1, e2, find_is l hl hok _ (by omega) k (by omega)]
    unfold impl_Memory_page.f
    simp only [Option.bind_some]
    rcases page_is l hok (a + (i : Int)) with h | ⟨j, hj, o, h, h2, h3, _, _⟩
    · rw [h]
      exact ⟨false, rfl, rfl, fun h => by cases h⟩
    · obtain ⟨b, b1, b2, b3⟩ := ih (i + 1) k (by omega) (by omega)
      rw [h, if_neg (by omega), if_neg (by omega)]
      refine ⟨b, b1, b2, fun hb q hq1 hq2 => ?_⟩
      by_cases e : q = i
      · subst e
        exact ⟨j, hj, o, h, h2, h3⟩
      · exact b3 hb q (by omega) hq2
theorem off_is (x z : Int) (o : Nat) (h : x = z + (o : Int)) (h3 : o < 128) : wrap64 (x - z) = (o : Int) := by
  rw [w64_id (by omega) (by omega)]; omega
theorem get_all (l : List S77) (hl : l.length ≤ 64) (hok : ∀ j (h : j < l.length), okp l[j]) (a : Int) (n : Nat) (hn : n ≤ 8192) (ha : 0 ≤ a ∧ a ≤ 1048575 ∨ n = 0)
    (hp : ∀ q, q < n → ∃ (j : Nat) (h : j < l.length) (o : Nat), impl_Memory_page.at_ (a + (q : Int)) l 0 = (j : Int) ∧ a + (q : Int) = l[j].f0 + (o : Int) ∧ o < 128) (a0 : -9223372036854775808 ≤ a) (a1 : a ≤ 9223372036854775807) (d : Nat) : ∀ (i k : Nat) (out : List Int), i + d = n → out.length = i → d + 70 < k →
    ∃ b, spec_l04Get.l0 k a (n : Int) out (i : Int) l = some b ∧ impl_Memory_bytes.l0 k a (n : Int) out (a + (i : Int)) l = some b := by
  induction d with
  | zero =>
    intro i k out hi ho hk
    obtain ⟨k, rfl⟩ : ∃ m, k = m + 1 := ⟨k - 1, by omega⟩
    have e2 : ¬ (a + (i : Int) < wrap64 (a + (n : Int))) := by
      rcases ha with h | h
      · rw [w64_id (by omega) (by omega)]; omega
      · rw [w64_id (by omega) (by omega)]; omega
    rw [spec_l04Get.l0, impl_Memory_bytes.l0, if_neg (by omega), if_neg e2]
    exact ⟨_, rfl, rfl⟩
  | succ d ih =>
    intro i k out hi ho hk
    obtain ⟨k, rfl⟩ : ∃ m, k = m + 1 := ⟨k - 1, by omega⟩
    have ha' : 0 ≤ a ∧ a ≤ 1048575 := by
      clear hp ih
      omega
    have e1 : wrap64 ((i : Int) + 1) = ((i + 1 : Nat) : Int) := by rw [w64_id (by omega) (by omega)]; omega
    have e2 : wrap64 (a + (i : Int)) = a + (i : Int) := w64_id (by omega) (by omega)
    have e3 : wrap64 (a + (n : Int)) = a + (n : Int) := w64_id (by omega) (by omega)
    have e4 : wrap64 (a + (i : Int) + 1) = a + ((i + 1 : Nat) : Int) := by rw [w64_id (by omega) (by omega)]; omega
    have p1 : (i : Int) < (n : Int) := by omega
    have p2 : a + (i : Int) < a + (n : Int) := by omega
    have p3 : a + (i : Int) ≤ 9223372036854775807 := by omega
    have p4 : out.length < 140737488355328 := by omega
    obtain ⟨j, hj, o, h1, h2, h3⟩ := hp i (by omega)
    have b3 := (hok j hj).2.2.2
    have e5 : wrap64 (a + (i : Int) - l[j].f0) = (o : Int) := off_is _ _ o h2 h3
    have q1 : (0 : Int) ≤ (j : Int) := Int.natCast_nonneg _
    have q2 : (j : Int) < (l.length : Int) := Int.ofNat_lt.2 hj
    have q3 : (0 : Int) ≤ (o : Int) := Int.natCast_nonneg _
    have q4 : (o : Int) < (l[j].f2.size : Int) := by rw [b3]; exact Int.ofNat_lt.2 h3
    obtain ⟨b, r1, r2⟩ := ih (i + 1) k (out ++ [bt l[j].f2 (o : Int)]) (by omega) (by simp [ho]) (by omega)
    refine ⟨b, ?_, ?_⟩
    · rw [spec_l04Get.l0, if_pos p1, e1, e2, find_is l hl hok _ p3 k (by omega), Option.bind_some, h1, if_pos q1, if_pos q2, rdp_at l j hj, e5, if_pos q3, if_pos q4, if_pos p4]
      exact r1
    · unfold impl_Memory_bytes.l0 impl_Memory_page.f
      rw [e3, if_pos p2, Option.bind_some, h1, if_pos q1, if_pos q2, rdp_at l j hj, e5, if_pos q3, if_pos q4, if_pos p4, e4]
      exact r2
theorem getSame (l : List S77) (hl : l.length ≤ 64) (hok : ∀ j (h : j < l.length), okp l[j]) (a : Int) (a0 : -9223372036854775808 ≤ a) (a1 : a ≤ 9223372036854775807) (n : Nat) (hn : n ≤ 8192) (k : Nat) (hk : 8300 < k) :
    ∃ b, spec_l04Has.f (k + 1) l a (n : Int) = some b ∧ impl_Memory_isMoved.f (k + 1) l a (n : Int) = some b ∧ (b = true → ∃ t, spec_l04Get.f (k + 1) l a (n : Int) = some t ∧ impl_Memory_bytes.f (k + 1) l a (n : Int) = some t) := by
  unfold spec_l04Has.f impl_Memory_isMoved.f spec_l04Get.f impl_Memory_bytes.f spec_l01In.f
  by_cases c : 0 ≤ a ∧ a ≤ 1048575 ∨ n = 0
  · obtain ⟨b, b1, b2, b3⟩ := has_all l hl hok a a0 n hn c n 0 k (by omega) (by omega)
    obtain ⟨b', b1', b2', _⟩ := has_all l hl hok a a0 n hn c n 0 (k + 1) (by omega) (by omega)
    have hm := impl_Memory_isMoved.mono_l k a (n : Int) ((0 : Nat) : Int) l b b2
    obtain rfl : b' = b := Option.some.inj (b2'.symm.trans hm)
    refine ⟨b', ?_, b2', fun hb => ?_⟩
    · by_cases h : (n : Int) > 0
      · rw [if_pos h, if_pos (show a ≥ 0 by omega), Option.bind_some, decide_eq_true (by omega), spec_l04Has.j0, if_neg (by decide)]
        exact b1
      · rw [if_neg h, spec_l04Has.j0, if_neg (by decide)]
        exact b1
    · obtain ⟨t, t1, t2⟩ := get_all l hl hok a n hn c (fun q hq => b3 hb q (by omega) hq) a0 a1 n 0 (k + 1) [] (by omega) rfl (by omega)
      rw [show a + ((0 : Nat) : Int) = a by omega] at t2
      exact ⟨t, t1, t2⟩
  · have h : (n : Int) > 0 := by omega
    refine ⟨false, ?_, ?_, fun h => by cases h⟩
    · rw [if_pos h]
      by_cases h2 : a ≥ 0
      · rw [if_pos h2, Option.bind_some, decide_eq_false (by omega), spec_l04Has.j0, if_pos (show (!false) = true from rfl)]
      · rw [if_neg h2, Option.bind_some, spec_l04Has.j0, if_pos (show (!false) = true from rfl)]
    · unfold impl_Memory_isMoved.l0 impl_Memory_page.f
      rw [if_pos (by omega), show wrap64 (a + 0) = a by rw [Int.add_zero, w64_id a0 a1], Option.bind_some]
      rcases page_is l hok a with h3 | ⟨j, hj, o, _, _, _, h4, h5⟩
      · rw [h3, if_pos (by decide)]
      · omega
theorem FnExactGetBytes : laws_FnExactGetBytes.Pure := by
  intro l a n hm hw wa wn
  have wa := wf64 wa
  obtain ⟨k, hk⟩ : ∃ k : Nat, l.length + 9000 < k := ⟨l.length + 9001, by omega⟩
  refine ⟨k + 1, ?_⟩
  unfold laws_FnExactGetBytes.f
  obtain ⟨r, hr, hl⟩ := szmem_is l hm (fun x hx => (hw x hx).2.2) (k + 1) (by omega)
  rw [hr, Option.bind_some]
  by_cases c : r < 0
  · rw [if_pos c]
  · have hl := hl c
    have hmain : ∃ r, spec_GetBytes.f (k + 1) (l.map pg) a n = some r ∧ impl_GetBytes.f (k + 1) (l.map pg) a n = some r := by
      unfold spec_GetBytes.f impl_GetBytes.f
      obtain ⟨z, z1, z2, z3⟩ := memok_is (l.map pg) (k + 1) (by omega)
      rw [z1, z2]
      simp only [Option.bind_some]
      cases z
      · exact ⟨_, rfl, rfl⟩
      · obtain ⟨h64, hok⟩ := z3 rfl
        by_cases hn : 0 ≤ n ∧ n ≤ 8192
        · obtain ⟨m, rfl⟩ := Int.eq_ofNat_of_zero_le hn.1
          have e1 : spec_l01In.f (m : Int) 0 8192 = some true := by unfold spec_l01In.f; simp [hn.2]
          have e2 : impl_within.f (m : Int) 0 8192 = some true := by unfold impl_within.f; simp [hn.2]
          obtain ⟨b, b1, b2, b3⟩ := getSame (l.map pg) h64 hok a wa.1 wa.2 m (by omega) k (by omega)
          rw [e1, e2, b1, b2]
          simp only [Option.bind_some, if_true]
          cases b
          · exact ⟨_, rfl, rfl⟩
          · obtain ⟨t, t1, t2⟩ := b3 rfl
            exact ⟨(t, 0), by simp [t1], by simp [t2]⟩
        · have e1 : spec_l01In.f n 0 8192 = some false := by
            unfold spec_l01In.f
            by_cases h : n ≥ 0
            · rw [if_pos h, decide_eq_false (by omega)]
            · rw [if_neg h]
          have e2 : impl_within.f n 0 8192 = some false := by
            unfold impl_within.f
            by_cases h : 0 ≤ n
            · rw [if_pos h, decide_eq_false (by omega)]
            · rw [if_neg h]
          rw [e1, e2]
          exact ⟨_, rfl, rfl⟩
    obtain ⟨⟨v, e⟩, r1, r2⟩ := hmain
    rw [if_neg c, tomem_is l hl (k + 1) (by omega), Option.bind_some, r1, Option.bind_some, Option.bind_some, r2, Option.bind_some, if_pos rfl, laws_FnExactGetBytes.j0, if_neg (by simp), tomem_is l hl k (by omega), Option.bind_some, eqmem_is (l.map pg) (by simp; omega) k (by simp; omega), Option.bind_some, if_pos rfl]

end Go.Proofs.Ytbhempnfbginoaa.Pure
