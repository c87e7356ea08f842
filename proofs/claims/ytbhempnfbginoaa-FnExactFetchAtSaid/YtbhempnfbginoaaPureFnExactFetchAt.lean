/- FetchAt of the program is FetchAt of the reference, for all memories and numbers, and leaves the memory as it was. -/
import Derived.Test.YtbhempnfbginoaaPFnExactFetchAtx6
import Derived.Laws.BitsLemmas
set_option linter.unusedVariables false
set_option linter.unusedSimpArgs false
namespace Go.Proofs.Ytbhempnfbginoaa.Pure
open Go.RowKit Go.Proofs.Ytbhempnfbginoaa.PFnExactFetchAt Go.Proofs.YtbhempnfbginoaaW.PrintWords Go.Proofs.YtbhempnfbginoaaW.PrintLast Go.Proofs.YtbhempnfbginoaaW.PrintMore

theorem wf64 {x : Int} (h : (Lit.int .i64 x).wf = true) : -9223372036854775808 ≤ x ∧ x ≤ 9223372036854775807 := by
  simp only [Lit.wf, IntKind.min, IntKind.max, IntKind.signed, IntKind.bits, Bool.and_eq_true, decide_eq_true_eq, if_true] at h
  omega
theorem u64w (n : Int) : IntKind.u64.wrap n = n % 18446744073709551616 := by simp [IntKind.wrap, IntKind.bits, IntKind.signed]
theorem i64w (n : Int) : IntKind.i64.wrap n = wrap64 n := by unfold wrap64; exact Go.IntKind.wrap_i64 n
theorem w64_id {n : Int} (h0 : -9223372036854775808 ≤ n) (h1 : n ≤ 9223372036854775807) : wrap64 n = n := by unfold wrap64; omega
theorem ipow_le (c d : Nat) (h : c ≤ d) : (2 : Int) ^ c ≤ 2 ^ d := by exact_mod_cast Nat.pow_le_pow_right (by decide : 0 < 2) h
/-- A page of the law's own kind as the program has it. -/
def pg (x : S94) : S77 := ⟨x.f0, x.f1, x.f2⟩
theorem rdq_at (l : List S94) (i : Nat) (h : i < l.length) : rd_T94 l (i : Int) = l[i] := by
  unfold rd_T94
  simp [List.getD_eq_getElem?_getD, List.getElem?_eq_getElem h]
theorem rdp_at (l : List S77) (i : Nat) (h : i < l.length) : rd_T77 l (i : Int) = l[i] := by
  unfold rd_T77
  simp [List.getD_eq_getElem?_getD, List.getElem?_eq_getElem h]
theorem topage_l (l : List S94) (hl : l.length ≤ 1048576) (d : Nat) : ∀ (i k : Nat) (y : List S77), i + d = l.length → y.length = l.length → d < k → (∀ j, j < i → y[j]? = (l.map pg)[j]?) → laws_toPageS.l0 k l y (i : Int) = some (l.map pg) := by
  induction d with
  | zero =>
    intro i k y h hy hk hj
    obtain ⟨k, rfl⟩ : ∃ n, k = n + 1 := ⟨k - 1, by omega⟩
    rw [laws_toPageS.l0, if_neg (by omega)]
    refine congrArg some (List.ext_getElem? fun j => ?_)
    by_cases c : j < i
    · exact hj j c
    · rw [List.getElem?_eq_none (by omega), List.getElem?_eq_none (by simp; omega)]
  | succ d ih =>
    intro i k y h hy hk hj
    obtain ⟨k, rfl⟩ : ∃ n, k = n + 1 := ⟨k - 1, by omega⟩
    have hil : i < l.length := by omega
    have e1 : wrap64 ((i : Int) + 1) = ((i + 1 : Nat) : Int) := by rw [w64_id (by omega) (by omega)]; omega
    unfold laws_toPageS.l0 laws_toPage.f
    rw [if_pos (by omega), if_pos (by omega), Option.bind_some]
    dsimp only
    rw [if_pos (by omega), Int.toNat_natCast, e1, rdq_at l i hil]
    refine ih (i + 1) k _ (by omega) (by simp [hy]) (by omega) fun j hj2 => ?_
    by_cases c : j = i
    · subst c
      rw [List.getElem?_set_self (by omega), List.getElem?_map, List.getElem?_eq_getElem hil]
      rfl
    · rw [List.getElem?_set_ne (by omega)]
      exact hj j (by omega)
theorem tomem_is (l : List S94) (hl : l.length ≤ 1048576) (k : Nat) (hk : l.length < k) : laws_toMemory.f k l = some (l.map pg) := by
  unfold laws_toMemory.f laws_toPageS.f
  rw [if_pos (by omega), Int.toNat_natCast, if_pos (by omega), show (0 : Int) = ((0 : Nat) : Int) from rfl, topage_l l hl l.length 0 k _ (by omega) (by simp) (by omega) (fun j hj => by omega), Option.bind_some]
theorem eqpage_l (l : List S77) (hl : l.length ≤ 1048576) (d : Nat) : ∀ (i k : Nat), i + d = l.length → d < k → laws_eqPageS.l0 k l l (i : Int) = some true := by
  induction d with
  | zero =>
    intro i k hi hk
    obtain ⟨k, rfl⟩ : ∃ m, k = m + 1 := ⟨k - 1, by omega⟩
    simp only [laws_eqPageS.l0]
    rw [if_neg (by omega)]
  | succ d ih =>
    intro i k hi hk
    obtain ⟨k, rfl⟩ : ∃ m, k = m + 1 := ⟨k - 1, by omega⟩
    simp only [laws_eqPageS.l0, laws_eqPage.f, if_true, Option.bind_some]
    rw [if_pos (by omega), if_pos (by omega), if_pos (by omega), w64_id (by omega) (by omega)]
    exact ih (i + 1) k (by omega) (by omega)
theorem eqmem_is (l : List S77) (hl : l.length ≤ 1048576) (k : Nat) (hk : l.length < k) : laws_eqMemory.f k l l = some true := by
  unfold laws_eqMemory.f laws_eqPageS.f
  rw [if_pos rfl, show (0 : Int) = ((0 : Nat) : Int) from rfl, eqpage_l l hl l.length 0 k (by omega) hk, Option.bind_some, if_pos rfl]
/-- The size of a memory: told or too large; a memory that is not too large has few pages. -/
theorem szpage_l (l : List S94) (hl : l.length ≤ 1048576) (hs : ∀ x ∈ l, x.f2.size ≤ 9223372036854775807) (d : Nat) : ∀ (i k : Nat) (z : Int), i + d = l.length → d < k → 0 ≤ z → z ≤ 1048576 → ∃ r, laws_szPageS.l0 k l z (i : Int) = some r := by
  induction d with
  | zero =>
    intro i k z hi hk h0 h1
    obtain ⟨k, rfl⟩ : ∃ m, k = m + 1 := ⟨k - 1, by omega⟩
    rw [laws_szPageS.l0, if_neg (by omega)]
    exact ⟨_, rfl⟩
  | succ d ih =>
    intro i k z hi hk h0 h1
    obtain ⟨k, rfl⟩ : ∃ m, k = m + 1 := ⟨k - 1, by omega⟩
    have hil : i < l.length := by omega
    have hz := hs l[i] (List.getElem_mem hil)
    have e1 : wrap64 ((i : Int) + 1) = ((i + 1 : Nat) : Int) := by rw [w64_id (by omega) (by omega)]; omega
    rw [laws_szPageS.l0, if_pos (by omega), if_pos (by omega), rdq_at l i hil]
    unfold laws_szPage.f
    generalize l[i].f2.size = q at *
    rw [w64_id (n := z - (q : Int)) (by omega) (by omega)]
    by_cases c : z - (q : Int) < 0
    · rw [if_pos c, Option.bind_some, if_pos (by decide)]
      exact ⟨_, rfl⟩
    · rw [if_neg c, Option.bind_some, if_neg c, e1]
      exact ih (i + 1) k _ (by omega) (by omega) (by omega) (by omega)
theorem szmem_is (l : List S94) (hm : l.length ≤ maxLen) (hs : ∀ x ∈ l, x.f2.size ≤ maxLen) (k : Nat) (hk : l.length < k) : ∃ r, laws_szMemory.f k l 1048576 = some r ∧ (¬ r < 0 → l.length ≤ 1048576) := by
  have hml : l.length ≤ 9223372036854775807 := hm
  unfold laws_szMemory.f laws_szPageS.f
  rw [w64_id (n := 1048576 - (l.length : Int)) (by omega) (by omega)]
  by_cases c : 1048576 - (l.length : Int) < 0
  · rw [if_pos c, Option.bind_some, if_pos (by decide)]
    exact ⟨_, rfl, fun h => absurd (by decide) h⟩
  · obtain ⟨r, hr⟩ := szpage_l l (by omega) hs l.length 0 k (1048576 - (l.length : Int)) (by omega) hk (by omega) (by omega)
    rw [if_neg c, show (0 : Int) = ((0 : Nat) : Int) from rfl, hr, Option.bind_some]
    by_cases d : r < ((0 : Nat) : Int)
    · rw [if_pos d]
      exact ⟨_, rfl, fun _ => by omega⟩
    · rw [if_neg d]
      exact ⟨_, rfl, fun _ => by omega⟩
theorem base_both (a : Int) : ∃ z, spec_l04Base.f a = some z ∧ impl_isBase.f a = some z := by
  unfold spec_l04Base.f impl_isBase.f spec_l01In.f impl_within.f
  by_cases h : 0 ≤ a
  · by_cases h2 : a ≤ 1048575
    · exact ⟨_, by simp [h, h2]; rfl, by simp [h, h2]⟩
    · exact ⟨false, by simp [h, h2], by simp [h, h2]⟩
  · exact ⟨false, by simp [h], by simp [h]⟩
theorem perm_both (a : Int) : ∃ z, spec_l04Perm.f a = some z ∧ impl_isPerm.f a = some z := by
  unfold spec_l04Perm.f impl_isPerm.f spec_l01In.f impl_within.f
  by_cases h : 0 ≤ a
  · exact ⟨_, by simp [h]; rfl, by simp [h]⟩
  · exact ⟨false, by simp [h], by simp [h]⟩
/-- What a page of an accepted memory is. -/
def okp (x : S77) : Prop := 0 ≤ x.f0 ∧ x.f0 ≤ 1048575 ∧ x.f0 % 128 = 0 ∧ x.f2.size = 128
theorem base_ok (a : Int) (h : impl_isBase.f a = some true) : 0 ≤ a ∧ a ≤ 1048575 ∧ a % 128 = 0 := by
  unfold impl_isBase.f impl_within.f at h
  by_cases h1 : 0 ≤ a
  · by_cases h2 : a ≤ 1048575
    · simp [h1, h2] at h
      rw [Int.tmod_eq_emod_of_nonneg h1] at h
      exact ⟨h1, h2, h⟩
    · simp [h1, h2] at h
  · simp [h1] at h
theorem memok_l (l : List S77) (hl : l.length ≤ 64) (d : Nat) : ∀ (i k : Nat), i + d = l.length → d < k → ∃ r, spec_MemoryOK.l0 k (i : Int) l = some r ∧ impl_MemoryOK.l0 k l (l.length : Int) (i : Int) l = some r ∧ (r = true → ∀ j (h : j < l.length), i ≤ j → okp l[j]) := by
  induction d with
  | zero =>
    intro i k hi hk
    obtain ⟨k, rfl⟩ : ∃ m, k = m + 1 := ⟨k - 1, by omega⟩
    rw [spec_MemoryOK.l0, impl_MemoryOK.l0, if_neg (by omega), if_neg (by omega)]
    exact ⟨_, rfl, rfl, fun _ j hj hij => by omega⟩
  | succ d ih =>
    intro i k hi hk
    obtain ⟨k, rfl⟩ : ∃ m, k = m + 1 := ⟨k - 1, by omega⟩
    have hil : i < l.length := by omega
    have e1 : wrap64 ((i : Int) + 1) = ((i + 1 : Nat) : Int) := by rw [w64_id (by omega) (by omega)]; omega
    obtain ⟨r, r1, r2, r3⟩ := ih (i + 1) k (by omega) (by omega)
    have h1 : (i : Int) < (l.length : Int) := by omega
    have h2 : (0 : Int) ≤ (i : Int) := by omega
    have key : ∀ x : S77, rd_T77 l (i : Int) = x → ∃ r, spec_MemoryOK.l0 (k + 1) (i : Int) l = some r ∧ impl_MemoryOK.l0 (k + 1) l (l.length : Int) (i : Int) l = some r ∧ (r = true → ∀ j (h : j < l.length), i ≤ j → okp l[j]) := by
      intro x hx
      have hxi : l[i] = x := by rw [← hx, rdp_at l i hil]
      have fin : r = true → okp x → ∀ j (h : j < l.length), i ≤ j → okp l[j] := fun hr ho j hj hij => by
        by_cases e : j = i
        · subst e
          rw [hxi]
          exact ho
        · exact r3 hr j hj (by omega)
      obtain ⟨b, b1, b2⟩ := base_both x.f0
      obtain ⟨p, p1, p2⟩ := perm_both x.f1
      cases b
      · refine ⟨false, ?_, ?_, fun h => by cases h⟩
        · rw [spec_MemoryOK.l0, if_pos h1, if_pos h2, hx, b1, Option.bind_some, if_neg (by decide)]
        · rw [impl_MemoryOK.l0, if_pos h1, if_pos h2, if_pos h1, hx, b2, Option.bind_some, if_neg (by decide)]
      · cases p
        · refine ⟨false, ?_, ?_, fun h => by cases h⟩
          · rw [spec_MemoryOK.l0, if_pos h1, if_pos h2, hx, b1, Option.bind_some, if_pos rfl, p1, Option.bind_some, if_neg (by decide)]
          · rw [impl_MemoryOK.l0, if_pos h1, if_pos h2, if_pos h1, hx, b2, Option.bind_some, if_pos rfl, p2, Option.bind_some, if_neg (by decide)]
        · by_cases c : (x.f2.size : Int) = 128
          · by_cases c2 : (i : Int) > 0
            · have e2 : wrap64 ((i : Int) - 1) = ((i - 1 : Nat) : Int) := by rw [w64_id (by omega) (by omega)]; omega
              have h3 : (0 : Int) ≤ ((i - 1 : Nat) : Int) := by omega
              have h4 : ((i - 1 : Nat) : Int) < (l.length : Int) := by omega
              by_cases c3 : x.f0 ≤ (rd_T77 l ((i - 1 : Nat) : Int)).f0
              · refine ⟨false, ?_, ?_, fun h => by cases h⟩
                · rw [spec_MemoryOK.l0, if_pos h1, if_pos h2, hx, b1, Option.bind_some, if_pos rfl, p1, Option.bind_some, if_pos rfl, if_pos c, if_pos c2, e2, if_pos h3, if_pos h4, if_pos c3]
                · rw [impl_MemoryOK.l0, if_pos h1, if_pos h2, if_pos h1, hx, b2, Option.bind_some, if_pos rfl, p2, Option.bind_some, if_pos rfl, if_pos c, if_pos c2, e2, if_pos h3, if_pos h4, if_pos (show (rd_T77 l ((i - 1 : Nat) : Int)).f0 ≥ x.f0 from c3)]
              · refine ⟨r, ?_, ?_, fun hr => fin hr ⟨(base_ok _ b2).1, (base_ok _ b2).2.1, (base_ok _ b2).2.2, by omega⟩⟩
                · rw [spec_MemoryOK.l0, if_pos h1, if_pos h2, hx, b1, Option.bind_some, if_pos rfl, p1, Option.bind_some, if_pos rfl, if_pos c, if_pos c2, e2, if_pos h3, if_pos h4, if_neg c3, e1]
                  exact r1
                · rw [impl_MemoryOK.l0, if_pos h1, if_pos h2, if_pos h1, hx, b2, Option.bind_some, if_pos rfl, p2, Option.bind_some, if_pos rfl, if_pos c, if_pos c2, e2, if_pos h3, if_pos h4, if_neg (show ¬ (rd_T77 l ((i - 1 : Nat) : Int)).f0 ≥ x.f0 from c3), e1]
                  exact r2
            · refine ⟨r, ?_, ?_, fun hr => fin hr ⟨(base_ok _ b2).1, (base_ok _ b2).2.1, (base_ok _ b2).2.2, by omega⟩⟩
              · rw [spec_MemoryOK.l0, if_pos h1, if_pos h2, hx, b1, Option.bind_some, if_pos rfl, p1, Option.bind_some, if_pos rfl, if_pos c, if_neg c2, e1]
                exact r1
              · rw [impl_MemoryOK.l0, if_pos h1, if_pos h2, if_pos h1, hx, b2, Option.bind_some, if_pos rfl, p2, Option.bind_some, if_pos rfl, if_pos c, if_neg c2, e1]
                exact r2
          · refine ⟨false, ?_, ?_, fun h => by cases h⟩
            · rw [spec_MemoryOK.l0, if_pos h1, if_pos h2, hx, b1, Option.bind_some, if_pos rfl, p1, Option.bind_some, if_pos rfl, if_neg c]
            · rw [impl_MemoryOK.l0, if_pos h1, if_pos h2, if_pos h1, hx, b2, Option.bind_some, if_pos rfl, p2, Option.bind_some, if_pos rfl, if_neg c]
    exact key _ rfl
theorem memok_is (l : List S77) (k : Nat) (hk : 65 < k) : ∃ r, spec_MemoryOK.f k l = some r ∧ impl_MemoryOK.f k l = some r ∧ (r = true → l.length ≤ 64 ∧ ∀ j (h : j < l.length), okp l[j]) := by
  unfold spec_MemoryOK.f impl_MemoryOK.f
  by_cases c : (l.length : Int) > 64
  · rw [if_pos c, if_pos c]
    exact ⟨false, rfl, rfl, fun h => by cases h⟩
  · rw [if_neg c, if_neg c]
    obtain ⟨r, r1, r2, r3⟩ := memok_l l (by omega) l.length 0 k (by omega) (by omega)
    exact ⟨r, r1, r2, fun hr => ⟨by omega, fun j hj => r3 hr j hj (by omega)⟩⟩

/-- The number of i bytes from o on. -/
def tk (s : ByteArray) (o : Nat) : Nat → Nat
  | 0 => 0
  | i + 1 => (bt s ((o + i : Nat) : Int)).toNat * 256 ^ i + tk s o i
theorem bt_nat (s : ByteArray) (i : Int) : ∃ b : Nat, bt s i = b ∧ b < 256 := by
  have h := bt_range s i
  exact ⟨(bt s i).toNat, by omega, by omega⟩
theorem or_nat (x y : Int) : Go.bits .or .i64 x y = wrap64 ((((x % 18446744073709551616).toNat ||| (y % 18446744073709551616).toNat : Nat)) : Int) := by
  rw [show Go.bits .or .i64 x y = IntKind.i64.wrap (((BitVec.ofInt 64 x) ||| (BitVec.ofInt 64 y) : BitVec 64).toNat : Int) from rfl, i64w, BitVec.toNat_or, BitVec.toNat_ofInt, BitVec.toNat_ofInt]
  rfl
/-- What lies above 2^a and what lies below do not meet. -/
theorem or_low (x y : Int) (a : Nat) (ha : a ≤ 64) (hx : x % 2 ^ a = 0) (h0 : 0 ≤ y) (h1 : y < 2 ^ a) : Go.bits .or .i64 x y = wrap64 (x + y) := by
  have hle := ipow_le a 64 ha
  rw [show (2 : Int) ^ 64 = 18446744073709551616 by decide] at hle
  obtain ⟨m, hm⟩ : ∃ m : Nat, x % 18446744073709551616 = m := ⟨(x % 18446744073709551616).toNat, by omega⟩
  obtain ⟨b, rfl⟩ := Int.eq_ofNat_of_zero_le h0
  have hmd : m % 2 ^ a = 0 := by
    have hd : ((2 : Int) ^ a) ∣ 18446744073709551616 := by
      refine ⟨2 ^ (64 - a), ?_⟩
      rw [← Int.pow_add, show a + (64 - a) = 64 by omega]; rfl
    have h2 : (m : Int) % 2 ^ a = 0 := by rw [← hm, Int.emod_emod_of_dvd x hd, hx]
    exact_mod_cast h2
  have hb : b < 2 ^ a := by exact_mod_cast h1
  have hq : m = 2 ^ a * (m / 2 ^ a) := by have := Nat.div_add_mod m (2 ^ a); omega
  have e : (m ||| b) = m + b := by rw [hq]; exact (Nat.two_pow_add_eq_or_of_lt hb _).symm
  rw [or_nat, hm, show ((b : Int) % 18446744073709551616).toNat = b by omega, Int.toNat_natCast, e]
  unfold wrap64
  omega
theorem itake_l (s : ByteArray) (hs : s.size ≤ 140737488355320) : ∀ (i : Nat) (A : Int) (k : Nat), i ≤ s.size → i < k →
    impl_takeLittle.l0 k s (wrap64 A) ((i : Int) - 1) = some (wrap64 (A * 256 ^ i + (tk s 0 i : Nat))) := by
  intro i
  induction i with
  | zero =>
    intro A k _ hk
    obtain ⟨k, rfl⟩ : ∃ m, k = m + 1 := ⟨k - 1, by omega⟩
    simp only [impl_takeLittle.l0]
    rw [if_neg (by omega)]
    simp [tk]
  | succ i ih =>
    intro A k hi hk
    obtain ⟨k, rfl⟩ : ∃ m, k = m + 1 := ⟨k - 1, by omega⟩
    simp only [impl_takeLittle.l0]
    have e0 : ((i + 1 : Nat) : Int) - 1 = (i : Int) := by omega
    rw [e0, if_pos (by omega), if_pos (by omega), if_pos (by omega)]
    obtain ⟨b, hb, hb2⟩ := bt_nat s (i : Int)
    have e1 : Go.bits .or .i64 (wrap64 (wrap64 A * 256)) (wrap64 (b : Int)) = wrap64 (A * 256 + b) := by
      rw [w64_id (n := (b : Int)) (by omega) (by omega), or_low _ _ 8 (by decide) (by unfold wrap64; omega) (by omega) (by omega)]
      unfold wrap64
      omega
    rw [hb, e1, w64_id (n := (i : Int) - 1) (by omega) (by omega), ih _ k (by omega) (by omega)]
    congr 2
    rw [tk, Nat.zero_add, hb, Int.toNat_natCast, Int.pow_succ]
    rw [Int.natCast_add, Int.natCast_mul, Int.natCast_pow, show ((256 : Nat) : Int) = 256 from rfl]
    generalize (256 : Int) ^ i = q
    generalize ((tk s 0 i : Nat) : Int) = z
    rw [Int.add_mul, Int.mul_assoc, Int.mul_comm 256 q, Int.add_assoc]
theorem itake_is (s : ByteArray) (hs : s.size ≤ 140737488355320) (k : Nat) (hk : s.size < k) : impl_takeLittle.f k s = some (wrap64 ((tk s 0 s.size : Nat) : Int)) := by
  unfold impl_takeLittle.f
  have h := itake_l s hs s.size 0 k (Nat.le_refl _) hk
  rw [w64_id (n := (s.size : Int) - 1) (by omega) (by omega)]
  have e : wrap64 0 = 0 := by unfold wrap64; omega
  rw [e, Int.zero_mul, Int.zero_add] at h
  exact h
theorem bt_extract (s : ByteArray) (a b j : Nat) (h : a + j < b) (hb : b ≤ s.size) : bt (s.extract a b) (j : Int) = bt s ((a + j : Nat) : Int) := by
  have h1 : j < (s.extract a b).size := by rw [ByteArray.size_extract]; omega
  unfold bt
  simp only [Int.toNat_natCast]
  rw [dif_pos h1, dif_pos (by omega), ByteArray.getElem_extract]
theorem tk_extract (s : ByteArray) (a b : Nat) (hb : b ≤ s.size) : ∀ i, a + i ≤ b → tk (s.extract a b) 0 i = tk s a i := by
  intro i
  induction i with
  | zero => intro _; rfl
  | succ i ih => intro h; rw [tk, tk, Nat.zero_add, bt_extract s a b i (by omega) hb, ih (by omega)]
theorem take_impl (s : ByteArray) (o n k : Nat) (hn : n ≤ 8) (ho : o + n ≤ s.size) (hs : s.size ≤ 140737488355320) (hk : n < k) :
    impl_takeLittle.f k (s.extract o (o + n)) = some (wrap64 ((tk s o n : Nat) : Int)) := by
  have hz : (s.extract o (o + n)).size = n := by rw [ByteArray.size_extract]; omega
  rw [itake_is _ (by omega) k (by omega), hz, tk_extract s o (o + n) ho n (Nat.le_refl _)]

theorem stake_l (s : ByteArray) (o n : Nat) (hn : n ≤ 8) (ho : o + n ≤ s.size) (hs : s.size ≤ 140737488355320) : ∀ (i A k : Nat), i ≤ n → A < 256 ^ (n - i) → i < k →
    spec_l01Take.l0 k s (o : Int) (A : Int) ((i : Int) - 1) = some (wrap64 (((A * 256 ^ i + tk s o i : Nat)) : Int)) := by
  intro i
  induction i with
  | zero =>
    intro A k _ _ hk
    obtain ⟨k, rfl⟩ : ∃ m, k = m + 1 := ⟨k - 1, by omega⟩
    simp only [spec_l01Take.l0]
    rw [if_neg (by omega)]
    simp [tk]
  | succ i ih =>
    intro A k hi hA hk
    obtain ⟨k, rfl⟩ : ∃ m, k = m + 1 := ⟨k - 1, by omega⟩
    have hp : 256 ^ (n - i) = 256 * 256 ^ (n - (i + 1)) := by rw [show n - i = (n - (i + 1)) + 1 by omega, Nat.pow_succ]; omega
    have hq : 256 ^ (n - i) ≤ 256 ^ 8 := Nat.pow_le_pow_right (by decide) (by omega)
    rw [show (256 : Nat) ^ 8 = 18446744073709551616 by decide] at hq
    simp only [spec_l01Take.l0]
    have e0 : ((i + 1 : Nat) : Int) - 1 = (i : Int) := by omega
    have em : wrap64 ((o : Int) + (i : Int)) = ((o + i : Nat) : Int) := by rw [w64_id (by omega) (by omega)]; omega
    rw [e0, if_pos (by omega), em, if_pos (by omega), if_pos (by omega)]
    obtain ⟨b, hb, hb2⟩ := bt_nat s ((o + i : Nat) : Int)
    have e1 : IntKind.u64.wrap (IntKind.u64.wrap (256 * (A : Int)) + IntKind.u64.wrap (b : Int)) = ((256 * A + b : Nat) : Int) := by
      simp only [u64w]; omega
    rw [hb, e1, w64_id (by omega) (by omega), ih _ k (by omega) (by omega) (by omega)]
    congr 3
    rw [tk, Nat.pow_succ, hb, Int.toNat_natCast]
    grind
theorem stake_is (s : ByteArray) (o n k : Nat) (hn : n ≤ 8) (ho : o + n ≤ s.size) (hs : s.size ≤ 140737488355320) (hk : n < k) :
    spec_l01Take.f k s (o : Int) (n : Int) = some (wrap64 ((tk s o n : Nat) : Int)) := by
  unfold spec_l01Take.f
  have h := stake_l s o n hn ho hs n 0 k (Nat.le_refl _) (by rw [Nat.sub_self]; decide) hk
  rw [w64_id (by omega) (by omega)]
  rw [Nat.zero_mul, Nat.zero_add] at h
  exact h
/-- The program's number of some bytes of a text is the reference's. -/
theorem take_same (s : ByteArray) (o n k : Nat) (hn : n ≤ 8) (ho : o + n ≤ s.size) (hs : s.size ≤ 140737488355320) (hk : n < k) :
    spec_l01Take.f k s (o : Int) (n : Int) = some (wrap64 ((tk s o n : Nat) : Int)) ∧ impl_takeLittle.f k (s.extract o (o + n)) = some (wrap64 ((tk s o n : Nat) : Int)) :=
  ⟨stake_is s o n k hn ho hs hk, take_impl s o n k hn ho hs hk⟩

theorem has_is (a : Int) (x : S77) (h : okp x) : impl_Memory_page.has a x = true ↔ (x.f0 ≤ a ∧ a ≤ x.f0 + 127) := by
  obtain ⟨h0, h1, _, _⟩ := h
  unfold impl_Memory_page.has
  rw [w64_id (n := x.f0 + 128) (by omega) (by omega), w64_id (n := x.f0 + 128 - 1) (by omega) (by omega)]
  simp
  omega
theorem find_l (l : List S77) (hl : l.length ≤ 64) (hok : ∀ j (h : j < l.length), okp l[j]) (a : Int) (a1 : a ≤ 9223372036854775807) (d : Nat) : ∀ (i k : Nat), i + d = l.length → d < k → spec_l04Find.l0 k a (i : Int) l = some (impl_Memory_page.at_ a (l.drop i) i) := by
  induction d with
  | zero =>
    intro i k hi hk
    obtain ⟨k, rfl⟩ : ∃ m, k = m + 1 := ⟨k - 1, by omega⟩
    rw [spec_l04Find.l0, if_neg (by omega), List.drop_of_length_le (by omega)]
    rfl
  | succ d ih =>
    intro i k hi hk
    obtain ⟨k, rfl⟩ : ∃ m, k = m + 1 := ⟨k - 1, by omega⟩
    have hil : i < l.length := by omega
    have e1 : wrap64 ((i : Int) + 1) = ((i + 1 : Nat) : Int) := by rw [w64_id (by omega) (by omega)]; omega
    have ho := hok i hil
    have hb := ho
    obtain ⟨b0, b1, _, _⟩ := hb
    have hh := has_is a l[i] ho
    rw [spec_l04Find.l0, if_pos (by omega), if_pos (by omega), rdp_at l i hil, List.drop_eq_getElem_cons hil, impl_Memory_page.at_]
    by_cases c : l[i].f0 ≤ a
    · rw [if_pos c, w64_id (n := a - l[i].f0) (by omega) (by omega)]
      by_cases c2 : a - l[i].f0 < 128
      · rw [if_pos c2, if_pos (hh.2 ⟨c, by omega⟩)]
      · rw [if_neg c2, if_neg (fun h => by have := hh.1 h; omega), e1]
        exact ih (i + 1) k (by omega) (by omega)
    · rw [if_neg c, if_neg (fun h => by have := hh.1 h; omega), e1]
      exact ih (i + 1) k (by omega) (by omega)
theorem find_is (l : List S77) (hl : l.length ≤ 64) (hok : ∀ j (h : j < l.length), okp l[j]) (a : Int) (a1 : a ≤ 9223372036854775807) (k : Nat) (hk : 65 < k) : spec_l04Find.f k l a = some (impl_Memory_page.at_ a l 0) := by
  unfold spec_l04Find.f
  have h := find_l l hl hok a a1 l.length 0 k (by omega) (by omega)
  rw [List.drop_zero] at h
  exact h
theorem at_cases (a : Int) : ∀ (l : List S77) (i : Nat), impl_Memory_page.at_ a l i = -1 ∨ ∃ j, ∃ h : j < l.length, impl_Memory_page.at_ a l i = ((i + j : Nat) : Int) ∧ impl_Memory_page.has a l[j] = true
  | [], _ => .inl rfl
  | x :: r, i => by
    unfold impl_Memory_page.at_
    by_cases c : impl_Memory_page.has a x = true
    · rw [if_pos c]
      exact .inr ⟨0, by simp, rfl, c⟩
    · rw [if_neg c]
      rcases at_cases a r (i + 1) with h | ⟨j, hj, h, h2⟩
      · exact .inl h
      · exact .inr ⟨j + 1, by simpa using hj, by rw [h]; congr 1; omega, by simpa using h2⟩
/-- Where an address lies: nowhere, or in the page j at the place o. -/
theorem page_is (l : List S77) (hok : ∀ j (h : j < l.length), okp l[j]) (a : Int) : impl_Memory_page.at_ a l 0 = -1 ∨ ∃ (j : Nat) (h : j < l.length) (o : Nat), impl_Memory_page.at_ a l 0 = (j : Int) ∧ a = l[j].f0 + (o : Int) ∧ o < 128 ∧ 0 ≤ a ∧ a ≤ 1048575 := by
  rcases at_cases a l 0 with h | ⟨j, hj, h, h2⟩
  · exact .inl h
  · have ho := hok j hj
    have h3 := (has_is a l[j] ho).1 h2
    obtain ⟨b0, b1, b2, _⟩ := ho
    exact .inr ⟨j, hj, (a - l[j].f0).toNat, by rw [h, Nat.zero_add], by omega, by omega, by omega, by omega⟩
theorem take_at (l : List S77) (j : Nat) (hj : j < l.length) (ho : okp l[j]) (a : Int) (o n k : Nat) (ha : a = l[j].f0 + (o : Int)) (hon : o + n ≤ 128) (hn : n ≤ 8) (hk : n < k) :
    ∃ v, spec_l01Take.f k (rd_T77 l (j : Int)).f2 (wrap64 (a - (rd_T77 l (j : Int)).f0)) (n : Int) = some v ∧ wrap64 (a - (rd_T77 l (j : Int)).f0) = (o : Int) ∧
      impl_takeLittle.f k ((rd_T77 l (j : Int)).f2.extract o (o + n)) = some v ∧ (rd_T77 l (j : Int)).f2.size = 128 := by
  obtain ⟨b0, b1, b2, b3⟩ := ho
  rw [rdp_at l j hj, show wrap64 (a - l[j].f0) = (o : Int) by rw [w64_id (by omega) (by omega)]; omega]
  obtain ⟨t1, t2⟩ := take_same l[j].f2 o n k hn (by omega) (by omega) hk
  exact ⟨_, t1, rfl, t2, b3⟩
theorem load_rest (l : List S77) (hok : ∀ j (h : j < l.length), okp l[j]) (a : Int) (n k : Nat) (hn : n = 1 ∨ n = 2 ∨ n = 4 ∨ n = 8) (ht : a % (n : Int) = 0) (j : Nat) (hj : j < l.length) (o : Nat) (ha : a = l[j].f0 + (o : Int)) (ho : o < 128) (hk : 10 < k) :
    ∃ v, ((spec_l01Take.f k (rd_T77 l (j : Int)).f2 (wrap64 (a - (rd_T77 l (j : Int)).f0)) (n : Int)).bind fun t => some (t, (0 : Int))) = some (v, 0) ∧
      (if 0 ≤ (wrap64 (a - ((rd_T77 l (j : Int)).f0))) then (if (wrap64 (a - ((rd_T77 l (j : Int)).f0))) ≤ (wrap64 ((wrap64 (a - ((rd_T77 l (j : Int)).f0))) + (n : Int))) then (if (wrap64 ((wrap64 (a - ((rd_T77 l (j : Int)).f0))) + (n : Int))) ≤ (((rd_T77 l (j : Int)).f2).size : Int) then ((impl_takeLittle.f k (((rd_T77 l (j : Int)).f2).extract ((wrap64 (a - ((rd_T77 l (j : Int)).f0))) : Int).toNat ((wrap64 ((wrap64 (a - ((rd_T77 l (j : Int)).f0))) + (n : Int))) : Int).toNat)).bind fun t174 => (some (t174, (0 : Int)))) else (none)) else (none)) else (none)) = some (v, 0) := by
  have hp := hok j hj
  have hb := hp.2.2.1
  have hon : o + n ≤ 128 := by
    rcases hn with rfl | rfl | rfl | rfl <;> omega
  obtain ⟨v, t1, t2, t3, t4⟩ := take_at l j hj hp a o n k ha hon (by omega) (by omega)
  refine ⟨v, by rw [t1, Option.bind_some], ?_⟩
  rw [t2, show wrap64 ((o : Int) + (n : Int)) = ((o + n : Nat) : Int) by rw [w64_id (by omega) (by omega)]; omega, if_pos (by omega), if_pos (by omega), t4, if_pos (by omega), Int.toNat_natCast, Int.toNat_natCast, t3, Option.bind_some]
theorem tmod0 (a n : Int) (h : Int.tmod a n = 0) : a % n = 0 := Int.emod_eq_zero_of_dvd (Int.dvd_of_tmod_eq_zero h)

theorem fetchSame (l : List S77) (hl : l.length ≤ 64) (hok : ∀ j (h : j < l.length), okp l[j]) (a : Int) (a1 : a ≤ 9223372036854775807) (k : Nat) (hk : 70 < k) :
    ∃ r, spec_l04Fetch.f k l a = some r ∧ impl_Memory_load.f k l a 4 4 true = some r := by
  unfold spec_l04Fetch.f impl_Memory_load.f impl_Memory_access.f impl_Memory_page.f
  have hn0 : ¬ (4 : Int) = 0 := by decide
  rw [find_is l hl hok a a1 k (by omega)]
  simp only [if_neg hn0]
  by_cases ct : Int.tmod a 4 = 0
  · simp only [if_pos ct, Option.bind_some]
    rcases page_is l hok a with h | ⟨j, hj, o, h, ha, ho, a0, _⟩
    · rw [h]
      exact ⟨(0, 12), by simp, by simp [ct]⟩
    · obtain ⟨v, v1, v2⟩ := load_rest l hok a 4 k (by omega) (tmod0 a _ ct) j hj o ha ho (by omega)
      have g1 : ¬ ((j : Int) < 0) := by omega
      have g2 : (0 : Int) ≤ (j : Int) := by omega
      have g3 : (j : Int) < (l.length : Int) := by omega
      rw [show ((4 : Nat) : Int) = 4 from rfl] at v1 v2
      rw [h]
      simp only [if_neg g1, if_pos g2, if_pos g3]
      by_cases c1 : Go.bits .and .i64 ((rd_T77 l (j : Int)).f1) 4 = 0
      · exact ⟨(0, 13), by simp [c1], by simp [c1, ct]⟩
      · by_cases c2 : Go.bits .and .i64 ((rd_T77 l (j : Int)).f1) 8 = 0
        · refine ⟨(v, 0), ?_, ?_⟩
          · rw [if_neg c1, v1]
          · rw [if_neg c1, if_pos c2, Option.bind_some, if_pos rfl, if_pos g2, if_pos g3, v2]
        · refine ⟨(v, 0), ?_, ?_⟩
          · rw [if_neg c1, v1]
          · rw [if_neg c1, if_neg c2, if_pos trivial, Option.bind_some, if_pos rfl, if_pos g2, if_pos g3, v2]
  · simp only [if_neg ct]
    exact ⟨(0, 11), rfl, by simp [ct]⟩
theorem FnExactFetchAt : laws_FnExactFetchAt.Pure := by
  intro l a hm hw wa
  have wa := wf64 wa
  obtain ⟨k, hk⟩ : ∃ k : Nat, l.length + 100 < k := ⟨l.length + 101, by omega⟩
  refine ⟨k + 1, ?_⟩
  unfold laws_FnExactFetchAt.f
  obtain ⟨r, hr, hl⟩ := szmem_is l hm (fun x hx => (hw x hx).2.2) (k + 1) (by omega)
  rw [hr, Option.bind_some]
  by_cases c : r < 0
  · rw [if_pos c]
  · have hl := hl c
    have hmain : ∃ r, spec_FetchAt.f (k + 1) (l.map pg) a = some r ∧ impl_FetchAt.f (k + 1) (l.map pg) a = some r := by
      unfold spec_FetchAt.f impl_FetchAt.f
      obtain ⟨z, z1, z2, z3⟩ := memok_is (l.map pg) (k + 1) (by omega)
      rw [z1, z2]
      simp only [Option.bind_some]
      cases z
      · exact ⟨(0, 1), rfl, rfl⟩
      · obtain ⟨h64, hok⟩ := z3 rfl
        obtain ⟨⟨v, e⟩, r1, r2⟩ := fetchSame (l.map pg) h64 hok a wa.2 (k + 1) (by omega)
        exact ⟨(v, e), by simp [r1], by simp [r2]⟩
    obtain ⟨⟨v, e⟩, r1, r2⟩ := hmain
    rw [if_neg c, tomem_is l hl (k + 1) (by omega), Option.bind_some, r1, Option.bind_some, Option.bind_some, r2, Option.bind_some, if_pos rfl, laws_FnExactFetchAt.j0, if_neg (by simp), tomem_is l hl k (by omega), Option.bind_some, eqmem_is (l.map pg) (by simp; omega) k (by simp; omega), Option.bind_some, if_pos rfl]

end Go.Proofs.Ytbhempnfbginoaa.Pure
