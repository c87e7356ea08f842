/- The wide product of two numbers, and the four products of the instructions that are drawn from it; for all drawn numbers. -/
import Derived.Test.YtbhempnfbginoaaPFnWidex4
import Derived.Laws.BitsLemmas
set_option linter.unusedVariables false
set_option linter.unusedSimpArgs false
namespace Go.Proofs.Ytbhempnfbginoaa.Pure
open Go.RowKit Go.Proofs.Ytbhempnfbginoaa.PFnWide Go.Proofs.YtbhempnfbginoaaW.PrintWords Go.Proofs.YtbhempnfbginoaaW.PrintLast Go.Proofs.YtbhempnfbginoaaW.PrintMore

theorem u64w (n : Int) : IntKind.u64.wrap n = n % 18446744073709551616 := by simp [IntKind.wrap, IntKind.bits, IntKind.signed]
theorem i64w (n : Int) : IntKind.i64.wrap n = wrap64 n := by unfold wrap64; exact Go.IntKind.wrap_i64 n
theorem w64_id {n : Int} (h0 : -9223372036854775808 ≤ n) (h1 : n ≤ 9223372036854775807) : wrap64 n = n := by unfold wrap64; omega
theorem u64_id {n : Int} (h0 : 0 ≤ n) (h1 : n < 18446744073709551616) : IntKind.u64.wrap n = n := by rw [u64w]; omega
theorem w64_rng (n : Int) : -9223372036854775808 ≤ wrap64 n ∧ wrap64 n ≤ 9223372036854775807 := by unfold wrap64; omega
theorem pow64 : (18446744073709551616 : Nat) = 2 ^ 64 := by decide

theorem bits_rng (o : BinOp) (x y : Int) : -9223372036854775808 ≤ Go.bits o .i64 x y ∧ Go.bits o .i64 x y ≤ 9223372036854775807 := by
  have h : ∀ n : Int, -9223372036854775808 ≤ IntKind.i64.wrap n ∧ IntKind.i64.wrap n ≤ 9223372036854775807 := fun n => by rw [i64w]; exact w64_rng n
  unfold Go.bits
  split <;> first | exact h _ | omega
theorem wide_l (A B : Nat) (hA : A < 18446744073709551616) (hB : B < 18446744073709551616) : ∀ (i k : Nat), i ≤ 64 → i < k →
    spec_l03Wide.l0 k (A : Int) (B : Int) ((A * (B / 2 ^ i) / 18446744073709551616 : Nat) : Int) ((A * (B / 2 ^ i) % 18446744073709551616 : Nat) : Int) ((i : Int) - 1) = some (((A * B / 18446744073709551616 : Nat) : Int), ((A * B % 18446744073709551616 : Nat) : Int)) := by
  intro i
  induction i with
  | zero =>
    intro k _ hk
    obtain ⟨k, rfl⟩ : ∃ m, k = m + 1 := ⟨k - 1, by omega⟩
    simp only [spec_l03Wide.l0]
    rw [if_neg (by omega)]
    simp
  | succ i ih =>
    intro k hi hk
    obtain ⟨k, rfl⟩ : ∃ m, k = m + 1 := ⟨k - 1, by omega⟩
    have ih := ih k (by omega) (by omega)
    have eY : B / 2 ^ (i + 1) = B / 2 ^ i / 2 := by rw [Nat.pow_succ, Nat.div_div_eq_div_mul]
    have hYB : B / 2 ^ i ≤ B := Nat.div_le_self _ _
    have eS : shr .u64 (B : Int) (i : Int) = ((B / 2 ^ i : Nat) : Int) := by
      unfold shr
      simp [IntKind.bits, Nat.min_eq_left (show i ≤ 64 by omega)]
    rw [eY]
    generalize B / 2 ^ i = Y at *
    have hAY : A * Y = 2 * (A * (Y / 2)) + A * (Y % 2) := by
      have := Nat.div_add_mod Y 2
      generalize Y / 2 = q at *
      generalize Y % 2 = r at *
      subst this
      grind
    have hP : A * (Y / 2) < 18446744073709551616 * 9223372036854775808 := by
      have h1 : A * (Y / 2) ≤ 18446744073709551615 * 9223372036854775807 := Nat.mul_le_mul (by omega) (by omega)
      omega
    have hb : A * Y ≤ 18446744073709551615 * 18446744073709551615 := Nat.mul_le_mul (by omega) (by omega)
    rw [hAY] at ih hb
    clear hAY
    generalize A * (Y / 2) = P at *
    simp only [spec_l03Wide.l0]
    have e0 : ((i + 1 : Nat) : Int) - 1 = (i : Int) := by omega
    have e3 : Int.tmod ((Y : Nat) : Int) 2 = ((Y % 2 : Nat) : Int) := rfl
    rw [e0, if_pos (by omega), u64_id (n := (i : Int)) (by omega) (by omega), if_pos (by omega), eS, e3, w64_id (n := (i : Int) - 1) (by omega) (by omega)]
    simp only [u64w]
    by_cases hc : Y % 2 = 1
    · rw [hc, Nat.mul_one] at ih hb
      rw [if_pos (by omega)]
      have e2 : ((((P % 18446744073709551616 : Nat) : Int) * 2 % 18446744073709551616 + (A : Int)) % 18446744073709551616) = (((2 * P + A) % 18446744073709551616 : Nat) : Int) := by omega
      rw [e2]
      by_cases ht : (((2 * P + A) % 18446744073709551616 : Nat) : Int) < ((P % 18446744073709551616 : Nat) : Int) * 2 % 18446744073709551616
      · rw [if_pos ht]
        have e1 : ((((P / 18446744073709551616 : Nat) : Int) * 2 % 18446744073709551616 + ((P % 18446744073709551616 : Nat) : Int) / 9223372036854775808) % 18446744073709551616 + 1) % 18446744073709551616 = (((2 * P + A) / 18446744073709551616 : Nat) : Int) := by omega
        rw [e1, ih]
      · rw [if_neg ht]
        have e1 : ((((P / 18446744073709551616 : Nat) : Int) * 2 % 18446744073709551616 + ((P % 18446744073709551616 : Nat) : Int) / 9223372036854775808) % 18446744073709551616) = (((2 * P + A) / 18446744073709551616 : Nat) : Int) := by omega
        rw [e1, ih]
    · rw [show Y % 2 = 0 by omega, Nat.mul_zero, Nat.add_zero] at ih hb
      rw [if_neg (by omega)]
      have e1 : ((((P / 18446744073709551616 : Nat) : Int) * 2 % 18446744073709551616 + ((P % 18446744073709551616 : Nat) : Int) / 9223372036854775808) % 18446744073709551616) = (((2 * P) / 18446744073709551616 : Nat) : Int) := by omega
      have e2 : (((P % 18446744073709551616 : Nat) : Int) * 2 % 18446744073709551616) = (((2 * P) % 18446744073709551616 : Nat) : Int) := by omega
      rw [e1, e2, ih]
theorem wide_is (k : Nat) (A B : Nat) (hA : A < 18446744073709551616) (hB : B < 18446744073709551616) (hk : 64 < k) :
    spec_l03Wide.f k (A : Int) (B : Int) = some (((A * B / 18446744073709551616 : Nat) : Int), ((A * B % 18446744073709551616 : Nat) : Int)) := by
  unfold spec_l03Wide.f
  have h := wide_l A B hA hB 64 k (by omega) hk
  have e : B / 2 ^ 64 = 0 := Nat.div_eq_of_lt (by rw [← pow64]; exact hB)
  rw [e, Nat.mul_zero, Nat.zero_div, Nat.zero_mod] at h
  exact h

theorem u64_low32 (x : Int) (h0 : 0 ≤ x) (h1 : x < 18446744073709551616) : Go.bits .and .u64 x 4294967295 = x % 4294967296 := by
  have h := Go.bits_mask .u64 64 (by decide) (fun n h0 h1 => by rw [u64w]; rw [show (2 : Int) ^ 64 = 18446744073709551616 by decide] at h1; omega) 32 (by decide) x h0 (by rw [show (2 : Int) ^ 64 = 18446744073709551616 by decide]; exact h1)
  rw [show (2 : Int) ^ 32 = 4294967296 by decide] at h
  exact h
theorem mul64_is (A B : Nat) (hA : A < 18446744073709551616) (hB : B < 18446744073709551616) :
    bits_Mul64.f (A : Int) (B : Int) = some (((A * B / 18446744073709551616 : Nat) : Int), ((A * B % 18446744073709551616 : Nat) : Int)) := by
  unfold bits_Mul64.f
  rw [u64_low32 A (by omega) (by omega), u64_low32 B (by omega) (by omega)]
  obtain ⟨a1, ha1⟩ : ∃ m : Nat, m = A / 4294967296 := ⟨_, rfl⟩
  obtain ⟨a0, ha0⟩ : ∃ m : Nat, m = A % 4294967296 := ⟨_, rfl⟩
  obtain ⟨b1, hb1⟩ : ∃ m : Nat, m = B / 4294967296 := ⟨_, rfl⟩
  obtain ⟨b0, hb0⟩ : ∃ m : Nat, m = B % 4294967296 := ⟨_, rfl⟩
  have e1 : (A : Int) / 4294967296 = a1 := by omega
  have e2 : (A : Int) % 4294967296 = a0 := by omega
  have e3 : (B : Int) / 4294967296 = b1 := by omega
  have e4 : (B : Int) % 4294967296 = b0 := by omega
  rw [e1, e2, e3, e4]
  have hAB : A * B = a1 * b1 * 18446744073709551616 + (a1 * b0 + a0 * b1) * 4294967296 + a0 * b0 := by
    have h1 : A = a1 * 4294967296 + a0 := by omega
    have h2 : B = b1 * 4294967296 + b0 := by omega
    rw [h1, h2]
    grind
  have m11 : a1 * b1 ≤ 4294967295 * 4294967295 := Nat.mul_le_mul (by omega) (by omega)
  have m10 : a1 * b0 ≤ 4294967295 * 4294967295 := Nat.mul_le_mul (by omega) (by omega)
  have m01 : a0 * b1 ≤ 4294967295 * 4294967295 := Nat.mul_le_mul (by omega) (by omega)
  have m00 : a0 * b0 ≤ 4294967295 * 4294967295 := Nat.mul_le_mul (by omega) (by omega)
  have c11 : (a1 : Int) * b1 = ((a1 * b1 : Nat) : Int) := by push_cast; rfl
  have c10 : (a1 : Int) * b0 = ((a1 * b0 : Nat) : Int) := by push_cast; rfl
  have c01 : (a0 : Int) * b1 = ((a0 * b1 : Nat) : Int) := by push_cast; rfl
  have c00 : (a0 : Int) * b0 = ((a0 * b0 : Nat) : Int) := by push_cast; rfl
  have cAB : (A : Int) * B = ((A * B : Nat) : Int) := by push_cast; rfl
  rw [c11, c10, c01, c00, cAB, hAB]
  generalize a1 * b1 = p11 at *
  generalize a1 * b0 = p10 at *
  generalize a0 * b1 = p01 at *
  generalize a0 * b0 = p00 at *
  have f1 : IntKind.u64.wrap (p10 : Int) = p10 := u64_id (by omega) (by omega)
  have f2 : IntKind.u64.wrap (p00 : Int) = p00 := u64_id (by omega) (by omega)
  have f3 : IntKind.u64.wrap (p11 : Int) = p11 := u64_id (by omega) (by omega)
  have f4 : IntKind.u64.wrap (p01 : Int) = p01 := u64_id (by omega) (by omega)
  rw [f1, f2, f3, f4]
  have f5 : IntKind.u64.wrap ((p10 : Int) + (p00 : Int) / 4294967296) = (p10 : Int) + (p00 : Int) / 4294967296 := u64_id (by omega) (by omega)
  rw [f5, u64_low32 _ (by omega) (by omega)]
  simp only [u64w]
  congr 2
  omega

def bytesIn (l : List Int) : Prop := ∀ x ∈ l, 0 ≤ x ∧ x ≤ 255
theorem bytesIn_wf {l : List Int} (h : ∀ x ∈ l, (Lit.int .u8 x).wf = true) : bytesIn l := fun x hx => by
  have := h x hx
  simp only [Lit.wf, IntKind.min, IntKind.max, IntKind.signed, IntKind.bits, Bool.and_eq_true, decide_eq_true_eq] at this
  simpa using this
theorem rd_in {l : List Int} (h : bytesIn l) (i : Int) : 0 ≤ rd l i ∧ rd l i ≤ 255 := by
  unfold rd
  rw [List.getD_eq_getElem?_getD]
  cases e : l[i.toNat]? with
  | none => simp
  | some x => simpa using h x (List.mem_of_getElem? e)
/-- A draw. -/
theorem byte_is {l : List Int} (h : bytesIn l) (hl : l.length ≤ 140737488351232) (a s : Int) (ha0 : 0 ≤ a) (ha1 : a ≤ 1000000000) (hs0 : 0 ≤ s) (hs1 : s < 2147483648) :
    ∃ b s', spec_l00Src_byte.f l a s = some (b, a + 1, s') ∧ 0 ≤ b ∧ b ≤ 255 ∧ 0 ≤ s' ∧ s' < 2147483648 := by
  have hr := rd_in h a
  unfold spec_l00Src_byte.f
  rw [w64_id (n := a + 1) (by omega) (by omega), show a + 1 - 1 = a by omega, w64_id (n := a) (by omega) (by omega)]
  by_cases c : a + 1 ≤ (l.length : Int)
  · rw [if_pos c, if_pos (by omega), if_pos (by omega), w64_id (n := rd l a) (by omega) (by omega), w64_id (n := s * 31) (by omega) (by omega), w64_id (n := s * 31 + rd l a) (by omega) (by omega), w64_id (by omega) (by omega)]
    rw [Int.tmod_eq_emod_of_nonneg (by omega)]
    exact ⟨_, _, rfl, by omega, by omega, by omega, by omega⟩
  · rw [if_neg c]
    by_cases c2 : a + 1 > 3000
    · rw [if_pos c2]
      exact ⟨_, _, rfl, by omega, by omega, by omega, by omega⟩
    · rw [if_neg c2, w64_id (n := s * 1103515245) (by omega) (by omega), w64_id (n := s * 1103515245 + 12345) (by omega) (by omega), Int.tmod_eq_emod_of_nonneg (a := s * 1103515245 + 12345) (by omega)]
      generalize hz : (s * 1103515245 + 12345) % 2147483648 = z
      have hz0 : 0 ≤ z ∧ z < 2147483648 := by omega
      rw [Int.tdiv_eq_ediv_of_nonneg (by omega), w64_id (by omega) (by omega), Int.tmod_eq_emod_of_nonneg (by omega)]
      exact ⟨_, _, rfl, by omega, by omega, by omega, by omega⟩

theorem word_is {l : List Int} (h : bytesIn l) (hl : l.length ≤ 140737488351232) (a s : Int) (ha0 : 0 ≤ a) (ha1 : a ≤ 999999000) (hs0 : 0 ≤ s) (hs1 : s < 2147483648) :
    ∃ b s', spec_l00Src_word.f l a s = some (b, a + 4, s') ∧ 0 ≤ b ∧ b ≤ 4294967295 ∧ 0 ≤ s' ∧ s' < 2147483648 := by
  unfold spec_l00Src_word.f
  obtain ⟨b1, s1, e1, p1, q1, u1, v1⟩ := byte_is h hl a s ha0 (by omega) hs0 hs1
  obtain ⟨b2, s2, e2, p2, q2, u2, v2⟩ := byte_is h hl (a + 1) s1 (by omega) (by omega) u1 v1
  obtain ⟨b3, s3, e3, p3, q3, u3, v3⟩ := byte_is h hl (a + 1 + 1) s2 (by omega) (by omega) u2 v2
  obtain ⟨b4, s4, e4, p4, q4, u4, v4⟩ := byte_is h hl (a + 1 + 1 + 1) s3 (by omega) (by omega) u3 v3
  rw [e1]
  simp only [Option.bind_some]
  rw [e2]
  simp only [Option.bind_some]
  rw [e3]
  simp only [Option.bind_some]
  rw [e4]
  simp only [Option.bind_some]
  rw [w64_id (n := 256 * b2) (by omega) (by omega), w64_id (n := b1 + 256 * b2) (by omega) (by omega), w64_id (n := 65536 * b3) (by omega) (by omega), w64_id (n := b1 + 256 * b2 + 65536 * b3) (by omega) (by omega), w64_id (n := 16777216 * b4) (by omega) (by omega), w64_id (by omega) (by omega)]
  refine ⟨b1 + 256 * b2 + 65536 * b3 + 16777216 * b4, s4, ?_, ?_, ?_, u4, v4⟩
  · rw [show a + 1 + 1 + 1 + 1 = a + 4 by omega]
  · omega
  · omega

theorem next_is {l : List Int} (h : bytesIn l) (hl : l.length ≤ 140737488351232) (a s n : Int) (ha0 : 0 ≤ a) (ha1 : a ≤ 999999000) (hs0 : 0 ≤ s) (hs1 : s < 2147483648) (hn : 1 ≤ n) :
    ∃ b a' s', spec_l00Src_next.f l a s n = some (b, a', s') ∧ 0 ≤ b ∧ b < n ∧ a ≤ a' ∧ a' ≤ a + 3 ∧ 0 ≤ s' ∧ s' < 2147483648 := by
  unfold spec_l00Src_next.f
  by_cases c : n ≤ 1
  · rw [if_pos c]
    exact ⟨0, a, s, rfl, by omega, by omega, by omega, by omega, hs0, hs1⟩
  · rw [if_neg c]
    obtain ⟨b1, s1, e1, p1, q1, u1, v1⟩ := byte_is h hl a s ha0 (by omega) hs0 hs1
    obtain ⟨b2, s2, e2, p2, q2, u2, v2⟩ := byte_is h hl (a + 1) s1 (by omega) (by omega) u1 v1
    obtain ⟨b3, s3, e3, p3, q3, u3, v3⟩ := byte_is h hl (a + 1 + 1) s2 (by omega) (by omega) u2 v2
    by_cases c2 : n ≤ 256
    · rw [if_pos c2, e1]
      simp only [Option.bind_some]
      rw [if_neg (by omega), Int.tmod_eq_emod_of_nonneg (by omega)]
      exact ⟨_, _, _, rfl, Int.emod_nonneg _ (by omega), Int.emod_lt_of_pos _ (by omega), by omega, by omega, u1, v1⟩
    · rw [if_neg c2, e1]
      simp only [Option.bind_some]
      rw [e2]
      simp only [Option.bind_some]
      rw [e3]
      simp only [Option.bind_some]
      rw [if_neg (by omega), w64_id (n := b1 * 65536) (by omega) (by omega), w64_id (n := b2 * 256) (by omega) (by omega), w64_id (n := b1 * 65536 + b2 * 256) (by omega) (by omega), w64_id (by omega) (by omega), Int.tmod_eq_emod_of_nonneg (by omega)]
      exact ⟨_, _, _, rfl, Int.emod_nonneg _ (by omega), Int.emod_lt_of_pos _ (by omega), by omega, by omega, u3, v3⟩
theorem shl64_rng (x y : Int) : -9223372036854775808 ≤ shl .i64 x y ∧ shl .i64 x y ≤ 9223372036854775807 := by
  unfold shl
  rw [i64w]
  exact w64_rng _
theorem odd_list : ∀ i ∈ List.range 14, -9223372036854775808 ≤ rd ([0, (-1), 1, 2, 63, 64, 65, 4096, 8192, 16384, 4097, 9223372036854775807, (-9223372036854775808), 30] : List Int) (i : Int) ∧ rd ([0, (-1), 1, 2, 63, 64, 65, 4096, 8192, 16384, 4097, 9223372036854775807, (-9223372036854775808), 30] : List Int) (i : Int) ≤ 9223372036854775807 := by decide +kernel
theorem wide_some {l : List Int} (h : bytesIn l) (hl : l.length ≤ 140737488351232) (a s : Int) (ha0 : 0 ≤ a) (ha1 : a ≤ 999998000) (hs0 : 0 ≤ s) (hs1 : s < 2147483648) :
    ∃ b a' s', spec_l00Src_wide.f l a s = some (b, a', s') ∧ -9223372036854775808 ≤ b ∧ b ≤ 9223372036854775807 ∧ a ≤ a' ∧ a' ≤ a + 20 ∧ 0 ≤ s' ∧ s' < 2147483648 := by
  unfold spec_l00Src_wide.f
  obtain ⟨n1, a1, s1, e1, p1, q1, x1, y1, u1, v1⟩ := next_is h hl a s 7 ha0 (by omega) hs0 hs1 (by omega)
  rw [e1]
  simp only [Option.bind_some]
  by_cases c0 : n1 = 0
  · rw [if_pos c0]
    obtain ⟨b2, s2, e2, p2, q2, u2, v2⟩ := word_is h hl a1 s1 (by omega) (by omega) u1 v1
    obtain ⟨b3, s3, e3, p3, q3, u3, v3⟩ := word_is h hl (a1 + 4) s2 (by omega) (by omega) u2 v2
    rw [e2]
    simp only [Option.bind_some]
    rw [e3]
    have hr := bits_rng .or (wrap64 (b2 * 4294967296)) b3
    exact ⟨_, _, _, rfl, hr.1, hr.2, by (try dsimp only); omega, by (try dsimp only); omega, by (try dsimp only); omega, by (try dsimp only); omega⟩
  · rw [if_neg c0]
    by_cases c1 : n1 = 1
    · rw [if_pos c1]
      unfold spec_l00Src_odd.f
      obtain ⟨n2, a2, s2, e2, p2, q2, x2, y2, u2, v2⟩ := next_is h hl a1 s1 14 (by omega) (by omega) u1 v1 (by omega)
      rw [e2]
      simp only [Option.bind_some]
      obtain ⟨i, rfl⟩ := Int.eq_ofNat_of_zero_le p2
      have ho := odd_list i (by rw [List.mem_range]; omega)
      rw [if_pos p2, if_pos (by simpa using q2)]
      exact ⟨_, _, _, rfl, ho.1, ho.2, by (try dsimp only); omega, by (try dsimp only); omega, by (try dsimp only); omega, by (try dsimp only); omega⟩
    · rw [if_neg c1]
      by_cases c2 : n1 = 2
      · rw [if_pos c2]
        obtain ⟨n2, a2, s2, e2, p2, q2, x2, y2, u2, v2⟩ := next_is h hl a1 s1 300 (by omega) (by omega) u1 v1 (by omega)
        rw [e2]
        have hr := w64_rng (-n2)
        exact ⟨_, _, _, rfl, hr.1, hr.2, by (try dsimp only); omega, by (try dsimp only); omega, by (try dsimp only); omega, by (try dsimp only); omega⟩
      · rw [if_neg c2]
        by_cases c3 : n1 = 3
        · rw [if_pos c3]
          obtain ⟨b2, s2, e2, p2, q2, u2, v2⟩ := word_is h hl a1 s1 (by omega) (by omega) u1 v1
          rw [e2]
          have hr := w64_rng (b2 - 2147483648)
          exact ⟨_, _, _, rfl, hr.1, hr.2, by (try dsimp only); omega, by (try dsimp only); omega, by (try dsimp only); omega, by (try dsimp only); omega⟩
        · rw [if_neg c3]
          by_cases c4 : n1 = 4
          · rw [if_pos c4]
            obtain ⟨n2, a2, s2, e2, p2, q2, x2, y2, u2, v2⟩ := next_is h hl a1 s1 64 (by omega) (by omega) u1 v1 (by omega)
            rw [e2]
            simp only [Option.bind_some]
            rw [if_pos (by rw [u64w]; omega)]
            have hr := shl64_rng 1 (IntKind.u64.wrap n2)
            exact ⟨_, _, _, rfl, hr.1, hr.2, by (try dsimp only); omega, by (try dsimp only); omega, by (try dsimp only); omega, by (try dsimp only); omega⟩
          · rw [if_neg c4]
            obtain ⟨n2, a2, s2, e2, p2, q2, x2, y2, u2, v2⟩ := next_is h hl a1 s1 300 (by omega) (by omega) u1 v1 (by omega)
            rw [e2]
            exact ⟨_, _, _, rfl, by omega, by omega, by (try dsimp only); omega, by (try dsimp only); omega, by (try dsimp only); omega, by (try dsimp only); omega⟩
theorem numberOf_is {l : List Int} (h : bytesIn l) (hl : l.length ≤ 140737488351232) : ∃ b, spec_NumberOf.f l = some b ∧ -9223372036854775808 ≤ b ∧ b ≤ 9223372036854775807 := by
  unfold spec_NumberOf.f spec_l00Source.f
  simp only [Option.bind_some]
  obtain ⟨b, a, s, e, p, q, _⟩ := wide_some h hl 0 ((l.length : Int) % 1000) (by omega) (by omega) (by omega) (by omega)
  rw [e]
  exact ⟨b, rfl, p, q⟩

theorem mulWide_lo (k : Nat) (hk : 64 < k) (a b : Int) : ∃ hi lo, spec_MulWide.f k a b = some (hi, lo) ∧ impl_MulWide.f a b = some (hi, lo) ∧ lo = wrap64 (IntKind.u64.wrap (IntKind.u64.wrap a * IntKind.u64.wrap b)) := by
  obtain ⟨A, hA⟩ : ∃ m : Nat, IntKind.u64.wrap a = m := ⟨(a % 18446744073709551616).toNat, by rw [u64w]; omega⟩
  obtain ⟨B, hB⟩ : ∃ m : Nat, IntKind.u64.wrap b = m := ⟨(b % 18446744073709551616).toNat, by rw [u64w]; omega⟩
  have hAl : A < 18446744073709551616 := by rw [u64w] at hA; omega
  have hBl : B < 18446744073709551616 := by rw [u64w] at hB; omega
  unfold spec_MulWide.f impl_MulWide.f
  rw [hA, hB, wide_is k A B hAl hBl hk, mul64_is A B hAl hBl]
  have e : IntKind.u64.wrap ((A : Int) * (B : Int)) = ((A * B % 18446744073709551616 : Nat) : Int) := by
    rw [u64w, ← Int.natCast_mul]
    generalize A * B = P
    omega
  rw [e]
  generalize A * B / 18446744073709551616 = H
  generalize A * B % 18446744073709551616 = L
  exact ⟨_, _, rfl, rfl, rfl⟩
theorem compute_is (k : Nat) (op a b x : Int) (h : op = 50 ∨ op = 51 ∨ op = 52 ∨ op = 53) (hx : impl_compute.f k op a b = some x) : impl_Compute.f k op a b = some (x, 0) := by
  have hw : impl_computeW.f op a b = some (0, false) := by
    unfold impl_computeW.f impl_WordOf.f
    simp only [Option.bind_some]
    rw [if_neg (by omega), if_neg (by omega), if_neg (by omega), if_neg (by omega), if_neg (by omega), if_neg (by omega), if_neg (by omega), if_neg (by omega), if_neg (by omega), if_neg (by omega)]
  have hp : impl_plain.f op = some op := by
    unfold impl_plain.f
    rw [if_neg (by omega), if_neg (by omega), if_neg (by omega), if_neg (by omega), if_neg (by omega), if_neg (by omega), if_neg (by omega), if_neg (by omega), if_neg (by omega), if_neg (by omega), if_neg (by omega), if_neg (by omega), if_neg (by omega)]
  have h1 : decide (op ≤ 64) = true := by simp; omega
  have h2 : decide (op ≤ 62) = true := by simp; omega
  have hs : impl_computes.f k op a b = some x := by
    unfold impl_computes.f
    rw [hp]
    simp only [Option.bind_some]
    rw [hw]
    simp only [Option.bind_some]
    rw [if_neg (by decide), hx]
    rfl
  unfold impl_Compute.f impl_isOp.f impl_within.f
  rw [if_pos (by omega), if_pos (by omega), h1, h2, hs]
  simp only [Option.bind_some, if_true]
theorem c50 (k : Nat) (a b hi lo : Int) (h : impl_MulWide.f a b = some (hi, lo)) : impl_compute.f k 50 a b = some lo := by
  unfold impl_compute.f
  rw [h]
  simp only [Option.bind_some]
  rw [if_neg (by decide), if_neg (by decide), if_neg (by decide), if_neg (by decide), if_neg (by decide), if_neg (by decide), if_neg (by decide), if_neg (by decide), if_neg (by decide), if_neg (by decide), if_pos True.intro]
theorem c53 (k : Nat) (a b hi lo : Int) (h : impl_MulWide.f a b = some (hi, lo)) : impl_compute.f k 53 a b = some hi := by
  unfold impl_compute.f
  rw [h]
  simp only [Option.bind_some]
  rw [if_neg (by decide), if_neg (by decide), if_neg (by decide), if_neg (by decide), if_neg (by decide), if_neg (by decide), if_neg (by decide), if_neg (by decide), if_neg (by decide), if_neg (by decide), if_neg (by decide), if_pos True.intro]
theorem c52 (k : Nat) (a b hi lo : Int) (h : impl_MulWide.f a b = some (hi, lo)) : impl_compute.f (k + 1) 52 a b = some (if a < 0 then wrap64 (hi - b) else hi) := by
  unfold impl_compute.f
  rw [h]
  simp only [Option.bind_some]
  rw [if_neg (by decide), if_neg (by decide), if_neg (by decide), if_neg (by decide), if_neg (by decide), if_neg (by decide), if_neg (by decide), if_neg (by decide), if_neg (by decide), if_neg (by decide), if_neg (by decide), if_neg (by decide), if_pos True.intro, impl_compute.j0, if_pos (by decide)]
  by_cases c : a < 0
  · rw [if_pos c, if_pos c]
    by_cases c2 : b < 0
    · rw [if_pos c2, if_neg (by decide)]
    · rw [if_neg c2]
  · rw [if_neg c, if_neg c]
    by_cases c2 : b < 0
    · rw [if_pos c2, if_neg (by decide)]
    · rw [if_neg c2]
theorem c51 (k : Nat) (a b hi lo : Int) (h : impl_MulWide.f a b = some (hi, lo)) : impl_compute.f (k + 1) 51 a b = some (if a < 0 then (if b < 0 then wrap64 (wrap64 (hi - b) - a) else wrap64 (hi - b)) else (if b < 0 then wrap64 (hi - a) else hi)) := by
  unfold impl_compute.f
  rw [h]
  simp only [Option.bind_some]
  rw [if_neg (by decide), if_neg (by decide), if_neg (by decide), if_neg (by decide), if_neg (by decide), if_neg (by decide), if_neg (by decide), if_neg (by decide), if_neg (by decide), if_neg (by decide), if_neg (by decide), if_neg (by decide), if_neg (by decide), impl_compute.j0, if_pos (by decide)]
  by_cases c : a < 0
  · rw [if_pos c, if_pos c]
    by_cases c2 : b < 0
    · rw [if_pos c2, if_pos rfl, if_pos c2]
    · rw [if_neg c2, if_neg c2]
  · rw [if_neg c, if_neg c]
    by_cases c2 : b < 0
    · rw [if_pos c2, if_pos rfl, if_pos c2]
    · rw [if_neg c2, if_neg c2]
theorem plus_is (x y : Int) : laws_plus.f x (wrap64 (-y)) = some (wrap64 (x - y)) := by
  unfold laws_plus.f
  congr 1
  simp only [u64w]
  unfold wrap64
  omega
theorem FnWide : laws_FnWide.Pure := by
  intro l0 l1 m0 z0 w0 m1 z1 w1
  have b0 := bytesIn_wf w0
  have b1 := bytesIn_wf w1
  obtain ⟨K, hK⟩ : ∃ k : Nat, 64 < k := ⟨65, by decide⟩
  refine ⟨K + 2, ?_⟩
  unfold laws_FnWide.f
  by_cases c0 : (l0.length : Int) > 1048576
  · rw [if_pos c0, laws_FnWide.j0, if_pos rfl]
  · rw [if_neg c0, laws_FnWide.j0]
    by_cases c1 : (l1.length : Int) > 1048576
    · rw [if_pos (by simpa using c1)]
    · rw [if_neg (by simpa using c1)]
      obtain ⟨a, ha, a0, a1⟩ := numberOf_is b0 (by omega)
      obtain ⟨b, hb, b0, b1⟩ := numberOf_is b1 (by omega)
      obtain ⟨hi, lo, h1, h2, h3⟩ := mulWide_lo (K + 1) (by omega) a b
      rw [ha]
      simp only [Option.bind_some]
      rw [hb]
      simp only [Option.bind_some]
      rw [h2]
      simp only [Option.bind_some]
      rw [h1]
      simp only [Option.bind_some]
      rw [compute_is (K + 1) 50 a b _ (by omega) (c50 _ a b hi lo h2)]
      simp only [Option.bind_some]
      rw [compute_is (K + 1) 53 a b _ (by omega) (c53 _ a b hi lo h2)]
      simp only [Option.bind_some]
      rw [compute_is (K + 1) 52 a b _ (by omega) (c52 K a b hi lo h2)]
      simp only [Option.bind_some]
      rw [compute_is (K + 1) 51 a b _ (by omega) (c51 K a b hi lo h2)]
      simp only [Option.bind_some]
      by_cases c : a < 0
      · rw [if_pos c, if_pos c, if_pos c, plus_is]
        simp only [Option.bind_some]
        by_cases c2 : b < 0
        · rw [if_pos c2, if_pos c2, plus_is]
          simp only [Option.bind_some]
          (simp only [if_true]; rw [if_pos h3]; simp only [if_true, beq_self_eq_true])
        · rw [if_neg c2, if_neg c2]
          (simp only [if_true]; rw [if_pos h3]; simp only [if_true, beq_self_eq_true])
      · rw [if_neg c, if_neg c, if_neg c]
        by_cases c2 : b < 0
        · rw [if_pos c2, if_pos c2, plus_is]
          simp only [Option.bind_some]
          (simp only [if_true]; rw [if_pos h3]; simp only [if_true, beq_self_eq_true])
        · rw [if_neg c2, if_neg c2]
          (simp only [if_true]; rw [if_pos h3]; simp only [if_true, beq_self_eq_true])

end Go.Proofs.Ytbhempnfbginoaa.Pure
