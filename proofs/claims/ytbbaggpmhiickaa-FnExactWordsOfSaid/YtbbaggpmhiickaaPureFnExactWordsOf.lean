/- WordsOf of the program is WordsOf of the reference, for all lists of instructions, and leaves the list as it was. -/
import Derived.Test.YtbbaggpmhiickaaPFnExactWordsOfx9
import Derived.Laws.BitsLemmas
set_option linter.unusedVariables false
set_option linter.unusedSimpArgs false
namespace Go.Proofs.Ytbbaggpmhiickaa.Pure
open Go.RowKit Go.Proofs.Ytbbaggpmhiickaa.PFnExactWordsOf Go.Proofs.YtbbaggpmhiickaaW.PrintWords Go.Proofs.YtbbaggpmhiickaaW.PrintLast Go.Proofs.YtbbaggpmhiickaaW.PrintMore

theorem wf64 {x : Int} (h : (Lit.int .i64 x).wf = true) : -9223372036854775808 ≤ x ∧ x ≤ 9223372036854775807 := by
  simp only [Lit.wf, IntKind.min, IntKind.max, IntKind.signed, IntKind.bits, Bool.and_eq_true, decide_eq_true_eq, if_true] at h
  omega
theorem u64w (n : Int) : IntKind.u64.wrap n = n % 18446744073709551616 := by simp [IntKind.wrap, IntKind.bits, IntKind.signed]
theorem i64w (n : Int) : IntKind.i64.wrap n = wrap64 n := by unfold wrap64; exact Go.IntKind.wrap_i64 n
theorem w64_id {n : Int} (h0 : -9223372036854775808 ≤ n) (h1 : n ≤ 9223372036854775807) : wrap64 n = n := by unfold wrap64; omega
theorem u64_id {n : Int} (h0 : 0 ≤ n) (h1 : n < 18446744073709551616) : IntKind.u64.wrap n = n := by rw [u64w]; omega
theorem w64_rng (n : Int) : -9223372036854775808 ≤ wrap64 n ∧ wrap64 n ≤ 9223372036854775807 := by unfold wrap64; omega
theorem pow64 : (18446744073709551616 : Nat) = 2 ^ 64 := by decide

/-- The number of the first n bits. -/
def ob (b : Nat → Bool) : Nat → Nat
  | 0 => 0
  | n + 1 => (if b n then 2 ^ n else 0) + ob b n
theorem ob_lt (b : Nat → Bool) (n : Nat) : ob b n < 2 ^ n := by
  induction n with
  | zero => simp [ob]
  | succ n ih => unfold ob; rw [Nat.pow_succ]; split <;> omega
theorem ob_testBit (b : Nat → Bool) (n j : Nat) : (ob b n).testBit j = (decide (j < n) && b j) := by
  induction n with
  | zero => simp [ob]
  | succ n ih =>
    have hl := ob_lt b n
    have e : ob b (n + 1) = 2 ^ n * (b n).toNat + ob b n := by rw [ob]; cases b n <;> simp
    rw [e, Nat.testBit_two_pow_mul_add _ hl, ih]
    by_cases h : j < n
    · simp [h]; intro; omega
    · by_cases h2 : j = n
      · subst h2; simp; cases b j <;> simp
      · have h3 : j - n ≠ 0 := by omega
        have h4 : ¬ j < n + 1 := by omega
        simp [h, h4]
        cases hb : b n
        · simp
        · obtain ⟨m, hm⟩ : ∃ m, j - n = m + 1 := ⟨j - n - 1, by omega⟩
          rw [hm]; simp [Nat.testBit_succ]
/-- Bit i of a number's two's complement. -/
def tb (v : Int) (i : Nat) : Bool := (v % 18446744073709551616).toNat.testBit i
theorem nlt (v : Int) : (v % 18446744073709551616).toNat < 2 ^ 64 := by rw [← pow64]; omega
theorem tb_hi (v : Int) (i : Nat) (h : 64 ≤ i) : tb v i = false := by
  unfold tb
  exact Nat.testBit_lt_two_pow (Nat.lt_of_lt_of_le (nlt v) (Nat.pow_le_pow_right (by decide) h))
theorem tb_nat (n i : Nat) (h : n < 18446744073709551616) : tb (n : Int) i = n.testBit i := by
  unfold tb
  congr 1
  omega
theorem tb_eq {x y : Int} (h : ∀ i, i < 64 → tb x i = tb y i) : x % 18446744073709551616 = y % 18446744073709551616 := by
  have e : (x % 18446744073709551616).toNat = (y % 18446744073709551616).toNat := by
    refine Nat.eq_of_testBit_eq fun i => ?_
    by_cases hi : i < 64
    · exact h i hi
    · have h1 := tb_hi x i (by omega)
      have h2 := tb_hi y i (by omega)
      unfold tb at h1 h2
      rw [h1, h2]
  omega
theorem tb_ext {x y : Int} (hx0 : -9223372036854775808 ≤ x) (hx1 : x ≤ 9223372036854775807) (hy0 : -9223372036854775808 ≤ y) (hy1 : y ≤ 9223372036854775807) (h : ∀ i, i < 64 → tb x i = tb y i) : x = y := by
  have := tb_eq h
  omega
theorem tb_congr {x y : Int} (h : x % 18446744073709551616 = y % 18446744073709551616) (i : Nat) : tb x i = tb y i := by unfold tb; rw [h]
theorem tb_wrap64 (x : Int) (i : Nat) : tb (wrap64 x) i = tb x i := tb_congr (by unfold wrap64; omega) i
theorem tb_ob (b : Nat → Bool) (n i : Nat) (hn : n ≤ 64) : tb ((ob b n : Nat) : Int) i = (decide (i < n) && b i) := by
  rw [tb_nat _ _ (by rw [pow64]; exact Nat.lt_of_lt_of_le (ob_lt b n) (Nat.pow_le_pow_right (by decide) hn)), ob_testBit]
theorem tb_bv (v : Int) (i : Nat) : tb v i = (BitVec.ofInt 64 v).getLsbD i := by
  unfold tb BitVec.getLsbD
  rw [BitVec.toNat_ofInt]
  rfl
theorem tb_mul (x : Int) (s i : Nat) (hi : i < 64) : tb (x * 2 ^ s) i = (decide (s ≤ i) && tb x (i - s)) := by
  have e : tb (x * 2 ^ s) i = ((x % 18446744073709551616).toNat * 2 ^ s).testBit i := by
    have h1 : ((x * 2 ^ s) % 18446744073709551616).toNat = ((x % 18446744073709551616).toNat * 2 ^ s) % 2 ^ 64 := by
      have h2 : (x * 2 ^ s) % 18446744073709551616 = ((x % 18446744073709551616) * 2 ^ s) % 18446744073709551616 := by
        have h5 := Int.mul_emod x (2 ^ s) 18446744073709551616
        have h6 := Int.mul_emod (x % 18446744073709551616) (2 ^ s) 18446744073709551616
        rw [Int.emod_emod_of_dvd x (Int.dvd_refl _)] at h6
        rw [h5, h6]
      obtain ⟨m, hm⟩ : ∃ m : Nat, x % 18446744073709551616 = m := ⟨(x % 18446744073709551616).toNat, by omega⟩
      rw [h2, hm, ← pow64]
      have h3 : ((m : Int) * 2 ^ s) % 18446744073709551616 = ((m * 2 ^ s % 18446744073709551616 : Nat) : Int) := by simp
      rw [h3]
      exact Int.toNat_natCast _
    unfold tb
    rw [h1, Nat.testBit_mod_two_pow]
    simp [hi]
  rw [e, ← Nat.shiftLeft_eq, Nat.testBit_shiftLeft]
  rfl
theorem tb_div_s (x : Int) (h0 : -9223372036854775808 ≤ x) (h1 : x ≤ 9223372036854775807) (s i : Nat) (hi : i < 64) : tb (x / 2 ^ s) i = tb x (min (i + s) 63) := by
  have e : x / 2 ^ s = ((BitVec.ofInt 64 x).sshiftRight s).toInt := by
    rw [BitVec.toInt_sshiftRight, Int.shiftRight_eq_div_pow, BitVec.toInt_ofInt]
    have : x.bmod (2 ^ 64) = x := by
      have p : (2 ^ 64 : Nat) = 18446744073709551616 := by decide
      rw [p, Int.bmod_def]
      omega
    rw [this]
    simp
  have g : tb ((BitVec.ofInt 64 x).sshiftRight s).toInt i = ((BitVec.ofInt 64 x).sshiftRight s).getLsbD i := by
    rw [tb_bv, BitVec.ofInt_toInt]
  rw [e, g, BitVec.getLsbD_sshiftRight]
  have hm : (BitVec.ofInt 64 x).msb = tb x 63 := by rw [tb_bv, BitVec.msb_eq_getLsbD_last]
  by_cases h : s + i < 64
  · have h2 : min (i + s) 63 = s + i := by omega
    rw [h2, if_pos h, tb_bv]
    simp [show ¬ 64 ≤ i by omega]
  · have h2 : min (i + s) 63 = 63 := by omega
    rw [h2, if_neg h, hm]
    simp [show ¬ 64 ≤ i by omega]
theorem tb_bits {r : BitVec 64} (i : Nat) : tb (IntKind.i64.wrap (r.toNat : Int)) i = r.getLsbD i := by
  rw [i64w, tb_wrap64, tb_nat _ _ (by rw [pow64]; exact r.isLt)]
  rfl
theorem tb_and (x y : Int) (i : Nat) : tb (Go.bits .and .i64 x y) i = (tb x i && tb y i) := by
  rw [show Go.bits .and .i64 x y = IntKind.i64.wrap (((BitVec.ofInt 64 x) &&& (BitVec.ofInt 64 y) : BitVec 64).toNat : Int) from rfl, tb_bits, BitVec.getLsbD_and, tb_bv, tb_bv]
theorem tb_or (x y : Int) (i : Nat) : tb (Go.bits .or .i64 x y) i = (tb x i || tb y i) := by
  rw [show Go.bits .or .i64 x y = IntKind.i64.wrap (((BitVec.ofInt 64 x) ||| (BitVec.ofInt 64 y) : BitVec 64).toNat : Int) from rfl, tb_bits, BitVec.getLsbD_or, tb_bv, tb_bv]
theorem bits_rng (o : BinOp) (x y : Int) : -9223372036854775808 ≤ Go.bits o .i64 x y ∧ Go.bits o .i64 x y ≤ 9223372036854775807 := by
  have h : ∀ n : Int, -9223372036854775808 ≤ IntKind.i64.wrap n ∧ IntKind.i64.wrap n ≤ 9223372036854775807 := fun n => by rw [i64w]; exact w64_rng n
  unfold Go.bits
  split <;> first | exact h _ | omega
theorem tb_pow1 (c i : Nat) (hc : c ≤ 64) : tb ((2 : Int) ^ c - 1) i = decide (i < c) := by
  have hp : 0 < 2 ^ c := Nat.two_pow_pos c
  have e : ((2 : Int) ^ c - 1) = ((2 ^ c - 1 : Nat) : Int) := by rw [Int.natCast_sub hp]; simp
  have hl : 2 ^ c ≤ 2 ^ 64 := Nat.pow_le_pow_right (by decide) hc
  rw [e, tb_nat _ _ (by rw [pow64]; omega), Nat.testBit_two_pow_sub_one]
theorem tb_mod (x : Int) (c i : Nat) (hc : c ≤ 64) : tb (x % 2 ^ c) i = (decide (i < c) && tb x i) := by
  obtain ⟨m, hm⟩ : ∃ m : Nat, x % 18446744073709551616 = m := ⟨(x % 18446744073709551616).toNat, by omega⟩
  have hml : m < 18446744073709551616 := by omega
  have e : x % 2 ^ c = ((m % 2 ^ c : Nat) : Int) := by
    have hd : ((2 : Int) ^ c) ∣ 18446744073709551616 := by
      refine ⟨2 ^ (64 - c), ?_⟩
      rw [← Int.pow_add, show c + (64 - c) = 64 by omega]; rfl
    have h2 : x % 2 ^ c = (x % 18446744073709551616) % 2 ^ c := (Int.emod_emod_of_dvd x hd).symm
    rw [h2, hm]; simp
  have hle : m % 2 ^ c ≤ m := Nat.mod_le _ _
  have h3 : tb x i = m.testBit i := by unfold tb; rw [hm]; simp
  rw [e, tb_nat _ _ (by omega), Nat.testBit_mod_two_pow, h3]
theorem ipow_pos (c : Nat) : (0 : Int) < 2 ^ c := Int.pow_pos (by decide)
theorem ipow_le (c d : Nat) (h : c ≤ d) : (2 : Int) ^ c ≤ 2 ^ d := by exact_mod_cast Nat.pow_le_pow_right (by decide : 0 < 2) h
/-- The lowest n bytes of v. -/
def lb (v : Int) : Nat → List Int
  | 0 => []
  | n + 1 => v % 256 :: lb (v / 256) n
theorem lb_length (v : Int) (n : Nat) : (lb v n).length = n := by
  induction n generalizing v with
  | zero => rfl
  | succ n ih => simp [lb, ih]
theorem iput_l (n : Nat) (hn : n ≤ 1000) : ∀ (k : Nat) (v : Int) (xs : List Int), n < k → xs.length + n ≤ 1000000 →
    impl_putLittle.l0 k v (n : Int) xs = some (strOfNums (xs ++ lb v n)) := by
  induction n with
  | zero =>
    intro k v xs hk hl
    obtain ⟨k, rfl⟩ : ∃ m, k = m + 1 := ⟨k - 1, by omega⟩
    simp only [impl_putLittle.l0]
    rw [if_neg (by omega)]
    simp [lb]
  | succ n ih =>
    intro k v xs hk hl
    obtain ⟨k, rfl⟩ : ∃ m, k = m + 1 := ⟨k - 1, by omega⟩
    simp only [impl_putLittle.l0]
    rw [if_pos (by omega), if_pos (by omega), w64_id (by omega) (by omega)]
    have e : (((n + 1 : Nat) : Int) - 1) = (n : Int) := by omega
    rw [e, ih (by omega) k _ _ (by omega) (by simp; omega)]
    simp [lb]
theorem iput_is (n k : Nat) (hn : n ≤ 1000) (hk : n < k) (v : Int) : impl_putLittle.f k v (n : Int) = some (strOfNums (lb v n)) := by
  unfold impl_putLittle.f
  rw [iput_l n hn k v [] hk (by simp; omega)]
  rfl
theorem byte_at (v : Int) (i : Nat) (hi : i < 8) : (v % 18446744073709551616) / 2 ^ (8 * i) % 256 = v / 256 ^ i % 256 := by
  have : i = 0 ∨ i = 1 ∨ i = 2 ∨ i = 3 ∨ i = 4 ∨ i = 5 ∨ i = 6 ∨ i = 7 := by omega
  rcases this with rfl | rfl | rfl | rfl | rfl | rfl | rfl | rfl <;> simp <;> omega

theorem sput_l (v : Int) (n : Nat) (hn : n ≤ 8) (d : Nat) : ∀ (i k : Nat) (xs : List Int), i + d = n → d < k → xs.length + d ≤ 1000000 →
    spec_l01Little.l0 k v (n : Int) xs (i : Int) = some (strOfNums (xs ++ lb (v / 256 ^ i) d)) := by
  induction d with
  | zero =>
    intro i k xs hi hk hl
    obtain ⟨k, rfl⟩ : ∃ m, k = m + 1 := ⟨k - 1, by omega⟩
    simp only [spec_l01Little.l0]
    rw [if_neg (by omega)]
    simp [lb]
  | succ d ih =>
    intro i k xs hi hk hl
    obtain ⟨k, rfl⟩ : ∃ m, k = m + 1 := ⟨k - 1, by omega⟩
    simp only [spec_l01Little.l0]
    have e8 : IntKind.u64.wrap (wrap64 (8 * (i : Int))) = ((8 * i : Nat) : Int) := by rw [w64_id (by omega) (by omega), u64_id (by omega) (by omega)]; omega
    have es : shr .u64 (IntKind.u64.wrap v) ((8 * i : Nat) : Int) % 256 = v / 256 ^ i % 256 := by
      rw [← byte_at v i (by omega), u64w]
      unfold shr
      rw [show min (((8 * i : Nat) : Int).toNat) (IntKind.u64.bits) = 8 * i by simp [IntKind.bits] <;> omega]
    rw [if_pos (by omega), e8, if_pos (by omega), if_pos (by omega), es, w64_id (by omega) (by omega)]
    have e : ((i : Int) + 1) = ((i + 1 : Nat) : Int) := by omega
    rw [e, ih (i + 1) k _ (by omega) (by omega) (by simp; omega)]
    have e2 : v / 256 ^ (i + 1) = v / 256 ^ i / 256 := by rw [Int.pow_succ, Int.ediv_ediv_of_nonneg (Int.le_of_lt (Int.pow_pos (by decide)))]
    simp [lb, e2]
theorem sput_is (n k : Nat) (hn : n ≤ 8) (hk : n < k) (v : Int) : spec_l01Little.f k v (n : Int) = some (strOfNums (lb v n)) := by
  unfold spec_l01Little.f
  have h := sput_l v n hn n 0 k [] (by omega) hk (by simp; omega)
  simpa using h

theorem bit_is (v : Int) (n : Nat) (hn : n < 9223372036854775808) : spec_l01Bit.f v (n : Int) = some (if tb v n then 1 else 0) := by
  unfold spec_l01Bit.f
  have e1 : IntKind.u64.wrap (n : Int) = n := u64_id (by omega) (by omega)
  rw [e1, if_pos (by omega)]
  obtain ⟨m, hm⟩ : ∃ m : Nat, IntKind.u64.wrap v = m := ⟨(v % 18446744073709551616).toNat, by rw [u64w]; omega⟩
  have hml : m < 2 ^ 64 := by rw [← pow64]; rw [u64w] at hm; omega
  have ht : tb v n = m.testBit n := by unfold tb; rw [← u64w, hm]; simp
  have e2 : shr .u64 (m : Int) (n : Int) = ((m / 2 ^ min n 64 : Nat) : Int) := by unfold shr; simp [IntKind.bits]
  have e3 : Int.tmod ((m / 2 ^ min n 64 : Nat) : Int) 2 = ((m / 2 ^ min n 64 % 2 : Nat) : Int) := rfl
  rw [hm, e2, ht, e3, Nat.testBit_eq_decide_div_mod_eq]
  by_cases h : n ≤ 64
  · rw [Nat.min_eq_left h]
    by_cases h2 : m / 2 ^ n % 2 = 1
    · simp [h2]
    · have h3 : m / 2 ^ n % 2 = 0 := by omega
      simp [h3]
  · rw [Nat.min_eq_right (by omega)]
    have h4 : m / 2 ^ 64 = 0 := Nat.div_eq_of_lt hml
    have h5 : m / 2 ^ n = 0 := Nat.div_eq_of_lt (Nat.lt_of_lt_of_le hml (Nat.pow_le_pow_right (by decide) (by omega)))
    simp [h4, h5]

/-- Bit i of a word into which v was laid. -/
def pbit (w v : Int) (L C : Nat) (i : Nat) : Bool := if L ≤ i ∧ i < L + C then tb v (i - L) else tb w i
theorem put_l (w v : Int) (L C : Nat) (h : L + C ≤ 64) : ∀ (i A k : Nat), i ≤ 32 → A < 2 ^ (32 - i) → i < k →
    spec_l01Put.l0 k w (L : Int) (C : Int) v (A : Int) ((i : Int) - 1) = some (((A * 2 ^ i + ob (pbit w v L C) i : Nat)) : Int) := by
  intro i
  induction i with
  | zero =>
    intro A k _ _ hk
    obtain ⟨k, rfl⟩ : ∃ m, k = m + 1 := ⟨k - 1, by omega⟩
    simp only [spec_l01Put.l0]
    rw [if_neg (by omega)]
    simp [ob]
  | succ i ih =>
    intro A k hi hA hk
    obtain ⟨k, rfl⟩ : ∃ m, k = m + 1 := ⟨k - 1, by omega⟩
    have hp : 2 ^ (32 - i) = 2 * 2 ^ (32 - (i + 1)) := by rw [show 32 - i = (32 - (i + 1)) + 1 by omega, Nat.pow_succ]; omega
    have hq : 2 ^ (32 - i) ≤ 2 ^ 32 := Nat.pow_le_pow_right (by decide) (by omega)
    rw [show (2 : Nat) ^ 32 = 4294967296 by decide] at hq
    have step : ∀ b : Bool, pbit w v L C i = b → spec_l01Put.l0 k w (L : Int) (C : Int) v (wrap64 (wrap64 (2 * (A : Int)) + (if b = true then 1 else 0))) (wrap64 ((i : Int) - 1)) = some (((A * 2 ^ (i + 1) + ob (pbit w v L C) (i + 1) : Nat)) : Int) := by
      intro b hb
      have e1 : wrap64 (wrap64 (2 * (A : Int)) + (if b = true then 1 else 0)) = ((2 * A + (if b then 1 else 0) : Nat) : Int) := by
        rw [w64_id (n := 2 * (A : Int)) (by omega) (by omega)]
        split <;> (rw [w64_id (by omega) (by omega)]; omega)
      rw [e1, w64_id (by omega) (by omega), ih _ k (by omega) (by split <;> omega) (by omega)]
      congr 2
      rw [ob, Nat.pow_succ, hb]
      cases b <;> grind
    simp only [spec_l01Put.l0]
    have e0 : ((i + 1 : Nat) : Int) - 1 = (i : Int) := by omega
    rw [e0, if_pos (by omega), bit_is w i (by omega)]
    simp only [Option.bind_some]
    rw [w64_id (n := (L : Int) + C) (by omega) (by omega)]
    by_cases c1 : L ≤ i
    · rw [if_pos (by omega)]
      by_cases c2 : i < L + C
      · rw [if_pos (by omega)]
        have em : wrap64 ((i : Int) - (L : Int)) = ((i - L : Nat) : Int) := by rw [w64_id (by omega) (by omega)]; omega
        rw [em, bit_is v (i - L) (by omega)]
        simp only [Option.bind_some]
        exact step _ (by unfold pbit; rw [if_pos ⟨c1, c2⟩])
      · rw [if_neg (by omega)]
        exact step _ (by unfold pbit; rw [if_neg (by omega)])
    · rw [if_neg (by omega)]
      exact step _ (by unfold pbit; rw [if_neg (by omega)])
theorem put_is (k : Nat) (w v : Int) (L C : Nat) (h : L + C ≤ 64) (hk : 32 < k) : spec_l01Put.f k w (L : Int) (C : Int) v = some ((ob (pbit w v L C) 32 : Nat) : Int) := by
  unfold spec_l01Put.f
  have h4 := put_l w v L C h 32 0 k (Nat.le_refl _) (by decide) hk
  rw [Nat.zero_mul, Nat.zero_add] at h4
  exact h4

theorem shl_v (a : Int) (n : Nat) (h : n ≤ 63) : shl .i64 a (n : Int) = wrap64 (a * 2 ^ n) := by
  unfold shl
  rw [show min ((n : Int).toNat) (IntKind.i64.bits) = n by simp [IntKind.bits]; omega, i64w]
theorem shl1 (C : Nat) (h : C ≤ 62) : wrap64 ((shl .i64 1 (C : Int)) - 1) = 2 ^ C - 1 := by
  have h2 := ipow_le C 62 h
  rw [show (2 : Int) ^ 62 = 4611686018427387904 by decide] at h2
  have h3 := ipow_pos C
  have e : shl .i64 1 (C : Int) = 2 ^ C := by
    unfold shl
    rw [i64w, show min ((C : Int).toNat) (IntKind.i64.bits) = C by simp [IntKind.bits]; omega, Int.one_mul, w64_id (by omega) (by omega)]
  rw [e, w64_id (by omega) (by omega)]

/-- Some bits of a number, as the program takes them. -/
theorem bitsOf_is (v : Int) (L C : Nat) (hv0 : -9223372036854775808 ≤ v) (hv1 : v ≤ 9223372036854775807) (hL : L ≤ 63) (hC : C ≤ 62) : impl_bitsOf.f v (L : Int) (C : Int) = some (v / 2 ^ L % 2 ^ C) := by
  unfold impl_bitsOf.f
  rw [if_pos (by omega), if_pos (by omega), shl1 C hC]
  have e : shr .i64 v (L : Int) = v / 2 ^ L := by
    unfold shr
    rw [show min ((L : Int).toNat) (IntKind.i64.bits) = L by simp [IntKind.bits]; omega]
  rw [e]
  congr 1
  have hr := bits_rng .and (v / 2 ^ L) (2 ^ C - 1)
  have h0 : 0 ≤ v / 2 ^ L % 2 ^ C := Int.emod_nonneg _ (Int.ne_of_gt (ipow_pos C))
  have h1 : v / 2 ^ L % 2 ^ C < 2 ^ C := Int.emod_lt_of_pos _ (ipow_pos C)
  have h2 := ipow_le C 62 hC
  rw [show (2 : Int) ^ 62 = 4611686018427387904 by decide] at h2
  refine tb_ext hr.1 hr.2 (by omega) (by omega) fun i hi => ?_
  rw [tb_and, tb_pow1 _ _ (by omega), tb_mod _ _ _ (by omega), Bool.and_comm]

/-- What the shapes of the operations have in common. -/
def okS (F c f3 f7 : Int) : Bool := decide (1 ≤ F ∧ F ≤ 9 ∧ 0 ≤ c ∧ c ≤ 127 ∧ 0 ≤ f3 ∧ f3 ≤ 7 ∧ 0 ≤ f7 ∧ f7 ≤ 63 ∧ (F = 6 → f7 = 0 ∨ f7 = 32) ∧ (F = 1 ∨ F = 2 ∨ F = 9 → f3 = 0) ∧ (F ≤ 5 → f7 = 0))
def okO (x : Option (Int × Int × Int × Int)) : Bool := x.any fun s => okS s.1 s.2.1 s.2.2.1 s.2.2.2
theorem shape_all2 : ∀ i ∈ List.range' 1 64, (spec_l02Shape.f (i : Int) = impl_shapeOf.f (i : Int) ∧ okO (spec_l02Shape.f (i : Int)) = true) := by decide +kernel
theorem shape_is (op : Int) (h1 : 1 ≤ op) (h2 : op ≤ 64) : ∃ F c f3 f7, spec_l02Shape.f op = some (F, c, f3, f7) ∧ impl_shapeOf.f op = some (F, c, f3, f7) ∧ okS F c f3 f7 = true := by
  obtain ⟨i, rfl⟩ := Int.eq_ofNat_of_zero_le (show 0 ≤ op by omega)
  obtain ⟨e, o⟩ := shape_all2 i (by rw [List.mem_range'_1]; omega)
  rw [← e]
  match hx : spec_l02Shape.f (i : Int), o with
  | some (F, c, f3, f7), o => exact ⟨F, c, f3, f7, rfl, rfl, o⟩

theorem sin_is (a lo hi : Int) : spec_l01In.f a lo hi = some (decide (lo ≤ a) && decide (a ≤ hi)) := by
  unfold spec_l01In.f
  by_cases h : lo ≤ a <;> simp [h]
theorem win_is (a lo hi : Int) : impl_within.f a lo hi = some (decide (lo ≤ a) && decide (a ≤ hi)) := by
  unfold impl_within.f
  by_cases h : lo ≤ a <;> simp [h]
theorem ite_and (p q : Bool) : (if p = true then some q else some false) = some (p && q) := by cases p <;> rfl
def inB (a lo hi : Int) : Bool := decide (lo ≤ a) && decide (a ≤ hi)
/-- The numbers that a form allows. -/
def immB (F i : Int) : Bool :=
  if F = 1 then inB i (-2147483648) 2147479552 && (Int.tmod i 4096 == 0) else if F = 2 then inB i (-1048576) 1048574 && (Int.tmod i 2 == 0) else
  if F = 3 ∨ F = 5 then inB i (-2048) 2047 else if F = 4 then inB i (-4096) 4094 && (Int.tmod i 2 == 0) else if F = 6 then inB i 0 63 else if F = 7 then inB i 0 31 else (i == 0)
def dB (F : Int) : Bool := !(F == 4 || F == 5 || F == 9)
def aB (F : Int) : Bool := !(F == 1 || F == 2 || F == 9)
def bB (F : Int) : Bool := F == 4 || F == 5 || F == 8
def rightB (F d a b i : Int) : Bool := inB d 0 31 && inB a 0 31 && inB b 0 31 && (dB F || d == 0) && (aB F || a == 0) && (bB F || b == 0) && immB F i
theorem forms (F : Int) (h : 1 ≤ F ∧ F ≤ 9) : F = 1 ∨ F = 2 ∨ F = 3 ∨ F = 4 ∨ F = 5 ∨ F = 6 ∨ F = 7 ∨ F = 8 ∨ F = 9 := by omega
theorem j4_is (k : Nat) (F i o d a b : Int) (h : 3 ≤ F ∧ F ≤ 9) : spec_l02Right.j4 (k + 1) F (F == 3 || F == 5) o d a b i = some (immB F i) := by
  rw [spec_l02Right.j4]
  simp only [sin_is, Option.bind_some, ite_and]
  have : F = 3 ∨ F = 4 ∨ F = 5 ∨ F = 6 ∨ F = 7 ∨ F = 8 ∨ F = 9 := by omega
  rcases this with rfl | rfl | rfl | rfl | rfl | rfl | rfl <;> simp [immB, inB]
theorem j3_is (k : Nat) (F i o d a b : Int) (x : Bool) (h : 1 ≤ F ∧ F ≤ 9) : spec_l02Right.j3 (k + 2) F x o d a b i = some (!x && immB F i) := by
  rw [spec_l02Right.j3]
  cases x
  · simp only [Bool.false_eq_true, if_false, sin_is, Option.bind_some, ite_and, Bool.not_false, Bool.true_and]
    by_cases h3 : 3 ≤ F
    · have h4 := j4_is k F i o d a b ⟨h3, h.2⟩
      rw [if_neg (by omega), if_neg (by omega)]
      by_cases c : F = 3
      · rw [if_pos c]
        rw [c] at h4 ⊢
        exact h4
      · rw [if_neg c]
        rw [show (F == 3) = false by simpa using c, Bool.false_or] at h4
        exact h4
    · have : F = 1 ∨ F = 2 := by omega
      rcases this with rfl | rfl <;> simp [immB, inB]
  · simp
theorem j2_is (k : Nat) (F i o d a b : Int) (x : Bool) (h : 1 ≤ F ∧ F ≤ 9) : spec_l02Right.j2 (k + 3) F x o d a b i = some (!x && (bB F || b == 0) && immB F i) := by
  rw [spec_l02Right.j2]
  simp only [j3_is k F i o d a b _ h]
  cases x
  · have he : (b != 0) = !(b == 0) := rfl
    rcases forms F h with rfl | rfl | rfl | rfl | rfl | rfl | rfl | rfl | rfl <;> simp [bB, he]
  · simp
theorem j1_is (k : Nat) (F i o d a b : Int) (x : Bool) (h : 1 ≤ F ∧ F ≤ 9) : spec_l02Right.j1 (k + 4) F x o d a b i = some (!x && (aB F || a == 0) && (bB F || b == 0) && immB F i) := by
  rw [spec_l02Right.j1]
  simp only [j2_is k F i o d a b _ h]
  cases x
  · have he : (a != 0) = !(a == 0) := rfl
    rcases forms F h with rfl | rfl | rfl | rfl | rfl | rfl | rfl | rfl | rfl <;> simp [aB, he]
  · simp
theorem sright_is (k : Nat) (op F c f3 f7 d a b i : Int) (h1 : 1 ≤ op) (h2 : op ≤ 64) (hs : spec_l02Shape.f op = some (F, c, f3, f7)) (h : 1 ≤ F ∧ F ≤ 9) : spec_l02Right.f (k + 5) op d a b i = some (rightB F d a b i) := by
  have hj : ∀ x : Bool, spec_l02Right.j0 (k + 5) x op d a b i = some (!x && (dB F || d == 0) && (aB F || a == 0) && (bB F || b == 0) && immB F i) := by
    intro x
    rw [spec_l02Right.j0]
    simp only [hs, Option.bind_some, j1_is k F i op d a b _ h]
    cases x
    · have he : (d != 0) = !(d == 0) := rfl
      rcases forms F h with rfl | rfl | rfl | rfl | rfl | rfl | rfl | rfl | rfl <;> simp [dB, he]
    · simp
  unfold spec_l02Right.f spec_l02Op.f spec_l02Reg.f
  simp only [sin_is, Option.bind_some, hj]
  rw [show decide (1 ≤ op) = true by simpa using h1, show decide (op ≤ 64) = true by simpa using h2]
  unfold rightB inB
  cases decide (0 ≤ d) && decide (d ≤ 31) <;> cases decide (0 ≤ a) && decide (a ≤ 31) <;> cases decide (0 ≤ b) && decide (b ≤ 31) <;> simp
theorem sright_no (k : Nat) (op d a b i : Int) (h : ¬ (1 ≤ op ∧ op ≤ 64)) : spec_l02Right.f (k + 1) op d a b i = some false := by
  unfold spec_l02Right.f spec_l02Op.f
  simp only [sin_is, Option.bind_some]
  rw [show (decide (1 ≤ op) && decide (op ≤ 64)) = false by simp; omega, spec_l02Right.j0]
  simp
theorem immOK_is (k : Nat) (F i : Int) (h : 1 ≤ F ∧ F ≤ 9) : impl_immOK.f (k + 1) F i = some (immB F i) := by
  unfold impl_immOK.f
  simp only [impl_immOK.j0, win_is, Option.bind_some, ite_and]
  rcases forms F h with rfl | rfl | rfl | rfl | rfl | rfl | rfl | rfl | rfl <;> simp [immB, inB]
theorem fields_is (k : Nat) (F : Int) (h : 1 ≤ F ∧ F ≤ 9) : impl_fields.f (k + 3) F = some (dB F, aB F, bB F) := by
  unfold impl_fields.f
  simp only [impl_fields.j0, impl_fields.j1, impl_fields.j2]
  rcases forms F h with rfl | rfl | rfl | rfl | rfl | rfl | rfl | rfl | rfl <;> simp [dB, aB, bB]
theorem iright_is (k : Nat) (op F c f3 f7 d a b i : Int) (h1 : 1 ≤ op) (h2 : op ≤ 64) (hs : impl_shapeOf.f op = some (F, c, f3, f7)) (h : 1 ≤ F ∧ F ≤ 9) : impl_InstrOK.f (k + 3) op d a b i = some (rightB F d a b i) := by
  unfold impl_InstrOK.f impl_isOp.f impl_isReg.f
  simp only [win_is, Option.bind_some, hs, fields_is k F h, immOK_is (k + 2) F i h]
  rw [show decide (1 ≤ op) = true by simpa using h1, show decide (op ≤ 64) = true by simpa using h2]
  unfold rightB inB
  generalize immB F i = I
  generalize (decide (0 ≤ d) && decide (d ≤ 31)) = D
  generalize (decide (0 ≤ a) && decide (a ≤ 31)) = A
  generalize (decide (0 ≤ b) && decide (b ≤ 31)) = B
  cases D <;> cases A <;> cases B <;> (try (simp; done))
  by_cases hd : d = 0 <;> by_cases ha : a = 0 <;> by_cases hb : b = 0 <;> cases dB F <;> cases aB F <;> cases bB F <;> simp [hd, ha, hb]
theorem iright_no (k : Nat) (op d a b i : Int) (h : ¬ (1 ≤ op ∧ op ≤ 64)) : impl_InstrOK.f k op d a b i = some false := by
  unfold impl_InstrOK.f impl_isOp.f
  simp only [win_is, Option.bind_some]
  rw [show (decide (1 ≤ op) && decide (op ≤ 64)) = false by simp; omega]
  simp

def P1 (w v : Int) (L C : Nat) : Int := ((ob (pbit w v L C) 32 : Nat) : Int)
theorem P1_rng (w v : Int) (L C : Nat) : 0 ≤ P1 w v L C ∧ P1 w v L C < 4294967296 := by
  have := ob_lt (pbit w v L C) 32
  rw [show (2 : Nat) ^ 32 = 4294967296 by decide] at this
  unfold P1
  omega
theorem tb_P1 (w v : Int) (L C i : Nat) : tb (P1 w v L C) i = (decide (i < 32) && (if L ≤ i ∧ i < L + C then tb v (i - L) else tb w i)) := by
  unfold P1
  rw [tb_ob _ _ _ (by decide)]
  rfl
def bv (x : Bool) : Int := if x = true then 1 else 0
theorem tb_bv0 (x : Bool) : tb (bv x) 0 = x := by cases x <;> rfl
theorem p7_5 (k : Nat) (hk : 32 < k) (w v : Int) : spec_l01Put.f k w 7 5 v = some (P1 w v 7 5) := put_is k w v 7 5 (by decide) hk
theorem p12_20 (k : Nat) (hk : 32 < k) (w v : Int) : spec_l01Put.f k w 12 20 v = some (P1 w v 12 20) := put_is k w v 12 20 (by decide) hk
theorem p12_3 (k : Nat) (hk : 32 < k) (w v : Int) : spec_l01Put.f k w 12 3 v = some (P1 w v 12 3) := put_is k w v 12 3 (by decide) hk
theorem p15_5 (k : Nat) (hk : 32 < k) (w v : Int) : spec_l01Put.f k w 15 5 v = some (P1 w v 15 5) := put_is k w v 15 5 (by decide) hk
theorem p20_12 (k : Nat) (hk : 32 < k) (w v : Int) : spec_l01Put.f k w 20 12 v = some (P1 w v 20 12) := put_is k w v 20 12 (by decide) hk
theorem p20_5 (k : Nat) (hk : 32 < k) (w v : Int) : spec_l01Put.f k w 20 5 v = some (P1 w v 20 5) := put_is k w v 20 5 (by decide) hk
theorem p25_7 (k : Nat) (hk : 32 < k) (w v : Int) : spec_l01Put.f k w 25 7 v = some (P1 w v 25 7) := put_is k w v 25 7 (by decide) hk
theorem p20_6 (k : Nat) (hk : 32 < k) (w v : Int) : spec_l01Put.f k w 20 6 v = some (P1 w v 20 6) := put_is k w v 20 6 (by decide) hk
theorem p_1 (k : Nat) (hk : 32 < k) (w : Int) (x : Bool) (L : Nat) (h : L ≤ 63) : spec_l01Put.f k w (L : Int) 1 (bv x) = some (P1 w (bv x) L 1) := put_is k w (bv x) L 1 (by omega) hk
theorem bitv (v : Int) (n : Nat) (hn : n < 9223372036854775808) : spec_l01Bit.f v (n : Int) = some (bv (tb v n)) := bit_is v n hn
/-- Where the bits of a jump's number stand. -/
def atJ (i : Nat) : Nat := if i = 20 then 31 else if 11 < i then i else if 10 < i then 9 + i else 20 + i
def atB (i : Nat) : Nat := if i = 12 then 31 else if i = 11 then 7 else if 4 < i then 20 + i else 7 + i
def atS (i : Nat) : Nat := 20 + i
def WL (at_ : Nat → Nat) (imm w : Int) (s : Nat) : Nat → Int
  | 0 => w
  | n + 1 => P1 (WL at_ imm w s n) (bv (tb imm (s + n))) (at_ (s + n)) 1
theorem loopJ (imm w op d a b : Int) (K : Nat) : ∀ (m n : Nat), n + m = 20 → spec_l02Encode.l0 (K + 40 + 3 * m + 1) (WL atJ imm w 1 n) ((1 + n : Nat) : Int) op d a b imm = some (WL atJ imm w 1 20) := by
  intro m
  induction m with
  | zero =>
    intro n h
    obtain rfl : n = 20 := by omega
    rw [spec_l02Encode.l0, if_neg (by omega)]
  | succ m ih =>
    intro n h
    have ih2 := ih (n + 1) (by omega)
    have w1 : wrap64 (((1 + n : Nat) : Int) + 1) = ((1 + (n + 1) : Nat) : Int) := by rw [w64_id (by omega) (by omega)]; omega
    have w2 : wrap64 (9 + ((1 + n : Nat) : Int)) = ((9 + (1 + n) : Nat) : Int) := by rw [w64_id (by omega) (by omega)]; omega
    have w3 : wrap64 (20 + ((1 + n : Nat) : Int)) = ((20 + (1 + n) : Nat) : Int) := by rw [w64_id (by omega) (by omega)]; omega
    have e : WL atJ imm w 1 (n + 1) = P1 (WL atJ imm w 1 n) (bv (tb imm (1 + n))) (atJ (1 + n)) 1 := rfl
    rw [e] at ih2
    generalize WL atJ imm w 1 n = v at *
    rw [show K + 40 + 3 * (m + 1) + 1 = (K + 40 + 3 * m + 1) + 1 + 1 + 1 by omega, spec_l02Encode.l0, if_pos (by omega)]
    have hk : 32 < K + 40 + 3 * m + 1 := by omega
    have key : ∀ L : Nat, L ≤ 63 → (1 + n ≠ 20 → L = atJ (1 + n)) → spec_l02Encode.j2 (K + 40 + 3 * m + 1 + 1) v ((1 + n : Nat) : Int) (L : Int) op d a b imm = some (WL atJ imm w 1 20) := by
      intro L hL hat
      rw [spec_l02Encode.j2, bitv imm (1 + n) (by omega), Option.bind_some]
      by_cases c : 1 + n = 20
      · rw [if_pos (by omega), show (31 : Int) = ((31 : Nat) : Int) from rfl, p_1 _ hk v _ 31 (by decide), Option.bind_some, w1, show 31 = atJ (1 + n) by rw [c]; rfl]
        exact ih2
      · rw [if_neg (by omega), Option.bind_some, p_1 _ hk v _ L hL, Option.bind_some, w1, hat c]
        exact ih2
    by_cases c10 : 10 < 1 + n
    · rw [if_pos (by omega), spec_l02Encode.j1, w2]
      by_cases c11 : 11 < 1 + n
      · rw [if_pos (by omega)]
        exact key (1 + n) (by omega) (fun h => by unfold atJ; rw [if_neg h, if_pos c11])
      · rw [if_neg (by omega)]
        exact key _ (by omega) (fun h => by unfold atJ; rw [if_neg h, if_neg c11, if_pos c10])
    · rw [if_neg (by omega), spec_l02Encode.j1, w3, if_neg (by omega)]
      exact key _ (by omega) (fun h => by unfold atJ; rw [if_neg h, if_neg (by omega), if_neg c10])
theorem loopB (imm w op d a b : Int) (K : Nat) : ∀ (m n : Nat), n + m = 12 → spec_l02Encode.l1 (K + 40 + 3 * m + 1) (WL atB imm w 1 n) ((1 + n : Nat) : Int) op d a b imm = some (WL atB imm w 1 12) := by
  intro m
  induction m with
  | zero =>
    intro n h
    obtain rfl : n = 12 := by omega
    rw [spec_l02Encode.l1, if_neg (by omega)]
  | succ m ih =>
    intro n h
    have ih2 := ih (n + 1) (by omega)
    have w1 : wrap64 (((1 + n : Nat) : Int) + 1) = ((1 + (n + 1) : Nat) : Int) := by rw [w64_id (by omega) (by omega)]; omega
    have w2 : wrap64 (7 + ((1 + n : Nat) : Int)) = ((7 + (1 + n) : Nat) : Int) := by rw [w64_id (by omega) (by omega)]; omega
    have w3 : wrap64 (20 + ((1 + n : Nat) : Int)) = ((20 + (1 + n) : Nat) : Int) := by rw [w64_id (by omega) (by omega)]; omega
    have e : WL atB imm w 1 (n + 1) = P1 (WL atB imm w 1 n) (bv (tb imm (1 + n))) (atB (1 + n)) 1 := rfl
    rw [e] at ih2
    generalize WL atB imm w 1 n = v at *
    rw [show K + 40 + 3 * (m + 1) + 1 = (K + 40 + 3 * m + 1) + 1 + 1 + 1 by omega, spec_l02Encode.l1, if_pos (by omega)]
    have hk : 32 < K + 40 + 3 * m + 1 := by omega
    have key : ∀ L : Nat, L ≤ 63 → (1 + n ≠ 12 → 1 + n ≠ 11 → L = atB (1 + n)) → spec_l02Encode.j4 (K + 40 + 3 * m + 1 + 1 + 1) v ((1 + n : Nat) : Int) (L : Int) op d a b imm = some (WL atB imm w 1 12) := by
      intro L hL hat
      rw [spec_l02Encode.j4]
      by_cases c11 : 1 + n = 11
      · rw [if_pos (by omega), spec_l02Encode.j5, bitv imm (1 + n) (by omega), Option.bind_some, if_neg (by omega), Option.bind_some, show (7 : Int) = ((7 : Nat) : Int) from rfl, p_1 _ hk v _ 7 (by decide), Option.bind_some, w1, show 7 = atB (1 + n) by rw [c11]; rfl]
        exact ih2
      · rw [if_neg (by omega), spec_l02Encode.j5, bitv imm (1 + n) (by omega), Option.bind_some]
        by_cases c : 1 + n = 12
        · rw [if_pos (by omega), show (31 : Int) = ((31 : Nat) : Int) from rfl, p_1 _ hk v _ 31 (by decide), Option.bind_some, w1, show 31 = atB (1 + n) by rw [c]; rfl]
          exact ih2
        · rw [if_neg (by omega), Option.bind_some, p_1 _ hk v _ L hL, Option.bind_some, w1, hat c c11]
          exact ih2
    by_cases c4 : 4 < 1 + n
    · rw [if_pos (by omega), w3]
      exact key _ (by omega) (fun h h2 => by unfold atB; rw [if_neg h, if_neg h2, if_pos c4])
    · rw [if_neg (by omega), w2]
      exact key _ (by omega) (fun h h2 => by unfold atB; rw [if_neg h, if_neg h2, if_neg c4])
theorem loopS (imm w op d a b : Int) (K : Nat) : ∀ (m n : Nat), n + m = 7 → spec_l02Encode.l2 (K + 40 + m + 1) (WL atS imm w 5 n) ((5 + n : Nat) : Int) op d a b imm = some (WL atS imm w 5 7) := by
  intro m
  induction m with
  | zero =>
    intro n h
    obtain rfl : n = 7 := by omega
    rw [spec_l02Encode.l2, if_neg (by omega)]
  | succ m ih =>
    intro n h
    have ih2 := ih (n + 1) (by omega)
    have w1 : wrap64 (((5 + n : Nat) : Int) + 1) = ((5 + (n + 1) : Nat) : Int) := by rw [w64_id (by omega) (by omega)]; omega
    have w3 : wrap64 (20 + ((5 + n : Nat) : Int)) = ((atS (5 + n) : Nat) : Int) := by unfold atS; rw [w64_id (by omega) (by omega)]; omega
    have e : WL atS imm w 5 (n + 1) = P1 (WL atS imm w 5 n) (bv (tb imm (5 + n))) (atS (5 + n)) 1 := rfl
    rw [e] at ih2
    generalize WL atS imm w 5 n = v at *
    rw [show K + 40 + (m + 1) + 1 = (K + 40 + m + 1) + 1 by omega, spec_l02Encode.l2, if_pos (by omega), bitv imm (5 + n) (by omega), Option.bind_some, w3, p_1 _ (by omega) v _ _ (by unfold atS; omega), Option.bind_some, w1]
    exact ih2
/-- The word as the reference lays it. -/
def SE (F c f3 f7 d a b i : Int) : Int :=
  if F = 1 then P1 (P1 c d 7 5) (i / 4096) 12 20 else if F = 2 then WL atJ i (P1 c d 7 5) 1 20 else
  if F = 3 then P1 (P1 (P1 (P1 c d 7 5) f3 12 3) a 15 5) i 20 12 else if F = 4 then WL atB i (P1 (P1 (P1 c f3 12 3) a 15 5) b 20 5) 1 12 else
  if F = 5 then WL atS i (P1 (P1 (P1 (P1 c i 7 5) f3 12 3) a 15 5) b 20 5) 5 7 else
  if F = 6 then P1 (P1 (P1 (P1 (P1 c d 7 5) f3 12 3) a 15 5) f7 25 7) i 20 6 else if F = 7 then P1 (P1 (P1 (P1 (P1 c d 7 5) f3 12 3) a 15 5) f7 25 7) i 20 5 else
  if F = 8 then P1 (P1 (P1 (P1 (P1 c d 7 5) f3 12 3) a 15 5) f7 25 7) b 20 5 else P1 c f7 20 12
theorem spec_enc (K : Nat) (op F c f3 f7 d a b i : Int) (hs : spec_l02Shape.f op = some (F, c, f3, f7)) (hF : 1 ≤ F ∧ F ≤ 9) (hi : F = 1 → wrap64 (Int.tdiv i 4096) = i / 4096) :
    spec_l02Encode.f (K + 40 + 3 * 20 + 1) op d a b i = some (SE F c f3 f7 d a b i) := by
  unfold spec_l02Encode.f
  rw [hs, Option.bind_some]
  dsimp only
  have hk : 32 < K + 40 + 3 * 20 + 1 := by omega
  have hk2 : 32 < K + 100 := by omega
  rcases forms F hF with rfl | rfl | rfl | rfl | rfl | rfl | rfl | rfl | rfl
  · rw [if_pos rfl, p7_5 _ hk, Option.bind_some, hi rfl, p12_20 _ hk]
    rfl
  · rw [if_neg (by decide), if_pos rfl, p7_5 _ hk, Option.bind_some]
    exact loopJ i (P1 c d 7 5) op d a b K 20 0 rfl
  · rw [if_neg (by decide), if_neg (by decide), if_pos rfl, p7_5 _ hk, Option.bind_some, p12_3 _ hk, Option.bind_some, p15_5 _ hk, Option.bind_some, p20_12 _ hk]
    rfl
  · rw [if_neg (by decide), if_neg (by decide), if_neg (by decide), if_pos rfl, p12_3 _ hk, Option.bind_some, p15_5 _ hk, Option.bind_some, p20_5 _ hk, Option.bind_some, show K + 40 + 3 * 20 + 1 = (K + 24) + 40 + 3 * 12 + 1 by omega]
    exact loopB i (P1 (P1 (P1 c f3 12 3) a 15 5) b 20 5) op d a b (K + 24) 12 0 rfl
  · rw [if_neg (by decide), if_neg (by decide), if_neg (by decide), if_neg (by decide), if_pos rfl, p7_5 _ hk, Option.bind_some, p12_3 _ hk, Option.bind_some, p15_5 _ hk, Option.bind_some, p20_5 _ hk, Option.bind_some, show K + 40 + 3 * 20 + 1 = (K + 53) + 40 + 7 + 1 by omega]
    exact loopS i (P1 (P1 (P1 (P1 c i 7 5) f3 12 3) a 15 5) b 20 5) op d a b (K + 53) 7 0 rfl
  · rw [if_neg (by decide), if_neg (by decide), if_neg (by decide), if_neg (by decide), if_neg (by decide), if_pos rfl, spec_l02Encode.j7, if_pos (by decide), p7_5 _ hk2, Option.bind_some, p12_3 _ hk2, Option.bind_some, p15_5 _ hk2, Option.bind_some, p25_7 _ hk2, Option.bind_some, if_pos rfl, p20_6 _ hk2]
    rfl
  · rw [if_neg (by decide), if_neg (by decide), if_neg (by decide), if_neg (by decide), if_neg (by decide), if_neg (by decide), if_pos rfl, spec_l02Encode.j7, if_pos (by decide), p7_5 _ hk2, Option.bind_some, p12_3 _ hk2, Option.bind_some, p15_5 _ hk2, Option.bind_some, p25_7 _ hk2, Option.bind_some, if_neg (by decide), if_pos rfl, p20_5 _ hk2]
    rfl
  · rw [if_neg (by decide), if_neg (by decide), if_neg (by decide), if_neg (by decide), if_neg (by decide), if_neg (by decide), if_neg (by decide), spec_l02Encode.j7, if_pos (by decide), p7_5 _ hk2, Option.bind_some, p12_3 _ hk2, Option.bind_some, p15_5 _ hk2, Option.bind_some, p25_7 _ hk2, Option.bind_some, if_neg (by decide), if_neg (by decide), p20_5 _ hk2]
    rfl
  · rw [if_neg (by decide), if_neg (by decide), if_neg (by decide), if_neg (by decide), if_neg (by decide), if_neg (by decide), if_neg (by decide), spec_l02Encode.j7, if_neg (by decide), if_pos rfl, p20_12 _ hk2]
    rfl
/-- The program's side. -/
def OR (x y : Int) : Int := Go.bits .or .i64 x y
def pc (w i : Int) (f n at_ : Nat) : Int := OR w (shl .i64 (i / 2 ^ f % 2 ^ n) (at_ : Int))
def T1 (F w d : Int) : Int := if dB F = true then OR w (wrap64 (d * 128)) else w
def T2 (F w a f3 : Int) : Int := if aB F = true then OR w (OR (wrap64 (a * 32768)) (wrap64 (f3 * 4096))) else w
def T3 (F w b : Int) : Int := if bB F = true then OR w (wrap64 (b * 1048576)) else w
def T4 (F w f7 : Int) : Int := if F = 6 then OR w (wrap64 (f7 / 2 * 67108864)) else if F = 7 ∨ F = 8 then OR w (wrap64 (f7 * 33554432)) else if F = 9 then OR w (wrap64 (f7 * 1048576)) else w
theorem enc_step (k : Nat) (w : Int) (ps : List (S92)) (len x x2 op d a b i F c f3 f7 : Int) (f n at_ : Nat) (h1 : x < len) (h2 : 0 ≤ x) (h3 : x < (ps.length : Int)) (e0 : (rd_T92 ps x).f0 = (f : Int)) (e1 : (rd_T92 ps x).f1 = (n : Int)) (e2 : (rd_T92 ps x).f2 = (at_ : Int)) (e3 : wrap64 (x + 1) = x2)
    (i0 : -9223372036854775808 ≤ i) (i1 : i ≤ 9223372036854775807) (hf : f ≤ 63) (hn : n ≤ 62) : impl_encode.l0 (k + 1) w ps len x op d a b i F c f3 f7 = impl_encode.l0 k (pc w i f n at_) ps len x2 op d a b i F c f3 f7 := by
  rw [impl_encode.l0, if_pos h1, if_pos h2, if_pos h3, e0, e1, e2, bitsOf_is i f n i0 i1 hf hn, Option.bind_some, if_pos (Int.natCast_nonneg _), e3]
  rfl
theorem enc_end (k : Nat) (w : Int) (ps : List (S92)) (len op d a b i F c f3 f7 : Int) (hF : 1 ≤ F ∧ F ≤ 9) : impl_encode.l0 (k + 7) w ps len len op d a b i F c f3 f7 = some (T4 F (T3 F (T2 F (T1 F w d) a f3) b) f7) := by
  rw [impl_encode.l0, if_neg (by omega), fields_is (k + 3) F hF, Option.bind_some]
  dsimp only
  have h4 : ∀ w, impl_encode.j3 (k + 3) w F c f3 f7 = some (T4 F w f7) := by
    intro w
    rw [impl_encode.j3]
    simp only [impl_encode.j4]
    unfold T4 OR
    rcases forms F hF with rfl | rfl | rfl | rfl | rfl | rfl | rfl | rfl | rfl <;> simp
  have h3 : ∀ w, impl_encode.j2 (k + 4) w (bB F) op d a b i F c f3 f7 = some (T4 F (T3 F w b) f7) := by
    intro w
    rw [impl_encode.j2]
    simp only [h4]
    unfold T3 OR
    cases bB F <;> simp
  have h2 : ∀ w, impl_encode.j1 (k + 5) w (aB F) (bB F) op d a b i F c f3 f7 = some (T4 F (T3 F (T2 F w a f3) b) f7) := by
    intro w
    rw [impl_encode.j1]
    simp only [h3]
    unfold T2 OR
    cases aB F <;> simp
  unfold T1 OR
  have h1 := fun w => h2 w
  cases dB F
  · rw [if_neg (by decide), if_neg (by decide)]
    exact h2 _
  · rw [if_pos rfl, if_pos rfl]
    exact h2 _
/-- The pieces of the number, in the program's order. -/
def IW (F c i : Int) : Int := if F = 1 then pc c i 12 20 12 else if F = 2 then pc (pc (pc (pc c i 12 8 12) i 11 1 20) i 1 10 21) i 20 1 31 else if F = 3 then pc c i 0 12 20 else if F = 4 then pc (pc (pc (pc c i 11 1 7) i 1 4 8) i 5 6 25) i 12 1 31 else if F = 5 then pc (pc c i 0 5 7) i 5 7 25 else if F = 6 then pc c i 0 6 20 else if F = 7 then pc c i 0 5 20 else c
theorem impl_enc (K : Nat) (op F c f3 f7 d a b i : Int) (hs : impl_shapeOf.f op = some (F, c, f3, f7)) (hF : 1 ≤ F ∧ F ≤ 9) (i0 : -9223372036854775808 ≤ i) (i1 : i ≤ 9223372036854775807) :
    impl_encode.f (K + 11) op d a b i = some (T4 F (T3 F (T2 F (T1 F (IW F c i) d) a f3) b) f7) := by
  unfold impl_encode.f
  rw [hs, Option.bind_some]
  dsimp only
  unfold impl_pieces.f
  rcases forms F hF with rfl | rfl | rfl | rfl | rfl | rfl | rfl | rfl | rfl
  · rw [if_pos rfl, Option.bind_some]
    rw [enc_step (K + 10) _ _ _ _ 1 op d a b i _ c f3 f7 12 20 12 (by decide) (by decide) (by decide) rfl rfl rfl (by unfold wrap64; decide) i0 i1 (by decide) (by decide)]
    exact enc_end (K + 3) _ _ _ op d a b i 1 c f3 f7 (by decide)
  · rw [if_neg (by decide), if_pos rfl, Option.bind_some]
    rw [enc_step (K + 10) _ _ _ _ 1 op d a b i _ c f3 f7 12 8 12 (by decide) (by decide) (by decide) rfl rfl rfl (by unfold wrap64; decide) i0 i1 (by decide) (by decide)]
    rw [enc_step (K + 9) _ _ _ _ 2 op d a b i _ c f3 f7 11 1 20 (by decide) (by decide) (by decide) rfl rfl rfl (by unfold wrap64; decide) i0 i1 (by decide) (by decide)]
    rw [enc_step (K + 8) _ _ _ _ 3 op d a b i _ c f3 f7 1 10 21 (by decide) (by decide) (by decide) rfl rfl rfl (by unfold wrap64; decide) i0 i1 (by decide) (by decide)]
    rw [enc_step (K + 7) _ _ _ _ 4 op d a b i _ c f3 f7 20 1 31 (by decide) (by decide) (by decide) rfl rfl rfl (by unfold wrap64; decide) i0 i1 (by decide) (by decide)]
    exact enc_end (K + 0) _ _ _ op d a b i 2 c f3 f7 (by decide)
  · rw [if_neg (by decide), if_neg (by decide), if_pos rfl, Option.bind_some]
    rw [enc_step (K + 10) _ _ _ _ 1 op d a b i _ c f3 f7 0 12 20 (by decide) (by decide) (by decide) rfl rfl rfl (by unfold wrap64; decide) i0 i1 (by decide) (by decide)]
    exact enc_end (K + 3) _ _ _ op d a b i 3 c f3 f7 (by decide)
  · rw [if_neg (by decide), if_neg (by decide), if_neg (by decide), if_pos rfl, Option.bind_some]
    rw [enc_step (K + 10) _ _ _ _ 1 op d a b i _ c f3 f7 11 1 7 (by decide) (by decide) (by decide) rfl rfl rfl (by unfold wrap64; decide) i0 i1 (by decide) (by decide)]
    rw [enc_step (K + 9) _ _ _ _ 2 op d a b i _ c f3 f7 1 4 8 (by decide) (by decide) (by decide) rfl rfl rfl (by unfold wrap64; decide) i0 i1 (by decide) (by decide)]
    rw [enc_step (K + 8) _ _ _ _ 3 op d a b i _ c f3 f7 5 6 25 (by decide) (by decide) (by decide) rfl rfl rfl (by unfold wrap64; decide) i0 i1 (by decide) (by decide)]
    rw [enc_step (K + 7) _ _ _ _ 4 op d a b i _ c f3 f7 12 1 31 (by decide) (by decide) (by decide) rfl rfl rfl (by unfold wrap64; decide) i0 i1 (by decide) (by decide)]
    exact enc_end (K + 0) _ _ _ op d a b i 4 c f3 f7 (by decide)
  · rw [if_neg (by decide), if_neg (by decide), if_neg (by decide), if_neg (by decide), if_pos rfl, Option.bind_some]
    rw [enc_step (K + 10) _ _ _ _ 1 op d a b i _ c f3 f7 0 5 7 (by decide) (by decide) (by decide) rfl rfl rfl (by unfold wrap64; decide) i0 i1 (by decide) (by decide)]
    rw [enc_step (K + 9) _ _ _ _ 2 op d a b i _ c f3 f7 5 7 25 (by decide) (by decide) (by decide) rfl rfl rfl (by unfold wrap64; decide) i0 i1 (by decide) (by decide)]
    exact enc_end (K + 2) _ _ _ op d a b i 5 c f3 f7 (by decide)
  · rw [if_neg (by decide), if_neg (by decide), if_neg (by decide), if_neg (by decide), if_neg (by decide), if_pos rfl, Option.bind_some]
    rw [enc_step (K + 10) _ _ _ _ 1 op d a b i _ c f3 f7 0 6 20 (by decide) (by decide) (by decide) rfl rfl rfl (by unfold wrap64; decide) i0 i1 (by decide) (by decide)]
    exact enc_end (K + 3) _ _ _ op d a b i 6 c f3 f7 (by decide)
  · rw [if_neg (by decide), if_neg (by decide), if_neg (by decide), if_neg (by decide), if_neg (by decide), if_neg (by decide), if_pos rfl, Option.bind_some]
    rw [enc_step (K + 10) _ _ _ _ 1 op d a b i _ c f3 f7 0 5 20 (by decide) (by decide) (by decide) rfl rfl rfl (by unfold wrap64; decide) i0 i1 (by decide) (by decide)]
    exact enc_end (K + 3) _ _ _ op d a b i 7 c f3 f7 (by decide)
  · rw [if_neg (by decide), if_neg (by decide), if_neg (by decide), if_neg (by decide), if_neg (by decide), if_neg (by decide), if_neg (by decide), Option.bind_some]
    exact enc_end (K + 4) _ _ _ op d a b i 8 c f3 f7 (by decide)
  · rw [if_neg (by decide), if_neg (by decide), if_neg (by decide), if_neg (by decide), if_neg (by decide), if_neg (by decide), if_neg (by decide), Option.bind_some]
    exact enc_end (K + 4) _ _ _ op d a b i 9 c f3 f7 (by decide)
theorem tb_or' (x y : Int) (i : Nat) : tb (OR x y) i = (tb x i || tb y i) := tb_or x y i
theorem OR_rng (x y : Int) : -9223372036854775808 ≤ OR x y ∧ OR x y ≤ 9223372036854775807 := bits_rng .or x y
theorem tb_pc (w i : Int) (i0 : -9223372036854775808 ≤ i) (i1 : i ≤ 9223372036854775807) (f n at_ j : Nat) (hn : n ≤ 64) (ha : at_ ≤ 63) (hj : j < 64) : tb (pc w i f n at_) j = (tb w j || (decide (at_ ≤ j) && (decide (j - at_ < n) && tb i (min (j - at_ + f) 63)))) := by
  unfold pc
  rw [tb_or', shl_v _ _ ha, tb_wrap64, tb_mul _ _ _ hj, tb_mod _ _ _ hn, tb_div_s i i0 i1 _ _ (by omega)]
theorem tbs7 (x : Int) (j : Nat) (hj : j < 64) : tb (wrap64 (x * 128)) j = (decide (7 ≤ j) && tb x (j - 7)) := by
  rw [tb_wrap64, show (128 : Int) = 2 ^ 7 by decide, tb_mul _ _ _ hj]
theorem tbs15 (x : Int) (j : Nat) (hj : j < 64) : tb (wrap64 (x * 32768)) j = (decide (15 ≤ j) && tb x (j - 15)) := by
  rw [tb_wrap64, show (32768 : Int) = 2 ^ 15 by decide, tb_mul _ _ _ hj]
theorem tbs12 (x : Int) (j : Nat) (hj : j < 64) : tb (wrap64 (x * 4096)) j = (decide (12 ≤ j) && tb x (j - 12)) := by
  rw [tb_wrap64, show (4096 : Int) = 2 ^ 12 by decide, tb_mul _ _ _ hj]
theorem tbs20 (x : Int) (j : Nat) (hj : j < 64) : tb (wrap64 (x * 1048576)) j = (decide (20 ≤ j) && tb x (j - 20)) := by
  rw [tb_wrap64, show (1048576 : Int) = 2 ^ 20 by decide, tb_mul _ _ _ hj]
theorem tbs26 (x : Int) (j : Nat) (hj : j < 64) : tb (wrap64 (x * 67108864)) j = (decide (26 ≤ j) && tb x (j - 26)) := by
  rw [tb_wrap64, show (67108864 : Int) = 2 ^ 26 by decide, tb_mul _ _ _ hj]
theorem tbs25 (x : Int) (j : Nat) (hj : j < 64) : tb (wrap64 (x * 33554432)) j = (decide (25 ≤ j) && tb x (j - 25)) := by
  rw [tb_wrap64, show (33554432 : Int) = 2 ^ 25 by decide, tb_mul _ _ _ hj]
theorem tb_top (x : Int) (n : Nat) (h0 : 0 ≤ x) (h1 : x < 2 ^ n) (hn : n ≤ 63) : ∀ j, n ≤ j → tb x j = false := by
  intro j hj
  have e : x % 2 ^ n = x := Int.emod_eq_of_lt h0 h1
  rw [← e, tb_mod x n j (by omega)]
  simp
  omega
theorem all64 (p : Nat → Prop) (h : p 0 ∧ p 1 ∧ p 2 ∧ p 3 ∧ p 4 ∧ p 5 ∧ p 6 ∧ p 7 ∧ p 8 ∧ p 9 ∧ p 10 ∧ p 11 ∧ p 12 ∧ p 13 ∧ p 14 ∧ p 15 ∧ p 16 ∧ p 17 ∧ p 18 ∧ p 19 ∧ p 20 ∧ p 21 ∧ p 22 ∧ p 23 ∧ p 24 ∧ p 25 ∧ p 26 ∧ p 27 ∧ p 28 ∧ p 29 ∧ p 30 ∧ p 31 ∧ p 32 ∧ p 33 ∧ p 34 ∧ p 35 ∧ p 36 ∧ p 37 ∧ p 38 ∧ p 39 ∧ p 40 ∧ p 41 ∧ p 42 ∧ p 43 ∧ p 44 ∧ p 45 ∧ p 46 ∧ p 47 ∧ p 48 ∧ p 49 ∧ p 50 ∧ p 51 ∧ p 52 ∧ p 53 ∧ p 54 ∧ p 55 ∧ p 56 ∧ p 57 ∧ p 58 ∧ p 59 ∧ p 60 ∧ p 61 ∧ p 62 ∧ p 63) : ∀ i, i < 64 → p i := by
  intro i hi
  have : i = 0 ∨ i = 1 ∨ i = 2 ∨ i = 3 ∨ i = 4 ∨ i = 5 ∨ i = 6 ∨ i = 7 ∨ i = 8 ∨ i = 9 ∨ i = 10 ∨ i = 11 ∨ i = 12 ∨ i = 13 ∨ i = 14 ∨ i = 15 ∨ i = 16 ∨ i = 17 ∨ i = 18 ∨ i = 19 ∨ i = 20 ∨ i = 21 ∨ i = 22 ∨ i = 23 ∨ i = 24 ∨ i = 25 ∨ i = 26 ∨ i = 27 ∨ i = 28 ∨ i = 29 ∨ i = 30 ∨ i = 31 ∨ i = 32 ∨ i = 33 ∨ i = 34 ∨ i = 35 ∨ i = 36 ∨ i = 37 ∨ i = 38 ∨ i = 39 ∨ i = 40 ∨ i = 41 ∨ i = 42 ∨ i = 43 ∨ i = 44 ∨ i = 45 ∨ i = 46 ∨ i = 47 ∨ i = 48 ∨ i = 49 ∨ i = 50 ∨ i = 51 ∨ i = 52 ∨ i = 53 ∨ i = 54 ∨ i = 55 ∨ i = 56 ∨ i = 57 ∨ i = 58 ∨ i = 59 ∨ i = 60 ∨ i = 61 ∨ i = 62 ∨ i = 63 := by omega
  rcases this with rfl | rfl | rfl | rfl | rfl | rfl | rfl | rfl | rfl | rfl | rfl | rfl | rfl | rfl | rfl | rfl | rfl | rfl | rfl | rfl | rfl | rfl | rfl | rfl | rfl | rfl | rfl | rfl | rfl | rfl | rfl | rfl | rfl | rfl | rfl | rfl | rfl | rfl | rfl | rfl | rfl | rfl | rfl | rfl | rfl | rfl | rfl | rfl | rfl | rfl | rfl | rfl | rfl | rfl | rfl | rfl | rfl | rfl | rfl | rfl | rfl | rfl | rfl | rfl
  all_goals simp only [h]
theorem same1 (c f3 f7 d a b i : Int) (hc0 : 0 ≤ c) (hc1 : c ≤ 127) (h30 : 0 ≤ f3) (h31 : f3 ≤ 7) (h70 : 0 ≤ f7) (h71 : f7 ≤ 63) (hd0 : 0 ≤ d) (hd1 : d ≤ 31) (ha0 : 0 ≤ a) (ha1 : a ≤ 31) (hb0 : 0 ≤ b) (hb1 : b ≤ 31) (i0 : -9223372036854775808 ≤ i) (i1 : i ≤ 9223372036854775807) : SE 1 c f3 f7 d a b i = T4 1 (T3 1 (T2 1 (T1 1 (IW 1 c i) d) a f3) b) f7 := by
  have c_ := tb_top c 7 hc0 (by omega) (by decide)
  have d_ := tb_top d 5 hd0 (by omega) (by decide)
  have a_ := tb_top a 5 ha0 (by omega) (by decide)
  have b_ := tb_top b 5 hb0 (by omega) (by decide)
  have f3_ := tb_top f3 3 h30 (by omega) (by decide)
  have f7_ := tb_top f7 6 h70 (by omega) (by decide)
  show P1 (P1 c d 7 5) (i / 4096) 12 20 = OR (pc c i 12 20 12) (wrap64 (d * 128))
  have rs : 0 ≤ P1 (P1 c d 7 5) (i / 4096) 12 20 ∧ P1 (P1 c d 7 5) (i / 4096) 12 20 < 4294967296 := P1_rng _ _ _ _
  have ri := OR_rng (pc c i 12 20 12) (wrap64 (d * 128))
  refine tb_ext (by omega) (by omega) ri.1 ri.2 (all64 _ ?_)
  have pc_ := fun (w : Int) (f n at_ j : Nat) (hn : n ≤ 64) (ha : at_ ≤ 63) (hj : j < 64) => tb_pc w i i0 i1 f n at_ j hn ha hj
  have q_ : ∀ j, j < 64 → tb (i / 4096) j = tb i (min (j + 12) 63) := fun j hj => by rw [show (4096 : Int) = 2 ^ 12 by decide, tb_div_s i i0 i1 _ _ hj]
  refine ⟨?_, ?_, ?_, ?_, ?_, ?_, ?_, ?_, ?_, ?_, ?_, ?_, ?_, ?_, ?_, ?_, ?_, ?_, ?_, ?_, ?_, ?_, ?_, ?_, ?_, ?_, ?_, ?_, ?_, ?_, ?_, ?_, ?_, ?_, ?_, ?_, ?_, ?_, ?_, ?_, ?_, ?_, ?_, ?_, ?_, ?_, ?_, ?_, ?_, ?_, ?_, ?_, ?_, ?_, ?_, ?_, ?_, ?_, ?_, ?_, ?_, ?_, ?_, ?_⟩ <;> simp [tb_P1, tb_or', tbs7, tbs12, tbs15, tbs20, tbs25, tbs26, c_, d_, a_, b_, f3_, f7_, pc_, q_]
theorem same2 (c f3 f7 d a b i : Int) (hc0 : 0 ≤ c) (hc1 : c ≤ 127) (h30 : 0 ≤ f3) (h31 : f3 ≤ 7) (h70 : 0 ≤ f7) (h71 : f7 ≤ 63) (hd0 : 0 ≤ d) (hd1 : d ≤ 31) (ha0 : 0 ≤ a) (ha1 : a ≤ 31) (hb0 : 0 ≤ b) (hb1 : b ≤ 31) (i0 : -9223372036854775808 ≤ i) (i1 : i ≤ 9223372036854775807) : SE 2 c f3 f7 d a b i = T4 2 (T3 2 (T2 2 (T1 2 (IW 2 c i) d) a f3) b) f7 := by
  have c_ := tb_top c 7 hc0 (by omega) (by decide)
  have d_ := tb_top d 5 hd0 (by omega) (by decide)
  have a_ := tb_top a 5 ha0 (by omega) (by decide)
  have b_ := tb_top b 5 hb0 (by omega) (by decide)
  have f3_ := tb_top f3 3 h30 (by omega) (by decide)
  have f7_ := tb_top f7 6 h70 (by omega) (by decide)
  show WL atJ i (P1 c d 7 5) 1 20 = OR (pc (pc (pc (pc c i 12 8 12) i 11 1 20) i 1 10 21) i 20 1 31) (wrap64 (d * 128))
  have rs : 0 ≤ WL atJ i (P1 c d 7 5) 1 20 ∧ WL atJ i (P1 c d 7 5) 1 20 < 4294967296 := P1_rng _ _ _ _
  have ri := OR_rng (pc (pc (pc (pc c i 12 8 12) i 11 1 20) i 1 10 21) i 20 1 31) (wrap64 (d * 128))
  refine tb_ext (by omega) (by omega) ri.1 ri.2 (all64 _ ?_)
  have pc_ := fun (w : Int) (f n at_ j : Nat) (hn : n ≤ 64) (ha : at_ ≤ 63) (hj : j < 64) => tb_pc w i i0 i1 f n at_ j hn ha hj
  refine ⟨?_, ?_, ?_, ?_, ?_, ?_, ?_, ?_, ?_, ?_, ?_, ?_, ?_, ?_, ?_, ?_, ?_, ?_, ?_, ?_, ?_, ?_, ?_, ?_, ?_, ?_, ?_, ?_, ?_, ?_, ?_, ?_, ?_, ?_, ?_, ?_, ?_, ?_, ?_, ?_, ?_, ?_, ?_, ?_, ?_, ?_, ?_, ?_, ?_, ?_, ?_, ?_, ?_, ?_, ?_, ?_, ?_, ?_, ?_, ?_, ?_, ?_, ?_, ?_⟩ <;> simp [tb_P1, tb_or', tbs7, tbs12, tbs15, tbs20, tbs25, tbs26, c_, d_, a_, b_, f3_, f7_, WL, tb_bv0, atJ, pc_]
theorem same3 (c f3 f7 d a b i : Int) (hc0 : 0 ≤ c) (hc1 : c ≤ 127) (h30 : 0 ≤ f3) (h31 : f3 ≤ 7) (h70 : 0 ≤ f7) (h71 : f7 ≤ 63) (hd0 : 0 ≤ d) (hd1 : d ≤ 31) (ha0 : 0 ≤ a) (ha1 : a ≤ 31) (hb0 : 0 ≤ b) (hb1 : b ≤ 31) (i0 : -9223372036854775808 ≤ i) (i1 : i ≤ 9223372036854775807) : SE 3 c f3 f7 d a b i = T4 3 (T3 3 (T2 3 (T1 3 (IW 3 c i) d) a f3) b) f7 := by
  have c_ := tb_top c 7 hc0 (by omega) (by decide)
  have d_ := tb_top d 5 hd0 (by omega) (by decide)
  have a_ := tb_top a 5 ha0 (by omega) (by decide)
  have b_ := tb_top b 5 hb0 (by omega) (by decide)
  have f3_ := tb_top f3 3 h30 (by omega) (by decide)
  have f7_ := tb_top f7 6 h70 (by omega) (by decide)
  show P1 (P1 (P1 (P1 c d 7 5) f3 12 3) a 15 5) i 20 12 = OR (OR (pc c i 0 12 20) (wrap64 (d * 128))) (OR (wrap64 (a * 32768)) (wrap64 (f3 * 4096)))
  have rs : 0 ≤ P1 (P1 (P1 (P1 c d 7 5) f3 12 3) a 15 5) i 20 12 ∧ P1 (P1 (P1 (P1 c d 7 5) f3 12 3) a 15 5) i 20 12 < 4294967296 := P1_rng _ _ _ _
  have ri := OR_rng (OR (pc c i 0 12 20) (wrap64 (d * 128))) (OR (wrap64 (a * 32768)) (wrap64 (f3 * 4096)))
  refine tb_ext (by omega) (by omega) ri.1 ri.2 (all64 _ ?_)
  have pc_ := fun (w : Int) (f n at_ j : Nat) (hn : n ≤ 64) (ha : at_ ≤ 63) (hj : j < 64) => tb_pc w i i0 i1 f n at_ j hn ha hj
  refine ⟨?_, ?_, ?_, ?_, ?_, ?_, ?_, ?_, ?_, ?_, ?_, ?_, ?_, ?_, ?_, ?_, ?_, ?_, ?_, ?_, ?_, ?_, ?_, ?_, ?_, ?_, ?_, ?_, ?_, ?_, ?_, ?_, ?_, ?_, ?_, ?_, ?_, ?_, ?_, ?_, ?_, ?_, ?_, ?_, ?_, ?_, ?_, ?_, ?_, ?_, ?_, ?_, ?_, ?_, ?_, ?_, ?_, ?_, ?_, ?_, ?_, ?_, ?_, ?_⟩ <;> simp [tb_P1, tb_or', tbs7, tbs12, tbs15, tbs20, tbs25, tbs26, c_, d_, a_, b_, f3_, f7_, pc_]
theorem same4 (c f3 f7 d a b i : Int) (hc0 : 0 ≤ c) (hc1 : c ≤ 127) (h30 : 0 ≤ f3) (h31 : f3 ≤ 7) (h70 : 0 ≤ f7) (h71 : f7 ≤ 63) (hd0 : 0 ≤ d) (hd1 : d ≤ 31) (ha0 : 0 ≤ a) (ha1 : a ≤ 31) (hb0 : 0 ≤ b) (hb1 : b ≤ 31) (i0 : -9223372036854775808 ≤ i) (i1 : i ≤ 9223372036854775807) : SE 4 c f3 f7 d a b i = T4 4 (T3 4 (T2 4 (T1 4 (IW 4 c i) d) a f3) b) f7 := by
  have c_ := tb_top c 7 hc0 (by omega) (by decide)
  have d_ := tb_top d 5 hd0 (by omega) (by decide)
  have a_ := tb_top a 5 ha0 (by omega) (by decide)
  have b_ := tb_top b 5 hb0 (by omega) (by decide)
  have f3_ := tb_top f3 3 h30 (by omega) (by decide)
  have f7_ := tb_top f7 6 h70 (by omega) (by decide)
  show WL atB i (P1 (P1 (P1 c f3 12 3) a 15 5) b 20 5) 1 12 = OR (OR (pc (pc (pc (pc c i 11 1 7) i 1 4 8) i 5 6 25) i 12 1 31) (OR (wrap64 (a * 32768)) (wrap64 (f3 * 4096)))) (wrap64 (b * 1048576))
  have rs : 0 ≤ WL atB i (P1 (P1 (P1 c f3 12 3) a 15 5) b 20 5) 1 12 ∧ WL atB i (P1 (P1 (P1 c f3 12 3) a 15 5) b 20 5) 1 12 < 4294967296 := P1_rng _ _ _ _
  have ri := OR_rng (OR (pc (pc (pc (pc c i 11 1 7) i 1 4 8) i 5 6 25) i 12 1 31) (OR (wrap64 (a * 32768)) (wrap64 (f3 * 4096)))) (wrap64 (b * 1048576))
  refine tb_ext (by omega) (by omega) ri.1 ri.2 (all64 _ ?_)
  have pc_ := fun (w : Int) (f n at_ j : Nat) (hn : n ≤ 64) (ha : at_ ≤ 63) (hj : j < 64) => tb_pc w i i0 i1 f n at_ j hn ha hj
  refine ⟨?_, ?_, ?_, ?_, ?_, ?_, ?_, ?_, ?_, ?_, ?_, ?_, ?_, ?_, ?_, ?_, ?_, ?_, ?_, ?_, ?_, ?_, ?_, ?_, ?_, ?_, ?_, ?_, ?_, ?_, ?_, ?_, ?_, ?_, ?_, ?_, ?_, ?_, ?_, ?_, ?_, ?_, ?_, ?_, ?_, ?_, ?_, ?_, ?_, ?_, ?_, ?_, ?_, ?_, ?_, ?_, ?_, ?_, ?_, ?_, ?_, ?_, ?_, ?_⟩ <;> simp [tb_P1, tb_or', tbs7, tbs12, tbs15, tbs20, tbs25, tbs26, c_, d_, a_, b_, f3_, f7_, WL, tb_bv0, atB, pc_]
theorem same5 (c f3 f7 d a b i : Int) (hc0 : 0 ≤ c) (hc1 : c ≤ 127) (h30 : 0 ≤ f3) (h31 : f3 ≤ 7) (h70 : 0 ≤ f7) (h71 : f7 ≤ 63) (hd0 : 0 ≤ d) (hd1 : d ≤ 31) (ha0 : 0 ≤ a) (ha1 : a ≤ 31) (hb0 : 0 ≤ b) (hb1 : b ≤ 31) (i0 : -9223372036854775808 ≤ i) (i1 : i ≤ 9223372036854775807) : SE 5 c f3 f7 d a b i = T4 5 (T3 5 (T2 5 (T1 5 (IW 5 c i) d) a f3) b) f7 := by
  have c_ := tb_top c 7 hc0 (by omega) (by decide)
  have d_ := tb_top d 5 hd0 (by omega) (by decide)
  have a_ := tb_top a 5 ha0 (by omega) (by decide)
  have b_ := tb_top b 5 hb0 (by omega) (by decide)
  have f3_ := tb_top f3 3 h30 (by omega) (by decide)
  have f7_ := tb_top f7 6 h70 (by omega) (by decide)
  show WL atS i (P1 (P1 (P1 (P1 c i 7 5) f3 12 3) a 15 5) b 20 5) 5 7 = OR (OR (pc (pc c i 0 5 7) i 5 7 25) (OR (wrap64 (a * 32768)) (wrap64 (f3 * 4096)))) (wrap64 (b * 1048576))
  have rs : 0 ≤ WL atS i (P1 (P1 (P1 (P1 c i 7 5) f3 12 3) a 15 5) b 20 5) 5 7 ∧ WL atS i (P1 (P1 (P1 (P1 c i 7 5) f3 12 3) a 15 5) b 20 5) 5 7 < 4294967296 := P1_rng _ _ _ _
  have ri := OR_rng (OR (pc (pc c i 0 5 7) i 5 7 25) (OR (wrap64 (a * 32768)) (wrap64 (f3 * 4096)))) (wrap64 (b * 1048576))
  refine tb_ext (by omega) (by omega) ri.1 ri.2 (all64 _ ?_)
  have pc_ := fun (w : Int) (f n at_ j : Nat) (hn : n ≤ 64) (ha : at_ ≤ 63) (hj : j < 64) => tb_pc w i i0 i1 f n at_ j hn ha hj
  refine ⟨?_, ?_, ?_, ?_, ?_, ?_, ?_, ?_, ?_, ?_, ?_, ?_, ?_, ?_, ?_, ?_, ?_, ?_, ?_, ?_, ?_, ?_, ?_, ?_, ?_, ?_, ?_, ?_, ?_, ?_, ?_, ?_, ?_, ?_, ?_, ?_, ?_, ?_, ?_, ?_, ?_, ?_, ?_, ?_, ?_, ?_, ?_, ?_, ?_, ?_, ?_, ?_, ?_, ?_, ?_, ?_, ?_, ?_, ?_, ?_, ?_, ?_, ?_, ?_⟩ <;> simp [tb_P1, tb_or', tbs7, tbs12, tbs15, tbs20, tbs25, tbs26, c_, d_, a_, b_, f3_, f7_, WL, tb_bv0, atS, pc_]
theorem same6 (c f3 f7 d a b i : Int) (hc0 : 0 ≤ c) (hc1 : c ≤ 127) (h30 : 0 ≤ f3) (h31 : f3 ≤ 7) (h70 : 0 ≤ f7) (h71 : f7 ≤ 63) (hd0 : 0 ≤ d) (hd1 : d ≤ 31) (ha0 : 0 ≤ a) (ha1 : a ≤ 31) (hb0 : 0 ≤ b) (hb1 : b ≤ 31) (i0 : -9223372036854775808 ≤ i) (i1 : i ≤ 9223372036854775807) (h6 : tb f7 0 = false) : SE 6 c f3 f7 d a b i = T4 6 (T3 6 (T2 6 (T1 6 (IW 6 c i) d) a f3) b) f7 := by
  have c_ := tb_top c 7 hc0 (by omega) (by decide)
  have d_ := tb_top d 5 hd0 (by omega) (by decide)
  have a_ := tb_top a 5 ha0 (by omega) (by decide)
  have b_ := tb_top b 5 hb0 (by omega) (by decide)
  have f3_ := tb_top f3 3 h30 (by omega) (by decide)
  have f7_ := tb_top f7 6 h70 (by omega) (by decide)
  show P1 (P1 (P1 (P1 (P1 c d 7 5) f3 12 3) a 15 5) f7 25 7) i 20 6 = OR (OR (OR (pc c i 0 6 20) (wrap64 (d * 128))) (OR (wrap64 (a * 32768)) (wrap64 (f3 * 4096)))) (wrap64 (f7 / 2 * 67108864))
  have rs : 0 ≤ P1 (P1 (P1 (P1 (P1 c d 7 5) f3 12 3) a 15 5) f7 25 7) i 20 6 ∧ P1 (P1 (P1 (P1 (P1 c d 7 5) f3 12 3) a 15 5) f7 25 7) i 20 6 < 4294967296 := P1_rng _ _ _ _
  have ri := OR_rng (OR (OR (pc c i 0 6 20) (wrap64 (d * 128))) (OR (wrap64 (a * 32768)) (wrap64 (f3 * 4096)))) (wrap64 (f7 / 2 * 67108864))
  refine tb_ext (by omega) (by omega) ri.1 ri.2 (all64 _ ?_)
  have pc_ := fun (w : Int) (f n at_ j : Nat) (hn : n ≤ 64) (ha : at_ ≤ 63) (hj : j < 64) => tb_pc w i i0 i1 f n at_ j hn ha hj
  have g_ : ∀ j, j < 64 → tb (f7 / 2) j = tb f7 (min (j + 1) 63) := fun j hj => by rw [show f7 / 2 = f7 / 2 ^ 1 by omega, tb_div_s f7 (by omega) (by omega) _ _ hj]
  refine ⟨?_, ?_, ?_, ?_, ?_, ?_, ?_, ?_, ?_, ?_, ?_, ?_, ?_, ?_, ?_, ?_, ?_, ?_, ?_, ?_, ?_, ?_, ?_, ?_, ?_, ?_, ?_, ?_, ?_, ?_, ?_, ?_, ?_, ?_, ?_, ?_, ?_, ?_, ?_, ?_, ?_, ?_, ?_, ?_, ?_, ?_, ?_, ?_, ?_, ?_, ?_, ?_, ?_, ?_, ?_, ?_, ?_, ?_, ?_, ?_, ?_, ?_, ?_, ?_⟩ <;> simp [tb_P1, tb_or', tbs7, tbs12, tbs15, tbs20, tbs25, tbs26, c_, d_, a_, b_, f3_, f7_, h6, pc_, g_]
theorem same7 (c f3 f7 d a b i : Int) (hc0 : 0 ≤ c) (hc1 : c ≤ 127) (h30 : 0 ≤ f3) (h31 : f3 ≤ 7) (h70 : 0 ≤ f7) (h71 : f7 ≤ 63) (hd0 : 0 ≤ d) (hd1 : d ≤ 31) (ha0 : 0 ≤ a) (ha1 : a ≤ 31) (hb0 : 0 ≤ b) (hb1 : b ≤ 31) (i0 : -9223372036854775808 ≤ i) (i1 : i ≤ 9223372036854775807) : SE 7 c f3 f7 d a b i = T4 7 (T3 7 (T2 7 (T1 7 (IW 7 c i) d) a f3) b) f7 := by
  have c_ := tb_top c 7 hc0 (by omega) (by decide)
  have d_ := tb_top d 5 hd0 (by omega) (by decide)
  have a_ := tb_top a 5 ha0 (by omega) (by decide)
  have b_ := tb_top b 5 hb0 (by omega) (by decide)
  have f3_ := tb_top f3 3 h30 (by omega) (by decide)
  have f7_ := tb_top f7 6 h70 (by omega) (by decide)
  show P1 (P1 (P1 (P1 (P1 c d 7 5) f3 12 3) a 15 5) f7 25 7) i 20 5 = OR (OR (OR (pc c i 0 5 20) (wrap64 (d * 128))) (OR (wrap64 (a * 32768)) (wrap64 (f3 * 4096)))) (wrap64 (f7 * 33554432))
  have rs : 0 ≤ P1 (P1 (P1 (P1 (P1 c d 7 5) f3 12 3) a 15 5) f7 25 7) i 20 5 ∧ P1 (P1 (P1 (P1 (P1 c d 7 5) f3 12 3) a 15 5) f7 25 7) i 20 5 < 4294967296 := P1_rng _ _ _ _
  have ri := OR_rng (OR (OR (pc c i 0 5 20) (wrap64 (d * 128))) (OR (wrap64 (a * 32768)) (wrap64 (f3 * 4096)))) (wrap64 (f7 * 33554432))
  refine tb_ext (by omega) (by omega) ri.1 ri.2 (all64 _ ?_)
  have pc_ := fun (w : Int) (f n at_ j : Nat) (hn : n ≤ 64) (ha : at_ ≤ 63) (hj : j < 64) => tb_pc w i i0 i1 f n at_ j hn ha hj
  refine ⟨?_, ?_, ?_, ?_, ?_, ?_, ?_, ?_, ?_, ?_, ?_, ?_, ?_, ?_, ?_, ?_, ?_, ?_, ?_, ?_, ?_, ?_, ?_, ?_, ?_, ?_, ?_, ?_, ?_, ?_, ?_, ?_, ?_, ?_, ?_, ?_, ?_, ?_, ?_, ?_, ?_, ?_, ?_, ?_, ?_, ?_, ?_, ?_, ?_, ?_, ?_, ?_, ?_, ?_, ?_, ?_, ?_, ?_, ?_, ?_, ?_, ?_, ?_, ?_⟩ <;> simp [tb_P1, tb_or', tbs7, tbs12, tbs15, tbs20, tbs25, tbs26, c_, d_, a_, b_, f3_, f7_, pc_]
theorem same8 (c f3 f7 d a b i : Int) (hc0 : 0 ≤ c) (hc1 : c ≤ 127) (h30 : 0 ≤ f3) (h31 : f3 ≤ 7) (h70 : 0 ≤ f7) (h71 : f7 ≤ 63) (hd0 : 0 ≤ d) (hd1 : d ≤ 31) (ha0 : 0 ≤ a) (ha1 : a ≤ 31) (hb0 : 0 ≤ b) (hb1 : b ≤ 31) (i0 : -9223372036854775808 ≤ i) (i1 : i ≤ 9223372036854775807) : SE 8 c f3 f7 d a b i = T4 8 (T3 8 (T2 8 (T1 8 (IW 8 c i) d) a f3) b) f7 := by
  have c_ := tb_top c 7 hc0 (by omega) (by decide)
  have d_ := tb_top d 5 hd0 (by omega) (by decide)
  have a_ := tb_top a 5 ha0 (by omega) (by decide)
  have b_ := tb_top b 5 hb0 (by omega) (by decide)
  have f3_ := tb_top f3 3 h30 (by omega) (by decide)
  have f7_ := tb_top f7 6 h70 (by omega) (by decide)
  show P1 (P1 (P1 (P1 (P1 c d 7 5) f3 12 3) a 15 5) f7 25 7) b 20 5 = OR (OR (OR (OR c (wrap64 (d * 128))) (OR (wrap64 (a * 32768)) (wrap64 (f3 * 4096)))) (wrap64 (b * 1048576))) (wrap64 (f7 * 33554432))
  have rs : 0 ≤ P1 (P1 (P1 (P1 (P1 c d 7 5) f3 12 3) a 15 5) f7 25 7) b 20 5 ∧ P1 (P1 (P1 (P1 (P1 c d 7 5) f3 12 3) a 15 5) f7 25 7) b 20 5 < 4294967296 := P1_rng _ _ _ _
  have ri := OR_rng (OR (OR (OR c (wrap64 (d * 128))) (OR (wrap64 (a * 32768)) (wrap64 (f3 * 4096)))) (wrap64 (b * 1048576))) (wrap64 (f7 * 33554432))
  refine tb_ext (by omega) (by omega) ri.1 ri.2 (all64 _ ?_)
  have pc_ := fun (w : Int) (f n at_ j : Nat) (hn : n ≤ 64) (ha : at_ ≤ 63) (hj : j < 64) => tb_pc w i i0 i1 f n at_ j hn ha hj
  refine ⟨?_, ?_, ?_, ?_, ?_, ?_, ?_, ?_, ?_, ?_, ?_, ?_, ?_, ?_, ?_, ?_, ?_, ?_, ?_, ?_, ?_, ?_, ?_, ?_, ?_, ?_, ?_, ?_, ?_, ?_, ?_, ?_, ?_, ?_, ?_, ?_, ?_, ?_, ?_, ?_, ?_, ?_, ?_, ?_, ?_, ?_, ?_, ?_, ?_, ?_, ?_, ?_, ?_, ?_, ?_, ?_, ?_, ?_, ?_, ?_, ?_, ?_, ?_, ?_⟩ <;> simp [tb_P1, tb_or', tbs7, tbs12, tbs15, tbs20, tbs25, tbs26, c_, d_, a_, b_, f3_, f7_, pc_]
theorem same9 (c f3 f7 d a b i : Int) (hc0 : 0 ≤ c) (hc1 : c ≤ 127) (h30 : 0 ≤ f3) (h31 : f3 ≤ 7) (h70 : 0 ≤ f7) (h71 : f7 ≤ 63) (hd0 : 0 ≤ d) (hd1 : d ≤ 31) (ha0 : 0 ≤ a) (ha1 : a ≤ 31) (hb0 : 0 ≤ b) (hb1 : b ≤ 31) (i0 : -9223372036854775808 ≤ i) (i1 : i ≤ 9223372036854775807) : SE 9 c f3 f7 d a b i = T4 9 (T3 9 (T2 9 (T1 9 (IW 9 c i) d) a f3) b) f7 := by
  have c_ := tb_top c 7 hc0 (by omega) (by decide)
  have d_ := tb_top d 5 hd0 (by omega) (by decide)
  have a_ := tb_top a 5 ha0 (by omega) (by decide)
  have b_ := tb_top b 5 hb0 (by omega) (by decide)
  have f3_ := tb_top f3 3 h30 (by omega) (by decide)
  have f7_ := tb_top f7 6 h70 (by omega) (by decide)
  show P1 c f7 20 12 = OR c (wrap64 (f7 * 1048576))
  have rs : 0 ≤ P1 c f7 20 12 ∧ P1 c f7 20 12 < 4294967296 := P1_rng _ _ _ _
  have ri := OR_rng c (wrap64 (f7 * 1048576))
  refine tb_ext (by omega) (by omega) ri.1 ri.2 (all64 _ ?_)
  have pc_ := fun (w : Int) (f n at_ j : Nat) (hn : n ≤ 64) (ha : at_ ≤ 63) (hj : j < 64) => tb_pc w i i0 i1 f n at_ j hn ha hj
  refine ⟨?_, ?_, ?_, ?_, ?_, ?_, ?_, ?_, ?_, ?_, ?_, ?_, ?_, ?_, ?_, ?_, ?_, ?_, ?_, ?_, ?_, ?_, ?_, ?_, ?_, ?_, ?_, ?_, ?_, ?_, ?_, ?_, ?_, ?_, ?_, ?_, ?_, ?_, ?_, ?_, ?_, ?_, ?_, ?_, ?_, ?_, ?_, ?_, ?_, ?_, ?_, ?_, ?_, ?_, ?_, ?_, ?_, ?_, ?_, ?_, ?_, ?_, ?_, ?_⟩ <;> simp [tb_P1, tb_or', tbs7, tbs12, tbs15, tbs20, tbs25, tbs26, c_, d_, a_, b_, f3_, f7_, pc_]
theorem enc_same (F c f3 f7 d a b i : Int) (hF : 1 ≤ F ∧ F ≤ 9) (hc0 : 0 ≤ c) (hc1 : c ≤ 127) (h30 : 0 ≤ f3) (h31 : f3 ≤ 7) (h70 : 0 ≤ f7) (h71 : f7 ≤ 63) (hd0 : 0 ≤ d) (hd1 : d ≤ 31) (ha0 : 0 ≤ a) (ha1 : a ≤ 31) (hb0 : 0 ≤ b) (hb1 : b ≤ 31) (i0 : -9223372036854775808 ≤ i) (i1 : i ≤ 9223372036854775807) (h6 : F = 6 → tb f7 0 = false) : SE F c f3 f7 d a b i = T4 F (T3 F (T2 F (T1 F (IW F c i) d) a f3) b) f7 := by
  rcases forms F hF with rfl | rfl | rfl | rfl | rfl | rfl | rfl | rfl | rfl
  · exact same1 c f3 f7 d a b i hc0 hc1 h30 h31 h70 h71 hd0 hd1 ha0 ha1 hb0 hb1 i0 i1
  · exact same2 c f3 f7 d a b i hc0 hc1 h30 h31 h70 h71 hd0 hd1 ha0 ha1 hb0 hb1 i0 i1
  · exact same3 c f3 f7 d a b i hc0 hc1 h30 h31 h70 h71 hd0 hd1 ha0 ha1 hb0 hb1 i0 i1
  · exact same4 c f3 f7 d a b i hc0 hc1 h30 h31 h70 h71 hd0 hd1 ha0 ha1 hb0 hb1 i0 i1
  · exact same5 c f3 f7 d a b i hc0 hc1 h30 h31 h70 h71 hd0 hd1 ha0 ha1 hb0 hb1 i0 i1
  · exact same6 c f3 f7 d a b i hc0 hc1 h30 h31 h70 h71 hd0 hd1 ha0 ha1 hb0 hb1 i0 i1 (h6 rfl)
  · exact same7 c f3 f7 d a b i hc0 hc1 h30 h31 h70 h71 hd0 hd1 ha0 ha1 hb0 hb1 i0 i1
  · exact same8 c f3 f7 d a b i hc0 hc1 h30 h31 h70 h71 hd0 hd1 ha0 ha1 hb0 hb1 i0 i1
  · exact same9 c f3 f7 d a b i hc0 hc1 h30 h31 h70 h71 hd0 hd1 ha0 ha1 hb0 hb1 i0 i1
theorem encode_both (K : Nat) (op d a b i : Int) (i0 : -9223372036854775808 ≤ i) (i1 : i ≤ 9223372036854775807) (h1 : 1 ≤ op) (h2 : op ≤ 64) (F c f3 f7 : Int) (hs : spec_l02Shape.f op = some (F, c, f3, f7)) (hi : impl_shapeOf.f op = some (F, c, f3, f7)) (ho : okS F c f3 f7 = true) (hr : rightB F d a b i = true) :
    spec_l02Encode.f (K + 101) op d a b i = some (SE F c f3 f7 d a b i) ∧ impl_encode.f (K + 101) op d a b i = some (SE F c f3 f7 d a b i) := by
  unfold okS at ho
  have ho := of_decide_eq_true ho
  have hF : 1 ≤ F ∧ F ≤ 9 := ⟨ho.1, ho.2.1⟩
  have hr2 : (0 ≤ d ∧ d ≤ 31) ∧ (0 ≤ a ∧ a ≤ 31) ∧ (0 ≤ b ∧ b ≤ 31) ∧ immB F i = true := by
    unfold rightB inB at hr
    simp only [Bool.and_eq_true, decide_eq_true_eq] at hr
    exact ⟨hr.1.1.1.1.1.1, hr.1.1.1.1.1.2, hr.1.1.1.1.2, hr.2⟩
  have h6 : F = 6 → tb f7 0 = false := fun h => by
    rcases ho.2.2.2.2.2.2.2.2.1 h with e | e <;> rw [e] <;> rfl
  have hd : F = 1 → wrap64 (Int.tdiv i 4096) = i / 4096 := fun h => by
    subst h
    have h3 := hr2.2.2.2
    unfold immB inB at h3
    rw [if_pos rfl] at h3
    simp only [Bool.and_eq_true, decide_eq_true_eq, beq_iff_eq] at h3
    have h4 : (4096 : Int) ∣ i := Int.dvd_of_tmod_eq_zero h3.2
    rw [Int.tdiv_eq_ediv_of_dvd h4]
    exact w64_id (by omega) (by omega)
  refine ⟨spec_enc K op F c f3 f7 d a b i hs hF hd, ?_⟩
  rw [impl_enc (K + 90) op F c f3 f7 d a b i hi hF i0 i1, enc_same F c f3 f7 d a b i hF (by omega) (by omega) (by omega) (by omega) (by omega) (by omega) hr2.1.1 hr2.1.2 hr2.2.1.1 hr2.2.1.2 hr2.2.2.1.1 hr2.2.2.1.2 i0 i1 h6]

def One (x : S32) (b : Bool) (e : Int) : Prop := (∀ k, 10 ≤ k → spec_l02Right.f k x.f0 x.f1 x.f2 x.f3 x.f4 = some b ∧ impl_InstrOK.f k x.f0 x.f1 x.f2 x.f3 x.f4 = some b) ∧
  (b = true → ∀ k, 110 ≤ k → spec_l02Encode.f k x.f0 x.f1 x.f2 x.f3 x.f4 = some e ∧ impl_encode.f k x.f0 x.f1 x.f2 x.f3 x.f4 = some e)
theorem one_is (x : S32) (i0 : -9223372036854775808 ≤ x.f4) (i1 : x.f4 ≤ 9223372036854775807) : ∃ b e, One x b e := by
  by_cases h : 1 ≤ x.f0 ∧ x.f0 ≤ 64
  · obtain ⟨F, c, f3, f7, hs, hi, ho⟩ := shape_is x.f0 h.1 h.2
    have hF : 1 ≤ F ∧ F ≤ 9 := by unfold okS at ho; have ho := of_decide_eq_true ho; exact ⟨ho.1, ho.2.1⟩
    refine ⟨rightB F x.f1 x.f2 x.f3 x.f4, SE F c f3 f7 x.f1 x.f2 x.f3 x.f4, fun k hk => ?_, fun hr k hk => ?_⟩
    · obtain ⟨k, rfl⟩ : ∃ n, k = n + 5 := ⟨k - 5, by omega⟩
      exact ⟨sright_is k _ F c f3 f7 _ _ _ _ h.1 h.2 hs hF, iright_is (k + 2) _ F c f3 f7 _ _ _ _ h.1 h.2 hi hF⟩
    · obtain ⟨k, rfl⟩ : ∃ n, k = n + 101 := ⟨k - 101, by omega⟩
      exact encode_both k _ _ _ _ _ i0 i1 h.1 h.2 F c f3 f7 hs hi ho hr
  · refine ⟨false, 0, fun k hk => ?_, fun hr => by cases hr⟩
    obtain ⟨k, rfl⟩ : ∃ n, k = n + 1 := ⟨k - 1, by omega⟩
    exact ⟨sright_no k _ _ _ _ _ h, iright_no _ _ _ _ _ _ h⟩
theorem rdw_at (l : List S32) (i : Nat) (h : i < l.length) : rd_T32 l (i : Int) = l[i] := by
  unfold rd_T32
  simp [List.getD_eq_getElem?_getD, List.getElem?_eq_getElem h]
theorem four_is (k : Nat) (hk : 10 < k) (v : Int) : spec_l01Little.f k v 4 = some (strOfNums (lb v 4)) ∧ impl_putLittle.f k v 4 = some (strOfNums (lb v 4)) := ⟨sput_is 4 k (by decide) (by omega) v, iput_is 4 k (by decide) (by omega) v⟩
theorem four_size (v : Int) : (strOfNums (lb v 4)).size = 4 := by rw [strOfNums_size, lb_length]
theorem words_l (L : List S32) (hL : L.length ≤ 64) (d : Nat) : ∀ (i : Nat) (out : ByteArray), i + d = L.length → out.size + 4 * d ≤ 1000 → (∀ j (h : j < L.length), i ≤ j → ∃ e, One L[j] true e) →
    ∃ w k0, ∀ k, k0 ≤ k → spec_l06Words.l0 k L out (i : Int) = some w ∧ impl_WordsOf.l0 k out L (L.length : Int) (i : Int) = some (w, 0) := by
  induction d with
  | zero =>
    intro i out h _ _
    refine ⟨out, 1, fun k hk => ?_⟩
    obtain ⟨k, rfl⟩ : ∃ n, k = n + 1 := ⟨k - 1, by omega⟩
    rw [spec_l06Words.l0, impl_WordsOf.l0, if_neg (by omega), if_neg (by omega)]
    exact ⟨rfl, rfl⟩
  | succ d ih =>
    intro i out h hz hone
    have hil : i < L.length := by omega
    obtain ⟨e, h1, h2⟩ := hone i hil (Nat.le_refl _)
    have e1 : wrap64 ((i : Int) + 1) = ((i + 1 : Nat) : Int) := by rw [w64_id (by omega) (by omega)]; omega
    obtain ⟨w, k0, hw⟩ := ih (i + 1) (out ++ strOfNums (lb e 4)) (by omega) (by rw [ByteArray.size_append, four_size]; omega) (fun j hj hij => hone j hj (by omega))
    refine ⟨w, k0 + 120, fun k hk => ?_⟩
    obtain ⟨k, rfl⟩ : ∃ n, k = n + 1 := ⟨k - 1, by omega⟩
    rw [spec_l06Words.l0, impl_WordsOf.l0, if_pos (by omega), if_pos (by omega), if_pos (by omega), if_pos (by omega), if_pos (by omega), rdw_at L i hil, (h2 rfl k (by omega)).1, (h1 k (by omega)).2, Option.bind_some, Option.bind_some, if_pos rfl, (h2 rfl k (by omega)).2, Option.bind_some, (four_is k (by omega) e).1, (four_is k (by omega) e).2, Option.bind_some, Option.bind_some, four_size, if_pos (show out.size + 4 ≤ 9223372036854775807 by omega), e1]
    have hz2 : (if out.size + 4 ≤ 9223372036854775807 then impl_WordsOf.l0 k (out ++ strOfNums (lb e 4)) L (L.length : Int) ((i + 1 : Nat) : Int) else none) = impl_WordsOf.l0 k (out ++ strOfNums (lb e 4)) L (L.length : Int) ((i + 1 : Nat) : Int) := if_pos (by omega)
    first | exact hw k (by omega) | (rw [hz2]; exact hw k (by omega))
theorem check_l (L : List S32) (hL : L.length ≤ 64) (hone : ∀ j (h : j < L.length), ∃ b e, One L[j] b e) (d : Nat) : ∀ (i : Nat), i + d = L.length →
    ((∀ j (h : j < L.length), i ≤ j → ∃ e, One L[j] true e) ∧ ∀ k, 10 ≤ k → spec_WordsOf.l0 (k + d + 1) L (i : Int) = (spec_l06Words.f k L).bind fun t => some (t, 0)) ∨
    (∃ k0, ∀ k, k0 ≤ k → spec_WordsOf.l0 k L (i : Int) = some (⟨#[]⟩, 1) ∧ ∀ out : ByteArray, out.size + 4 * d ≤ 1000 → impl_WordsOf.l0 k out L (L.length : Int) (i : Int) = some (⟨#[]⟩, 1)) := by
  induction d with
  | zero =>
    intro i h
    refine .inl ⟨fun j hj hij => by omega, fun k hk => ?_⟩
    rw [spec_WordsOf.l0, if_neg (by omega)]
  | succ d ih =>
    intro i h
    have hil : i < L.length := by omega
    obtain ⟨b, e, h1, h2⟩ := hone i hil
    have e1 : wrap64 ((i : Int) + 1) = ((i + 1 : Nat) : Int) := by rw [w64_id (by omega) (by omega)]; omega
    cases b
    · refine .inr ⟨120, fun k hk => ?_⟩
      obtain ⟨k, rfl⟩ : ∃ n, k = n + 1 := ⟨k - 1, by omega⟩
      refine ⟨?_, fun out ho => ?_⟩
      · rw [spec_WordsOf.l0, if_pos (by omega), if_pos (by omega), rdw_at L i hil, (h1 k (by omega)).1, Option.bind_some, if_neg (by decide)]
      · rw [impl_WordsOf.l0, if_pos (by omega), if_pos (by omega), if_pos (by omega), rdw_at L i hil, (h1 k (by omega)).2, Option.bind_some, if_neg (by decide)]
    · rcases ih (i + 1) (by omega) with ⟨ha, hb⟩ | ⟨k0, hk0⟩
      · refine .inl ⟨fun j hj hij => ?_, fun k hk => ?_⟩
        · by_cases c : j = i
          · subst c
            exact ⟨e, h1, h2⟩
          · exact ha j hj (by omega)
        · rw [show k + (d + 1) + 1 = (k + d + 1) + 1 by omega, spec_WordsOf.l0, if_pos (by omega), if_pos (by omega), rdw_at L i hil, (h1 (k + d + 1) (by omega)).1, Option.bind_some, if_pos rfl, e1]
          exact hb k hk
      · refine .inr ⟨k0 + 120, fun k hk => ?_⟩
        obtain ⟨k, rfl⟩ : ∃ n, k = n + 1 := ⟨k - 1, by omega⟩
        refine ⟨?_, fun out ho => ?_⟩
        · rw [spec_WordsOf.l0, if_pos (by omega), if_pos (by omega), rdw_at L i hil, (h1 k (by omega)).1, Option.bind_some, if_pos rfl, e1]
          exact (hk0 k (by omega)).1
        · rw [impl_WordsOf.l0, if_pos (by omega), if_pos (by omega), if_pos (by omega), rdw_at L i hil, (h1 k (by omega)).2, Option.bind_some, if_pos rfl, (h2 rfl k (by omega)).2, Option.bind_some, (four_is k (by omega) e).2, Option.bind_some, four_size, if_pos (by omega), e1]
          exact (hk0 k (by omega)).2 _ (by rw [ByteArray.size_append, four_size]; omega)
theorem wordsSame (L : List S32) (hone : ∀ j (h : j < L.length), ∃ b e, One L[j] b e) : ∃ r k0, ∀ k, k0 ≤ k → spec_WordsOf.f k L = some r ∧ impl_WordsOf.f k L = some r := by
  unfold spec_WordsOf.f impl_WordsOf.f
  by_cases c1 : (L.length : Int) > 4096
  · exact ⟨(⟨#[]⟩, 2), 0, fun k _ => by rw [if_pos c1, if_pos c1]; exact ⟨rfl, rfl⟩⟩
  · by_cases c2 : (L.length : Int) > 64
    · exact ⟨(⟨#[]⟩, 6), 0, fun k _ => by rw [if_neg c1, if_neg c1, if_pos c2, if_pos c2]; exact ⟨rfl, rfl⟩⟩
    · simp only [if_neg c1, if_neg c2]
      have hz : (⟨#[]⟩ : ByteArray).size = 0 := rfl
      rcases check_l L (by omega) hone L.length 0 (by omega) with ⟨ha, hb⟩ | ⟨k0, hk0⟩
      · obtain ⟨w, k0, hw⟩ := words_l L (by omega) L.length 0 ⟨#[]⟩ (by omega) (by omega) ha
        refine ⟨(w, 0), k0 + L.length + 20, fun k hk => ?_⟩
        obtain ⟨k, rfl⟩ : ∃ n, k = n + L.length + 1 := ⟨k - L.length - 1, by omega⟩
        have h1 := hb k (by omega)
        have h2 : spec_l06Words.f k L = some w := (hw k (by omega)).1
        rw [h2] at h1
        exact ⟨h1, (hw _ (by omega)).2⟩
      · exact ⟨(⟨#[]⟩, 1), k0, fun k hk => ⟨(hk0 k hk).1, (hk0 k hk).2 _ (by omega)⟩⟩

def cv (x : S54) : S32 := ⟨x.f0, x.f1, x.f2, x.f3, x.f4⟩
theorem rdx_at (l : List S54) (i : Nat) (h : i < l.length) : rd_T54 l (i : Int) = l[i] := by
  unfold rd_T54
  simp [List.getD_eq_getElem?_getD, List.getElem?_eq_getElem h]
theorem to_l (l : List S54) (hl : l.length ≤ 1048576) (d : Nat) : ∀ (i k : Nat) (y : List S32), i + d = l.length → y.length = l.length → d < k → (∀ j, j < i → y[j]? = (l.map cv)[j]?) → laws_toInstrS.l0 k l y (i : Int) = some (l.map cv) := by
  induction d with
  | zero =>
    intro i k y h hy hk hj
    obtain ⟨k, rfl⟩ : ∃ n, k = n + 1 := ⟨k - 1, by omega⟩
    rw [laws_toInstrS.l0, if_neg (by omega)]
    refine congrArg some (List.ext_getElem? fun j => ?_)
    by_cases c : j < i
    · exact hj j c
    · rw [List.getElem?_eq_none (by omega), List.getElem?_eq_none (by simp; omega)]
  | succ d ih =>
    intro i k y h hy hk hj
    obtain ⟨k, rfl⟩ : ∃ n, k = n + 1 := ⟨k - 1, by omega⟩
    have hil : i < l.length := by omega
    have e1 : wrap64 ((i : Int) + 1) = ((i + 1 : Nat) : Int) := by rw [w64_id (by omega) (by omega)]; omega
    unfold laws_toInstrS.l0 laws_toInstr.f
    rw [if_pos (by omega), if_pos (by omega), Option.bind_some]
    dsimp only
    rw [if_pos (by omega), Int.toNat_natCast, e1, rdx_at l i hil]
    refine ih (i + 1) k _ (by omega) (by simp [hy]) (by omega) fun j hj2 => ?_
    by_cases c : j = i
    · subst c
      rw [List.getElem?_set_self (by omega), List.getElem?_map, List.getElem?_eq_getElem hil]
      rfl
    · rw [List.getElem?_set_ne (by omega)]
      exact hj j (by omega)
theorem to_is (l : List S54) (hl : l.length ≤ 1048576) (k : Nat) (hk : l.length < k) : laws_toInstrS.f k l = some (l.map cv) := by
  unfold laws_toInstrS.f
  rw [if_pos (by omega), Int.toNat_natCast, if_pos (by omega)]
  exact to_l l hl l.length 0 k _ (by omega) (by simp) (by omega) (fun j hj => by omega)
theorem eqW_l (l : List S32) (hl : l.length ≤ 1048576) (d : Nat) : ∀ (i k : Nat), i + d = l.length → d < k → laws_eqInstrS.l0 k l l (i : Int) = some true := by
  induction d with
  | zero =>
    intro i k hi hk
    obtain ⟨k, rfl⟩ : ∃ m, k = m + 1 := ⟨k - 1, by omega⟩
    simp only [laws_eqInstrS.l0]
    rw [if_neg (by omega)]
  | succ d ih =>
    intro i k hi hk
    obtain ⟨k, rfl⟩ : ∃ m, k = m + 1 := ⟨k - 1, by omega⟩
    simp only [laws_eqInstrS.l0, laws_eqInstr.f, if_true, Option.bind_some]
    rw [if_pos (by omega), if_pos (by omega), if_pos (by omega), w64_id (by omega) (by omega)]
    exact ih (i + 1) k (by omega) (by omega)
theorem FnExactWordsOf : laws_FnExactWordsOf.Pure := by
  intro l hm hw
  unfold laws_FnExactWordsOf.f laws_szInstrS.f
  have hml : l.length ≤ 9223372036854775807 := hm
  rw [w64_id (n := 1048576 - (l.length : Int)) (by omega) (by omega)]
  by_cases c : 1048576 - (l.length : Int) < 0
  · exact ⟨0, by rw [if_pos c, Option.bind_some, if_pos (by decide)]⟩
  · simp only [if_neg c, Option.bind_some]
    obtain ⟨r, k0, h⟩ := wordsSame (l.map cv) (fun j hj => by
      have hjl : j < l.length := by simpa using hj
      have hx := hw l[j] (List.getElem_mem hjl)
      have h4 := wf64 hx.2.2.2.2
      rw [List.getElem_map]
      exact one_is (cv l[j]) h4.1 h4.2)
    obtain ⟨k, hk⟩ : ∃ k : Nat, k0 + l.length + 5 < k := ⟨k0 + l.length + 6, by omega⟩
    refine ⟨k + 1, ?_⟩
    rw [to_is l (by omega) (k + 1) (by omega), Option.bind_some, (h (k + 1) (by omega)).1, Option.bind_some, Option.bind_some, (h (k + 1) (by omega)).2, Option.bind_some, if_pos rfl, laws_FnExactWordsOf.j0, if_neg (by simp), to_is l (by omega) k (by omega), Option.bind_some]
    have he : laws_eqInstrS.f k (l.map cv) (l.map cv) = some true := by
      unfold laws_eqInstrS.f
      rw [if_pos rfl]
      exact eqW_l _ (by simp; omega) (l.map cv).length 0 k (by omega) (by simp; omega)
    rw [he, Option.bind_some, if_pos rfl]

end Go.Proofs.Ytbbaggpmhiickaa.Pure
