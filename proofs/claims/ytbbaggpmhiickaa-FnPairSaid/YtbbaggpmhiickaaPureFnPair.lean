/- Two instructions that were relocated as a pair reach the value, wherever they stand; for all drawn values and places. -/
import Derived.Test.YtbbaggpmhiickaaPFnPairx9
import Derived.Laws.BitsLemmas
set_option linter.unusedVariables false
set_option linter.unusedSimpArgs false
namespace Go.Proofs.Ytbbaggpmhiickaa.Pure
open Go.RowKit Go.Proofs.Ytbbaggpmhiickaa.PFnPair Go.Proofs.YtbbaggpmhiickaaW.PrintWords Go.Proofs.YtbbaggpmhiickaaW.PrintLast Go.Proofs.YtbbaggpmhiickaaW.PrintMore

theorem i64w (n : Int) : IntKind.i64.wrap n = wrap64 n := by unfold wrap64; exact Go.IntKind.wrap_i64 n
theorem w64_id {n : Int} (h0 : -9223372036854775808 ≤ n) (h1 : n ≤ 9223372036854775807) : wrap64 n = n := by unfold wrap64; omega
theorem w64_rng (n : Int) : -9223372036854775808 ≤ wrap64 n ∧ wrap64 n ≤ 9223372036854775807 := by unfold wrap64; omega
theorem pow64 : (18446744073709551616 : Nat) = 2 ^ 64 := by decide

/-- The number of the first n bits. -/
def ob (b : Nat → Bool) : Nat → Nat
  | 0 => 0
  | n + 1 => (if b n then 2 ^ n else 0) + ob b n
theorem ob_lt (b : Nat → Bool) (n : Nat) : ob b n < 2 ^ n := by
  induction n with
  | zero => simp [ob]
  | succ n ih => unfold ob; rw [Nat.pow_succ]; split <;> omega
theorem ob_testBit (b : Nat → Bool) (n j : Nat) : (ob b n).testBit j = (decide (j < n) && b j) := by
  induction n with
  | zero => simp [ob]
  | succ n ih =>
    have hl := ob_lt b n
    have e : ob b (n + 1) = 2 ^ n * (b n).toNat + ob b n := by rw [ob]; cases b n <;> simp
    rw [e, Nat.testBit_two_pow_mul_add _ hl, ih]
    by_cases h : j < n
    · simp [h]; intro; omega
    · by_cases h2 : j = n
      · subst h2; simp; cases b j <;> simp
      · have h3 : j - n ≠ 0 := by omega
        have h4 : ¬ j < n + 1 := by omega
        simp [h, h4]
        cases hb : b n
        · simp
        · obtain ⟨m, hm⟩ : ∃ m, j - n = m + 1 := ⟨j - n - 1, by omega⟩
          rw [hm]; simp [Nat.testBit_succ]
/-- Bit i of a number's two's complement. -/
def tb (v : Int) (i : Nat) : Bool := (v % 18446744073709551616).toNat.testBit i
theorem nlt (v : Int) : (v % 18446744073709551616).toNat < 2 ^ 64 := by rw [← pow64]; omega
theorem tb_hi (v : Int) (i : Nat) (h : 64 ≤ i) : tb v i = false := by
  unfold tb
  exact Nat.testBit_lt_two_pow (Nat.lt_of_lt_of_le (nlt v) (Nat.pow_le_pow_right (by decide) h))
theorem tb_nat (n i : Nat) (h : n < 18446744073709551616) : tb (n : Int) i = n.testBit i := by
  unfold tb
  congr 1
  omega
theorem tb_eq {x y : Int} (h : ∀ i, i < 64 → tb x i = tb y i) : x % 18446744073709551616 = y % 18446744073709551616 := by
  have e : (x % 18446744073709551616).toNat = (y % 18446744073709551616).toNat := by
    refine Nat.eq_of_testBit_eq fun i => ?_
    by_cases hi : i < 64
    · exact h i hi
    · have h1 := tb_hi x i (by omega)
      have h2 := tb_hi y i (by omega)
      unfold tb at h1 h2
      rw [h1, h2]
  omega
theorem tb_ext {x y : Int} (hx0 : -9223372036854775808 ≤ x) (hx1 : x ≤ 9223372036854775807) (hy0 : -9223372036854775808 ≤ y) (hy1 : y ≤ 9223372036854775807) (h : ∀ i, i < 64 → tb x i = tb y i) : x = y := by
  have := tb_eq h
  omega
theorem tb_congr {x y : Int} (h : x % 18446744073709551616 = y % 18446744073709551616) (i : Nat) : tb x i = tb y i := by unfold tb; rw [h]
theorem tb_wrap64 (x : Int) (i : Nat) : tb (wrap64 x) i = tb x i := tb_congr (by unfold wrap64; omega) i
theorem tb_ob (b : Nat → Bool) (n i : Nat) (hn : n ≤ 64) : tb ((ob b n : Nat) : Int) i = (decide (i < n) && b i) := by
  rw [tb_nat _ _ (by rw [pow64]; exact Nat.lt_of_lt_of_le (ob_lt b n) (Nat.pow_le_pow_right (by decide) hn)), ob_testBit]
theorem tb_bv (v : Int) (i : Nat) : tb v i = (BitVec.ofInt 64 v).getLsbD i := by
  unfold tb BitVec.getLsbD
  rw [BitVec.toNat_ofInt]
  rfl
theorem tb_mul (x : Int) (s i : Nat) (hi : i < 64) : tb (x * 2 ^ s) i = (decide (s ≤ i) && tb x (i - s)) := by
  have e : tb (x * 2 ^ s) i = ((x % 18446744073709551616).toNat * 2 ^ s).testBit i := by
    have h1 : ((x * 2 ^ s) % 18446744073709551616).toNat = ((x % 18446744073709551616).toNat * 2 ^ s) % 2 ^ 64 := by
      have h2 : (x * 2 ^ s) % 18446744073709551616 = ((x % 18446744073709551616) * 2 ^ s) % 18446744073709551616 := by
        have h5 := Int.mul_emod x (2 ^ s) 18446744073709551616
        have h6 := Int.mul_emod (x % 18446744073709551616) (2 ^ s) 18446744073709551616
        rw [Int.emod_emod_of_dvd x (Int.dvd_refl _)] at h6
        rw [h5, h6]
      obtain ⟨m, hm⟩ : ∃ m : Nat, x % 18446744073709551616 = m := ⟨(x % 18446744073709551616).toNat, by omega⟩
      rw [h2, hm, ← pow64]
      have h3 : ((m : Int) * 2 ^ s) % 18446744073709551616 = ((m * 2 ^ s % 18446744073709551616 : Nat) : Int) := by simp
      rw [h3]
      exact Int.toNat_natCast _
    unfold tb
    rw [h1, Nat.testBit_mod_two_pow]
    simp [hi]
  rw [e, ← Nat.shiftLeft_eq, Nat.testBit_shiftLeft]
  rfl
theorem tb_div_u (x : Int) (h0 : 0 ≤ x) (h1 : x < 18446744073709551616) (s i : Nat) : tb (x / 2 ^ s) i = tb x (i + s) := by
  obtain ⟨m, rfl⟩ := Int.eq_ofNat_of_zero_le h0
  have h2 : ((m : Int) / 2 ^ s) = ((m / 2 ^ s : Nat) : Int) := by simp
  have h3 : m / 2 ^ s ≤ m := Nat.div_le_self _ _
  rw [h2, tb_nat _ _ (by omega), tb_nat _ _ (by omega), Nat.testBit_div_two_pow]
theorem tb_div_s (x : Int) (h0 : -9223372036854775808 ≤ x) (h1 : x ≤ 9223372036854775807) (s i : Nat) (hi : i < 64) : tb (x / 2 ^ s) i = tb x (min (i + s) 63) := by
  have e : x / 2 ^ s = ((BitVec.ofInt 64 x).sshiftRight s).toInt := by
    rw [BitVec.toInt_sshiftRight, Int.shiftRight_eq_div_pow, BitVec.toInt_ofInt]
    have : x.bmod (2 ^ 64) = x := by
      have p : (2 ^ 64 : Nat) = 18446744073709551616 := by decide
      rw [p, Int.bmod_def]
      omega
    rw [this]
    simp
  have g : tb ((BitVec.ofInt 64 x).sshiftRight s).toInt i = ((BitVec.ofInt 64 x).sshiftRight s).getLsbD i := by
    rw [tb_bv, BitVec.ofInt_toInt]
  rw [e, g, BitVec.getLsbD_sshiftRight]
  have hm : (BitVec.ofInt 64 x).msb = tb x 63 := by rw [tb_bv, BitVec.msb_eq_getLsbD_last]
  by_cases h : s + i < 64
  · have h2 : min (i + s) 63 = s + i := by omega
    rw [h2, if_pos h, tb_bv]
    simp [show ¬ 64 ≤ i by omega]
  · have h2 : min (i + s) 63 = 63 := by omega
    rw [h2, if_neg h, hm]
    simp [show ¬ 64 ≤ i by omega]
theorem tb_bits {r : BitVec 64} (i : Nat) : tb (IntKind.i64.wrap (r.toNat : Int)) i = r.getLsbD i := by
  rw [i64w, tb_wrap64, tb_nat _ _ (by rw [pow64]; exact r.isLt)]
  rfl
theorem tb_and (x y : Int) (i : Nat) : tb (Go.bits .and .i64 x y) i = (tb x i && tb y i) := by
  rw [show Go.bits .and .i64 x y = IntKind.i64.wrap (((BitVec.ofInt 64 x) &&& (BitVec.ofInt 64 y) : BitVec 64).toNat : Int) from rfl, tb_bits, BitVec.getLsbD_and, tb_bv, tb_bv]
theorem tb_or (x y : Int) (i : Nat) : tb (Go.bits .or .i64 x y) i = (tb x i || tb y i) := by
  rw [show Go.bits .or .i64 x y = IntKind.i64.wrap (((BitVec.ofInt 64 x) ||| (BitVec.ofInt 64 y) : BitVec 64).toNat : Int) from rfl, tb_bits, BitVec.getLsbD_or, tb_bv, tb_bv]
theorem tb_andNot (x y : Int) (i : Nat) (hi : i < 64) : tb (Go.bits .andNot .i64 x y) i = (tb x i && !tb y i) := by
  rw [show Go.bits .andNot .i64 x y = IntKind.i64.wrap (((BitVec.ofInt 64 x) &&& ~~~(BitVec.ofInt 64 y) : BitVec 64).toNat : Int) from rfl, tb_bits, BitVec.getLsbD_and, BitVec.getLsbD_not, tb_bv, tb_bv]
  simp [hi]
theorem bits_rng (o : BinOp) (x y : Int) : -9223372036854775808 ≤ Go.bits o .i64 x y ∧ Go.bits o .i64 x y ≤ 9223372036854775807 := by
  have h : ∀ n : Int, -9223372036854775808 ≤ IntKind.i64.wrap n ∧ IntKind.i64.wrap n ≤ 9223372036854775807 := fun n => by rw [i64w]; exact w64_rng n
  unfold Go.bits
  split <;> first | exact h _ | omega
theorem tb_pow1 (c i : Nat) (hc : c ≤ 64) : tb ((2 : Int) ^ c - 1) i = decide (i < c) := by
  have hp : 0 < 2 ^ c := Nat.two_pow_pos c
  have e : ((2 : Int) ^ c - 1) = ((2 ^ c - 1 : Nat) : Int) := by rw [Int.natCast_sub hp]; simp
  have hl : 2 ^ c ≤ 2 ^ 64 := Nat.pow_le_pow_right (by decide) hc
  rw [e, tb_nat _ _ (by rw [pow64]; omega), Nat.testBit_two_pow_sub_one]
theorem tb_mod (x : Int) (c i : Nat) (hc : c ≤ 64) : tb (x % 2 ^ c) i = (decide (i < c) && tb x i) := by
  obtain ⟨m, hm⟩ : ∃ m : Nat, x % 18446744073709551616 = m := ⟨(x % 18446744073709551616).toNat, by omega⟩
  have hml : m < 18446744073709551616 := by omega
  have e : x % 2 ^ c = ((m % 2 ^ c : Nat) : Int) := by
    have hd : ((2 : Int) ^ c) ∣ 18446744073709551616 := by
      refine ⟨2 ^ (64 - c), ?_⟩
      rw [← Int.pow_add, show c + (64 - c) = 64 by omega]; rfl
    have h2 : x % 2 ^ c = (x % 18446744073709551616) % 2 ^ c := (Int.emod_emod_of_dvd x hd).symm
    rw [h2, hm]; simp
  have hle : m % 2 ^ c ≤ m := Nat.mod_le _ _
  have h3 : tb x i = m.testBit i := by unfold tb; rw [hm]; simp
  rw [e, tb_nat _ _ (by omega), Nat.testBit_mod_two_pow, h3]
/-- The lowest c bits as a signed number. -/
def smod (v : Int) (c : Nat) : Int := (v + 2 ^ (c - 1)) % 2 ^ c - 2 ^ (c - 1)
theorem ipow_pos (c : Nat) : (0 : Int) < 2 ^ c := Int.pow_pos (by decide)
theorem ipow_split (c : Nat) (h1 : 1 ≤ c) : (2 : Int) ^ c = 2 ^ (c - 1) * 2 := by
  obtain ⟨m, rfl⟩ : ∃ m, c = m + 1 := ⟨c - 1, by omega⟩
  rw [Int.pow_succ]; rfl
theorem ipow_le (c d : Nat) (h : c ≤ d) : (2 : Int) ^ c ≤ 2 ^ d := by exact_mod_cast Nat.pow_le_pow_right (by decide : 0 < 2) h
theorem smod_rng (v : Int) (c : Nat) (h1 : 1 ≤ c) : -(2 ^ (c - 1)) ≤ smod v c ∧ smod v c < 2 ^ (c - 1) := by
  have h0 := Int.emod_nonneg (v + 2 ^ (c - 1)) (Int.ne_of_gt (ipow_pos c))
  have h2 := Int.emod_lt_of_pos (v + 2 ^ (c - 1)) (ipow_pos c)
  have h3 := ipow_split c h1
  unfold smod
  omega
theorem smod_rng64 (v : Int) (c : Nat) (h1 : 1 ≤ c) (h2 : c ≤ 64) : -9223372036854775808 ≤ smod v c ∧ smod v c ≤ 9223372036854775807 := by
  have h := smod_rng v c h1
  have h3 := ipow_le (c - 1) 63 (by omega)
  have h4 : (2 : Int) ^ 63 = 9223372036854775808 := by decide
  omega
theorem smod_shift (v : Int) (c : Nat) (h1 : 1 ≤ c) (h2 : c ≤ 64) : wrap64 (v * 2 ^ (64 - c)) / 2 ^ (64 - c) = smod v c := by
  have hs := ipow_pos (64 - c)
  have e1 : (9223372036854775808 : Int) = 2 ^ (64 - c) * 2 ^ (c - 1) := by rw [← Int.pow_add, show 64 - c + (c - 1) = 63 by omega]; decide
  have e2 : (18446744073709551616 : Int) = 2 ^ (64 - c) * 2 ^ c := by rw [← Int.pow_add, show 64 - c + c = 64 by omega]; decide
  have e3 : wrap64 (v * 2 ^ (64 - c)) = 2 ^ (64 - c) * smod v c := by
    unfold wrap64 smod
    rw [e1, e2, Int.mul_comm v, ← Int.mul_add, Int.mul_emod_mul_of_pos _ _ hs, Int.mul_sub]
  rw [e3, Int.mul_ediv_cancel_left _ (Int.ne_of_gt hs)]
def bytesIn (l : List Int) : Prop := ∀ x ∈ l, 0 ≤ x ∧ x ≤ 255
theorem bytesIn_wf {l : List Int} (h : ∀ x ∈ l, (Lit.int .u8 x).wf = true) : bytesIn l := fun x hx => by
  have := h x hx
  simp only [Lit.wf, IntKind.min, IntKind.max, IntKind.signed, IntKind.bits, Bool.and_eq_true, decide_eq_true_eq] at this
  simpa using this
theorem rd_in {l : List Int} (h : bytesIn l) (i : Int) : 0 ≤ rd l i ∧ rd l i ≤ 255 := by
  unfold rd
  rw [List.getD_eq_getElem?_getD]
  cases e : l[i.toNat]? with
  | none => simp
  | some x => simpa using h x (List.mem_of_getElem? e)
/-- A draw. -/
theorem byte_is {l : List Int} (h : bytesIn l) (hl : l.length ≤ 140737488351232) (a s : Int) (ha0 : 0 ≤ a) (ha1 : a ≤ 1000000000) (hs0 : 0 ≤ s) (hs1 : s < 2147483648) :
    ∃ b s', spec_l00Src_byte.f l a s = some (b, a + 1, s') ∧ 0 ≤ b ∧ b ≤ 255 ∧ 0 ≤ s' ∧ s' < 2147483648 := by
  have hr := rd_in h a
  unfold spec_l00Src_byte.f
  rw [w64_id (n := a + 1) (by omega) (by omega), show a + 1 - 1 = a by omega, w64_id (n := a) (by omega) (by omega)]
  by_cases c : a + 1 ≤ (l.length : Int)
  · rw [if_pos c, if_pos (by omega), if_pos (by omega), w64_id (n := rd l a) (by omega) (by omega), w64_id (n := s * 31) (by omega) (by omega), w64_id (n := s * 31 + rd l a) (by omega) (by omega), w64_id (by omega) (by omega)]
    rw [Int.tmod_eq_emod_of_nonneg (by omega)]
    exact ⟨_, _, rfl, by omega, by omega, by omega, by omega⟩
  · rw [if_neg c]
    by_cases c2 : a + 1 > 3000
    · rw [if_pos c2]
      exact ⟨_, _, rfl, by omega, by omega, by omega, by omega⟩
    · rw [if_neg c2, w64_id (n := s * 1103515245) (by omega) (by omega), w64_id (n := s * 1103515245 + 12345) (by omega) (by omega), Int.tmod_eq_emod_of_nonneg (a := s * 1103515245 + 12345) (by omega)]
      generalize hz : (s * 1103515245 + 12345) % 2147483648 = z
      have hz0 : 0 ≤ z ∧ z < 2147483648 := by omega
      rw [Int.tdiv_eq_ediv_of_nonneg (by omega), w64_id (by omega) (by omega), Int.tmod_eq_emod_of_nonneg (by omega)]
      exact ⟨_, _, rfl, by omega, by omega, by omega, by omega⟩

/-- The i-th choice out of n. -/
theorem at_is {l : List Int} (h : bytesIn l) (hl : l.length ≤ 140737488351232) (i n : Int) (hi0 : 0 ≤ i) (hi1 : i ≤ 1000) (hn0 : 1 ≤ n) (hn1 : n ≤ 1000000) : ∃ r, laws_at.f l i n = some r ∧ 0 ≤ r ∧ r < n := by
  unfold laws_at.f
  by_cases c : n ≤ 1
  · rw [if_pos c]
    exact ⟨0, rfl, by omega, by omega⟩
  · rw [if_neg c]
    by_cases c2 : (l.length : Int) = 0
    · rw [if_pos c2, if_neg (by omega), w64_id (by omega) (by omega), Int.tmod_eq_emod_of_nonneg (by omega)]
      exact ⟨_, rfl, Int.emod_nonneg _ (by omega), Int.emod_lt_of_pos _ (by omega)⟩
    · rw [if_neg c2, Int.tmod_eq_emod_of_nonneg (a := i) (by omega), w64_id (n := i + 1) (by omega) (by omega), Int.tmod_eq_emod_of_nonneg (a := i + 1) (by omega)]
      have p1 := Int.emod_nonneg i c2
      have p2 := Int.emod_lt_of_pos i (show 0 < (l.length : Int) by omega)
      have p3 := Int.emod_nonneg (i + 1) c2
      have p4 := Int.emod_lt_of_pos (i + 1) (show 0 < (l.length : Int) by omega)
      have r1 := rd_in h (i % (l.length : Int))
      have r2 := rd_in h ((i + 1) % (l.length : Int))
      have q1 : 0 ≤ Int.tdiv i (l.length : Int) ∧ Int.tdiv i (l.length : Int) ≤ i := by
        rw [Int.tdiv_eq_ediv_of_nonneg hi0]
        exact ⟨Int.ediv_nonneg hi0 (by omega), Int.ediv_le_self _ hi0⟩
      generalize rd l (i % (l.length : Int)) = x at *
      generalize rd l ((i + 1) % (l.length : Int)) = y at *
      generalize Int.tdiv i (l.length : Int) = q at *
      rw [if_pos p1, if_pos p2, if_pos p3, if_pos p4, if_neg (by omega)]
      rw [w64_id (n := x) (by omega) (by omega), w64_id (n := x * 31) (by omega) (by omega), w64_id (n := y) (by omega) (by omega), w64_id (n := x * 31 + y) (by omega) (by omega), w64_id (n := q) (by omega) (by omega), w64_id (n := x * 31 + y + q) (by omega) (by omega), Int.tmod_eq_emod_of_nonneg (by omega)]
      exact ⟨_, rfl, Int.emod_nonneg _ (by omega), Int.emod_lt_of_pos _ (by omega)⟩

theorem word_is {l : List Int} (h : bytesIn l) (hl : l.length ≤ 140737488351232) (a s : Int) (ha0 : 0 ≤ a) (ha1 : a ≤ 999999000) (hs0 : 0 ≤ s) (hs1 : s < 2147483648) :
    ∃ b s', spec_l00Src_word.f l a s = some (b, a + 4, s') ∧ 0 ≤ b ∧ b ≤ 4294967295 ∧ 0 ≤ s' ∧ s' < 2147483648 := by
  unfold spec_l00Src_word.f
  obtain ⟨b1, s1, e1, p1, q1, u1, v1⟩ := byte_is h hl a s ha0 (by omega) hs0 hs1
  obtain ⟨b2, s2, e2, p2, q2, u2, v2⟩ := byte_is h hl (a + 1) s1 (by omega) (by omega) u1 v1
  obtain ⟨b3, s3, e3, p3, q3, u3, v3⟩ := byte_is h hl (a + 1 + 1) s2 (by omega) (by omega) u2 v2
  obtain ⟨b4, s4, e4, p4, q4, u4, v4⟩ := byte_is h hl (a + 1 + 1 + 1) s3 (by omega) (by omega) u3 v3
  rw [e1]
  simp only [Option.bind_some]
  rw [e2]
  simp only [Option.bind_some]
  rw [e3]
  simp only [Option.bind_some]
  rw [e4]
  simp only [Option.bind_some]
  rw [w64_id (n := 256 * b2) (by omega) (by omega), w64_id (n := b1 + 256 * b2) (by omega) (by omega), w64_id (n := 65536 * b3) (by omega) (by omega), w64_id (n := b1 + 256 * b2 + 65536 * b3) (by omega) (by omega), w64_id (n := 16777216 * b4) (by omega) (by omega), w64_id (by omega) (by omega)]
  refine ⟨b1 + 256 * b2 + 65536 * b3 + 16777216 * b4, s4, ?_, ?_, ?_, u4, v4⟩
  · rw [show a + 1 + 1 + 1 + 1 = a + 4 by omega]
  · omega
  · omega

theorem wordDrawn_is {l : List Int} (h : bytesIn l) (hl : l.length ≤ 140737488351232) : ∃ b, spec_WordDrawn.f l = some b ∧ 0 ≤ b ∧ b ≤ 4294967295 := by
  unfold spec_WordDrawn.f spec_l00Source.f
  simp only [Option.bind_some]
  obtain ⟨b, s, e, p, q, _⟩ := word_is h hl 0 ((l.length : Int) % 1000) (by omega) (by omega) (by omega) (by omega)
  rw [e]
  exact ⟨b, rfl, p, q⟩

/-- Bit i of a word into which v was laid. -/
def pbit (w v : Int) (L C : Nat) (i : Nat) : Bool := if L ≤ i ∧ i < L + C then tb v (i - L) else tb w i
theorem shl_v (a : Int) (n : Nat) (h : n ≤ 63) : shl .i64 a (n : Int) = wrap64 (a * 2 ^ n) := by
  unfold shl
  rw [show min ((n : Int).toNat) (IntKind.i64.bits) = n by simp [IntKind.bits]; omega, i64w]
theorem shl1 (C : Nat) (h : C ≤ 62) : wrap64 ((shl .i64 1 (C : Int)) - 1) = 2 ^ C - 1 := by
  have h2 := ipow_le C 62 h
  rw [show (2 : Int) ^ 62 = 4611686018427387904 by decide] at h2
  have h3 := ipow_pos C
  have e : shl .i64 1 (C : Int) = 2 ^ C := by
    unfold shl
    rw [i64w, show min ((C : Int).toNat) (IntKind.i64.bits) = C by simp [IntKind.bits]; omega, Int.one_mul, w64_id (by omega) (by omega)]
  rw [e, w64_id (by omega) (by omega)]

/-- Some bits of a number, as the program takes them. -/
theorem bitsOf_is (v : Int) (L C : Nat) (hv0 : -9223372036854775808 ≤ v) (hv1 : v ≤ 9223372036854775807) (hL : L ≤ 63) (hC : C ≤ 62) : impl_bitsOf.f v (L : Int) (C : Int) = some (v / 2 ^ L % 2 ^ C) := by
  unfold impl_bitsOf.f
  rw [if_pos (by omega), if_pos (by omega), shl1 C hC]
  have e : shr .i64 v (L : Int) = v / 2 ^ L := by
    unfold shr
    rw [show min ((L : Int).toNat) (IntKind.i64.bits) = L by simp [IntKind.bits]; omega]
  rw [e]
  congr 1
  have hr := bits_rng .and (v / 2 ^ L) (2 ^ C - 1)
  have h0 : 0 ≤ v / 2 ^ L % 2 ^ C := Int.emod_nonneg _ (Int.ne_of_gt (ipow_pos C))
  have h1 : v / 2 ^ L % 2 ^ C < 2 ^ C := Int.emod_lt_of_pos _ (ipow_pos C)
  have h2 := ipow_le C 62 hC
  rw [show (2 : Int) ^ 62 = 4611686018427387904 by decide] at h2
  refine tb_ext hr.1 hr.2 (by omega) (by omega) fun i hi => ?_
  rw [tb_and, tb_pow1 _ _ (by omega), tb_mod _ _ _ (by omega), Bool.and_comm]

/-- What the shapes of the operations have in common. -/
def okS (F c f3 f7 : Int) : Bool := decide (1 ≤ F ∧ F ≤ 9 ∧ 0 ≤ c ∧ c ≤ 127 ∧ 0 ≤ f3 ∧ f3 ≤ 7 ∧ 0 ≤ f7 ∧ f7 ≤ 63 ∧ (F = 6 → f7 = 0 ∨ f7 = 32) ∧ (F = 1 ∨ F = 2 ∨ F = 9 → f3 = 0) ∧ (F ≤ 5 → f7 = 0))
def okO (x : Option (Int × Int × Int × Int)) : Bool := x.any fun s => okS s.1 s.2.1 s.2.2.1 s.2.2.2
theorem win_is (a lo hi : Int) : impl_within.f a lo hi = some (decide (lo ≤ a) && decide (a ≤ hi)) := by
  unfold impl_within.f
  by_cases h : lo ≤ a <;> simp [h]
theorem ite_and (p q : Bool) : (if p = true then some q else some false) = some (p && q) := by cases p <;> rfl
def inB (a lo hi : Int) : Bool := decide (lo ≤ a) && decide (a ≤ hi)
/-- The numbers that a form allows. -/
def immB (F i : Int) : Bool :=
  if F = 1 then inB i (-2147483648) 2147479552 && (Int.tmod i 4096 == 0) else if F = 2 then inB i (-1048576) 1048574 && (Int.tmod i 2 == 0) else
  if F = 3 ∨ F = 5 then inB i (-2048) 2047 else if F = 4 then inB i (-4096) 4094 && (Int.tmod i 2 == 0) else if F = 6 then inB i 0 63 else if F = 7 then inB i 0 31 else (i == 0)
def dB (F : Int) : Bool := !(F == 4 || F == 5 || F == 9)
def aB (F : Int) : Bool := !(F == 1 || F == 2 || F == 9)
def bB (F : Int) : Bool := F == 4 || F == 5 || F == 8
def rightB (F d a b i : Int) : Bool := inB d 0 31 && inB a 0 31 && inB b 0 31 && (dB F || d == 0) && (aB F || a == 0) && (bB F || b == 0) && immB F i
theorem forms (F : Int) (h : 1 ≤ F ∧ F ≤ 9) : F = 1 ∨ F = 2 ∨ F = 3 ∨ F = 4 ∨ F = 5 ∨ F = 6 ∨ F = 7 ∨ F = 8 ∨ F = 9 := by omega
theorem immOK_is (k : Nat) (F i : Int) (h : 1 ≤ F ∧ F ≤ 9) : impl_immOK.f (k + 1) F i = some (immB F i) := by
  unfold impl_immOK.f
  simp only [impl_immOK.j0, win_is, Option.bind_some, ite_and]
  rcases forms F h with rfl | rfl | rfl | rfl | rfl | rfl | rfl | rfl | rfl <;> simp [immB, inB]
theorem fields_is (k : Nat) (F : Int) (h : 1 ≤ F ∧ F ≤ 9) : impl_fields.f (k + 3) F = some (dB F, aB F, bB F) := by
  unfold impl_fields.f
  simp only [impl_fields.j0, impl_fields.j1, impl_fields.j2]
  rcases forms F h with rfl | rfl | rfl | rfl | rfl | rfl | rfl | rfl | rfl <;> simp [dB, aB, bB]
theorem iright_is (k : Nat) (op F c f3 f7 d a b i : Int) (h1 : 1 ≤ op) (h2 : op ≤ 64) (hs : impl_shapeOf.f op = some (F, c, f3, f7)) (h : 1 ≤ F ∧ F ≤ 9) : impl_InstrOK.f (k + 3) op d a b i = some (rightB F d a b i) := by
  unfold impl_InstrOK.f impl_isOp.f impl_isReg.f
  simp only [win_is, Option.bind_some, hs, fields_is k F h, immOK_is (k + 2) F i h]
  rw [show decide (1 ≤ op) = true by simpa using h1, show decide (op ≤ 64) = true by simpa using h2]
  unfold rightB inB
  generalize immB F i = I
  generalize (decide (0 ≤ d) && decide (d ≤ 31)) = D
  generalize (decide (0 ≤ a) && decide (a ≤ 31)) = A
  generalize (decide (0 ≤ b) && decide (b ≤ 31)) = B
  cases D <;> cases A <;> cases B <;> (try (simp; done))
  by_cases hd : d = 0 <;> by_cases ha : a = 0 <;> by_cases hb : b = 0 <;> cases dB F <;> cases aB F <;> cases bB F <;> simp [hd, ha, hb]
def P1 (w v : Int) (L C : Nat) : Int := ((ob (pbit w v L C) 32 : Nat) : Int)
theorem P1_rng (w v : Int) (L C : Nat) : 0 ≤ P1 w v L C ∧ P1 w v L C < 4294967296 := by
  have := ob_lt (pbit w v L C) 32
  rw [show (2 : Nat) ^ 32 = 4294967296 by decide] at this
  unfold P1
  omega
theorem tb_P1 (w v : Int) (L C i : Nat) : tb (P1 w v L C) i = (decide (i < 32) && (if L ≤ i ∧ i < L + C then tb v (i - L) else tb w i)) := by
  unfold P1
  rw [tb_ob _ _ _ (by decide)]
  rfl
def bv (x : Bool) : Int := if x = true then 1 else 0
theorem tb_bv0 (x : Bool) : tb (bv x) 0 = x := by cases x <;> rfl
/-- Where the bits of a jump's number stand. -/
def atJ (i : Nat) : Nat := if i = 20 then 31 else if 11 < i then i else if 10 < i then 9 + i else 20 + i
def atB (i : Nat) : Nat := if i = 12 then 31 else if i = 11 then 7 else if 4 < i then 20 + i else 7 + i
def atS (i : Nat) : Nat := 20 + i
def WL (at_ : Nat → Nat) (imm w : Int) (s : Nat) : Nat → Int
  | 0 => w
  | n + 1 => P1 (WL at_ imm w s n) (bv (tb imm (s + n))) (at_ (s + n)) 1
/-- The word as the reference lays it. -/
def SE (F c f3 f7 d a b i : Int) : Int :=
  if F = 1 then P1 (P1 c d 7 5) (i / 4096) 12 20 else if F = 2 then WL atJ i (P1 c d 7 5) 1 20 else
  if F = 3 then P1 (P1 (P1 (P1 c d 7 5) f3 12 3) a 15 5) i 20 12 else if F = 4 then WL atB i (P1 (P1 (P1 c f3 12 3) a 15 5) b 20 5) 1 12 else
  if F = 5 then WL atS i (P1 (P1 (P1 (P1 c i 7 5) f3 12 3) a 15 5) b 20 5) 5 7 else
  if F = 6 then P1 (P1 (P1 (P1 (P1 c d 7 5) f3 12 3) a 15 5) f7 25 7) i 20 6 else if F = 7 then P1 (P1 (P1 (P1 (P1 c d 7 5) f3 12 3) a 15 5) f7 25 7) i 20 5 else
  if F = 8 then P1 (P1 (P1 (P1 (P1 c d 7 5) f3 12 3) a 15 5) f7 25 7) b 20 5 else P1 c f7 20 12
/-- The program's side. -/
def OR (x y : Int) : Int := Go.bits .or .i64 x y
def pc (w i : Int) (f n at_ : Nat) : Int := OR w (shl .i64 (i / 2 ^ f % 2 ^ n) (at_ : Int))
def T1 (F w d : Int) : Int := if dB F = true then OR w (wrap64 (d * 128)) else w
def T2 (F w a f3 : Int) : Int := if aB F = true then OR w (OR (wrap64 (a * 32768)) (wrap64 (f3 * 4096))) else w
def T3 (F w b : Int) : Int := if bB F = true then OR w (wrap64 (b * 1048576)) else w
def T4 (F w f7 : Int) : Int := if F = 6 then OR w (wrap64 (f7 / 2 * 67108864)) else if F = 7 ∨ F = 8 then OR w (wrap64 (f7 * 33554432)) else if F = 9 then OR w (wrap64 (f7 * 1048576)) else w
theorem enc_step (k : Nat) (w : Int) (ps : List (S92)) (len x x2 op d a b i F c f3 f7 : Int) (f n at_ : Nat) (h1 : x < len) (h2 : 0 ≤ x) (h3 : x < (ps.length : Int)) (e0 : (rd_T92 ps x).f0 = (f : Int)) (e1 : (rd_T92 ps x).f1 = (n : Int)) (e2 : (rd_T92 ps x).f2 = (at_ : Int)) (e3 : wrap64 (x + 1) = x2)
    (i0 : -9223372036854775808 ≤ i) (i1 : i ≤ 9223372036854775807) (hf : f ≤ 63) (hn : n ≤ 62) : impl_encode.l0 (k + 1) w ps len x op d a b i F c f3 f7 = impl_encode.l0 k (pc w i f n at_) ps len x2 op d a b i F c f3 f7 := by
  rw [impl_encode.l0, if_pos h1, if_pos h2, if_pos h3, e0, e1, e2, bitsOf_is i f n i0 i1 hf hn, Option.bind_some, if_pos (Int.natCast_nonneg _), e3]
  rfl
theorem enc_end (k : Nat) (w : Int) (ps : List (S92)) (len op d a b i F c f3 f7 : Int) (hF : 1 ≤ F ∧ F ≤ 9) : impl_encode.l0 (k + 7) w ps len len op d a b i F c f3 f7 = some (T4 F (T3 F (T2 F (T1 F w d) a f3) b) f7) := by
  rw [impl_encode.l0, if_neg (by omega), fields_is (k + 3) F hF, Option.bind_some]
  dsimp only
  have h4 : ∀ w, impl_encode.j3 (k + 3) w F c f3 f7 = some (T4 F w f7) := by
    intro w
    rw [impl_encode.j3]
    simp only [impl_encode.j4]
    unfold T4 OR
    rcases forms F hF with rfl | rfl | rfl | rfl | rfl | rfl | rfl | rfl | rfl <;> simp
  have h3 : ∀ w, impl_encode.j2 (k + 4) w (bB F) op d a b i F c f3 f7 = some (T4 F (T3 F w b) f7) := by
    intro w
    rw [impl_encode.j2]
    simp only [h4]
    unfold T3 OR
    cases bB F <;> simp
  have h2 : ∀ w, impl_encode.j1 (k + 5) w (aB F) (bB F) op d a b i F c f3 f7 = some (T4 F (T3 F (T2 F w a f3) b) f7) := by
    intro w
    rw [impl_encode.j1]
    simp only [h3]
    unfold T2 OR
    cases aB F <;> simp
  unfold T1 OR
  have h1 := fun w => h2 w
  cases dB F
  · rw [if_neg (by decide), if_neg (by decide)]
    exact h2 _
  · rw [if_pos rfl, if_pos rfl]
    exact h2 _
/-- The pieces of the number, in the program's order. -/
def IW (F c i : Int) : Int := if F = 1 then pc c i 12 20 12 else if F = 2 then pc (pc (pc (pc c i 12 8 12) i 11 1 20) i 1 10 21) i 20 1 31 else if F = 3 then pc c i 0 12 20 else if F = 4 then pc (pc (pc (pc c i 11 1 7) i 1 4 8) i 5 6 25) i 12 1 31 else if F = 5 then pc (pc c i 0 5 7) i 5 7 25 else if F = 6 then pc c i 0 6 20 else if F = 7 then pc c i 0 5 20 else c
theorem impl_enc (K : Nat) (op F c f3 f7 d a b i : Int) (hs : impl_shapeOf.f op = some (F, c, f3, f7)) (hF : 1 ≤ F ∧ F ≤ 9) (i0 : -9223372036854775808 ≤ i) (i1 : i ≤ 9223372036854775807) :
    impl_encode.f (K + 11) op d a b i = some (T4 F (T3 F (T2 F (T1 F (IW F c i) d) a f3) b) f7) := by
  unfold impl_encode.f
  rw [hs, Option.bind_some]
  dsimp only
  unfold impl_pieces.f
  rcases forms F hF with rfl | rfl | rfl | rfl | rfl | rfl | rfl | rfl | rfl
  · rw [if_pos rfl, Option.bind_some]
    rw [enc_step (K + 10) _ _ _ _ 1 op d a b i _ c f3 f7 12 20 12 (by decide) (by decide) (by decide) rfl rfl rfl (by unfold wrap64; decide) i0 i1 (by decide) (by decide)]
    exact enc_end (K + 3) _ _ _ op d a b i 1 c f3 f7 (by decide)
  · rw [if_neg (by decide), if_pos rfl, Option.bind_some]
    rw [enc_step (K + 10) _ _ _ _ 1 op d a b i _ c f3 f7 12 8 12 (by decide) (by decide) (by decide) rfl rfl rfl (by unfold wrap64; decide) i0 i1 (by decide) (by decide)]
    rw [enc_step (K + 9) _ _ _ _ 2 op d a b i _ c f3 f7 11 1 20 (by decide) (by decide) (by decide) rfl rfl rfl (by unfold wrap64; decide) i0 i1 (by decide) (by decide)]
    rw [enc_step (K + 8) _ _ _ _ 3 op d a b i _ c f3 f7 1 10 21 (by decide) (by decide) (by decide) rfl rfl rfl (by unfold wrap64; decide) i0 i1 (by decide) (by decide)]
    rw [enc_step (K + 7) _ _ _ _ 4 op d a b i _ c f3 f7 20 1 31 (by decide) (by decide) (by decide) rfl rfl rfl (by unfold wrap64; decide) i0 i1 (by decide) (by decide)]
    exact enc_end (K + 0) _ _ _ op d a b i 2 c f3 f7 (by decide)
  · rw [if_neg (by decide), if_neg (by decide), if_pos rfl, Option.bind_some]
    rw [enc_step (K + 10) _ _ _ _ 1 op d a b i _ c f3 f7 0 12 20 (by decide) (by decide) (by decide) rfl rfl rfl (by unfold wrap64; decide) i0 i1 (by decide) (by decide)]
    exact enc_end (K + 3) _ _ _ op d a b i 3 c f3 f7 (by decide)
  · rw [if_neg (by decide), if_neg (by decide), if_neg (by decide), if_pos rfl, Option.bind_some]
    rw [enc_step (K + 10) _ _ _ _ 1 op d a b i _ c f3 f7 11 1 7 (by decide) (by decide) (by decide) rfl rfl rfl (by unfold wrap64; decide) i0 i1 (by decide) (by decide)]
    rw [enc_step (K + 9) _ _ _ _ 2 op d a b i _ c f3 f7 1 4 8 (by decide) (by decide) (by decide) rfl rfl rfl (by unfold wrap64; decide) i0 i1 (by decide) (by decide)]
    rw [enc_step (K + 8) _ _ _ _ 3 op d a b i _ c f3 f7 5 6 25 (by decide) (by decide) (by decide) rfl rfl rfl (by unfold wrap64; decide) i0 i1 (by decide) (by decide)]
    rw [enc_step (K + 7) _ _ _ _ 4 op d a b i _ c f3 f7 12 1 31 (by decide) (by decide) (by decide) rfl rfl rfl (by unfold wrap64; decide) i0 i1 (by decide) (by decide)]
    exact enc_end (K + 0) _ _ _ op d a b i 4 c f3 f7 (by decide)
  · rw [if_neg (by decide), if_neg (by decide), if_neg (by decide), if_neg (by decide), if_pos rfl, Option.bind_some]
    rw [enc_step (K + 10) _ _ _ _ 1 op d a b i _ c f3 f7 0 5 7 (by decide) (by decide) (by decide) rfl rfl rfl (by unfold wrap64; decide) i0 i1 (by decide) (by decide)]
    rw [enc_step (K + 9) _ _ _ _ 2 op d a b i _ c f3 f7 5 7 25 (by decide) (by decide) (by decide) rfl rfl rfl (by unfold wrap64; decide) i0 i1 (by decide) (by decide)]
    exact enc_end (K + 2) _ _ _ op d a b i 5 c f3 f7 (by decide)
  · rw [if_neg (by decide), if_neg (by decide), if_neg (by decide), if_neg (by decide), if_neg (by decide), if_pos rfl, Option.bind_some]
    rw [enc_step (K + 10) _ _ _ _ 1 op d a b i _ c f3 f7 0 6 20 (by decide) (by decide) (by decide) rfl rfl rfl (by unfold wrap64; decide) i0 i1 (by decide) (by decide)]
    exact enc_end (K + 3) _ _ _ op d a b i 6 c f3 f7 (by decide)
  · rw [if_neg (by decide), if_neg (by decide), if_neg (by decide), if_neg (by decide), if_neg (by decide), if_neg (by decide), if_pos rfl, Option.bind_some]
    rw [enc_step (K + 10) _ _ _ _ 1 op d a b i _ c f3 f7 0 5 20 (by decide) (by decide) (by decide) rfl rfl rfl (by unfold wrap64; decide) i0 i1 (by decide) (by decide)]
    exact enc_end (K + 3) _ _ _ op d a b i 7 c f3 f7 (by decide)
  · rw [if_neg (by decide), if_neg (by decide), if_neg (by decide), if_neg (by decide), if_neg (by decide), if_neg (by decide), if_neg (by decide), Option.bind_some]
    exact enc_end (K + 4) _ _ _ op d a b i 8 c f3 f7 (by decide)
  · rw [if_neg (by decide), if_neg (by decide), if_neg (by decide), if_neg (by decide), if_neg (by decide), if_neg (by decide), if_neg (by decide), Option.bind_some]
    exact enc_end (K + 4) _ _ _ op d a b i 9 c f3 f7 (by decide)
theorem tb_or' (x y : Int) (i : Nat) : tb (OR x y) i = (tb x i || tb y i) := tb_or x y i
theorem OR_rng (x y : Int) : -9223372036854775808 ≤ OR x y ∧ OR x y ≤ 9223372036854775807 := bits_rng .or x y
theorem tb_pc (w i : Int) (i0 : -9223372036854775808 ≤ i) (i1 : i ≤ 9223372036854775807) (f n at_ j : Nat) (hn : n ≤ 64) (ha : at_ ≤ 63) (hj : j < 64) : tb (pc w i f n at_) j = (tb w j || (decide (at_ ≤ j) && (decide (j - at_ < n) && tb i (min (j - at_ + f) 63)))) := by
  unfold pc
  rw [tb_or', shl_v _ _ ha, tb_wrap64, tb_mul _ _ _ hj, tb_mod _ _ _ hn, tb_div_s i i0 i1 _ _ (by omega)]
theorem tbs7 (x : Int) (j : Nat) (hj : j < 64) : tb (wrap64 (x * 128)) j = (decide (7 ≤ j) && tb x (j - 7)) := by
  rw [tb_wrap64, show (128 : Int) = 2 ^ 7 by decide, tb_mul _ _ _ hj]
theorem tbs15 (x : Int) (j : Nat) (hj : j < 64) : tb (wrap64 (x * 32768)) j = (decide (15 ≤ j) && tb x (j - 15)) := by
  rw [tb_wrap64, show (32768 : Int) = 2 ^ 15 by decide, tb_mul _ _ _ hj]
theorem tbs12 (x : Int) (j : Nat) (hj : j < 64) : tb (wrap64 (x * 4096)) j = (decide (12 ≤ j) && tb x (j - 12)) := by
  rw [tb_wrap64, show (4096 : Int) = 2 ^ 12 by decide, tb_mul _ _ _ hj]
theorem tbs20 (x : Int) (j : Nat) (hj : j < 64) : tb (wrap64 (x * 1048576)) j = (decide (20 ≤ j) && tb x (j - 20)) := by
  rw [tb_wrap64, show (1048576 : Int) = 2 ^ 20 by decide, tb_mul _ _ _ hj]
theorem tbs26 (x : Int) (j : Nat) (hj : j < 64) : tb (wrap64 (x * 67108864)) j = (decide (26 ≤ j) && tb x (j - 26)) := by
  rw [tb_wrap64, show (67108864 : Int) = 2 ^ 26 by decide, tb_mul _ _ _ hj]
theorem tbs25 (x : Int) (j : Nat) (hj : j < 64) : tb (wrap64 (x * 33554432)) j = (decide (25 ≤ j) && tb x (j - 25)) := by
  rw [tb_wrap64, show (33554432 : Int) = 2 ^ 25 by decide, tb_mul _ _ _ hj]
theorem tb_top (x : Int) (n : Nat) (h0 : 0 ≤ x) (h1 : x < 2 ^ n) (hn : n ≤ 63) : ∀ j, n ≤ j → tb x j = false := by
  intro j hj
  have e : x % 2 ^ n = x := Int.emod_eq_of_lt h0 h1
  rw [← e, tb_mod x n j (by omega)]
  simp
  omega
theorem all64 (p : Nat → Prop) (h : p 0 ∧ p 1 ∧ p 2 ∧ p 3 ∧ p 4 ∧ p 5 ∧ p 6 ∧ p 7 ∧ p 8 ∧ p 9 ∧ p 10 ∧ p 11 ∧ p 12 ∧ p 13 ∧ p 14 ∧ p 15 ∧ p 16 ∧ p 17 ∧ p 18 ∧ p 19 ∧ p 20 ∧ p 21 ∧ p 22 ∧ p 23 ∧ p 24 ∧ p 25 ∧ p 26 ∧ p 27 ∧ p 28 ∧ p 29 ∧ p 30 ∧ p 31 ∧ p 32 ∧ p 33 ∧ p 34 ∧ p 35 ∧ p 36 ∧ p 37 ∧ p 38 ∧ p 39 ∧ p 40 ∧ p 41 ∧ p 42 ∧ p 43 ∧ p 44 ∧ p 45 ∧ p 46 ∧ p 47 ∧ p 48 ∧ p 49 ∧ p 50 ∧ p 51 ∧ p 52 ∧ p 53 ∧ p 54 ∧ p 55 ∧ p 56 ∧ p 57 ∧ p 58 ∧ p 59 ∧ p 60 ∧ p 61 ∧ p 62 ∧ p 63) : ∀ i, i < 64 → p i := by
  intro i hi
  have : i = 0 ∨ i = 1 ∨ i = 2 ∨ i = 3 ∨ i = 4 ∨ i = 5 ∨ i = 6 ∨ i = 7 ∨ i = 8 ∨ i = 9 ∨ i = 10 ∨ i = 11 ∨ i = 12 ∨ i = 13 ∨ i = 14 ∨ i = 15 ∨ i = 16 ∨ i = 17 ∨ i = 18 ∨ i = 19 ∨ i = 20 ∨ i = 21 ∨ i = 22 ∨ i = 23 ∨ i = 24 ∨ i = 25 ∨ i = 26 ∨ i = 27 ∨ i = 28 ∨ i = 29 ∨ i = 30 ∨ i = 31 ∨ i = 32 ∨ i = 33 ∨ i = 34 ∨ i = 35 ∨ i = 36 ∨ i = 37 ∨ i = 38 ∨ i = 39 ∨ i = 40 ∨ i = 41 ∨ i = 42 ∨ i = 43 ∨ i = 44 ∨ i = 45 ∨ i = 46 ∨ i = 47 ∨ i = 48 ∨ i = 49 ∨ i = 50 ∨ i = 51 ∨ i = 52 ∨ i = 53 ∨ i = 54 ∨ i = 55 ∨ i = 56 ∨ i = 57 ∨ i = 58 ∨ i = 59 ∨ i = 60 ∨ i = 61 ∨ i = 62 ∨ i = 63 := by omega
  rcases this with rfl | rfl | rfl | rfl | rfl | rfl | rfl | rfl | rfl | rfl | rfl | rfl | rfl | rfl | rfl | rfl | rfl | rfl | rfl | rfl | rfl | rfl | rfl | rfl | rfl | rfl | rfl | rfl | rfl | rfl | rfl | rfl | rfl | rfl | rfl | rfl | rfl | rfl | rfl | rfl | rfl | rfl | rfl | rfl | rfl | rfl | rfl | rfl | rfl | rfl | rfl | rfl | rfl | rfl | rfl | rfl | rfl | rfl | rfl | rfl | rfl | rfl | rfl | rfl
  all_goals simp only [h]
theorem same1 (c f3 f7 d a b i : Int) (hc0 : 0 ≤ c) (hc1 : c ≤ 127) (h30 : 0 ≤ f3) (h31 : f3 ≤ 7) (h70 : 0 ≤ f7) (h71 : f7 ≤ 63) (hd0 : 0 ≤ d) (hd1 : d ≤ 31) (ha0 : 0 ≤ a) (ha1 : a ≤ 31) (hb0 : 0 ≤ b) (hb1 : b ≤ 31) (i0 : -9223372036854775808 ≤ i) (i1 : i ≤ 9223372036854775807) : SE 1 c f3 f7 d a b i = T4 1 (T3 1 (T2 1 (T1 1 (IW 1 c i) d) a f3) b) f7 := by
  have c_ := tb_top c 7 hc0 (by omega) (by decide)
  have d_ := tb_top d 5 hd0 (by omega) (by decide)
  have a_ := tb_top a 5 ha0 (by omega) (by decide)
  have b_ := tb_top b 5 hb0 (by omega) (by decide)
  have f3_ := tb_top f3 3 h30 (by omega) (by decide)
  have f7_ := tb_top f7 6 h70 (by omega) (by decide)
  show P1 (P1 c d 7 5) (i / 4096) 12 20 = OR (pc c i 12 20 12) (wrap64 (d * 128))
  have rs : 0 ≤ P1 (P1 c d 7 5) (i / 4096) 12 20 ∧ P1 (P1 c d 7 5) (i / 4096) 12 20 < 4294967296 := P1_rng _ _ _ _
  have ri := OR_rng (pc c i 12 20 12) (wrap64 (d * 128))
  refine tb_ext (by omega) (by omega) ri.1 ri.2 (all64 _ ?_)
  have pc_ := fun (w : Int) (f n at_ j : Nat) (hn : n ≤ 64) (ha : at_ ≤ 63) (hj : j < 64) => tb_pc w i i0 i1 f n at_ j hn ha hj
  have q_ : ∀ j, j < 64 → tb (i / 4096) j = tb i (min (j + 12) 63) := fun j hj => by rw [show (4096 : Int) = 2 ^ 12 by decide, tb_div_s i i0 i1 _ _ hj]
  refine ⟨?_, ?_, ?_, ?_, ?_, ?_, ?_, ?_, ?_, ?_, ?_, ?_, ?_, ?_, ?_, ?_, ?_, ?_, ?_, ?_, ?_, ?_, ?_, ?_, ?_, ?_, ?_, ?_, ?_, ?_, ?_, ?_, ?_, ?_, ?_, ?_, ?_, ?_, ?_, ?_, ?_, ?_, ?_, ?_, ?_, ?_, ?_, ?_, ?_, ?_, ?_, ?_, ?_, ?_, ?_, ?_, ?_, ?_, ?_, ?_, ?_, ?_, ?_, ?_⟩ <;> simp [tb_P1, tb_or', tbs7, tbs12, tbs15, tbs20, tbs25, tbs26, c_, d_, a_, b_, f3_, f7_, pc_, q_]
theorem same2 (c f3 f7 d a b i : Int) (hc0 : 0 ≤ c) (hc1 : c ≤ 127) (h30 : 0 ≤ f3) (h31 : f3 ≤ 7) (h70 : 0 ≤ f7) (h71 : f7 ≤ 63) (hd0 : 0 ≤ d) (hd1 : d ≤ 31) (ha0 : 0 ≤ a) (ha1 : a ≤ 31) (hb0 : 0 ≤ b) (hb1 : b ≤ 31) (i0 : -9223372036854775808 ≤ i) (i1 : i ≤ 9223372036854775807) : SE 2 c f3 f7 d a b i = T4 2 (T3 2 (T2 2 (T1 2 (IW 2 c i) d) a f3) b) f7 := by
  have c_ := tb_top c 7 hc0 (by omega) (by decide)
  have d_ := tb_top d 5 hd0 (by omega) (by decide)
  have a_ := tb_top a 5 ha0 (by omega) (by decide)
  have b_ := tb_top b 5 hb0 (by omega) (by decide)
  have f3_ := tb_top f3 3 h30 (by omega) (by decide)
  have f7_ := tb_top f7 6 h70 (by omega) (by decide)
  show WL atJ i (P1 c d 7 5) 1 20 = OR (pc (pc (pc (pc c i 12 8 12) i 11 1 20) i 1 10 21) i 20 1 31) (wrap64 (d * 128))
  have rs : 0 ≤ WL atJ i (P1 c d 7 5) 1 20 ∧ WL atJ i (P1 c d 7 5) 1 20 < 4294967296 := P1_rng _ _ _ _
  have ri := OR_rng (pc (pc (pc (pc c i 12 8 12) i 11 1 20) i 1 10 21) i 20 1 31) (wrap64 (d * 128))
  refine tb_ext (by omega) (by omega) ri.1 ri.2 (all64 _ ?_)
  have pc_ := fun (w : Int) (f n at_ j : Nat) (hn : n ≤ 64) (ha : at_ ≤ 63) (hj : j < 64) => tb_pc w i i0 i1 f n at_ j hn ha hj
  refine ⟨?_, ?_, ?_, ?_, ?_, ?_, ?_, ?_, ?_, ?_, ?_, ?_, ?_, ?_, ?_, ?_, ?_, ?_, ?_, ?_, ?_, ?_, ?_, ?_, ?_, ?_, ?_, ?_, ?_, ?_, ?_, ?_, ?_, ?_, ?_, ?_, ?_, ?_, ?_, ?_, ?_, ?_, ?_, ?_, ?_, ?_, ?_, ?_, ?_, ?_, ?_, ?_, ?_, ?_, ?_, ?_, ?_, ?_, ?_, ?_, ?_, ?_, ?_, ?_⟩ <;> simp [tb_P1, tb_or', tbs7, tbs12, tbs15, tbs20, tbs25, tbs26, c_, d_, a_, b_, f3_, f7_, WL, tb_bv0, atJ, pc_]
theorem same3 (c f3 f7 d a b i : Int) (hc0 : 0 ≤ c) (hc1 : c ≤ 127) (h30 : 0 ≤ f3) (h31 : f3 ≤ 7) (h70 : 0 ≤ f7) (h71 : f7 ≤ 63) (hd0 : 0 ≤ d) (hd1 : d ≤ 31) (ha0 : 0 ≤ a) (ha1 : a ≤ 31) (hb0 : 0 ≤ b) (hb1 : b ≤ 31) (i0 : -9223372036854775808 ≤ i) (i1 : i ≤ 9223372036854775807) : SE 3 c f3 f7 d a b i = T4 3 (T3 3 (T2 3 (T1 3 (IW 3 c i) d) a f3) b) f7 := by
  have c_ := tb_top c 7 hc0 (by omega) (by decide)
  have d_ := tb_top d 5 hd0 (by omega) (by decide)
  have a_ := tb_top a 5 ha0 (by omega) (by decide)
  have b_ := tb_top b 5 hb0 (by omega) (by decide)
  have f3_ := tb_top f3 3 h30 (by omega) (by decide)
  have f7_ := tb_top f7 6 h70 (by omega) (by decide)
  show P1 (P1 (P1 (P1 c d 7 5) f3 12 3) a 15 5) i 20 12 = OR (OR (pc c i 0 12 20) (wrap64 (d * 128))) (OR (wrap64 (a * 32768)) (wrap64 (f3 * 4096)))
  have rs : 0 ≤ P1 (P1 (P1 (P1 c d 7 5) f3 12 3) a 15 5) i 20 12 ∧ P1 (P1 (P1 (P1 c d 7 5) f3 12 3) a 15 5) i 20 12 < 4294967296 := P1_rng _ _ _ _
  have ri := OR_rng (OR (pc c i 0 12 20) (wrap64 (d * 128))) (OR (wrap64 (a * 32768)) (wrap64 (f3 * 4096)))
  refine tb_ext (by omega) (by omega) ri.1 ri.2 (all64 _ ?_)
  have pc_ := fun (w : Int) (f n at_ j : Nat) (hn : n ≤ 64) (ha : at_ ≤ 63) (hj : j < 64) => tb_pc w i i0 i1 f n at_ j hn ha hj
  refine ⟨?_, ?_, ?_, ?_, ?_, ?_, ?_, ?_, ?_, ?_, ?_, ?_, ?_, ?_, ?_, ?_, ?_, ?_, ?_, ?_, ?_, ?_, ?_, ?_, ?_, ?_, ?_, ?_, ?_, ?_, ?_, ?_, ?_, ?_, ?_, ?_, ?_, ?_, ?_, ?_, ?_, ?_, ?_, ?_, ?_, ?_, ?_, ?_, ?_, ?_, ?_, ?_, ?_, ?_, ?_, ?_, ?_, ?_, ?_, ?_, ?_, ?_, ?_, ?_⟩ <;> simp [tb_P1, tb_or', tbs7, tbs12, tbs15, tbs20, tbs25, tbs26, c_, d_, a_, b_, f3_, f7_, pc_]
theorem same4 (c f3 f7 d a b i : Int) (hc0 : 0 ≤ c) (hc1 : c ≤ 127) (h30 : 0 ≤ f3) (h31 : f3 ≤ 7) (h70 : 0 ≤ f7) (h71 : f7 ≤ 63) (hd0 : 0 ≤ d) (hd1 : d ≤ 31) (ha0 : 0 ≤ a) (ha1 : a ≤ 31) (hb0 : 0 ≤ b) (hb1 : b ≤ 31) (i0 : -9223372036854775808 ≤ i) (i1 : i ≤ 9223372036854775807) : SE 4 c f3 f7 d a b i = T4 4 (T3 4 (T2 4 (T1 4 (IW 4 c i) d) a f3) b) f7 := by
  have c_ := tb_top c 7 hc0 (by omega) (by decide)
  have d_ := tb_top d 5 hd0 (by omega) (by decide)
  have a_ := tb_top a 5 ha0 (by omega) (by decide)
  have b_ := tb_top b 5 hb0 (by omega) (by decide)
  have f3_ := tb_top f3 3 h30 (by omega) (by decide)
  have f7_ := tb_top f7 6 h70 (by omega) (by decide)
  show WL atB i (P1 (P1 (P1 c f3 12 3) a 15 5) b 20 5) 1 12 = OR (OR (pc (pc (pc (pc c i 11 1 7) i 1 4 8) i 5 6 25) i 12 1 31) (OR (wrap64 (a * 32768)) (wrap64 (f3 * 4096)))) (wrap64 (b * 1048576))
  have rs : 0 ≤ WL atB i (P1 (P1 (P1 c f3 12 3) a 15 5) b 20 5) 1 12 ∧ WL atB i (P1 (P1 (P1 c f3 12 3) a 15 5) b 20 5) 1 12 < 4294967296 := P1_rng _ _ _ _
  have ri := OR_rng (OR (pc (pc (pc (pc c i 11 1 7) i 1 4 8) i 5 6 25) i 12 1 31) (OR (wrap64 (a * 32768)) (wrap64 (f3 * 4096)))) (wrap64 (b * 1048576))
  refine tb_ext (by omega) (by omega) ri.1 ri.2 (all64 _ ?_)
  have pc_ := fun (w : Int) (f n at_ j : Nat) (hn : n ≤ 64) (ha : at_ ≤ 63) (hj : j < 64) => tb_pc w i i0 i1 f n at_ j hn ha hj
  refine ⟨?_, ?_, ?_, ?_, ?_, ?_, ?_, ?_, ?_, ?_, ?_, ?_, ?_, ?_, ?_, ?_, ?_, ?_, ?_, ?_, ?_, ?_, ?_, ?_, ?_, ?_, ?_, ?_, ?_, ?_, ?_, ?_, ?_, ?_, ?_, ?_, ?_, ?_, ?_, ?_, ?_, ?_, ?_, ?_, ?_, ?_, ?_, ?_, ?_, ?_, ?_, ?_, ?_, ?_, ?_, ?_, ?_, ?_, ?_, ?_, ?_, ?_, ?_, ?_⟩ <;> simp [tb_P1, tb_or', tbs7, tbs12, tbs15, tbs20, tbs25, tbs26, c_, d_, a_, b_, f3_, f7_, WL, tb_bv0, atB, pc_]
theorem same5 (c f3 f7 d a b i : Int) (hc0 : 0 ≤ c) (hc1 : c ≤ 127) (h30 : 0 ≤ f3) (h31 : f3 ≤ 7) (h70 : 0 ≤ f7) (h71 : f7 ≤ 63) (hd0 : 0 ≤ d) (hd1 : d ≤ 31) (ha0 : 0 ≤ a) (ha1 : a ≤ 31) (hb0 : 0 ≤ b) (hb1 : b ≤ 31) (i0 : -9223372036854775808 ≤ i) (i1 : i ≤ 9223372036854775807) : SE 5 c f3 f7 d a b i = T4 5 (T3 5 (T2 5 (T1 5 (IW 5 c i) d) a f3) b) f7 := by
  have c_ := tb_top c 7 hc0 (by omega) (by decide)
  have d_ := tb_top d 5 hd0 (by omega) (by decide)
  have a_ := tb_top a 5 ha0 (by omega) (by decide)
  have b_ := tb_top b 5 hb0 (by omega) (by decide)
  have f3_ := tb_top f3 3 h30 (by omega) (by decide)
  have f7_ := tb_top f7 6 h70 (by omega) (by decide)
  show WL atS i (P1 (P1 (P1 (P1 c i 7 5) f3 12 3) a 15 5) b 20 5) 5 7 = OR (OR (pc (pc c i 0 5 7) i 5 7 25) (OR (wrap64 (a * 32768)) (wrap64 (f3 * 4096)))) (wrap64 (b * 1048576))
  have rs : 0 ≤ WL atS i (P1 (P1 (P1 (P1 c i 7 5) f3 12 3) a 15 5) b 20 5) 5 7 ∧ WL atS i (P1 (P1 (P1 (P1 c i 7 5) f3 12 3) a 15 5) b 20 5) 5 7 < 4294967296 := P1_rng _ _ _ _
  have ri := OR_rng (OR (pc (pc c i 0 5 7) i 5 7 25) (OR (wrap64 (a * 32768)) (wrap64 (f3 * 4096)))) (wrap64 (b * 1048576))
  refine tb_ext (by omega) (by omega) ri.1 ri.2 (all64 _ ?_)
  have pc_ := fun (w : Int) (f n at_ j : Nat) (hn : n ≤ 64) (ha : at_ ≤ 63) (hj : j < 64) => tb_pc w i i0 i1 f n at_ j hn ha hj
  refine ⟨?_, ?_, ?_, ?_, ?_, ?_, ?_, ?_, ?_, ?_, ?_, ?_, ?_, ?_, ?_, ?_, ?_, ?_, ?_, ?_, ?_, ?_, ?_, ?_, ?_, ?_, ?_, ?_, ?_, ?_, ?_, ?_, ?_, ?_, ?_, ?_, ?_, ?_, ?_, ?_, ?_, ?_, ?_, ?_, ?_, ?_, ?_, ?_, ?_, ?_, ?_, ?_, ?_, ?_, ?_, ?_, ?_, ?_, ?_, ?_, ?_, ?_, ?_, ?_⟩ <;> simp [tb_P1, tb_or', tbs7, tbs12, tbs15, tbs20, tbs25, tbs26, c_, d_, a_, b_, f3_, f7_, WL, tb_bv0, atS, pc_]
theorem same6 (c f3 f7 d a b i : Int) (hc0 : 0 ≤ c) (hc1 : c ≤ 127) (h30 : 0 ≤ f3) (h31 : f3 ≤ 7) (h70 : 0 ≤ f7) (h71 : f7 ≤ 63) (hd0 : 0 ≤ d) (hd1 : d ≤ 31) (ha0 : 0 ≤ a) (ha1 : a ≤ 31) (hb0 : 0 ≤ b) (hb1 : b ≤ 31) (i0 : -9223372036854775808 ≤ i) (i1 : i ≤ 9223372036854775807) (h6 : tb f7 0 = false) : SE 6 c f3 f7 d a b i = T4 6 (T3 6 (T2 6 (T1 6 (IW 6 c i) d) a f3) b) f7 := by
  have c_ := tb_top c 7 hc0 (by omega) (by decide)
  have d_ := tb_top d 5 hd0 (by omega) (by decide)
  have a_ := tb_top a 5 ha0 (by omega) (by decide)
  have b_ := tb_top b 5 hb0 (by omega) (by decide)
  have f3_ := tb_top f3 3 h30 (by omega) (by decide)
  have f7_ := tb_top f7 6 h70 (by omega) (by decide)
  show P1 (P1 (P1 (P1 (P1 c d 7 5) f3 12 3) a 15 5) f7 25 7) i 20 6 = OR (OR (OR (pc c i 0 6 20) (wrap64 (d * 128))) (OR (wrap64 (a * 32768)) (wrap64 (f3 * 4096)))) (wrap64 (f7 / 2 * 67108864))
  have rs : 0 ≤ P1 (P1 (P1 (P1 (P1 c d 7 5) f3 12 3) a 15 5) f7 25 7) i 20 6 ∧ P1 (P1 (P1 (P1 (P1 c d 7 5) f3 12 3) a 15 5) f7 25 7) i 20 6 < 4294967296 := P1_rng _ _ _ _
  have ri := OR_rng (OR (OR (pc c i 0 6 20) (wrap64 (d * 128))) (OR (wrap64 (a * 32768)) (wrap64 (f3 * 4096)))) (wrap64 (f7 / 2 * 67108864))
  refine tb_ext (by omega) (by omega) ri.1 ri.2 (all64 _ ?_)
  have pc_ := fun (w : Int) (f n at_ j : Nat) (hn : n ≤ 64) (ha : at_ ≤ 63) (hj : j < 64) => tb_pc w i i0 i1 f n at_ j hn ha hj
  have g_ : ∀ j, j < 64 → tb (f7 / 2) j = tb f7 (min (j + 1) 63) := fun j hj => by rw [show f7 / 2 = f7 / 2 ^ 1 by omega, tb_div_s f7 (by omega) (by omega) _ _ hj]
  refine ⟨?_, ?_, ?_, ?_, ?_, ?_, ?_, ?_, ?_, ?_, ?_, ?_, ?_, ?_, ?_, ?_, ?_, ?_, ?_, ?_, ?_, ?_, ?_, ?_, ?_, ?_, ?_, ?_, ?_, ?_, ?_, ?_, ?_, ?_, ?_, ?_, ?_, ?_, ?_, ?_, ?_, ?_, ?_, ?_, ?_, ?_, ?_, ?_, ?_, ?_, ?_, ?_, ?_, ?_, ?_, ?_, ?_, ?_, ?_, ?_, ?_, ?_, ?_, ?_⟩ <;> simp [tb_P1, tb_or', tbs7, tbs12, tbs15, tbs20, tbs25, tbs26, c_, d_, a_, b_, f3_, f7_, h6, pc_, g_]
theorem same7 (c f3 f7 d a b i : Int) (hc0 : 0 ≤ c) (hc1 : c ≤ 127) (h30 : 0 ≤ f3) (h31 : f3 ≤ 7) (h70 : 0 ≤ f7) (h71 : f7 ≤ 63) (hd0 : 0 ≤ d) (hd1 : d ≤ 31) (ha0 : 0 ≤ a) (ha1 : a ≤ 31) (hb0 : 0 ≤ b) (hb1 : b ≤ 31) (i0 : -9223372036854775808 ≤ i) (i1 : i ≤ 9223372036854775807) : SE 7 c f3 f7 d a b i = T4 7 (T3 7 (T2 7 (T1 7 (IW 7 c i) d) a f3) b) f7 := by
  have c_ := tb_top c 7 hc0 (by omega) (by decide)
  have d_ := tb_top d 5 hd0 (by omega) (by decide)
  have a_ := tb_top a 5 ha0 (by omega) (by decide)
  have b_ := tb_top b 5 hb0 (by omega) (by decide)
  have f3_ := tb_top f3 3 h30 (by omega) (by decide)
  have f7_ := tb_top f7 6 h70 (by omega) (by decide)
  show P1 (P1 (P1 (P1 (P1 c d 7 5) f3 12 3) a 15 5) f7 25 7) i 20 5 = OR (OR (OR (pc c i 0 5 20) (wrap64 (d * 128))) (OR (wrap64 (a * 32768)) (wrap64 (f3 * 4096)))) (wrap64 (f7 * 33554432))
  have rs : 0 ≤ P1 (P1 (P1 (P1 (P1 c d 7 5) f3 12 3) a 15 5) f7 25 7) i 20 5 ∧ P1 (P1 (P1 (P1 (P1 c d 7 5) f3 12 3) a 15 5) f7 25 7) i 20 5 < 4294967296 := P1_rng _ _ _ _
  have ri := OR_rng (OR (OR (pc c i 0 5 20) (wrap64 (d * 128))) (OR (wrap64 (a * 32768)) (wrap64 (f3 * 4096)))) (wrap64 (f7 * 33554432))
  refine tb_ext (by omega) (by omega) ri.1 ri.2 (all64 _ ?_)
  have pc_ := fun (w : Int) (f n at_ j : Nat) (hn : n ≤ 64) (ha : at_ ≤ 63) (hj : j < 64) => tb_pc w i i0 i1 f n at_ j hn ha hj
  refine ⟨?_, ?_, ?_, ?_, ?_, ?_, ?_, ?_, ?_, ?_, ?_, ?_, ?_, ?_, ?_, ?_, ?_, ?_, ?_, ?_, ?_, ?_, ?_, ?_, ?_, ?_, ?_, ?_, ?_, ?_, ?_, ?_, ?_, ?_, ?_, ?_, ?_, ?_, ?_, ?_, ?_, ?_, ?_, ?_, ?_, ?_, ?_, ?_, ?_, ?_, ?_, ?_, ?_, ?_, ?_, ?_, ?_, ?_, ?_, ?_, ?_, ?_, ?_, ?_⟩ <;> simp [tb_P1, tb_or', tbs7, tbs12, tbs15, tbs20, tbs25, tbs26, c_, d_, a_, b_, f3_, f7_, pc_]
theorem same8 (c f3 f7 d a b i : Int) (hc0 : 0 ≤ c) (hc1 : c ≤ 127) (h30 : 0 ≤ f3) (h31 : f3 ≤ 7) (h70 : 0 ≤ f7) (h71 : f7 ≤ 63) (hd0 : 0 ≤ d) (hd1 : d ≤ 31) (ha0 : 0 ≤ a) (ha1 : a ≤ 31) (hb0 : 0 ≤ b) (hb1 : b ≤ 31) (i0 : -9223372036854775808 ≤ i) (i1 : i ≤ 9223372036854775807) : SE 8 c f3 f7 d a b i = T4 8 (T3 8 (T2 8 (T1 8 (IW 8 c i) d) a f3) b) f7 := by
  have c_ := tb_top c 7 hc0 (by omega) (by decide)
  have d_ := tb_top d 5 hd0 (by omega) (by decide)
  have a_ := tb_top a 5 ha0 (by omega) (by decide)
  have b_ := tb_top b 5 hb0 (by omega) (by decide)
  have f3_ := tb_top f3 3 h30 (by omega) (by decide)
  have f7_ := tb_top f7 6 h70 (by omega) (by decide)
  show P1 (P1 (P1 (P1 (P1 c d 7 5) f3 12 3) a 15 5) f7 25 7) b 20 5 = OR (OR (OR (OR c (wrap64 (d * 128))) (OR (wrap64 (a * 32768)) (wrap64 (f3 * 4096)))) (wrap64 (b * 1048576))) (wrap64 (f7 * 33554432))
  have rs : 0 ≤ P1 (P1 (P1 (P1 (P1 c d 7 5) f3 12 3) a 15 5) f7 25 7) b 20 5 ∧ P1 (P1 (P1 (P1 (P1 c d 7 5) f3 12 3) a 15 5) f7 25 7) b 20 5 < 4294967296 := P1_rng _ _ _ _
  have ri := OR_rng (OR (OR (OR c (wrap64 (d * 128))) (OR (wrap64 (a * 32768)) (wrap64 (f3 * 4096)))) (wrap64 (b * 1048576))) (wrap64 (f7 * 33554432))
  refine tb_ext (by omega) (by omega) ri.1 ri.2 (all64 _ ?_)
  have pc_ := fun (w : Int) (f n at_ j : Nat) (hn : n ≤ 64) (ha : at_ ≤ 63) (hj : j < 64) => tb_pc w i i0 i1 f n at_ j hn ha hj
  refine ⟨?_, ?_, ?_, ?_, ?_, ?_, ?_, ?_, ?_, ?_, ?_, ?_, ?_, ?_, ?_, ?_, ?_, ?_, ?_, ?_, ?_, ?_, ?_, ?_, ?_, ?_, ?_, ?_, ?_, ?_, ?_, ?_, ?_, ?_, ?_, ?_, ?_, ?_, ?_, ?_, ?_, ?_, ?_, ?_, ?_, ?_, ?_, ?_, ?_, ?_, ?_, ?_, ?_, ?_, ?_, ?_, ?_, ?_, ?_, ?_, ?_, ?_, ?_, ?_⟩ <;> simp [tb_P1, tb_or', tbs7, tbs12, tbs15, tbs20, tbs25, tbs26, c_, d_, a_, b_, f3_, f7_, pc_]
theorem same9 (c f3 f7 d a b i : Int) (hc0 : 0 ≤ c) (hc1 : c ≤ 127) (h30 : 0 ≤ f3) (h31 : f3 ≤ 7) (h70 : 0 ≤ f7) (h71 : f7 ≤ 63) (hd0 : 0 ≤ d) (hd1 : d ≤ 31) (ha0 : 0 ≤ a) (ha1 : a ≤ 31) (hb0 : 0 ≤ b) (hb1 : b ≤ 31) (i0 : -9223372036854775808 ≤ i) (i1 : i ≤ 9223372036854775807) : SE 9 c f3 f7 d a b i = T4 9 (T3 9 (T2 9 (T1 9 (IW 9 c i) d) a f3) b) f7 := by
  have c_ := tb_top c 7 hc0 (by omega) (by decide)
  have d_ := tb_top d 5 hd0 (by omega) (by decide)
  have a_ := tb_top a 5 ha0 (by omega) (by decide)
  have b_ := tb_top b 5 hb0 (by omega) (by decide)
  have f3_ := tb_top f3 3 h30 (by omega) (by decide)
  have f7_ := tb_top f7 6 h70 (by omega) (by decide)
  show P1 c f7 20 12 = OR c (wrap64 (f7 * 1048576))
  have rs : 0 ≤ P1 c f7 20 12 ∧ P1 c f7 20 12 < 4294967296 := P1_rng _ _ _ _
  have ri := OR_rng c (wrap64 (f7 * 1048576))
  refine tb_ext (by omega) (by omega) ri.1 ri.2 (all64 _ ?_)
  have pc_ := fun (w : Int) (f n at_ j : Nat) (hn : n ≤ 64) (ha : at_ ≤ 63) (hj : j < 64) => tb_pc w i i0 i1 f n at_ j hn ha hj
  refine ⟨?_, ?_, ?_, ?_, ?_, ?_, ?_, ?_, ?_, ?_, ?_, ?_, ?_, ?_, ?_, ?_, ?_, ?_, ?_, ?_, ?_, ?_, ?_, ?_, ?_, ?_, ?_, ?_, ?_, ?_, ?_, ?_, ?_, ?_, ?_, ?_, ?_, ?_, ?_, ?_, ?_, ?_, ?_, ?_, ?_, ?_, ?_, ?_, ?_, ?_, ?_, ?_, ?_, ?_, ?_, ?_, ?_, ?_, ?_, ?_, ?_, ?_, ?_, ?_⟩ <;> simp [tb_P1, tb_or', tbs7, tbs12, tbs15, tbs20, tbs25, tbs26, c_, d_, a_, b_, f3_, f7_, pc_]
theorem enc_same (F c f3 f7 d a b i : Int) (hF : 1 ≤ F ∧ F ≤ 9) (hc0 : 0 ≤ c) (hc1 : c ≤ 127) (h30 : 0 ≤ f3) (h31 : f3 ≤ 7) (h70 : 0 ≤ f7) (h71 : f7 ≤ 63) (hd0 : 0 ≤ d) (hd1 : d ≤ 31) (ha0 : 0 ≤ a) (ha1 : a ≤ 31) (hb0 : 0 ≤ b) (hb1 : b ≤ 31) (i0 : -9223372036854775808 ≤ i) (i1 : i ≤ 9223372036854775807) (h6 : F = 6 → tb f7 0 = false) : SE F c f3 f7 d a b i = T4 F (T3 F (T2 F (T1 F (IW F c i) d) a f3) b) f7 := by
  rcases forms F hF with rfl | rfl | rfl | rfl | rfl | rfl | rfl | rfl | rfl
  · exact same1 c f3 f7 d a b i hc0 hc1 h30 h31 h70 h71 hd0 hd1 ha0 ha1 hb0 hb1 i0 i1
  · exact same2 c f3 f7 d a b i hc0 hc1 h30 h31 h70 h71 hd0 hd1 ha0 ha1 hb0 hb1 i0 i1
  · exact same3 c f3 f7 d a b i hc0 hc1 h30 h31 h70 h71 hd0 hd1 ha0 ha1 hb0 hb1 i0 i1
  · exact same4 c f3 f7 d a b i hc0 hc1 h30 h31 h70 h71 hd0 hd1 ha0 ha1 hb0 hb1 i0 i1
  · exact same5 c f3 f7 d a b i hc0 hc1 h30 h31 h70 h71 hd0 hd1 ha0 ha1 hb0 hb1 i0 i1
  · exact same6 c f3 f7 d a b i hc0 hc1 h30 h31 h70 h71 hd0 hd1 ha0 ha1 hb0 hb1 i0 i1 (h6 rfl)
  · exact same7 c f3 f7 d a b i hc0 hc1 h30 h31 h70 h71 hd0 hd1 ha0 ha1 hb0 hb1 i0 i1
  · exact same8 c f3 f7 d a b i hc0 hc1 h30 h31 h70 h71 hd0 hd1 ha0 ha1 hb0 hb1 i0 i1
  · exact same9 c f3 f7 d a b i hc0 hc1 h30 h31 h70 h71 hd0 hd1 ha0 ha1 hb0 hb1 i0 i1
theorem impl_signOf_is (v : Int) (C : Nat) (h1 : 1 ≤ C) (h2 : C ≤ 64) : impl_signOf.f v (C : Int) = some (smod v C) := by
  unfold impl_signOf.f
  rw [w64_id (by omega) (by omega), if_pos (by omega), ← smod_shift v C h1 h2]
  unfold shr shl
  rw [show min ((64 - (C : Int)).toNat) (IntKind.i64.bits) = 64 - C by simp [IntKind.bits] <;> omega, i64w]

theorem ops_is : impl_ops.f = some impl_ops.tab := rfl
theorem ops_len : impl_ops.tab.length = 65 := rfl
/-- A field of a word. -/
def fl (w : Int) (L C : Nat) : Int := w / 2 ^ L % 2 ^ C
theorem fl_rng (w : Int) (L C : Nat) : 0 ≤ fl w L C ∧ fl w L C < 2 ^ C := ⟨Int.emod_nonneg _ (Int.ne_of_gt (ipow_pos C)), Int.emod_lt_of_pos _ (ipow_pos C)⟩
def immT (F w : Int) : Int :=
  if F = 1 then smod (fl w 12 20) 20 * 4096 else
  if F = 2 then smod (fl w 21 10 * 2 + fl w 20 1 * 2048 + fl w 12 8 * 4096 + fl w 31 1 * 1048576) 21 else
  if F = 3 then smod (fl w 20 12) 12 else
  if F = 4 then smod (fl w 8 4 * 2 + fl w 25 6 * 32 + fl w 7 1 * 2048 + fl w 31 1 * 4096) 13 else
  if F = 5 then smod (fl w 7 5 + fl w 25 7 * 32) 12 else if F = 6 then fl w 20 6 else if F = 7 then fl w 20 5 else 0
def dT (F w : Int) : Int := if dB F = true then fl w 7 5 else 0
def aT (F w : Int) : Int := if aB F = true then fl w 15 5 else 0
def bT (F w : Int) : Int := if bB F = true then fl w 20 5 else 0
theorem smod20 (v : Int) : smod v 20 = (v + 524288) % 1048576 - 524288 := by unfold smod; rw [show (2 : Int) ^ (20 - 1) = 524288 by decide, show (2 : Int) ^ 20 = 1048576 by decide]
theorem smod21 (v : Int) : smod v 21 = (v + 1048576) % 2097152 - 1048576 := by unfold smod; rw [show (2 : Int) ^ (21 - 1) = 1048576 by decide, show (2 : Int) ^ 21 = 2097152 by decide]
theorem smod12 (v : Int) : smod v 12 = (v + 2048) % 4096 - 2048 := by unfold smod; rw [show (2 : Int) ^ (12 - 1) = 2048 by decide, show (2 : Int) ^ 12 = 4096 by decide]
theorem smod13 (v : Int) : smod v 13 = (v + 4096) % 8192 - 4096 := by unfold smod; rw [show (2 : Int) ^ (13 - 1) = 4096 by decide, show (2 : Int) ^ 13 = 8192 by decide]
theorem smodw (v : Int) : smod v 32 = (v + 2147483648) % 4294967296 - 2147483648 := by unfold smod; rw [show (2 : Int) ^ (32 - 1) = 2147483648 by decide, show (2 : Int) ^ 32 = 4294967296 by decide]
/-- The bounds of the fields that numbers are made of. -/
theorem fl1 (w : Int) (L : Nat) : 0 ≤ fl w L 1 ∧ fl w L 1 < 2 := fl_rng w L 1
theorem fl4 (w : Int) (L : Nat) : 0 ≤ fl w L 4 ∧ fl w L 4 < 16 := fl_rng w L 4
theorem fl5 (w : Int) (L : Nat) : 0 ≤ fl w L 5 ∧ fl w L 5 < 32 := fl_rng w L 5
theorem fl6 (w : Int) (L : Nat) : 0 ≤ fl w L 6 ∧ fl w L 6 < 64 := fl_rng w L 6
theorem fl7 (w : Int) (L : Nat) : 0 ≤ fl w L 7 ∧ fl w L 7 < 128 := fl_rng w L 7
theorem fl8 (w : Int) (L : Nat) : 0 ≤ fl w L 8 ∧ fl w L 8 < 256 := fl_rng w L 8
theorem fl10 (w : Int) (L : Nat) : 0 ≤ fl w L 10 ∧ fl w L 10 < 1024 := fl_rng w L 10
theorem fl12 (w : Int) (L : Nat) : 0 ≤ fl w L 12 ∧ fl w L 12 < 4096 := fl_rng w L 12
theorem fl20 (w : Int) (L : Nat) : 0 ≤ fl w L 20 ∧ fl w L 20 < 1048576 := fl_rng w L 20
theorem tmod2 (i : Int) (h : i % 2 = 0) : (Int.tmod i 2 == 0) = true := by
  rw [Int.tmod_eq_zero_of_dvd (Int.dvd_of_emod_eq_zero h)]
  rfl
theorem inB_t (a lo hi : Int) (h1 : lo ≤ a) (h2 : a ≤ hi) : inB a lo hi = true := by unfold inB; simp [h1, h2]
theorem taken_right (F w : Int) (hF : 1 ≤ F ∧ F ≤ 9) : rightB F (dT F w) (aT F w) (bT F w) (immT F w) = true := by
  have hd : inB (dT F w) 0 31 = true := by unfold dT; have := fl5 w 7; split <;> exact inB_t _ _ _ (by omega) (by omega)
  have ha : inB (aT F w) 0 31 = true := by unfold aT; have := fl5 w 15; split <;> exact inB_t _ _ _ (by omega) (by omega)
  have hb : inB (bT F w) 0 31 = true := by unfold bT; have := fl5 w 20; split <;> exact inB_t _ _ _ (by omega) (by omega)
  have hi : immB F (immT F w) = true := by
    rcases forms F hF with rfl | rfl | rfl | rfl | rfl | rfl | rfl | rfl | rfl
    · show (inB (smod (fl w 12 20) 20 * 4096) (-2147483648) 2147479552 && (Int.tmod (smod (fl w 12 20) 20 * 4096) 4096 == 0)) = true
      have h := fl20 w 12
      rw [smod20, inB_t _ _ _ (by omega) (by omega), Int.tmod_eq_zero_of_dvd (Int.dvd_mul_left _ _)]
      rfl
    · show (inB (smod _ 21) (-1048576) 1048574 && (Int.tmod (smod _ 21) 2 == 0)) = true
      rw [smod21]
      generalize fl w 21 10 = A
      generalize fl w 20 1 = B
      generalize fl w 12 8 = C
      generalize fl w 31 1 = D
      rw [inB_t _ _ _ (by omega) (by omega), tmod2 _ (by omega)]
      rfl
    · show inB (smod _ 12) (-2048) 2047 = true
      rw [smod12]
      exact inB_t _ _ _ (by omega) (by omega)
    · show (inB (smod _ 13) (-4096) 4094 && (Int.tmod (smod _ 13) 2 == 0)) = true
      rw [smod13]
      generalize fl w 8 4 = A
      generalize fl w 25 6 = B
      generalize fl w 7 1 = C
      generalize fl w 31 1 = D
      rw [inB_t _ _ _ (by omega) (by omega), tmod2 _ (by omega)]
      rfl
    · show inB (smod _ 12) (-2048) 2047 = true
      rw [smod12]
      exact inB_t _ _ _ (by omega) (by omega)
    · have := fl6 w 20
      exact inB_t (fl w 20 6) 0 63 (by omega) (by omega)
    · have := fl5 w 20
      exact inB_t (fl w 20 5) 0 31 (by omega) (by omega)
    · rfl
    · rfl
  unfold rightB
  rw [hd, ha, hb, hi]
  unfold dT aT bT
  cases dB F <;> cases aB F <;> cases bB F <;> rfl
theorem immT_rng (F w : Int) (hF : 1 ≤ F ∧ F ≤ 9) : -9223372036854775808 ≤ immT F w ∧ immT F w ≤ 9223372036854775807 := by
  rcases forms F hF with rfl | rfl | rfl | rfl | rfl | rfl | rfl | rfl | rfl
  · show _ ≤ smod (fl w 12 20) 20 * 4096 ∧ smod (fl w 12 20) 20 * 4096 ≤ _
    rw [smod20]; omega
  · exact smod_rng64 _ 21 (by decide) (by decide)
  · exact smod_rng64 _ 12 (by decide) (by decide)
  · exact smod_rng64 _ 13 (by decide) (by decide)
  · exact smod_rng64 _ 12 (by decide) (by decide)
  · have := fl6 w 20
    show _ ≤ fl w 20 6 ∧ fl w 20 6 ≤ _
    omega
  · have := fl5 w 20
    show _ ≤ fl w 20 5 ∧ fl w 20 5 ≤ _
    omega
  · show _ ≤ (0 : Int) ∧ (0 : Int) ≤ _
    omega
  · show _ ≤ (0 : Int) ∧ (0 : Int) ≤ _
    omega
/-- Numbers without a common bit: their OR is their sum. -/
theorem or_sum (x y : Int) (n : Nat) (hn : n ≤ 62) (x0 : 0 ≤ x) (x1 : x < 2 ^ n) (y0 : 0 ≤ y) (y1 : y * 2 ^ n < 4611686018427387904) : OR x (y * 2 ^ n) = x + y * 2 ^ n := by
  have hp := ipow_le n 62 hn
  rw [show (2 : Int) ^ 62 = 4611686018427387904 by decide] at hp
  have hr := OR_rng x (y * 2 ^ n)
  have hm : 0 ≤ y * 2 ^ n := Int.mul_nonneg y0 (Int.le_of_lt (ipow_pos n))
  refine tb_ext hr.1 hr.2 (by omega) (by omega) fun i hi => ?_
  rw [tb_or', tb_mul _ _ _ hi]
  obtain ⟨X, rfl⟩ := Int.eq_ofNat_of_zero_le x0
  obtain ⟨Y, rfl⟩ := Int.eq_ofNat_of_zero_le y0
  have hX : X < 2 ^ n := by exact_mod_cast x1
  have e : ((X : Int) + (Y : Int) * 2 ^ n) = ((2 ^ n * Y + X : Nat) : Int) := by
    rw [Int.natCast_add, Int.natCast_mul, Int.natCast_pow, Int.mul_comm (Y : Int), Int.add_comm]
    rfl
  have hs : 2 ^ n * Y + X < 18446744073709551616 := by
    have : ((2 ^ n * Y + X : Nat) : Int) < 18446744073709551616 := by rw [← e]; omega
    omega
  have hY : Y < 18446744073709551616 := by
    have := Nat.le_mul_of_pos_left Y (Nat.two_pow_pos n)
    omega
  rw [e, tb_nat _ _ hs, tb_nat X i (by omega), Nat.testBit_two_pow_mul_add _ hX, tb_nat Y _ hY]
  by_cases c : i < n
  · simp [c, show ¬ n ≤ i by omega]
  · have : X.testBit i = false := Nat.testBit_lt_two_pow (Nat.lt_of_lt_of_le hX (Nat.pow_le_pow_right (by decide) (by omega)))
    simp [c, show n ≤ i by omega, this]
def pd (im w : Int) (f n at_ : Nat) : Int := OR im (shl .i64 (fl w at_ n) (f : Int))
theorem dec_step (k : Nat) (w : Int) (w0 : 0 ≤ w) (w1 : w ≤ 4294967295) (os : List (S98)) (len idx : Int) (ps : List (S92)) (plen x x2 F c f3 f7 o d a b im : Int) (f n at_ : Nat) (h1 : x < plen) (h2 : 0 ≤ x) (h3 : x < (ps.length : Int)) (e0 : (rd_T92 ps x).f0 = (f : Int)) (e1 : (rd_T92 ps x).f1 = (n : Int)) (e2 : (rd_T92 ps x).f2 = (at_ : Int)) (e3 : wrap64 (x + 1) = x2)
    (hf : at_ ≤ 63) (hn : n ≤ 62) : impl_decode.l1 (k + 1) w os len idx ps plen x F c f3 f7 o d a b im = impl_decode.l1 k w os len idx ps plen x2 F c f3 f7 o d a b (pd im w f n at_) := by
  rw [impl_decode.l1, if_pos h1, if_pos h2, if_pos h3, e0, e1, e2, bitsOf_is w at_ n (by omega) (by omega) hf hn, Option.bind_some, if_pos (Int.natCast_nonneg _), e3]
  rfl
def sg (F im : Int) : Int := if F = 1 then smod im 32 else if F = 2 then smod im 21 else if F = 3 ∨ F = 5 then smod im 12 else if F = 4 then smod im 13 else im
def ib (F : Int) : Int := if F = 1 then 32 else if F = 2 then 21 else if F = 3 ∨ F = 5 then 12 else if F = 4 then 13 else 0
theorem immBits_is (k : Nat) (F : Int) (h : 1 ≤ F ∧ F ≤ 9) : impl_immBits.f (k + 1) F = some (ib F) := by
  unfold impl_immBits.f
  simp only [impl_immBits.j0]
  rcases forms F h with rfl | rfl | rfl | rfl | rfl | rfl | rfl | rfl | rfl <;> simp [ib]
theorem dec_end (k : Nat) (w : Int) (w0 : 0 ≤ w) (w1 : w ≤ 4294967295) (os : List (S98)) (len idx : Int) (ps : List (S92)) (plen F c f3 f7 o im : Int) (hF : 1 ≤ F ∧ F ≤ 9) :
    impl_decode.l1 (k + 10) w os len idx ps plen plen F c f3 f7 o 0 0 0 im = (impl_encode.f (k + 6) o (dT F w) (aT F w) (bT F w) (sg F im)).bind fun t => if t = w then some (o, dT F w, aT F w, bT F w, sg F im, true) else impl_decode.l0 (k + 6) w os len (wrap64 (idx + 1)) := by
  have b7 : impl_bitsOf.f w 7 5 = some (fl w 7 5) := bitsOf_is w 7 5 (by omega) (by omega) (by decide) (by decide)
  have b15 : impl_bitsOf.f w 15 5 = some (fl w 15 5) := bitsOf_is w 15 5 (by omega) (by omega) (by decide) (by decide)
  have b20 : impl_bitsOf.f w 20 5 = some (fl w 20 5) := bitsOf_is w 20 5 (by omega) (by omega) (by decide) (by decide)
  have h5 : ∀ d a im, impl_decode.j5 (k + 7) w (bB F) os len idx o d a 0 im = (impl_encode.f (k + 6) o d a (bT F w) im).bind fun t => if t = w then some (o, d, a, bT F w, im, true) else impl_decode.l0 (k + 6) w os len (wrap64 (idx + 1)) := by
    intro d a im
    rw [impl_decode.j5]
    unfold bT
    cases bB F
    · rw [if_neg (by decide), if_neg (by decide)]
    · rw [if_pos rfl, if_pos rfl, b20, Option.bind_some]
  have h4 : ∀ d im, impl_decode.j4 (k + 8) w (aB F) (bB F) os len idx o d 0 0 im = (impl_encode.f (k + 6) o d (aT F w) (bT F w) im).bind fun t => if t = w then some (o, d, aT F w, bT F w, im, true) else impl_decode.l0 (k + 6) w os len (wrap64 (idx + 1)) := by
    intro d im
    rw [impl_decode.j4]
    unfold aT
    cases aB F
    · rw [if_neg (by decide), if_neg (by decide)]
      exact h5 _ _ _
    · rw [if_pos rfl, if_pos rfl, b15, Option.bind_some]
      exact h5 _ _ _
  have h3 : ∀ im, impl_decode.j3 (k + 9) w os len idx F c f3 f7 o 0 0 0 im = (impl_encode.f (k + 6) o (dT F w) (aT F w) (bT F w) im).bind fun t => if t = w then some (o, dT F w, aT F w, bT F w, im, true) else impl_decode.l0 (k + 6) w os len (wrap64 (idx + 1)) := by
    intro im
    rw [impl_decode.j3, fields_is (k + 5) F hF, Option.bind_some]
    dsimp only
    unfold dT
    cases dB F
    · rw [if_neg (by decide), if_neg (by decide)]
      exact h4 _ _
    · rw [if_pos rfl, if_pos rfl, b7, Option.bind_some]
      exact h4 _ _
  rw [impl_decode.l1, if_neg (by omega), immBits_is (k + 8) F hF, Option.bind_some]
  have s := fun (C : Nat) (h1 : 1 ≤ C) (h2 : C ≤ 64) => impl_signOf_is im C h1 h2
  rcases forms F hF with rfl | rfl | rfl | rfl | rfl | rfl | rfl | rfl | rfl
  · rw [if_pos (by decide), show impl_signOf.f im (ib 1) = _ from s 32 (by decide) (by decide), Option.bind_some]
    exact h3 _
  · rw [if_pos (by decide), show impl_signOf.f im (ib 2) = _ from s 21 (by decide) (by decide), Option.bind_some]
    exact h3 _
  · rw [if_pos (by decide), show impl_signOf.f im (ib 3) = _ from s 12 (by decide) (by decide), Option.bind_some]
    exact h3 _
  · rw [if_pos (by decide), show impl_signOf.f im (ib 4) = _ from s 13 (by decide) (by decide), Option.bind_some]
    exact h3 _
  · rw [if_pos (by decide), show impl_signOf.f im (ib 5) = _ from s 12 (by decide) (by decide), Option.bind_some]
    exact h3 _
  all_goals
    rw [if_neg (by decide)]
    exact h3 _
theorem shl_fl (w : Int) (L n f : Nat) (h : n + f ≤ 62) : shl .i64 (fl w L n) (f : Int) = fl w L n * 2 ^ f := by
  have h1 := fl_rng w L n
  have h2 := ipow_le (n + f) 62 h
  rw [show (2 : Int) ^ 62 = 4611686018427387904 by decide, Int.pow_add] at h2
  have h3 := ipow_pos f
  have h4 : fl w L n * 2 ^ f ≤ 2 ^ n * 2 ^ f := Int.mul_le_mul_of_nonneg_right (Int.le_of_lt h1.2) (Int.le_of_lt h3)
  have h5 : 0 ≤ fl w L n * 2 ^ f := Int.mul_nonneg h1.1 (Int.le_of_lt h3)
  rw [shl_v _ _ (by omega)]
  exact w64_id (by omega) (by omega)
theorem tb_zero (i : Nat) : tb 0 i = false := by unfold tb; simp
theorem or0 (x : Int) (h0 : -9223372036854775808 ≤ x) (h1 : x ≤ 9223372036854775807) : OR 0 x = x := by
  have r := OR_rng 0 x
  refine tb_ext r.1 r.2 h0 h1 fun i _ => ?_
  rw [tb_or', tb_zero, Bool.false_or]
theorem or_ro1 (a b c d : Int) : OR (OR (OR (OR 0 c) b) a) d = OR (OR (OR a b) c) d := by
  have r1 := OR_rng (OR (OR (OR 0 c) b) a) d
  have r2 := OR_rng (OR (OR a b) c) d
  refine tb_ext r1.1 r1.2 r2.1 r2.2 fun i _ => ?_
  simp only [tb_or', tb_zero]
  cases tb a i <;> cases tb b i <;> cases tb c i <;> cases tb d i <;> rfl
theorem or_ro2 (a b c d : Int) : OR (OR (OR (OR 0 b) a) c) d = OR (OR (OR a c) b) d := by
  have r1 := OR_rng (OR (OR (OR 0 b) a) c) d
  have r2 := OR_rng (OR (OR a c) b) d
  refine tb_ext r1.1 r1.2 r2.1 r2.2 fun i _ => ?_
  simp only [tb_or', tb_zero]
  cases tb a i <;> cases tb b i <;> cases tb c i <;> cases tb d i <;> rfl
def ID (F w : Int) : Int := if F = 1 then pd 0 w 12 20 12 else if F = 2 then pd (pd (pd (pd 0 w 12 8 12) w 11 1 20) w 1 10 21) w 20 1 31 else if F = 3 then pd 0 w 0 12 20 else if F = 4 then pd (pd (pd (pd 0 w 11 1 7) w 1 4 8) w 5 6 25) w 12 1 31 else if F = 5 then pd (pd 0 w 0 5 7) w 5 7 25 else if F = 6 then pd 0 w 0 6 20 else if F = 7 then pd 0 w 0 5 20 else 0
theorem im_same (F w : Int) (hF : 1 ≤ F ∧ F ≤ 9) : sg F (ID F w) = immT F w := by
  rcases forms F hF with rfl | rfl | rfl | rfl | rfl | rfl | rfl | rfl | rfl
  · show smod (OR 0 (shl .i64 (fl w 12 20) ((12 : Nat) : Int))) 32 = smod (fl w 12 20) 20 * 4096
    have h := fl20 w 12
    rw [shl_fl _ _ _ _ (by decide), show (2 : Int) ^ 12 = 4096 by decide, or0 _ (by omega) (by omega), smodw, smod20]
    omega
  · show smod (OR (OR (OR (OR 0 (shl .i64 (fl w 12 8) ((12 : Nat) : Int))) (shl .i64 (fl w 20 1) ((11 : Nat) : Int))) (shl .i64 (fl w 21 10) ((1 : Nat) : Int))) (shl .i64 (fl w 31 1) ((20 : Nat) : Int))) 21 = smod (fl w 21 10 * 2 + fl w 20 1 * 2048 + fl w 12 8 * 4096 + fl w 31 1 * 1048576) 21
    have h1 := fl10 w 21
    have h2 := fl1 w 20
    have h3 := fl8 w 12
    have h4 := fl1 w 31
    rw [or_ro1, shl_fl _ _ _ _ (by decide), shl_fl _ _ _ _ (by decide), shl_fl _ _ _ _ (by decide), shl_fl _ _ _ _ (by decide)]
    generalize fl w 21 10 = A at *
    generalize fl w 20 1 = B at *
    generalize fl w 12 8 = C at *
    generalize fl w 31 1 = D at *
    have q1 : (2 : Int) ^ 1 = 2 := by decide
    have q2 : (2 : Int) ^ 11 = 2048 := by decide
    have q3 : (2 : Int) ^ 12 = 4096 := by decide
    have q4 : (2 : Int) ^ 20 = 1048576 := by decide
    rw [q1, or_sum (A * 2) B 11 (by decide) (by omega) (by rw [q2]; omega) (by omega) (by rw [q2]; omega), or_sum _ C 12 (by decide) (by rw [q2]; omega) (by rw [q2, q3]; omega) (by omega) (by rw [q3]; omega), or_sum _ D 20 (by decide) (by rw [q2, q3]; omega) (by rw [q2, q3, q4]; omega) (by omega) (by rw [q4]; omega), q2, q3, q4]
  · show smod (OR 0 (shl .i64 (fl w 20 12) ((0 : Nat) : Int))) 12 = smod (fl w 20 12) 12
    have h := fl12 w 20
    rw [shl_fl _ _ _ _ (by decide), show (2 : Int) ^ 0 = 1 by decide, Int.mul_one, or0 _ (by omega) (by omega)]
  · show smod (OR (OR (OR (OR 0 (shl .i64 (fl w 7 1) ((11 : Nat) : Int))) (shl .i64 (fl w 8 4) ((1 : Nat) : Int))) (shl .i64 (fl w 25 6) ((5 : Nat) : Int))) (shl .i64 (fl w 31 1) ((12 : Nat) : Int))) 13 = smod (fl w 8 4 * 2 + fl w 25 6 * 32 + fl w 7 1 * 2048 + fl w 31 1 * 4096) 13
    have h1 := fl4 w 8
    have h2 := fl6 w 25
    have h3 := fl1 w 7
    have h4 := fl1 w 31
    rw [or_ro2, shl_fl _ _ _ _ (by decide), shl_fl _ _ _ _ (by decide), shl_fl _ _ _ _ (by decide), shl_fl _ _ _ _ (by decide)]
    generalize fl w 8 4 = A at *
    generalize fl w 25 6 = B at *
    generalize fl w 7 1 = C at *
    generalize fl w 31 1 = D at *
    have q1 : (2 : Int) ^ 1 = 2 := by decide
    have q2 : (2 : Int) ^ 5 = 32 := by decide
    have q3 : (2 : Int) ^ 11 = 2048 := by decide
    have q4 : (2 : Int) ^ 12 = 4096 := by decide
    rw [q1, or_sum (A * 2) B 5 (by decide) (by omega) (by rw [q2]; omega) (by omega) (by rw [q2]; omega), or_sum _ C 11 (by decide) (by rw [q2]; omega) (by rw [q2, q3]; omega) (by omega) (by rw [q3]; omega), or_sum _ D 12 (by decide) (by rw [q2, q3]; omega) (by rw [q2, q3, q4]; omega) (by omega) (by rw [q4]; omega), q2, q3, q4]
  · show smod (OR (OR 0 (shl .i64 (fl w 7 5) ((0 : Nat) : Int))) (shl .i64 (fl w 25 7) ((5 : Nat) : Int))) 12 = smod (fl w 7 5 + fl w 25 7 * 32) 12
    have h1 := fl5 w 7
    have h2 := fl7 w 25
    have q2 : (2 : Int) ^ 5 = 32 := by decide
    rw [shl_fl _ _ _ _ (by decide), shl_fl _ _ _ _ (by decide), show (2 : Int) ^ 0 = 1 by decide, Int.mul_one, or0 _ (by omega) (by omega), or_sum _ (fl w 25 7) 5 (by decide) (by omega) (by rw [q2]; omega) (by omega) (by rw [q2]; omega), q2]
  · show OR 0 (shl .i64 (fl w 20 6) ((0 : Nat) : Int)) = fl w 20 6
    have h := fl6 w 20
    rw [shl_fl _ _ _ _ (by decide), show (2 : Int) ^ 0 = 1 by decide, Int.mul_one, or0 _ (by omega) (by omega)]
  · show OR 0 (shl .i64 (fl w 20 5) ((0 : Nat) : Int)) = fl w 20 5
    have h := fl5 w 20
    rw [shl_fl _ _ _ _ (by decide), show (2 : Int) ^ 0 = 1 by decide, Int.mul_one, or0 _ (by omega) (by omega)]
  · rfl
  · rfl

/-- What the program does with an operation whose code is the word's. -/
theorem dec_try (k : Nat) (w : Int) (w0 : 0 ≤ w) (w1 : w ≤ 4294967295) (os : List (S98)) (len idx F c f3 f7 o : Int) (hF : 1 ≤ F ∧ F ≤ 9) :
    ∃ k2, k ≤ k2 ∧ k2 ≤ k + 4 ∧ impl_decode.j1 (k + 15) w o os len idx false F c f3 f7 = (impl_encode.f (k2 + 6) o (dT F w) (aT F w) (bT F w) (immT F w)).bind fun t => if t = w then some (o, dT F w, aT F w, bT F w, immT F w, true) else impl_decode.l0 (k2 + 6) w os len (wrap64 (idx + 1)) := by
  rw [← im_same F w hF, impl_decode.j1, if_neg (by decide)]
  unfold impl_pieces.f
  rcases forms F hF with rfl | rfl | rfl | rfl | rfl | rfl | rfl | rfl | rfl
  · refine ⟨k + 3, by omega, by omega, ?_⟩
    rw [if_pos rfl, Option.bind_some]
    rw [dec_step (k + 13) w w0 w1 os len idx _ _ _ 1 _ c f3 f7 o 0 0 0 _ 12 20 12 (by decide) (by decide) (by decide) rfl rfl rfl (by unfold wrap64; decide) (by decide) (by decide)]
    exact dec_end (k + 3) w w0 w1 os len idx _ _ 1 c f3 f7 o _ (by decide)
  · refine ⟨k + 0, by omega, by omega, ?_⟩
    rw [if_neg (by decide), if_pos rfl, Option.bind_some]
    rw [dec_step (k + 13) w w0 w1 os len idx _ _ _ 1 _ c f3 f7 o 0 0 0 _ 12 8 12 (by decide) (by decide) (by decide) rfl rfl rfl (by unfold wrap64; decide) (by decide) (by decide)]
    rw [dec_step (k + 12) w w0 w1 os len idx _ _ _ 2 _ c f3 f7 o 0 0 0 _ 11 1 20 (by decide) (by decide) (by decide) rfl rfl rfl (by unfold wrap64; decide) (by decide) (by decide)]
    rw [dec_step (k + 11) w w0 w1 os len idx _ _ _ 3 _ c f3 f7 o 0 0 0 _ 1 10 21 (by decide) (by decide) (by decide) rfl rfl rfl (by unfold wrap64; decide) (by decide) (by decide)]
    rw [dec_step (k + 10) w w0 w1 os len idx _ _ _ 4 _ c f3 f7 o 0 0 0 _ 20 1 31 (by decide) (by decide) (by decide) rfl rfl rfl (by unfold wrap64; decide) (by decide) (by decide)]
    exact dec_end (k + 0) w w0 w1 os len idx _ _ 2 c f3 f7 o _ (by decide)
  · refine ⟨k + 3, by omega, by omega, ?_⟩
    rw [if_neg (by decide), if_neg (by decide), if_pos rfl, Option.bind_some]
    rw [dec_step (k + 13) w w0 w1 os len idx _ _ _ 1 _ c f3 f7 o 0 0 0 _ 0 12 20 (by decide) (by decide) (by decide) rfl rfl rfl (by unfold wrap64; decide) (by decide) (by decide)]
    exact dec_end (k + 3) w w0 w1 os len idx _ _ 3 c f3 f7 o _ (by decide)
  · refine ⟨k + 0, by omega, by omega, ?_⟩
    rw [if_neg (by decide), if_neg (by decide), if_neg (by decide), if_pos rfl, Option.bind_some]
    rw [dec_step (k + 13) w w0 w1 os len idx _ _ _ 1 _ c f3 f7 o 0 0 0 _ 11 1 7 (by decide) (by decide) (by decide) rfl rfl rfl (by unfold wrap64; decide) (by decide) (by decide)]
    rw [dec_step (k + 12) w w0 w1 os len idx _ _ _ 2 _ c f3 f7 o 0 0 0 _ 1 4 8 (by decide) (by decide) (by decide) rfl rfl rfl (by unfold wrap64; decide) (by decide) (by decide)]
    rw [dec_step (k + 11) w w0 w1 os len idx _ _ _ 3 _ c f3 f7 o 0 0 0 _ 5 6 25 (by decide) (by decide) (by decide) rfl rfl rfl (by unfold wrap64; decide) (by decide) (by decide)]
    rw [dec_step (k + 10) w w0 w1 os len idx _ _ _ 4 _ c f3 f7 o 0 0 0 _ 12 1 31 (by decide) (by decide) (by decide) rfl rfl rfl (by unfold wrap64; decide) (by decide) (by decide)]
    exact dec_end (k + 0) w w0 w1 os len idx _ _ 4 c f3 f7 o _ (by decide)
  · refine ⟨k + 2, by omega, by omega, ?_⟩
    rw [if_neg (by decide), if_neg (by decide), if_neg (by decide), if_neg (by decide), if_pos rfl, Option.bind_some]
    rw [dec_step (k + 13) w w0 w1 os len idx _ _ _ 1 _ c f3 f7 o 0 0 0 _ 0 5 7 (by decide) (by decide) (by decide) rfl rfl rfl (by unfold wrap64; decide) (by decide) (by decide)]
    rw [dec_step (k + 12) w w0 w1 os len idx _ _ _ 2 _ c f3 f7 o 0 0 0 _ 5 7 25 (by decide) (by decide) (by decide) rfl rfl rfl (by unfold wrap64; decide) (by decide) (by decide)]
    exact dec_end (k + 2) w w0 w1 os len idx _ _ 5 c f3 f7 o _ (by decide)
  · refine ⟨k + 3, by omega, by omega, ?_⟩
    rw [if_neg (by decide), if_neg (by decide), if_neg (by decide), if_neg (by decide), if_neg (by decide), if_pos rfl, Option.bind_some]
    rw [dec_step (k + 13) w w0 w1 os len idx _ _ _ 1 _ c f3 f7 o 0 0 0 _ 0 6 20 (by decide) (by decide) (by decide) rfl rfl rfl (by unfold wrap64; decide) (by decide) (by decide)]
    exact dec_end (k + 3) w w0 w1 os len idx _ _ 6 c f3 f7 o _ (by decide)
  · refine ⟨k + 3, by omega, by omega, ?_⟩
    rw [if_neg (by decide), if_neg (by decide), if_neg (by decide), if_neg (by decide), if_neg (by decide), if_neg (by decide), if_pos rfl, Option.bind_some]
    rw [dec_step (k + 13) w w0 w1 os len idx _ _ _ 1 _ c f3 f7 o 0 0 0 _ 0 5 20 (by decide) (by decide) (by decide) rfl rfl rfl (by unfold wrap64; decide) (by decide) (by decide)]
    exact dec_end (k + 3) w w0 w1 os len idx _ _ 7 c f3 f7 o _ (by decide)
  · refine ⟨k + 4, by omega, by omega, ?_⟩
    rw [if_neg (by decide), if_neg (by decide), if_neg (by decide), if_neg (by decide), if_neg (by decide), if_neg (by decide), if_neg (by decide), Option.bind_some]
    exact dec_end (k + 4) w w0 w1 os len idx _ _ 8 c f3 f7 o _ (by decide)
  · refine ⟨k + 4, by omega, by omega, ?_⟩
    rw [if_neg (by decide), if_neg (by decide), if_neg (by decide), if_neg (by decide), if_neg (by decide), if_neg (by decide), if_neg (by decide), Option.bind_some]
    exact dec_end (k + 4) w w0 w1 os len idx _ _ 9 c f3 f7 o _ (by decide)
theorem se_f3 (F c f3 f7 d a b i : Int) (hF : 3 ≤ F ∧ F ≤ 8) : ∀ j, j < 3 → tb (SE F c f3 f7 d a b i) (12 + j) = tb f3 j := by
  intro j hj
  have h : F = 3 ∨ F = 4 ∨ F = 5 ∨ F = 6 ∨ F = 7 ∨ F = 8 := by omega
  have hj2 : j = 0 ∨ j = 1 ∨ j = 2 := by omega
  rcases h with rfl | rfl | rfl | rfl | rfl | rfl <;> rcases hj2 with rfl | rfl | rfl <;> simp [SE, tb_P1, WL, atB, atS]
theorem f3_of (F c f3 f7 d a b i w : Int) (w0 : 0 ≤ w) (w1 : w ≤ 4294967295) (hF : 3 ≤ F ∧ F ≤ 8) (h30 : 0 ≤ f3) (h31 : f3 ≤ 7) (h : SE F c f3 f7 d a b i = w) : f3 = w / 4096 % 8 := by
  have hs := se_f3 F c f3 f7 d a b i hF
  rw [h] at hs
  refine tb_ext (by omega) (by omega) (by omega) (by omega) fun j hj => ?_
  rw [show w / 4096 % 8 = w / 2 ^ 12 % 2 ^ 3 by rw [show (2 : Int) ^ 12 = 4096 by decide, show (2 : Int) ^ 3 = 8 by decide], tb_mod _ _ _ (by decide), tb_div_u w w0 (by omega)]
  by_cases c : j < 3
  · rw [← hs j c, Nat.add_comm j 12]
    simp [c]
  · rw [tb_top f3 3 h30 (by omega) (by decide) j (by omega)]
    simp [c]
theorem ishape_all : ∀ i ∈ List.range' 1 64, okO (impl_shapeOf.f (i : Int)) = true := by decide +kernel
theorem ishape_is (op : Nat) (h1 : 1 ≤ op) (h2 : op ≤ 64) : ∃ F c f3 f7, impl_shapeOf.f (op : Int) = some (F, c, f3, f7) ∧ okS F c f3 f7 = true := by
  have o := ishape_all op (by rw [List.mem_range'_1]; omega)
  match hx : impl_shapeOf.f (op : Int), o with
  | some (F, c, f3, f7), o => exact ⟨F, c, f3, f7, rfl, o⟩
theorem encode_i (K : Nat) (op d a b i : Int) (i0 : -9223372036854775808 ≤ i) (i1 : i ≤ 9223372036854775807) (F c f3 f7 : Int) (hi : impl_shapeOf.f op = some (F, c, f3, f7)) (ho : okS F c f3 f7 = true) (hr : rightB F d a b i = true) :
    impl_encode.f (K + 101) op d a b i = some (SE F c f3 f7 d a b i) := by
  unfold okS at ho
  have ho := of_decide_eq_true ho
  have hF : 1 ≤ F ∧ F ≤ 9 := ⟨ho.1, ho.2.1⟩
  have hr2 : (0 ≤ d ∧ d ≤ 31) ∧ (0 ≤ a ∧ a ≤ 31) ∧ (0 ≤ b ∧ b ≤ 31) ∧ immB F i = true := by
    unfold rightB inB at hr
    simp only [Bool.and_eq_true, decide_eq_true_eq] at hr
    exact ⟨hr.1.1.1.1.1.1, hr.1.1.1.1.1.2, hr.1.1.1.1.2, hr.2⟩
  have h6 : F = 6 → tb f7 0 = false := fun h => by
    rcases ho.2.2.2.2.2.2.2.2.1 h with e | e <;> rw [e] <;> rfl
  rw [impl_enc (K + 90) op F c f3 f7 d a b i hi hF i0 i1, enc_same F c f3 f7 d a b i hF (by omega) (by omega) (by omega) (by omega) (by omega) (by omega) hr2.1.1 hr2.1.2 hr2.2.1.1 hr2.2.1.2 hr2.2.2.1.1 hr2.2.2.1.2 i0 i1 h6]
theorem se_rng (F c f3 f7 d a b i : Int) : 0 ≤ SE F c f3 f7 d a b i ∧ SE F c f3 f7 d a b i ≤ 4294967295 := by
  have h : ∀ w v L C, 0 ≤ P1 w v L C ∧ P1 w v L C ≤ 4294967295 := fun w v L C => by have := P1_rng w v L C; omega
  unfold SE
  split
  · exact h _ _ _ _
  split
  · exact h _ _ _ _
  split
  · exact h _ _ _ _
  split
  · exact h _ _ _ _
  split
  · exact h _ _ _ _
  split
  · exact h _ _ _ _
  split
  · exact h _ _ _ _
  split
  · exact h _ _ _ _
  · exact h _ _ _ _
/-- One operation of the program's search. -/
theorem dec_one (w : Int) (w0 : 0 ≤ w) (w1 : w ≤ 4294967295) (op : Nat) (h1 : 1 ≤ op) (h2 : op ≤ 64) (F c f3 f7 : Int) (hi : impl_shapeOf.f (op : Int) = some (F, c, f3, f7)) (ho : okS F c f3 f7 = true) (k : Nat) :
    ∃ k2, k ≤ k2 ∧ impl_decode.l0 (k + 111) w impl_ops.tab 65 (op : Int) = if c = w % 128 ∧ SE F c f3 f7 (dT F w) (aT F w) (bT F w) (immT F w) = w then some ((op : Int), dT F w, aT F w, bT F w, immT F w, true) else impl_decode.l0 k2 w impl_ops.tab 65 ((op + 1 : Nat) : Int) := by
  have hw : wrap64 ((op : Int) + 1) = ((op + 1 : Nat) : Int) := by rw [w64_id (by omega) (by omega)]; omega
  have ho2 := ho
  unfold okS at ho2
  have ho2 := of_decide_eq_true ho2
  have hF : 1 ≤ F ∧ F ≤ 9 := ⟨ho2.1, ho2.2.1⟩
  have hR := taken_right F w hF
  have hI := immT_rng F w hF
  have hsh : (rd_T98 impl_ops.tab (op : Int)).f1.f0 = F ∧ (rd_T98 impl_ops.tab (op : Int)).f1.f1 = c ∧ (rd_T98 impl_ops.tab (op : Int)).f1.f2 = f3 ∧ (rd_T98 impl_ops.tab (op : Int)).f1.f3 = f7 := by
    have hi2 := hi
    unfold impl_shapeOf.f at hi2
    rw [ops_is, Option.bind_some, if_pos (by omega), if_pos (by rw [ops_len]; omega)] at hi2
    have hi3 := Option.some.inj hi2
    simp only [Prod.mk.injEq] at hi3
    exact hi3
  have b0 : impl_bitsOf.f w 0 7 = some (w % 128) := by
    have hb := bitsOf_is w 0 7 (by omega) (by omega) (by decide) (by decide)
    rw [show (2 : Int) ^ 0 = 1 by decide, show (2 : Int) ^ 7 = 128 by decide, Int.ediv_one] at hb
    exact hb
  rw [show k + 111 = k + 110 + 1 by omega, impl_decode.l0, if_pos (by omega), if_pos (by omega), if_pos (by rw [ops_len]; omega), if_neg (by omega), b0, Option.bind_some, hsh.1, hsh.2.1, hsh.2.2.1, hsh.2.2.2]
  by_cases c1 : c = w % 128
  · obtain ⟨k2, hk1, _, e⟩ := dec_try (k + 95) w w0 w1 impl_ops.tab 65 (op : Int) F c f3 f7 (op : Int) hF
    obtain ⟨k3, rfl⟩ : ∃ n, k2 = n + 95 := ⟨k2 - 95, by omega⟩
    refine ⟨k3 + 95 + 6, by omega, ?_⟩
    rw [show (c != w % 128) = false by simp [c1], show k + 110 = k + 95 + 15 by omega, e, encode_i k3 (op : Int) _ _ _ _ hI.1 hI.2 F c f3 f7 hi ho hR, Option.bind_some, hw]
    by_cases c2 : SE F c f3 f7 (dT F w) (aT F w) (bT F w) (immT F w) = w
    · rw [if_pos c2, if_pos ⟨c1, c2⟩]
    · rw [if_neg c2, if_neg (fun h => c2 h.2)]
  · refine ⟨k + 109, by omega, ?_⟩
    rw [show (c != w % 128) = true by simp [c1], show k + 110 = k + 109 + 1 by omega, impl_decode.j1, if_pos rfl, hw, if_neg (fun h => c1 h.1)]
/-- No operation ahead has this code and these bits. -/
def aheadB (c f3 : Int) (op : Nat) : Bool := (impl_shapeOf.f (op : Int)).any fun s => s.2.1 != c || (decide (3 ≤ s.1 ∧ s.1 ≤ 8) && s.2.2.1 != f3)
theorem dec_to (w : Int) (w0 : 0 ≤ w) (w1 : w ≤ 4294967295) (op : Nat) (h2 : op ≤ 64) (F c f3 f7 : Int) (hi : impl_shapeOf.f (op : Int) = some (F, c, f3, f7)) (ho : okS F c f3 f7 = true) (hc : c = w % 128) (hse : SE F c f3 f7 (dT F w) (aT F w) (bT F w) (immT F w) = w) :
    ∀ (m n : Nat), 1 ≤ n → n + m = op → (∀ j, n ≤ j → j < op → aheadB c (w / 4096 % 8) j = true) → ∃ k0, ∀ k, k0 ≤ k → impl_decode.l0 k w impl_ops.tab 65 (n : Int) = some ((op : Int), dT F w, aT F w, bT F w, immT F w, true) := by
  intro m
  induction m with
  | zero =>
    intro n h1 h _
    obtain rfl : n = op := by omega
    refine ⟨111, fun k hk => ?_⟩
    obtain ⟨k, rfl⟩ : ∃ z, k = z + 111 := ⟨k - 111, by omega⟩
    obtain ⟨k2, _, e⟩ := dec_one w w0 w1 n h1 h2 F c f3 f7 hi ho k
    rw [e, if_pos ⟨hc, hse⟩]
  | succ m ih =>
    intro n h1 h ha
    obtain ⟨k0, hk0⟩ := ih (n + 1) (by omega) (by omega) (fun j hj hj2 => ha j (by omega) hj2)
    obtain ⟨F', c', f3', f7', hi', ho'⟩ := ishape_is n h1 (by omega)
    have hb := ha n (Nat.le_refl _) (by omega)
    unfold aheadB at hb
    rw [hi'] at hb
    simp only [Option.any_some, Bool.or_eq_true, bne_iff_ne, Bool.and_eq_true, decide_eq_true_eq] at hb
    have ho2 := ho'
    unfold okS at ho2
    have ho2 := of_decide_eq_true ho2
    refine ⟨k0 + 111, fun k hk => ?_⟩
    obtain ⟨k, rfl⟩ : ∃ z, k = z + k0 + 111 := ⟨k - k0 - 111, by omega⟩
    obtain ⟨k2, h3, e⟩ := dec_one w w0 w1 n h1 (by omega) F' c' f3' f7' hi' ho' (k + k0)
    rw [e, if_neg ?_]
    · exact hk0 k2 (by omega)
    · intro hh
      rcases hb with hb | ⟨hb1, hb2⟩
      · exact hb (hh.1.trans hc.symm)
      · exact hb2 (f3_of F' c' f3' f7' _ _ _ _ w w0 w1 hb1 ho2.2.2.2.2.1 ho2.2.2.2.2.2.1 hh.2)
theorem fl_eq (w x : Int) (L C : Nat) (w0 : 0 ≤ w) (w1 : w ≤ 4294967295) (x0 : 0 ≤ x) (x1 : x < 2 ^ C) (hC : C ≤ 32) (h : ∀ j, j < C → tb w (L + j) = tb x j) : fl w L C = x := by
  have r := fl_rng w L C
  have hp := ipow_le C 32 hC
  rw [show (2 : Int) ^ 32 = 4294967296 by decide] at hp
  refine tb_ext (by omega) (by omega) (by omega) (by omega) fun j _ => ?_
  unfold fl
  rw [tb_mod _ _ _ (by omega), tb_div_u w w0 (by omega), Nat.add_comm j L]
  by_cases c : j < C
  · rw [h j c]
    simp [c]
  · rw [tb_top x C x0 x1 (by omega) j (by omega)]
    simp [c]
theorem emod_tb (x : Int) (C j : Nat) (hC : C ≤ 64) (hj : j < C) : tb (x % 2 ^ C) j = tb x j := by
  rw [tb_mod _ _ _ hC]
  simp [hj]
theorem code_of (F c f3 f7 d a b i : Int) (hF : F = 1 ∨ F = 3 ∨ F = 5) (c0 : 0 ≤ c) (c1 : c ≤ 127) : c = SE F c f3 f7 d a b i % 128 := by
  have r := se_rng F c f3 f7 d a b i
  have h := fl_eq (SE F c f3 f7 d a b i) c 0 7 r.1 r.2 c0 (by rw [show (2 : Int) ^ 7 = 128 by decide]; omega) (by decide) (fun j hj => by
    have : j = 0 ∨ j = 1 ∨ j = 2 ∨ j = 3 ∨ j = 4 ∨ j = 5 ∨ j = 6 := by omega
    rcases hF with rfl | rfl | rfl <;> rcases this with rfl | rfl | rfl | rfl | rfl | rfl | rfl <;> simp [SE, tb_P1, WL, atS])
  unfold fl at h
  rw [show (2 : Int) ^ 0 = 1 by decide, show (2 : Int) ^ 7 = 128 by decide, Int.ediv_one] at h
  exact h.symm
theorem f3_back (F c f3 f7 d a b i : Int) (hF : F = 3 ∨ F = 5) (h30 : 0 ≤ f3) (h31 : f3 ≤ 7) : SE F c f3 f7 d a b i / 4096 % 8 = f3 := by
  have r := se_rng F c f3 f7 d a b i
  exact (f3_of F c f3 f7 d a b i _ r.1 r.2 (by omega) h30 h31 rfl).symm
theorem reg_back (F c f3 f7 d a b i x : Int) (L : Nat) (x0 : 0 ≤ x) (x1 : x ≤ 31) (h : ∀ j, j < 5 → tb (SE F c f3 f7 d a b i) (L + j) = tb x j) : fl (SE F c f3 f7 d a b i) L 5 = x := by
  have r := se_rng F c f3 f7 d a b i
  exact fl_eq _ x L 5 r.1 r.2 x0 (by rw [show (2 : Int) ^ 5 = 32 by decide]; omega) (by decide) h
theorem five (j : Nat) (h : j < 5) : j = 0 ∨ j = 1 ∨ j = 2 ∨ j = 3 ∨ j = 4 := by omega
/-- What was laid is taken: instructions with an upper number. -/
theorem back1 (c d i : Int) (d0 : 0 ≤ d) (d1 : d ≤ 31) (i0 : -2147483648 ≤ i) (i1 : i ≤ 2147479552) (i2 : i % 4096 = 0) :
    dT 1 (SE 1 c 0 0 d 0 0 i) = d ∧ aT 1 (SE 1 c 0 0 d 0 0 i) = 0 ∧ bT 1 (SE 1 c 0 0 d 0 0 i) = 0 ∧ immT 1 (SE 1 c 0 0 d 0 0 i) = i := by
  have r := se_rng 1 c 0 0 d 0 0 i
  refine ⟨?_, rfl, rfl, ?_⟩
  · exact reg_back 1 c 0 0 d 0 0 i d 7 d0 d1 fun j hj => by rcases five j hj with rfl | rfl | rfl | rfl | rfl <;> simp [SE, tb_P1]
  · have h := fl_eq (SE 1 c 0 0 d 0 0 i) (i / 4096 % 2 ^ 20) 12 20 r.1 r.2 (Int.emod_nonneg _ (by decide)) (Int.emod_lt_of_pos _ (by decide)) (by decide) (fun j hj => by
      rw [emod_tb _ _ _ (by decide) hj]
      show tb (P1 (P1 c d 7 5) (i / 4096) 12 20) (12 + j) = _
      rw [tb_P1, if_pos (by omega), Nat.add_sub_cancel_left]
      simp
      omega)
    show smod (fl _ 12 20) 20 * 4096 = i
    rw [h, smod20, show (2 : Int) ^ 20 = 1048576 by decide]
    omega
theorem back3 (c f3 d a i : Int) (d0 : 0 ≤ d) (d1 : d ≤ 31) (a0 : 0 ≤ a) (a1 : a ≤ 31) (i0 : -2048 ≤ i) (i1 : i ≤ 2047) :
    dT 3 (SE 3 c f3 0 d a 0 i) = d ∧ aT 3 (SE 3 c f3 0 d a 0 i) = a ∧ bT 3 (SE 3 c f3 0 d a 0 i) = 0 ∧ immT 3 (SE 3 c f3 0 d a 0 i) = i := by
  have r := se_rng 3 c f3 0 d a 0 i
  refine ⟨?_, ?_, rfl, ?_⟩
  · exact reg_back 3 c f3 0 d a 0 i d 7 d0 d1 fun j hj => by rcases five j hj with rfl | rfl | rfl | rfl | rfl <;> simp [SE, tb_P1]
  · exact reg_back 3 c f3 0 d a 0 i a 15 a0 a1 fun j hj => by rcases five j hj with rfl | rfl | rfl | rfl | rfl <;> simp [SE, tb_P1]
  · have h := fl_eq (SE 3 c f3 0 d a 0 i) (i % 2 ^ 12) 20 12 r.1 r.2 (Int.emod_nonneg _ (by decide)) (Int.emod_lt_of_pos _ (by decide)) (by decide) (fun j hj => by
      rw [emod_tb _ _ _ (by decide) hj]
      show tb (P1 (P1 (P1 (P1 c d 7 5) f3 12 3) a 15 5) i 20 12) (20 + j) = _
      rw [tb_P1, if_pos (by omega), Nat.add_sub_cancel_left]
      simp
      omega)
    show smod (fl _ 20 12) 12 = i
    rw [h, smod12, show (2 : Int) ^ 12 = 4096 by decide]
    omega
theorem back5 (c f3 a b i : Int) (a0 : 0 ≤ a) (a1 : a ≤ 31) (b0 : 0 ≤ b) (b1 : b ≤ 31) (i0 : -2048 ≤ i) (i1 : i ≤ 2047) :
    dT 5 (SE 5 c f3 0 0 a b i) = 0 ∧ aT 5 (SE 5 c f3 0 0 a b i) = a ∧ bT 5 (SE 5 c f3 0 0 a b i) = b ∧ immT 5 (SE 5 c f3 0 0 a b i) = i := by
  have r := se_rng 5 c f3 0 0 a b i
  refine ⟨rfl, ?_, ?_, ?_⟩
  · exact reg_back 5 c f3 0 0 a b i a 15 a0 a1 fun j hj => by rcases five j hj with rfl | rfl | rfl | rfl | rfl <;> simp [SE, tb_P1, WL, atS]
  · exact reg_back 5 c f3 0 0 a b i b 20 b0 b1 fun j hj => by rcases five j hj with rfl | rfl | rfl | rfl | rfl <;> simp [SE, tb_P1, WL, atS]
  · have h := fl_eq (SE 5 c f3 0 0 a b i) (i % 2 ^ 5) 7 5 r.1 r.2 (Int.emod_nonneg _ (by decide)) (Int.emod_lt_of_pos _ (by decide)) (by decide) (fun j hj => by
      rw [emod_tb _ _ _ (by decide) hj]
      rcases five j hj with rfl | rfl | rfl | rfl | rfl <;> simp [SE, tb_P1, WL, atS])
    have h2 := fl_eq (SE 5 c f3 0 0 a b i) (i / 2 ^ 5 % 2 ^ 7) 25 7 r.1 r.2 (Int.emod_nonneg _ (by decide)) (Int.emod_lt_of_pos _ (by decide)) (by decide) (fun j hj => by
      rw [emod_tb _ _ _ (by decide) hj, tb_div_s i (by omega) (by omega) _ _ (by omega)]
      have : j = 0 ∨ j = 1 ∨ j = 2 ∨ j = 3 ∨ j = 4 ∨ j = 5 ∨ j = 6 := by omega
      rcases this with rfl | rfl | rfl | rfl | rfl | rfl | rfl <;> simp [SE, tb_P1, WL, atS, tb_bv0])
    show smod (fl _ 7 5 + fl _ 25 7 * 32) 12 = i
    rw [h, h2, smod12, show (2 : Int) ^ 5 = 32 by decide, show (2 : Int) ^ 7 = 128 by decide]
    omega
theorem decode_back (op : Nat) (h1 : 1 ≤ op) (h2 : op ≤ 64) (F c f3 f7 d a b i : Int) (hF : F = 1 ∨ F = 3 ∨ F = 5) (hi : impl_shapeOf.f (op : Int) = some (F, c, f3, f7)) (ho : okS F c f3 f7 = true)
    (hb : dT F (SE F c f3 f7 d a b i) = d ∧ aT F (SE F c f3 f7 d a b i) = a ∧ bT F (SE F c f3 f7 d a b i) = b ∧ immT F (SE F c f3 f7 d a b i) = i) (ha : ∀ j, 1 ≤ j → j < op → aheadB c (SE F c f3 f7 d a b i / 4096 % 8) j = true) :
    ∃ k0, ∀ k, k0 ≤ k → impl_decode.f k (SE F c f3 f7 d a b i) = some ((op : Int), d, a, b, i, true) := by
  have r := se_rng F c f3 f7 d a b i
  have ho2 := ho
  unfold okS at ho2
  have ho2 := of_decide_eq_true ho2
  have hc := code_of F c f3 f7 d a b i hF ho2.2.2.1 ho2.2.2.2.1
  have hs : SE F c f3 f7 (dT F (SE F c f3 f7 d a b i)) (aT F (SE F c f3 f7 d a b i)) (bT F (SE F c f3 f7 d a b i)) (immT F (SE F c f3 f7 d a b i)) = SE F c f3 f7 d a b i := by
    rw [hb.1, hb.2.1, hb.2.2.1, hb.2.2.2]
  obtain ⟨k0, h⟩ := dec_to (SE F c f3 f7 d a b i) r.1 r.2 op h2 F c f3 f7 hi ho hc hs (op - 1) 1 (by decide) (by omega) ha
  rw [hb.1, hb.2.1, hb.2.2.1, hb.2.2.2] at h
  refine ⟨k0 + 2, fun k hk => ?_⟩
  obtain ⟨k, rfl⟩ : ∃ n, k = n + k0 + 1 + 1 := ⟨k - k0 - 2, by omega⟩
  have h3 := h (k + k0) (by omega)
  unfold impl_decode.f
  rw [ops_is, Option.bind_some, show ((impl_ops.tab.length : Nat) : Int) = 65 by rw [ops_len]; rfl, impl_decode.l0, if_pos (by decide), if_pos (by decide), if_pos (by rw [ops_len]; decide), if_pos rfl, impl_decode.j1, if_pos rfl, show wrap64 (0 + 1) = ((1 : Nat) : Int) by unfold wrap64; decide]
  exact h3

theorem andNot4095 (x : Int) (h0 : -9223372036854775808 ≤ x) (h1 : x ≤ 9223372036854775807) : Go.bits .andNot .i64 x 4095 = x - x % 4096 := by
  have hr := bits_rng .andNot x 4095
  have e : x - x % 4096 = (x / 2 ^ 12) * 2 ^ 12 := by
    rw [show (2 : Int) ^ 12 = 4096 by decide]
    omega
  have e2 : (4095 : Int) = 2 ^ 12 - 1 := by decide
  refine tb_ext hr.1 hr.2 (by omega) (by omega) fun i hi => ?_
  rw [tb_andNot _ _ _ hi, e, tb_mul _ _ _ hi, e2, tb_pow1 _ _ (by omega)]
  by_cases c : 12 ≤ i
  · rw [tb_div_s x h0 h1 _ _ (by omega)]
    simp [c, show ¬ i < 12 by omega, show min i 63 = i by omega]
  · simp [c, show i < 12 by omega]
theorem upper_is (v : Int) (h0 : -9223372036854770000 ≤ v) (h1 : v ≤ 9223372036854770000) : impl_upper.f v = some (v + 2048 - (v + 2048) % 4096) := by
  unfold impl_upper.f
  rw [w64_id (n := v + 2048) (by omega) (by omega), andNot4095 _ (by omega) (by omega)]
theorem lower_is (v : Int) (h0 : -9223372036854770000 ≤ v) (h1 : v ≤ 9223372036854770000) : impl_lower.f v = some ((v + 2048) % 4096 - 2048) := by
  unfold impl_lower.f
  rw [upper_is v h0 h1]
  simp only [Option.bind_some]
  rw [w64_id (by omega) (by omega)]
  congr 1
  omega
theorem encode_f (K : Nat) (op d a b i : Int) (h1 : 1 ≤ op) (h2 : op ≤ 64) (i0 : -9223372036854775808 ≤ i) (i1 : i ≤ 9223372036854775807) (F c f3 f7 : Int) (hi : impl_shapeOf.f op = some (F, c, f3, f7)) (ho : okS F c f3 f7 = true) (hr : rightB F d a b i = true) :
    impl_Encode.f (K + 101) op d a b i = some (SE F c f3 f7 d a b i, 0) := by
  have ho2 := ho
  unfold okS at ho2
  have ho2 := of_decide_eq_true ho2
  unfold impl_Encode.f
  rw [iright_is (K + 98) op F c f3 f7 d a b i h1 h2 hi ⟨ho2.1, ho2.2.1⟩, Option.bind_some, hr, if_pos rfl, encode_i K op d a b i i0 i1 F c f3 f7 hi ho hr, Option.bind_some]
theorem word_t (w : Int) (h0 : 0 ≤ w) (h1 : w ≤ 4294967295) : impl_isWord.f w = some true := by
  unfold impl_isWord.f
  simp [win_is, h0, h1]
theorem value_t (v : Int) (h0 : -4294967296 ≤ v) (h1 : v ≤ 4294967296) : impl_isValue.f v = some true := by
  unfold impl_isValue.f
  simp [win_is, h0, h1]
theorem code_t (p : Int) (h0 : 0 ≤ p) (h1 : p ≤ 1048575) (h2 : p % 4 = 0) : impl_isCodeAt.f p = some true := by
  unfold impl_isCodeAt.f
  rw [win_is, Option.bind_some, decide_eq_true h0, decide_eq_true h1, if_pos (show (true && true) = true from rfl), Int.tmod_eq_zero_of_dvd (Int.dvd_of_emod_eq_zero h2)]
  rfl
theorem apply_t (w kind v p op d a b i im F c f3 f7 : Int) (w0 : 0 ≤ w) (w1 : w ≤ 4294967295) (hk : 1 ≤ kind ∧ kind ≤ 8) (hv : -4294967296 ≤ v ∧ v ≤ 4294967296) (hp : 0 ≤ p ∧ p ≤ 1048575 ∧ p % 4 = 0)
    (hd : ∃ k0, ∀ k, k0 ≤ k → impl_decode.f k w = some (op, d, a, b, i, true)) (ha : impl_applied.f op d a b i kind v p = some (im, true)) (hi : impl_shapeOf.f op = some (F, c, f3, f7)) (ho : okS F c f3 f7 = true) (hm : immB F im = true) (hr : rightB F d a b im = true) (i0 : -9223372036854775808 ≤ im) (i1 : im ≤ 9223372036854775807) :
    ∃ k0, ∀ k, k0 ≤ k → impl_ApplyReloc.f k w kind v p = some (SE F c f3 f7 d a b im, 0) := by
  obtain ⟨k0, hd⟩ := hd
  have ho2 := ho
  unfold okS at ho2
  have ho2 := of_decide_eq_true ho2
  refine ⟨k0 + 101, fun k hk2 => ?_⟩
  obtain ⟨k, rfl⟩ : ∃ n, k = n + 101 := ⟨k - 101, by omega⟩
  unfold impl_ApplyReloc.f impl_relocate.f
  rw [word_t w w0 w1, Option.bind_some, if_pos rfl, win_is, Option.bind_some, decide_eq_true hk.1, decide_eq_true hk.2, if_pos (show (true && true) = true from rfl), value_t v hv.1 hv.2, Option.bind_some, if_pos rfl, code_t p hp.1 hp.2.1 hp.2.2, Option.bind_some, if_pos rfl, hd (k + 101) (by omega), Option.bind_some]
  dsimp only
  rw [if_pos rfl, ha, Option.bind_some]
  dsimp only
  rw [if_pos rfl, hi, Option.bind_some]
  dsimp only
  rw [immOK_is (k + 100) F im ⟨ho2.1, ho2.2.1⟩, Option.bind_some, hm, if_pos rfl, encode_i k op d a b im i0 i1 F c f3 f7 hi ho hr]
  rfl
theorem apply_n (w kind v p op d a b i im : Int) (w0 : 0 ≤ w) (w1 : w ≤ 4294967295) (hk : 1 ≤ kind ∧ kind ≤ 8) (hv : -4294967296 ≤ v ∧ v ≤ 4294967296) (hp : 0 ≤ p ∧ p ≤ 1048575 ∧ p % 4 = 0)
    (hd : ∃ k0, ∀ k, k0 ≤ k → impl_decode.f k w = some (op, d, a, b, i, true)) (ha : impl_applied.f op d a b i kind v p = some (im, false)) :
    ∃ k0, ∀ k, k0 ≤ k → impl_ApplyReloc.f k w kind v p = some (0, 26) := by
  obtain ⟨k0, hd⟩ := hd
  refine ⟨k0, fun k hk2 => ?_⟩
  unfold impl_ApplyReloc.f impl_relocate.f
  rw [word_t w w0 w1, Option.bind_some, if_pos rfl, win_is, Option.bind_some, decide_eq_true hk.1, decide_eq_true hk.2, if_pos (show (true && true) = true from rfl), value_t v hv.1 hv.2, Option.bind_some, if_pos rfl, code_t p hp.1 hp.2.1 hp.2.2, Option.bind_some, if_pos rfl, hd k hk2, Option.bind_some]
  dsimp only
  rw [if_pos rfl, ha, Option.bind_some]
  dsimp only
  rw [if_neg (by decide)]
  rfl
theorem right1 (d i : Int) (d0 : 0 ≤ d) (d1 : d ≤ 31) : rightB 1 d 0 0 i = immB 1 i := by
  unfold rightB
  rw [inB_t d 0 31 d0 d1]
  simp [inB, dB, aB, bB]
theorem right3 (d a i : Int) (d0 : 0 ≤ d) (d1 : d ≤ 31) (a0 : 0 ≤ a) (a1 : a ≤ 31) : rightB 3 d a 0 i = immB 3 i := by
  unfold rightB
  rw [inB_t d 0 31 d0 d1, inB_t a 0 31 a0 a1]
  simp [inB, dB, aB, bB]
theorem right5 (a b i : Int) (a0 : 0 ≤ a) (a1 : a ≤ 31) (b0 : 0 ≤ b) (b1 : b ≤ 31) : rightB 5 0 a b i = immB 5 i := by
  unfold rightB
  rw [inB_t a 0 31 a0 a1, inB_t b 0 31 b0 b1]
  simp [inB, dB, aB, bB]
theorem imm1_t (i : Int) (i0 : -2147483648 ≤ i) (i1 : i ≤ 2147479552) (i2 : i % 4096 = 0) : immB 1 i = true := by
  show (inB i (-2147483648) 2147479552 && (Int.tmod i 4096 == 0)) = true
  rw [inB_t _ _ _ i0 i1, Int.tmod_eq_zero_of_dvd (Int.dvd_of_emod_eq_zero i2)]
  rfl
theorem imm35_t (F i : Int) (hF : F = 3 ∨ F = 5) (i0 : -2048 ≤ i) (i1 : i ≤ 2047) : immB F i = true := by
  rcases hF with rfl | rfl <;> exact inB_t _ _ _ i0 i1
theorem pair_sum (up low x : Int) (k : Nat) (op1 r op2 d2 b2 p : Int) (h1 : op1 = 1 ∨ op1 = 2) (hls : impl_isLow.f op2 d2 r b2 low = some true ∨ (impl_isLow.f op2 d2 r b2 low = some false ∧ impl_isStore.f op2 = some true)) (x0 : -9223372036854775808 ≤ x) (x1 : x ≤ 9223372036854775807)
    (hx : if op1 = 2 then wrap64 (wrap64 (up + low) + p) = x else wrap64 (up + low) = x) : impl_PairAddress.j1 (k + 2) p false op1 r 0 0 up op2 d2 r b2 low = some (x, 0) := by
  have h2 : impl_PairAddress.j2 (k + 1) p (r != r) op1 r 0 0 up op2 d2 r b2 low = some (x, 0) := by
    rw [impl_PairAddress.j2, if_neg (by simp)]
    by_cases c : op1 = 2
    · rw [if_pos c] at hx ⊢
      rw [hx]
    · rw [if_neg c] at hx ⊢
      rw [hx]
  rw [impl_PairAddress.j1, if_neg (by decide)]
  rcases h1 with rfl | rfl
  · rw [if_pos rfl]
    rcases hls with h | ⟨h, h'⟩
    · rw [h, Option.bind_some, if_pos rfl]
      exact h2
    · rw [h, Option.bind_some, if_neg (by decide), h', Option.bind_some, if_pos rfl]
      exact h2
  · rw [if_neg (by decide), if_pos rfl]
    rcases hls with h | ⟨h, h'⟩
    · rw [h, Option.bind_some, if_pos rfl]
      exact h2
    · rw [h, Option.bind_some, if_neg (by decide), h', Option.bind_some, if_pos rfl]
      exact h2
theorem pair_j2 (v p r : Int) (hv : -1000000000 ≤ v ∧ v ≤ 1000000000) (hp : 4096 ≤ p ∧ p ≤ 5000 ∧ p % 4 = 0) (hr : 1 ≤ r ∧ r ≤ 31) (ks : List Int) (kh kk : Int) (hks : 0 < ks.length) (hk0 : rd ks 0 = kh) (hkh : 1 ≤ kh ∧ kh ≤ 8) (hkk : 1 ≤ kk ∧ kk ≤ 8)
    (op1 op2 : Nat) (h1 : op1 = 1 ∨ op1 = 2) (h21 : 1 ≤ op2) (h22 : op2 ≤ 64) (c1 F2 c2 f32 d2 b2 up low im : Int) (hs1 : impl_shapeOf.f (op1 : Int) = some (1, c1, 0, 0)) (ho1 : okS 1 c1 0 0 = true) (hs2 : impl_shapeOf.f (op2 : Int) = some (F2, c2, f32, 0)) (ho2 : okS F2 c2 f32 0 = true) (hF2 : F2 = 3 ∨ F2 = 5)
    (hbk : ∀ i, -2048 ≤ i → i ≤ 2047 → dT F2 (SE F2 c2 f32 0 d2 r b2 i) = d2 ∧ aT F2 (SE F2 c2 f32 0 d2 r b2 i) = r ∧ bT F2 (SE F2 c2 f32 0 d2 r b2 i) = b2 ∧ immT F2 (SE F2 c2 f32 0 d2 r b2 i) = i) (hrr : ∀ i, -2048 ≤ i → i ≤ 2047 → rightB F2 d2 r b2 i = true)
    (ha1 : ∀ x j, 1 ≤ j → j < op1 → aheadB c1 x j = true) (ha2 : ∀ j, 1 ≤ j → j < op2 → aheadB c2 f32 j = true)
    (apA : impl_applied.f (op1 : Int) r 0 0 0 kh v p = some (up, true)) (apB : impl_applied.f (op2 : Int) d2 r b2 0 kk v (p + 4) = some (low, true)) (apC : impl_applied.f (op1 : Int) r 0 0 0 kk v p = some (im, false))
    (u0 : -2147483648 ≤ up) (u1 : up ≤ 2147479552) (u2 : up % 4096 = 0) (l0 : -2048 ≤ low) (l1 : low ≤ 2047) (hls : impl_isLow.f (op2 : Int) d2 r b2 low = some true ∨ (impl_isLow.f (op2 : Int) d2 r b2 low = some false ∧ impl_isStore.f (op2 : Int) = some true))
    (hx : if (op1 : Int) = 2 then wrap64 (wrap64 (up + low) + p) = v else wrap64 (up + low) = v) :
    ∃ k0, ∀ k, k0 ≤ k → laws_FnPair.j2 (k + 1) v p r ks kk (op1 : Int) r 0 0 0 (op2 : Int) d2 r b2 0 = some true := by
  have hf31 : 0 ≤ f32 ∧ f32 ≤ 7 := by unfold okS at ho2; have := of_decide_eq_true ho2; omega
  have d1 := decode_back op1 (by omega) (by omega) 1 c1 0 0 r 0 0 0 (by decide) hs1 ho1 (back1 c1 r 0 (by omega) (by omega) (by decide) (by decide) (by decide)) (fun j hj hj2 => ha1 _ j hj hj2)
  have d2' := decode_back op1 (by omega) (by omega) 1 c1 0 0 r 0 0 up (by decide) hs1 ho1 (back1 c1 r up (by omega) (by omega) u0 u1 u2) (fun j hj hj2 => ha1 _ j hj hj2)
  have f3 := fun i => f3_back F2 c2 f32 0 d2 r b2 i hF2 hf31.1 hf31.2
  have d3 := decode_back op2 h21 h22 F2 c2 f32 0 d2 r b2 0 (by omega) hs2 ho2 (hbk 0 (by decide) (by decide)) (fun j hj hj2 => by rw [f3]; exact ha2 j hj hj2)
  have d4 := decode_back op2 h21 h22 F2 c2 f32 0 d2 r b2 low (by omega) hs2 ho2 (hbk low l0 l1) (fun j hj hj2 => by rw [f3]; exact ha2 j hj hj2)
  have s1 := se_rng 1 c1 0 0 r 0 0 0
  have s2 := se_rng F2 c2 f32 0 d2 r b2 0
  have s3 := se_rng 1 c1 0 0 r 0 0 up
  have s4 := se_rng F2 c2 f32 0 d2 r b2 low
  have r1 : rightB 1 r 0 0 0 = true := by rw [right1 r 0 (by omega) (by omega)]; exact imm1_t 0 (by decide) (by decide) (by decide)
  have r2 : rightB 1 r 0 0 up = true := by rw [right1 r up (by omega) (by omega)]; exact imm1_t up u0 u1 u2
  obtain ⟨ka, e3⟩ := apply_t _ kh v p (op1 : Int) r 0 0 0 up 1 c1 0 0 s1.1 s1.2 hkh (by omega) (by omega) d1 apA hs1 ho1 (imm1_t up u0 u1 u2) r2 (by omega) (by omega)
  obtain ⟨kb, e4⟩ := apply_t _ kk v (p + 4) (op2 : Int) d2 r b2 0 low F2 c2 f32 0 s2.1 s2.2 hkk (by omega) (by omega) d3 apB hs2 ho2 (imm35_t F2 low hF2 l0 l1) (hrr low l0 l1) (by omega) (by omega)
  obtain ⟨kc, e5⟩ := apply_n _ kk v p (op1 : Int) r 0 0 0 im s1.1 s1.2 hkk (by omega) (by omega) d1 apC
  obtain ⟨kd, d2'⟩ := d2'
  obtain ⟨ke, d4⟩ := d4
  refine ⟨ka + kb + kc + kd + ke + 200, fun k hk => ?_⟩
  obtain ⟨K, rfl⟩ : ∃ n, k = n + 101 := ⟨k - 101, by omega⟩
  have e6 : impl_PairAddress.f (K + 101) (SE 1 c1 0 0 r 0 0 up) (SE F2 c2 f32 0 d2 r b2 low) p = some (v, 0) := by
    unfold impl_PairAddress.f
    rw [word_t _ s3.1 s3.2, Option.bind_some, if_pos rfl, word_t _ s4.1 s4.2, Option.bind_some, if_pos rfl, code_t p (by omega) (by omega) (by omega), Option.bind_some, impl_PairAddress.j0, if_neg (by decide), d2' (K + 100) (by omega), Option.bind_some, d4 (K + 100) (by omega), Option.bind_some]
    dsimp only
    rw [if_pos rfl]
    exact pair_sum up low v (K + 98) (op1 : Int) r (op2 : Int) d2 b2 p (by omega) hls (by omega) (by omega) hx
  have e7 : impl_Decode.f (K + 101) (SE 1 c1 0 0 r 0 0 up) = some ((op1 : Int), r, 0, 0, up, 0) := by
    unfold impl_Decode.f
    rw [word_t _ s3.1 s3.2, Option.bind_some, if_pos rfl, d2' (K + 101) (by omega), Option.bind_some]
    dsimp only
    rw [if_pos rfl]
  rw [laws_FnPair.j2, encode_f K (op1 : Int) r 0 0 0 (by omega) (by omega) (by decide) (by decide) 1 c1 0 0 hs1 ho1 r1, Option.bind_some, encode_f K (op2 : Int) d2 r b2 0 (by omega) (by omega) (by decide) (by decide) F2 c2 f32 0 hs2 ho2 (hrr 0 (by decide) (by decide)), Option.bind_some, if_pos (by omega), hk0]
  dsimp only
  rw [e3 (K + 101) (by omega), Option.bind_some, w64_id (n := p + 4) (by omega) (by omega), e4 (K + 101) (by omega), Option.bind_some]
  dsimp only
  rw [e6, Option.bind_some, e5 (K + 101) (by omega), Option.bind_some, e7, Option.bind_some]
  simp

theorem ahead1 : ∀ x j, 1 ≤ j → j < 1 → aheadB 55 x j = true := fun x j h1 h2 => by omega
theorem ahead2 : ∀ x j, 1 ≤ j → j < 2 → aheadB 23 x j = true := fun x j h1 h2 => by
  obtain rfl : j = 1 := by omega
  have e : impl_shapeOf.f ((1 : Nat) : Int) = some (1, 55, 0, 0) := by decide +kernel
  unfold aheadB
  rw [e]
  rfl
theorem ahead14' : ∀ j ∈ List.range' 1 13, aheadB 3 3 j = true := by decide +kernel
theorem ahead20' : ∀ j ∈ List.range' 1 19, aheadB 35 2 j = true := by decide +kernel
theorem ahead14 : ∀ j, 1 ≤ j → j < 14 → aheadB 3 3 j = true := fun j h1 h2 => ahead14' j (by rw [List.mem_range'_1]; omega)
theorem ahead20 : ∀ j, 1 ≤ j → j < 20 → aheadB 35 2 j = true := fun j h1 h2 => ahead20' j (by rw [List.mem_range'_1]; omega)
theorem low14 (d a b i : Int) : impl_isLow.f ((14 : Nat) : Int) d a b i = some true := by
  have e : impl_shapeOf.f ((14 : Nat) : Int) = some (3, 3, 3, 0) := by decide +kernel
  unfold impl_isLow.f
  rw [e]
  rfl
theorem low20 (d a b i : Int) : impl_isLow.f ((20 : Nat) : Int) d a b i = some false := by
  have e : impl_shapeOf.f ((20 : Nat) : Int) = some (5, 35, 2, 0) := by decide +kernel
  unfold impl_isLow.f
  rw [e]
  rfl
theorem low12 (op : Nat) (h : op = 1 ∨ op = 2) (d a b i : Int) : impl_isLow.f (op : Int) d a b i = some false := by
  have e1 : impl_shapeOf.f ((1 : Nat) : Int) = some (1, 55, 0, 0) := by decide +kernel
  have e2 : impl_shapeOf.f ((2 : Nat) : Int) = some (1, 23, 0, 0) := by decide +kernel
  unfold impl_isLow.f
  rcases h with rfl | rfl
  · rw [e1]; rfl
  · rw [e2]; rfl
/-- All four pairs. -/
theorem pair_all (v p r q : Int) (hv : -1000000000 ≤ v ∧ v ≤ 1000000000) (hp : 4096 ≤ p ∧ p ≤ 5000 ∧ p % 4 = 0) (hr : 1 ≤ r ∧ r ≤ 31) (hq : 0 ≤ q ∧ q ≤ 31) (z st : Bool) :
    ∃ k0, ∀ k, k0 ≤ k → laws_FnPair.j2 (k + 1) v p r (if z = true then [4, 5, 6] else [1, 2, 3]) (if z = true then (if st = true then 6 else 5) else (if st = true then 3 else 2)) (if z = true then 2 else 1) r 0 0 0 (if st = true then 20 else 14) (if st = true then 0 else q) r (if st = true then q else 0) 0 = some true := by
  have s1 : impl_shapeOf.f ((1 : Nat) : Int) = some (1, 55, 0, 0) := by decide +kernel
  have s2 : impl_shapeOf.f ((2 : Nat) : Int) = some (1, 23, 0, 0) := by decide +kernel
  have s14 : impl_shapeOf.f ((14 : Nat) : Int) = some (3, 3, 3, 0) := by decide +kernel
  have s20 : impl_shapeOf.f ((20 : Nat) : Int) = some (5, 35, 2, 0) := by decide +kernel
  have up1 := upper_is v (by omega) (by omega)
  have lo1 := lower_is v (by omega) (by omega)
  have up2 := upper_is (v - p) (by omega) (by omega)
  have lo2 := lower_is (v - p) (by omega) (by omega)
  have w1 : wrap64 (v - p) = v - p := w64_id (by omega) (by omega)
  have w2 : wrap64 (v - wrap64 (p + 4 - 4)) = v - p := by rw [w64_id (n := p + 4 - 4) (by omega) (by omega), show p + 4 - 4 = p by omega, w1]
  have w3 : ∃ x, wrap64 (v - wrap64 (p - 4)) = x ∧ -2000000000 ≤ x ∧ x ≤ 2000000000 := ⟨v - (p - 4), by rw [w64_id (n := p - 4) (by omega) (by omega), w64_id (by omega) (by omega)], by omega, by omega⟩
  obtain ⟨x3, w3, x30, x31⟩ := w3
  have lo3 := lower_is x3 (by omega) (by omega)
  have b3 := fun i h0 h1 => back3 3 3 q r i hq.1 hq.2 (by omega) (by omega) h0 h1
  have b5 := fun i h0 h1 => back5 35 2 r q i (by omega) (by omega) hq.1 hq.2 h0 h1
  have g3 : ∀ i, -2048 ≤ i → i ≤ 2047 → rightB 3 q r 0 i = true := fun i h0 h1 => by rw [right3 q r i hq.1 hq.2 (by omega) (by omega)]; exact imm35_t 3 i (.inl rfl) h0 h1
  have g5 : ∀ i, -2048 ≤ i → i ≤ 2047 → rightB 5 0 r q i = true := fun i h0 h1 => by rw [right5 r q i (by omega) (by omega) hq.1 hq.2]; exact imm35_t 5 i (.inr rfl) h0 h1
  have st1 : impl_isStore.f ((1 : Nat) : Int) = some false := by decide +kernel
  have st2 : impl_isStore.f ((2 : Nat) : Int) = some false := by decide +kernel
  have st20 : impl_isStore.f ((20 : Nat) : Int) = some true := by decide +kernel
  have sum1 : wrap64 ((v + 2048 - (v + 2048) % 4096) + ((v + 2048) % 4096 - 2048)) = v := by rw [w64_id (by omega) (by omega)]; omega
  have sum2 : wrap64 (wrap64 ((v - p + 2048 - (v - p + 2048) % 4096) + ((v - p + 2048) % 4096 - 2048)) + p) = v := by rw [w64_id (n := (v - p + 2048 - (v - p + 2048) % 4096) + ((v - p + 2048) % 4096 - 2048)) (by omega) (by omega), w64_id (by omega) (by omega)]; omega
  have a11 : impl_applied.f ((1 : Nat) : Int) r 0 0 0 1 v p = some (v + 2048 - (v + 2048) % 4096, true) := by
    unfold impl_applied.f
    rw [if_pos rfl, up1]
    rfl
  have a24 : impl_applied.f ((2 : Nat) : Int) r 0 0 0 4 v p = some (v - p + 2048 - (v - p + 2048) % 4096, true) := by
    unfold impl_applied.f
    rw [if_neg (by decide), if_neg (by decide), if_neg (by decide), if_pos rfl, w1, up2]
    rfl
  cases z <;> cases st
  · exact pair_j2 v p r hv hp hr [1, 2, 3] 1 2 (by decide) rfl (by decide) (by decide) 1 14 (.inl rfl) (by decide) (by decide) 55 3 3 3 q 0 _ _ _ s1 (by decide) s14 (by decide) (.inl rfl) b3 g3 ahead1 ahead14 a11
      (by unfold impl_applied.f; rw [if_neg (by decide), if_pos rfl, lo1, Option.bind_some, low14]; rfl) (by unfold impl_applied.f; rw [if_neg (by decide), if_pos rfl, lo1, Option.bind_some, low12 1 (.inl rfl)]; rfl) (by omega) (by omega) (by omega) (by omega) (by omega) (.inl (low14 _ _ _ _)) (by rw [if_neg (by decide)]; exact sum1)
  · exact pair_j2 v p r hv hp hr [1, 2, 3] 1 3 (by decide) rfl (by decide) (by decide) 1 20 (.inl rfl) (by decide) (by decide) 55 5 35 2 0 q _ _ _ s1 (by decide) s20 (by decide) (.inr rfl) b5 g5 ahead1 ahead20 a11
      (by unfold impl_applied.f; rw [if_neg (by decide), if_neg (by decide), if_pos rfl, lo1, Option.bind_some, st20]; rfl) (by unfold impl_applied.f; rw [if_neg (by decide), if_neg (by decide), if_pos rfl, lo1, Option.bind_some, st1]; rfl) (by omega) (by omega) (by omega) (by omega) (by omega) (.inr ⟨low20 _ _ _ _, st20⟩) (by rw [if_neg (by decide)]; exact sum1)
  · exact pair_j2 v p r hv hp hr [4, 5, 6] 4 5 (by decide) rfl (by decide) (by decide) 2 14 (.inr rfl) (by decide) (by decide) 23 3 3 3 q 0 _ _ _ s2 (by decide) s14 (by decide) (.inl rfl) b3 g3 ahead2 ahead14 a24
      (by unfold impl_applied.f; rw [if_neg (by decide), if_neg (by decide), if_neg (by decide), if_neg (by decide), if_pos rfl, w2, lo2, Option.bind_some, low14]; rfl) (by unfold impl_applied.f; rw [if_neg (by decide), if_neg (by decide), if_neg (by decide), if_neg (by decide), if_pos rfl, w3, lo3, Option.bind_some, low12 2 (.inr rfl)]; rfl) (by omega) (by omega) (by omega) (by omega) (by omega) (.inl (low14 _ _ _ _)) (by rw [if_pos (by decide)]; exact sum2)
  · exact pair_j2 v p r hv hp hr [4, 5, 6] 4 6 (by decide) rfl (by decide) (by decide) 2 20 (.inr rfl) (by decide) (by decide) 23 5 35 2 0 q _ _ _ s2 (by decide) s20 (by decide) (.inr rfl) b5 g5 ahead2 ahead20 a24
      (by unfold impl_applied.f; rw [if_neg (by decide), if_neg (by decide), if_neg (by decide), if_neg (by decide), if_neg (by decide), if_pos rfl, w2, lo2, Option.bind_some, st20]; rfl) (by unfold impl_applied.f; rw [if_neg (by decide), if_neg (by decide), if_neg (by decide), if_neg (by decide), if_neg (by decide), if_pos rfl, w3, lo3, Option.bind_some, st2]; rfl) (by omega) (by omega) (by omega) (by omega) (by omega) (.inr ⟨low20 _ _ _ _, st20⟩) (by rw [if_pos (by decide)]; exact sum2)
theorem FnPair : laws_FnPair.Pure := by
  intro l0 l1 m0 z0 w0 m1 z1 w1
  have b0 := bytesIn_wf w0
  have b1 := bytesIn_wf w1
  unfold laws_FnPair.f
  by_cases c0 : (l0.length : Int) > 1048576
  · exact ⟨1, by rw [if_pos c0, laws_FnPair.j0, if_pos rfl]⟩
  · simp only [if_neg c0]
    by_cases c1 : (l1.length : Int) > 1048576
    · exact ⟨1, by rw [laws_FnPair.j0, if_pos (by simpa using c1)]⟩
    · obtain ⟨w, hw, hw0, hw1⟩ := wordDrawn_is b0 (by omega)
      obtain ⟨t, ht, t0, t1⟩ := at_is b1 (by omega) 0 200 (by omega) (by omega) (by omega) (by omega)
      obtain ⟨s, hs, s0, s1⟩ := at_is b1 (by omega) 1 31 (by omega) (by omega) (by omega) (by omega)
      obtain ⟨y, hy, y0, y1⟩ := at_is b1 (by omega) 2 2 (by omega) (by omega) (by omega) (by omega)
      obtain ⟨q, hq, q0, q1⟩ := at_is b1 (by omega) 3 32 (by omega) (by omega) (by omega) (by omega)
      obtain ⟨u, hu, u0, u1⟩ := at_is b1 (by omega) 4 2 (by omega) (by omega) (by omega) (by omega)
      have e1 : wrap64 (Int.tmod w 2000000000 - 1000000000) = w % 2000000000 - 1000000000 := by rw [Int.tmod_eq_emod_of_nonneg hw0]; exact w64_id (by omega) (by omega)
      have e2 : wrap64 (4096 + wrap64 (4 * t)) = 4096 + 4 * t := by rw [w64_id (n := 4 * t) (by omega) (by omega)]; exact w64_id (by omega) (by omega)
      have e3 : wrap64 (1 + s) = 1 + s := w64_id (by omega) (by omega)
      obtain ⟨k0, hk⟩ := pair_all (w % 2000000000 - 1000000000) (4096 + 4 * t) (1 + s) q (by omega) (by omega) (by omega) (by omega) (decide (y = 1)) (decide (u = 1))
      refine ⟨k0 + 1 + 1 + 1, ?_⟩
      have h2 := hk k0 (Nat.le_refl _)
      rw [laws_FnPair.j0, if_neg (by simpa using c1), hw, Option.bind_some, ht, Option.bind_some, hs, Option.bind_some, hy, Option.bind_some, e1, e2, e3]
      have l3 : ∀ (a b c : Int), (1 : Int) < (([a, b, c] : List Int).length : Int) ∧ (2 : Int) < (([a, b, c] : List Int).length : Int) := fun a b c => by simp
      by_cases cy : y = 1
      · rw [decide_eq_true cy] at h2
        rw [if_pos cy, laws_FnPair.j1, hq, Option.bind_some, if_pos (l3 _ _ _).1, hu, Option.bind_some]
        by_cases cu : u = 1
        · rw [decide_eq_true cu] at h2
          rw [if_pos cu, Option.bind_some, if_pos (l3 _ _ _).2]
          exact h2
        · rw [decide_eq_false cu] at h2
          rw [if_neg cu]
          exact h2
      · rw [decide_eq_false cy] at h2
        rw [if_neg cy, laws_FnPair.j1, hq, Option.bind_some, if_pos (l3 _ _ _).1, hu, Option.bind_some]
        by_cases cu : u = 1
        · rw [decide_eq_true cu] at h2
          rw [if_pos cu, Option.bind_some, if_pos (l3 _ _ _).2]
          exact h2
        · rw [decide_eq_false cu] at h2
          rw [if_neg cu]
          exact h2

end Go.Proofs.Ytbbaggpmhiickaa.Pure
