/- The two parts of an address are the address; for all drawn numbers. -/
import Derived.Test.YtoaonegjefbipaaPFnSplitx2
import Derived.Laws.BitsLemmas
set_option linter.unusedVariables false
set_option linter.unusedSimpArgs false
namespace Go.Proofs.Ytoaonegjefbipaa.Pure
open Go.RowKit Go.Proofs.Ytoaonegjefbipaa.PFnSplit Go.Proofs.YtoaonegjefbipaaW.PrintWords Go.Proofs.YtoaonegjefbipaaW.PrintLast Go.Proofs.YtoaonegjefbipaaW.PrintMore

theorem wf64 {x : Int} (h : (Lit.int .i64 x).wf = true) : -9223372036854775808 ≤ x ∧ x ≤ 9223372036854775807 := by
  simp only [Lit.wf, IntKind.min, IntKind.max, IntKind.signed, IntKind.bits, Bool.and_eq_true, decide_eq_true_eq, if_true] at h
  omega
theorem u64w (n : Int) : IntKind.u64.wrap n = n % 18446744073709551616 := by simp [IntKind.wrap, IntKind.bits, IntKind.signed]
theorem i64w (n : Int) : IntKind.i64.wrap n = wrap64 n := by unfold wrap64; exact Go.IntKind.wrap_i64 n
theorem w64_id {n : Int} (h0 : -9223372036854775808 ≤ n) (h1 : n ≤ 9223372036854775807) : wrap64 n = n := by unfold wrap64; omega
theorem u64_id {n : Int} (h0 : 0 ≤ n) (h1 : n < 18446744073709551616) : IntKind.u64.wrap n = n := by rw [u64w]; omega
theorem w64_rng (n : Int) : -9223372036854775808 ≤ wrap64 n ∧ wrap64 n ≤ 9223372036854775807 := by unfold wrap64; omega
theorem pow64 : (18446744073709551616 : Nat) = 2 ^ 64 := by decide

/-- The number of the first n bits. -/
def ob (b : Nat → Bool) : Nat → Nat
  | 0 => 0
  | n + 1 => (if b n then 2 ^ n else 0) + ob b n
theorem ob_lt (b : Nat → Bool) (n : Nat) : ob b n < 2 ^ n := by
  induction n with
  | zero => simp [ob]
  | succ n ih => unfold ob; rw [Nat.pow_succ]; split <;> omega
theorem ob_testBit (b : Nat → Bool) (n j : Nat) : (ob b n).testBit j = (decide (j < n) && b j) := by
  induction n with
  | zero => simp [ob]
  | succ n ih =>
    have hl := ob_lt b n
    have e : ob b (n + 1) = 2 ^ n * (b n).toNat + ob b n := by rw [ob]; cases b n <;> simp
    rw [e, Nat.testBit_two_pow_mul_add _ hl, ih]
    by_cases h : j < n
    · simp [h]; intro; omega
    · by_cases h2 : j = n
      · subst h2; simp; cases b j <;> simp
      · have h3 : j - n ≠ 0 := by omega
        have h4 : ¬ j < n + 1 := by omega
        simp [h, h4]
        cases hb : b n
        · simp
        · obtain ⟨m, hm⟩ : ∃ m, j - n = m + 1 := ⟨j - n - 1, by omega⟩
          rw [hm]; simp [Nat.testBit_succ]
theorem ob_congr {b c : Nat → Bool} {n : Nat} (h : ∀ i, i < n → b i = c i) : ob b n = ob c n := by
  induction n with
  | zero => rfl
  | succ n ih => unfold ob; rw [h n (by omega), ih (fun i hi => h i (by omega))]

/-- Bit i of a number's two's complement. -/
def tb (v : Int) (i : Nat) : Bool := (v % 18446744073709551616).toNat.testBit i
theorem nlt (v : Int) : (v % 18446744073709551616).toNat < 2 ^ 64 := by rw [← pow64]; omega
theorem tb_hi (v : Int) (i : Nat) (h : 64 ≤ i) : tb v i = false := by
  unfold tb
  exact Nat.testBit_lt_two_pow (Nat.lt_of_lt_of_le (nlt v) (Nat.pow_le_pow_right (by decide) h))
theorem tb_nat (n i : Nat) (h : n < 18446744073709551616) : tb (n : Int) i = n.testBit i := by
  unfold tb
  congr 1
  omega
theorem tb_eq {x y : Int} (h : ∀ i, i < 64 → tb x i = tb y i) : x % 18446744073709551616 = y % 18446744073709551616 := by
  have e : (x % 18446744073709551616).toNat = (y % 18446744073709551616).toNat := by
    refine Nat.eq_of_testBit_eq fun i => ?_
    by_cases hi : i < 64
    · exact h i hi
    · have h1 := tb_hi x i (by omega)
      have h2 := tb_hi y i (by omega)
      unfold tb at h1 h2
      rw [h1, h2]
  omega
theorem tb_ext {x y : Int} (hx0 : -9223372036854775808 ≤ x) (hx1 : x ≤ 9223372036854775807) (hy0 : -9223372036854775808 ≤ y) (hy1 : y ≤ 9223372036854775807) (h : ∀ i, i < 64 → tb x i = tb y i) : x = y := by
  have := tb_eq h
  omega
theorem tb_congr {x y : Int} (h : x % 18446744073709551616 = y % 18446744073709551616) (i : Nat) : tb x i = tb y i := by unfold tb; rw [h]
theorem tb_wrap64 (x : Int) (i : Nat) : tb (wrap64 x) i = tb x i := tb_congr (by unfold wrap64; omega) i
theorem tb_u64 (x : Int) (i : Nat) : tb (IntKind.u64.wrap x) i = tb x i := tb_congr (by rw [u64w]; omega) i
theorem tb_ob (b : Nat → Bool) (n i : Nat) (hn : n ≤ 64) : tb ((ob b n : Nat) : Int) i = (decide (i < n) && b i) := by
  rw [tb_nat _ _ (by rw [pow64]; exact Nat.lt_of_lt_of_le (ob_lt b n) (Nat.pow_le_pow_right (by decide) hn)), ob_testBit]
theorem tb_bv (v : Int) (i : Nat) : tb v i = (BitVec.ofInt 64 v).getLsbD i := by
  unfold tb BitVec.getLsbD
  rw [BitVec.toNat_ofInt]
  rfl
theorem tb_mul (x : Int) (s i : Nat) (hi : i < 64) : tb (x * 2 ^ s) i = (decide (s ≤ i) && tb x (i - s)) := by
  have e : tb (x * 2 ^ s) i = ((x % 18446744073709551616).toNat * 2 ^ s).testBit i := by
    have h1 : ((x * 2 ^ s) % 18446744073709551616).toNat = ((x % 18446744073709551616).toNat * 2 ^ s) % 2 ^ 64 := by
      have h2 : (x * 2 ^ s) % 18446744073709551616 = ((x % 18446744073709551616) * 2 ^ s) % 18446744073709551616 := by
        have h5 := Int.mul_emod x (2 ^ s) 18446744073709551616
        have h6 := Int.mul_emod (x % 18446744073709551616) (2 ^ s) 18446744073709551616
        rw [Int.emod_emod_of_dvd x (Int.dvd_refl _)] at h6
        rw [h5, h6]
      obtain ⟨m, hm⟩ : ∃ m : Nat, x % 18446744073709551616 = m := ⟨(x % 18446744073709551616).toNat, by omega⟩
      rw [h2, hm, ← pow64]
      have h3 : ((m : Int) * 2 ^ s) % 18446744073709551616 = ((m * 2 ^ s % 18446744073709551616 : Nat) : Int) := by simp
      rw [h3]
      exact Int.toNat_natCast _
    unfold tb
    rw [h1, Nat.testBit_mod_two_pow]
    simp [hi]
  rw [e, ← Nat.shiftLeft_eq, Nat.testBit_shiftLeft]
  rfl
theorem tb_div_u (x : Int) (h0 : 0 ≤ x) (h1 : x < 18446744073709551616) (s i : Nat) : tb (x / 2 ^ s) i = tb x (i + s) := by
  obtain ⟨m, rfl⟩ := Int.eq_ofNat_of_zero_le h0
  have h2 : ((m : Int) / 2 ^ s) = ((m / 2 ^ s : Nat) : Int) := by simp
  have h3 : m / 2 ^ s ≤ m := Nat.div_le_self _ _
  rw [h2, tb_nat _ _ (by omega), tb_nat _ _ (by omega), Nat.testBit_div_two_pow]
theorem tb_div_s (x : Int) (h0 : -9223372036854775808 ≤ x) (h1 : x ≤ 9223372036854775807) (s i : Nat) (hi : i < 64) : tb (x / 2 ^ s) i = tb x (min (i + s) 63) := by
  have e : x / 2 ^ s = ((BitVec.ofInt 64 x).sshiftRight s).toInt := by
    rw [BitVec.toInt_sshiftRight, Int.shiftRight_eq_div_pow, BitVec.toInt_ofInt]
    have : x.bmod (2 ^ 64) = x := by
      have p : (2 ^ 64 : Nat) = 18446744073709551616 := by decide
      rw [p, Int.bmod_def]
      omega
    rw [this]
    simp
  have g : tb ((BitVec.ofInt 64 x).sshiftRight s).toInt i = ((BitVec.ofInt 64 x).sshiftRight s).getLsbD i := by
    rw [tb_bv, BitVec.ofInt_toInt]
  rw [e, g, BitVec.getLsbD_sshiftRight]
  have hm : (BitVec.ofInt 64 x).msb = tb x 63 := by rw [tb_bv, BitVec.msb_eq_getLsbD_last]
  by_cases h : s + i < 64
  · have h2 : min (i + s) 63 = s + i := by omega
    rw [h2, if_pos h, tb_bv]
    simp [show ¬ 64 ≤ i by omega]
  · have h2 : min (i + s) 63 = 63 := by omega
    rw [h2, if_neg h, hm]
    simp [show ¬ 64 ≤ i by omega]
theorem tb_bits {r : BitVec 64} (i : Nat) : tb (IntKind.i64.wrap (r.toNat : Int)) i = r.getLsbD i := by
  rw [i64w, tb_wrap64, tb_nat _ _ (by rw [pow64]; exact r.isLt)]
  rfl
theorem tb_and (x y : Int) (i : Nat) : tb (Go.bits .and .i64 x y) i = (tb x i && tb y i) := by
  rw [show Go.bits .and .i64 x y = IntKind.i64.wrap (((BitVec.ofInt 64 x) &&& (BitVec.ofInt 64 y) : BitVec 64).toNat : Int) from rfl, tb_bits, BitVec.getLsbD_and, tb_bv, tb_bv]
theorem tb_or (x y : Int) (i : Nat) : tb (Go.bits .or .i64 x y) i = (tb x i || tb y i) := by
  rw [show Go.bits .or .i64 x y = IntKind.i64.wrap (((BitVec.ofInt 64 x) ||| (BitVec.ofInt 64 y) : BitVec 64).toNat : Int) from rfl, tb_bits, BitVec.getLsbD_or, tb_bv, tb_bv]
theorem tb_xor (x y : Int) (i : Nat) : tb (Go.bits .xor .i64 x y) i = (tb x i ^^ tb y i) := by
  rw [show Go.bits .xor .i64 x y = IntKind.i64.wrap (((BitVec.ofInt 64 x) ^^^ (BitVec.ofInt 64 y) : BitVec 64).toNat : Int) from rfl, tb_bits, BitVec.getLsbD_xor, tb_bv, tb_bv]
theorem tb_andNot (x y : Int) (i : Nat) (hi : i < 64) : tb (Go.bits .andNot .i64 x y) i = (tb x i && !tb y i) := by
  rw [show Go.bits .andNot .i64 x y = IntKind.i64.wrap (((BitVec.ofInt 64 x) &&& ~~~(BitVec.ofInt 64 y) : BitVec 64).toNat : Int) from rfl, tb_bits, BitVec.getLsbD_and, BitVec.getLsbD_not, tb_bv, tb_bv]
  simp [hi]
theorem bits_rng (o : BinOp) (x y : Int) : -9223372036854775808 ≤ Go.bits o .i64 x y ∧ Go.bits o .i64 x y ≤ 9223372036854775807 := by
  have h : ∀ n : Int, -9223372036854775808 ≤ IntKind.i64.wrap n ∧ IntKind.i64.wrap n ≤ 9223372036854775807 := fun n => by rw [i64w]; exact w64_rng n
  unfold Go.bits
  split <;> first | exact h _ | omega
theorem tb_pow1 (c i : Nat) (hc : c ≤ 64) : tb ((2 : Int) ^ c - 1) i = decide (i < c) := by
  have hp : 0 < 2 ^ c := Nat.two_pow_pos c
  have e : ((2 : Int) ^ c - 1) = ((2 ^ c - 1 : Nat) : Int) := by rw [Int.natCast_sub hp]; simp
  have hl : 2 ^ c ≤ 2 ^ 64 := Nat.pow_le_pow_right (by decide) hc
  rw [e, tb_nat _ _ (by rw [pow64]; omega), Nat.testBit_two_pow_sub_one]
theorem tb_mod (x : Int) (c i : Nat) (hc : c ≤ 64) : tb (x % 2 ^ c) i = (decide (i < c) && tb x i) := by
  obtain ⟨m, hm⟩ : ∃ m : Nat, x % 18446744073709551616 = m := ⟨(x % 18446744073709551616).toNat, by omega⟩
  have hml : m < 18446744073709551616 := by omega
  have e : x % 2 ^ c = ((m % 2 ^ c : Nat) : Int) := by
    have hd : ((2 : Int) ^ c) ∣ 18446744073709551616 := by
      refine ⟨2 ^ (64 - c), ?_⟩
      rw [← Int.pow_add, show c + (64 - c) = 64 by omega]; rfl
    have h2 : x % 2 ^ c = (x % 18446744073709551616) % 2 ^ c := (Int.emod_emod_of_dvd x hd).symm
    rw [h2, hm]; simp
  have hle : m % 2 ^ c ≤ m := Nat.mod_le _ _
  have h3 : tb x i = m.testBit i := by unfold tb; rw [hm]; simp
  rw [e, tb_nat _ _ (by omega), Nat.testBit_mod_two_pow, h3]
/-- The lowest c bits as a signed number. -/
def smod (v : Int) (c : Nat) : Int := (v + 2 ^ (c - 1)) % 2 ^ c - 2 ^ (c - 1)
theorem ipow_pos (c : Nat) : (0 : Int) < 2 ^ c := Int.pow_pos (by decide)
theorem ipow_split (c : Nat) (h1 : 1 ≤ c) : (2 : Int) ^ c = 2 ^ (c - 1) * 2 := by
  obtain ⟨m, rfl⟩ : ∃ m, c = m + 1 := ⟨c - 1, by omega⟩
  rw [Int.pow_succ]; rfl
theorem ipow_le (c d : Nat) (h : c ≤ d) : (2 : Int) ^ c ≤ 2 ^ d := by exact_mod_cast Nat.pow_le_pow_right (by decide : 0 < 2) h
theorem smod_rng (v : Int) (c : Nat) (h1 : 1 ≤ c) : -(2 ^ (c - 1)) ≤ smod v c ∧ smod v c < 2 ^ (c - 1) := by
  have h0 := Int.emod_nonneg (v + 2 ^ (c - 1)) (Int.ne_of_gt (ipow_pos c))
  have h2 := Int.emod_lt_of_pos (v + 2 ^ (c - 1)) (ipow_pos c)
  have h3 := ipow_split c h1
  unfold smod
  omega
theorem smod_rng64 (v : Int) (c : Nat) (h1 : 1 ≤ c) (h2 : c ≤ 64) : -9223372036854775808 ≤ smod v c ∧ smod v c ≤ 9223372036854775807 := by
  have h := smod_rng v c h1
  have h3 := ipow_le (c - 1) 63 (by omega)
  have h4 : (2 : Int) ^ 63 = 9223372036854775808 := by decide
  omega
theorem smod_shift (v : Int) (c : Nat) (h1 : 1 ≤ c) (h2 : c ≤ 64) : wrap64 (v * 2 ^ (64 - c)) / 2 ^ (64 - c) = smod v c := by
  have hs := ipow_pos (64 - c)
  have e1 : (9223372036854775808 : Int) = 2 ^ (64 - c) * 2 ^ (c - 1) := by rw [← Int.pow_add, show 64 - c + (c - 1) = 63 by omega]; decide
  have e2 : (18446744073709551616 : Int) = 2 ^ (64 - c) * 2 ^ c := by rw [← Int.pow_add, show 64 - c + c = 64 by omega]; decide
  have e3 : wrap64 (v * 2 ^ (64 - c)) = 2 ^ (64 - c) * smod v c := by
    unfold wrap64 smod
    rw [e1, e2, Int.mul_comm v, ← Int.mul_add, Int.mul_emod_mul_of_pos _ _ hs, Int.mul_sub]
  rw [e3, Int.mul_ediv_cancel_left _ (Int.ne_of_gt hs)]
theorem tb_smod (v : Int) (c i : Nat) (h1 : 1 ≤ c) (h2 : c ≤ 64) (hi : i < 64) : tb (smod v c) i = tb v (min i (c - 1)) := by
  have hr := w64_rng (v * 2 ^ (64 - c))
  rw [← smod_shift v c h1 h2, tb_div_s _ hr.1 hr.2 _ _ hi, tb_wrap64, tb_mul _ _ _ (by omega)]
  rw [show min (i + (64 - c)) 63 - (64 - c) = min i (c - 1) by omega]
  simp [show 64 - c ≤ min (i + (64 - c)) 63 by omega]
theorem sgn_math (v : Int) (c : Nat) (h1 : 1 ≤ c) (h2 : c ≤ 64) : wrap64 ((ob (fun j => tb v (min j (c - 1))) 64 : Nat) : Int) = smod v c := by
  have hr := smod_rng64 v c h1 h2
  have hw := w64_rng ((ob (fun j => tb v (min j (c - 1))) 64 : Nat) : Int)
  refine tb_ext hw.1 hw.2 hr.1 hr.2 fun i hi => ?_
  rw [tb_wrap64, tb_ob _ _ _ (by omega), tb_smod v c i h1 h2 hi]
  simp [hi]
theorem field_math (v : Int) (low c : Nat) (h : low + c ≤ 64) : ((ob (fun j => tb v (low + j)) c : Nat) : Int) = (v % 18446744073709551616) / 2 ^ low % 2 ^ c := by
  have h0 : 0 ≤ (v % 18446744073709551616) / 2 ^ low % 2 ^ c := Int.emod_nonneg _ (Int.ne_of_gt (ipow_pos c))
  have h1 : (v % 18446744073709551616) / 2 ^ low % 2 ^ c < 2 ^ c := Int.emod_lt_of_pos _ (ipow_pos c)
  have h2 : (2 : Int) ^ c ≤ 18446744073709551616 := by have := ipow_le c 64 (by omega); rw [show (18446744073709551616 : Int) = 2 ^ 64 by decide]; exact this
  have h3 : ob (fun j => tb v (low + j)) c < 18446744073709551616 := by rw [pow64]; exact Nat.lt_of_lt_of_le (ob_lt _ _) (Nat.pow_le_pow_right (by decide) (by omega))
  have e := tb_eq (x := ((ob (fun j => tb v (low + j)) c : Nat) : Int)) (y := (v % 18446744073709551616) / 2 ^ low % 2 ^ c) fun i hi => by
    rw [tb_ob _ _ _ (by omega), tb_mod _ _ _ (by omega), tb_div_u _ (by omega) (by omega)]
    have : tb (v % 18446744073709551616) (i + low) = tb v (i + low) := tb_congr (by omega) _
    rw [this, Nat.add_comm i low]
  omega
theorem fin_i (r : Int) : ((some r).bind fun t => (some r).bind fun u => if u = t then some true else some false) = some true := by simp
theorem fin_ii (r : Int × Int) : ((some r).bind fun t => (some r).bind fun u => if u.1 = t.1 then (if u.2 = t.2 then some true else some false) else some false) = some true := by simp

theorem bit_is (v : Int) (n : Nat) (hn : n < 9223372036854775808) : spec_l01Bit.f v (n : Int) = some (if tb v n then 1 else 0) := by
  unfold spec_l01Bit.f
  have e1 : IntKind.u64.wrap (n : Int) = n := u64_id (by omega) (by omega)
  rw [e1, if_pos (by omega)]
  obtain ⟨m, hm⟩ : ∃ m : Nat, IntKind.u64.wrap v = m := ⟨(v % 18446744073709551616).toNat, by rw [u64w]; omega⟩
  have hml : m < 2 ^ 64 := by rw [← pow64]; rw [u64w] at hm; omega
  have ht : tb v n = m.testBit n := by unfold tb; rw [← u64w, hm]; simp
  have e2 : shr .u64 (m : Int) (n : Int) = ((m / 2 ^ min n 64 : Nat) : Int) := by unfold shr; simp [IntKind.bits]
  have e3 : Int.tmod ((m / 2 ^ min n 64 : Nat) : Int) 2 = ((m / 2 ^ min n 64 % 2 : Nat) : Int) := rfl
  rw [hm, e2, ht, e3, Nat.testBit_eq_decide_div_mod_eq]
  by_cases h : n ≤ 64
  · rw [Nat.min_eq_left h]
    by_cases h2 : m / 2 ^ n % 2 = 1
    · simp [h2]
    · have h3 : m / 2 ^ n % 2 = 0 := by omega
      simp [h3]
  · rw [Nat.min_eq_right (by omega)]
    have h4 : m / 2 ^ 64 = 0 := Nat.div_eq_of_lt hml
    have h5 : m / 2 ^ n = 0 := Nat.div_eq_of_lt (Nat.lt_of_lt_of_le hml (Nat.pow_le_pow_right (by decide) (by omega)))
    simp [h4, h5]

theorem sign_l (v : Int) (C : Nat) (h1 : 1 ≤ C) (h2 : C ≤ 64) : ∀ (i A k : Nat), i ≤ 64 → A < 2 ^ (64 - i) → i < k →
    spec_l01Sign.l0 k v (C : Int) (A : Int) ((i : Int) - 1) = some (wrap64 (((A * 2 ^ i + ob (fun j => tb v (min j (C - 1))) i : Nat)) : Int)) := by
  intro i
  induction i with
  | zero =>
    intro A k _ _ hk
    obtain ⟨k, rfl⟩ : ∃ m, k = m + 1 := ⟨k - 1, by omega⟩
    simp only [spec_l01Sign.l0]
    rw [if_neg (by omega)]
    simp [ob]
  | succ i ih =>
    intro A k hi hA hk
    obtain ⟨k, rfl⟩ : ∃ m, k = m + 1 := ⟨k - 1, by omega⟩
    have hp : 2 ^ (64 - i) = 2 * 2 ^ (64 - (i + 1)) := by rw [show 64 - i = (64 - (i + 1)) + 1 by omega, Nat.pow_succ]; omega
    have hq : 2 ^ (64 - i) ≤ 2 ^ 64 := Nat.pow_le_pow_right (by decide) (by omega)
    rw [← pow64] at hq
    simp only [spec_l01Sign.l0]
    have e0 : ((i + 1 : Nat) : Int) - 1 = (i : Int) := by omega
    rw [e0, if_pos (by omega)]
    have em : mn (i : Int) (wrap64 ((C : Int) - 1)) = ((min i (C - 1) : Nat) : Int) := by
      rw [w64_id (by omega) (by omega)]; unfold mn; split <;> omega
    rw [em, bit_is v (min i (C - 1)) (by omega)]
    simp only [Option.bind_some]
    have e1 : IntKind.u64.wrap (IntKind.u64.wrap (2 * (A : Int)) + IntKind.u64.wrap (if tb v (min i (C - 1)) = true then 1 else 0)) = ((2 * A + (if tb v (min i (C - 1)) then 1 else 0) : Nat) : Int) := by
      simp only [u64w]; split <;> omega
    rw [e1, w64_id (by omega) (by omega), ih _ k (by omega) (by split <;> omega) (by omega)]
    congr 3
    rw [ob, Nat.pow_succ]
    split <;> grind
theorem sign_is (k : Nat) (v : Int) (C : Nat) (h1 : 1 ≤ C) (h2 : C ≤ 64) (hk : 64 < k) : spec_l01Sign.f k v (C : Int) = some (smod v C) := by
  unfold spec_l01Sign.f
  have h := sign_l v C h1 h2 64 0 k (by omega) (by decide) hk
  rw [show ((64 : Nat) : Int) - 1 = 63 by decide, show ((0 : Nat) : Int) = 0 by decide] at h
  rw [h, Nat.zero_mul, Nat.zero_add, sgn_math v C h1 h2]

theorem andNot4095 (x : Int) (h0 : -9223372036854775808 ≤ x) (h1 : x ≤ 9223372036854775807) : Go.bits .andNot .i64 x 4095 = x - x % 4096 := by
  have hr := bits_rng .andNot x 4095
  have e : x - x % 4096 = (x / 2 ^ 12) * 2 ^ 12 := by
    rw [show (2 : Int) ^ 12 = 4096 by decide]
    omega
  have e2 : (4095 : Int) = 2 ^ 12 - 1 := by decide
  refine tb_ext hr.1 hr.2 (by omega) (by omega) fun i hi => ?_
  rw [tb_andNot _ _ _ hi, e, tb_mul _ _ _ hi, e2, tb_pow1 _ _ (by omega)]
  by_cases c : 12 ≤ i
  · rw [tb_div_s x h0 h1 _ _ (by omega)]
    simp [c, show ¬ i < 12 by omega, show min i 63 = i by omega]
  · simp [c, show i < 12 by omega]
theorem upper_is (v : Int) (h0 : -9223372036854770000 ≤ v) (h1 : v ≤ 9223372036854770000) : impl_upper.f v = some (v + 2048 - (v + 2048) % 4096) := by
  unfold impl_upper.f
  rw [w64_id (n := v + 2048) (by omega) (by omega), andNot4095 _ (by omega) (by omega)]
theorem lower_is (v : Int) (h0 : -9223372036854770000 ≤ v) (h1 : v ≤ 9223372036854770000) : impl_lower.f v = some ((v + 2048) % 4096 - 2048) := by
  unfold impl_lower.f
  rw [upper_is v h0 h1]
  simp only [Option.bind_some]
  rw [w64_id (by omega) (by omega)]
  congr 1
  omega
theorem low_is (k : Nat) (hk : 64 < k) (v : Int) : spec_l09Low.f k v = some ((v + 2048) % 4096 - 2048) := by
  unfold spec_l09Low.f
  rw [show (12 : Int) = ((12 : Nat) : Int) from rfl, sign_is k v 12 (by decide) (by decide) hk]
  rfl
theorem high_is (k : Nat) (hk : 64 < k) (v : Int) (h0 : -9223372036854770000 ≤ v) (h1 : v ≤ 9223372036854770000) : spec_l09High.f k v = some (v + 2048 - (v + 2048) % 4096) := by
  unfold spec_l09High.f
  rw [low_is k hk v]
  simp only [Option.bind_some]
  rw [w64_id (by omega) (by omega)]
  congr 1
  omega
theorem splitSame (k : Nat) (hk : 64 < k) (v : Int) (wv : -9223372036854775808 ≤ v ∧ v ≤ 9223372036854775807) : ∃ r, spec_SplitAddress.f k v = some r ∧ impl_SplitAddress.f k v = some r := by
  unfold spec_SplitAddress.f impl_SplitAddress.f spec_l09Value.f impl_isValue.f spec_l01In.f impl_within.f spec_l09Upper.f impl_immOK.f spec_l01In.f impl_within.f
  by_cases c1 : -4294967296 ≤ v
  · by_cases c2 : v ≤ 4294967296
    · rw [high_is k hk v (by omega) (by omega), upper_is v (by omega) (by omega), low_is k hk v, lower_is v (by omega) (by omega)]
      have hm : Int.tmod (v + 2048 - (v + 2048) % 4096) 4096 = 0 := by
        rw [show v + 2048 - (v + 2048) % 4096 = 4096 * ((v + 2048) / 4096) by omega]
        exact Int.mul_tmod_right _ _
      simp only [Option.bind_some, c1, c2, ge_iff_le, if_true, decide_true]
      generalize hu : v + 2048 - (v + 2048) % 4096 = u at *
      generalize (v + 2048) % 4096 - 2048 = l at *
      by_cases c3 : -2147483648 ≤ u
      · by_cases c4 : u ≤ 2147479552
        · exact ⟨(u, l, 0), by simp [c3, c4], by simp [c3, c4, hm]⟩
        · exact ⟨(0, 0, 25), by simp [c3, c4], by simp [c3, c4]⟩
      · exact ⟨(0, 0, 25), by simp [c3], by simp [c3]⟩
    · exact ⟨(0, 0, 4), by simp [c1, c2], by simp [c1, c2]⟩
  · exact ⟨(0, 0, 4), by simp [c1], by simp [c1]⟩

def bytesIn (l : List Int) : Prop := ∀ x ∈ l, 0 ≤ x ∧ x ≤ 255
theorem bytesIn_wf {l : List Int} (h : ∀ x ∈ l, (Lit.int .u8 x).wf = true) : bytesIn l := fun x hx => by
  have := h x hx
  simp only [Lit.wf, IntKind.min, IntKind.max, IntKind.signed, IntKind.bits, Bool.and_eq_true, decide_eq_true_eq] at this
  simpa using this
theorem rd_in {l : List Int} (h : bytesIn l) (i : Int) : 0 ≤ rd l i ∧ rd l i ≤ 255 := by
  unfold rd
  rw [List.getD_eq_getElem?_getD]
  cases e : l[i.toNat]? with
  | none => simp
  | some x => simpa using h x (List.mem_of_getElem? e)
/-- A draw. -/
theorem byte_is {l : List Int} (h : bytesIn l) (hl : l.length ≤ 140737488351232) (a s : Int) (ha0 : 0 ≤ a) (ha1 : a ≤ 1000000000) (hs0 : 0 ≤ s) (hs1 : s < 2147483648) :
    ∃ b s', spec_l00Src_byte.f l a s = some (b, a + 1, s') ∧ 0 ≤ b ∧ b ≤ 255 ∧ 0 ≤ s' ∧ s' < 2147483648 := by
  have hr := rd_in h a
  unfold spec_l00Src_byte.f
  rw [w64_id (n := a + 1) (by omega) (by omega), show a + 1 - 1 = a by omega, w64_id (n := a) (by omega) (by omega)]
  by_cases c : a + 1 ≤ (l.length : Int)
  · rw [if_pos c, if_pos (by omega), if_pos (by omega), w64_id (n := rd l a) (by omega) (by omega), w64_id (n := s * 31) (by omega) (by omega), w64_id (n := s * 31 + rd l a) (by omega) (by omega), w64_id (by omega) (by omega)]
    rw [Int.tmod_eq_emod_of_nonneg (by omega)]
    exact ⟨_, _, rfl, by omega, by omega, by omega, by omega⟩
  · rw [if_neg c]
    by_cases c2 : a + 1 > 3000
    · rw [if_pos c2]
      exact ⟨_, _, rfl, by omega, by omega, by omega, by omega⟩
    · rw [if_neg c2, w64_id (n := s * 1103515245) (by omega) (by omega), w64_id (n := s * 1103515245 + 12345) (by omega) (by omega), Int.tmod_eq_emod_of_nonneg (a := s * 1103515245 + 12345) (by omega)]
      generalize hz : (s * 1103515245 + 12345) % 2147483648 = z
      have hz0 : 0 ≤ z ∧ z < 2147483648 := by omega
      rw [Int.tdiv_eq_ediv_of_nonneg (by omega), w64_id (by omega) (by omega), Int.tmod_eq_emod_of_nonneg (by omega)]
      exact ⟨_, _, rfl, by omega, by omega, by omega, by omega⟩
/-- The i-th choice out of n. -/
theorem at_is {l : List Int} (h : bytesIn l) (hl : l.length ≤ 140737488351232) (i n : Int) (hi0 : 0 ≤ i) (hi1 : i ≤ 1000) (hn0 : 1 ≤ n) (hn1 : n ≤ 1000000) : ∃ r, laws_at.f l i n = some r ∧ 0 ≤ r ∧ r < n := by
  unfold laws_at.f
  by_cases c : n ≤ 1
  · rw [if_pos c]
    exact ⟨0, rfl, by omega, by omega⟩
  · rw [if_neg c]
    by_cases c2 : (l.length : Int) = 0
    · rw [if_pos c2, if_neg (by omega), w64_id (by omega) (by omega), Int.tmod_eq_emod_of_nonneg (by omega)]
      exact ⟨_, rfl, Int.emod_nonneg _ (by omega), Int.emod_lt_of_pos _ (by omega)⟩
    · rw [if_neg c2, Int.tmod_eq_emod_of_nonneg (a := i) (by omega), w64_id (n := i + 1) (by omega) (by omega), Int.tmod_eq_emod_of_nonneg (a := i + 1) (by omega)]
      have p1 := Int.emod_nonneg i c2
      have p2 := Int.emod_lt_of_pos i (show 0 < (l.length : Int) by omega)
      have p3 := Int.emod_nonneg (i + 1) c2
      have p4 := Int.emod_lt_of_pos (i + 1) (show 0 < (l.length : Int) by omega)
      have r1 := rd_in h (i % (l.length : Int))
      have r2 := rd_in h ((i + 1) % (l.length : Int))
      have q1 : 0 ≤ Int.tdiv i (l.length : Int) ∧ Int.tdiv i (l.length : Int) ≤ i := by
        rw [Int.tdiv_eq_ediv_of_nonneg hi0]
        exact ⟨Int.ediv_nonneg hi0 (by omega), Int.ediv_le_self _ hi0⟩
      generalize rd l (i % (l.length : Int)) = x at *
      generalize rd l ((i + 1) % (l.length : Int)) = y at *
      generalize Int.tdiv i (l.length : Int) = q at *
      rw [if_pos p1, if_pos p2, if_pos p3, if_pos p4, if_neg (by omega)]
      rw [w64_id (n := x) (by omega) (by omega), w64_id (n := x * 31) (by omega) (by omega), w64_id (n := y) (by omega) (by omega), w64_id (n := x * 31 + y) (by omega) (by omega), w64_id (n := q) (by omega) (by omega), w64_id (n := x * 31 + y + q) (by omega) (by omega), Int.tmod_eq_emod_of_nonneg (by omega)]
      exact ⟨_, rfl, Int.emod_nonneg _ (by omega), Int.emod_lt_of_pos _ (by omega)⟩

theorem word_is {l : List Int} (h : bytesIn l) (hl : l.length ≤ 140737488351232) (a s : Int) (ha0 : 0 ≤ a) (ha1 : a ≤ 999999000) (hs0 : 0 ≤ s) (hs1 : s < 2147483648) :
    ∃ b s', spec_l00Src_word.f l a s = some (b, a + 4, s') ∧ 0 ≤ b ∧ b ≤ 4294967295 ∧ 0 ≤ s' ∧ s' < 2147483648 := by
  unfold spec_l00Src_word.f
  obtain ⟨b1, s1, e1, p1, q1, u1, v1⟩ := byte_is h hl a s ha0 (by omega) hs0 hs1
  obtain ⟨b2, s2, e2, p2, q2, u2, v2⟩ := byte_is h hl (a + 1) s1 (by omega) (by omega) u1 v1
  obtain ⟨b3, s3, e3, p3, q3, u3, v3⟩ := byte_is h hl (a + 1 + 1) s2 (by omega) (by omega) u2 v2
  obtain ⟨b4, s4, e4, p4, q4, u4, v4⟩ := byte_is h hl (a + 1 + 1 + 1) s3 (by omega) (by omega) u3 v3
  rw [e1]
  simp only [Option.bind_some]
  rw [e2]
  simp only [Option.bind_some]
  rw [e3]
  simp only [Option.bind_some]
  rw [e4]
  simp only [Option.bind_some]
  rw [w64_id (n := 256 * b2) (by omega) (by omega), w64_id (n := b1 + 256 * b2) (by omega) (by omega), w64_id (n := 65536 * b3) (by omega) (by omega), w64_id (n := b1 + 256 * b2 + 65536 * b3) (by omega) (by omega), w64_id (n := 16777216 * b4) (by omega) (by omega), w64_id (by omega) (by omega)]
  refine ⟨b1 + 256 * b2 + 65536 * b3 + 16777216 * b4, s4, ?_, ?_, ?_, u4, v4⟩
  · rw [show a + 1 + 1 + 1 + 1 = a + 4 by omega]
  · omega
  · omega

theorem wordDrawn_is {l : List Int} (h : bytesIn l) (hl : l.length ≤ 140737488351232) : ∃ b, spec_WordDrawn.f l = some b ∧ 0 ≤ b ∧ b ≤ 4294967295 := by
  unfold spec_WordDrawn.f spec_l00Source.f
  simp only [Option.bind_some]
  obtain ⟨b, s, e, p, q, _⟩ := word_is h hl 0 ((l.length : Int) % 1000) (by omega) (by omega) (by omega) (by omega)
  rw [e]
  exact ⟨b, rfl, p, q⟩

/-- The place of the first text that is a, counted from i, or d. -/
def ixD (d : Int) (a : ByteArray) : List ByteArray → Int → Int
  | [], _ => d
  | x :: r, i => if x.toList = a.toList then i else ixD d a r (i + 1)
theorem rdOf_at (l : List ByteArray) (i : Nat) (h : i < l.length) : rdOf ByteArray.empty l (i : Int) = l[i] := by
  unfold rdOf
  simp [List.getD_eq_getElem?_getD, List.getElem?_eq_getElem h]
theorem ixD_mx (a : ByteArray) : ∀ (l : List ByteArray) (i : Int), 0 ≤ i → mx 0 (ixD (-1) a l i) = ixD 0 a l i
  | [], _, _ => by unfold mx ixD; simp
  | x :: r, i, h => by
    unfold ixD
    split
    · unfold mx; split <;> omega
    · exact ixD_mx a r (i + 1) (by omega)
theorem sindex_is (l : List ByteArray) (a : ByteArray) (hl : l.length ≤ 1000000) (d : Nat) : ∀ (i k : Nat), i + d = l.length → d < k →
    slices_Index_string_string.l0 k l a (l.length : Int) (i : Int) = some (ixD (-1) a (l.drop i) i) := by
  induction d with
  | zero =>
    intro i k hi hk
    obtain ⟨k, rfl⟩ : ∃ m, k = m + 1 := ⟨k - 1, by omega⟩
    simp only [slices_Index_string_string.l0]
    rw [if_neg (by omega), List.drop_eq_nil_of_le (by omega)]
    rfl
  | succ d ih =>
    intro i k hi hk
    obtain ⟨k, rfl⟩ : ∃ m, k = m + 1 := ⟨k - 1, by omega⟩
    simp only [slices_Index_string_string.l0]
    rw [if_pos (by omega), if_pos (by omega), if_pos (by omega), rdOf_at l i (by omega), List.drop_eq_getElem_cons (show i < l.length by omega), ixD]
    rw [w64_id (by omega) (by omega)]
    have e : ((i : Int) + 1) = ((i + 1 : Nat) : Int) := by omega
    rw [e, ih (i + 1) k (by omega) (by omega)]
    by_cases c : l[i].toList = a.toList
    · rw [if_pos c.symm, if_pos c]
    · rw [if_neg (fun h => c h.symm), if_neg c]
theorem ixD_far (d : Int) (a : ByteArray) : ∀ (l : List ByteArray) (i : Int), (∀ x ∈ l, x.size ≠ a.size) → ixD d a l i = d
  | [], _, _ => rfl
  | x :: r, i, h => by
    rw [ixD, if_neg, ixD_far d a r (i + 1) (fun y hy => h y (List.mem_cons_of_mem _ hy))]
    intro e
    have h1 := h x List.mem_cons_self
    rw [Go.ByteArray.toList_eq, Go.ByteArray.toList_eq] at e
    have h2 := congrArg List.length e
    simp at h2
    exact h1 h2

def rnames : List ByteArray := (spec_l09Names.f).getD []
theorem rnames_is : spec_l09Names.f = some rnames := rfl
theorem rnames_impl : impl_relocNames.f = some (⟨#[]⟩ :: rnames) := rfl
theorem relocOf_impl (k : Nat) (a : ByteArray) (hk : 20 < k) : impl_RelocOf.f k a = some (ixD 0 a rnames 1) := by
  unfold impl_RelocOf.f slices_Index_string_string.f
  rw [rnames_impl]
  simp only [Option.bind_some]
  have hlen : (⟨#[]⟩ :: rnames : List ByteArray).length = 10 := rfl
  have h := sindex_is (⟨#[]⟩ :: rnames) a (by omega) 10 0 k (by omega) (by omega)
  rw [show ((0 : Nat) : Int) = 0 from rfl] at h
  rw [h]
  simp only [Option.bind_some, List.drop_zero]
  congr 1
  rw [ixD_mx _ _ _ (by omega), ixD]
  split
  · rename_i h0
    have e0 : (⟨#[]⟩ : ByteArray).toList = [] := by decide +kernel
    rw [e0] at h0
    unfold rnames
    simp only [spec_l09Names.f, Option.getD_some, ixD, ← h0]
    decide +kernel
  · rfl

theorem reloc_all : ∀ i ∈ List.range' 1 9, ((impl_RelocName.f (i : Int)).bind fun t => (spec_RelocName.f (i : Int)).map fun u => (decide (t.toList = u.toList) && decide (ixD 0 t rnames 1 = (i : Int)))) = some true := by decide +kernel
theorem reloc_names (i : Nat) (h0 : 1 ≤ i) (h1 : i ≤ 9) : ∃ t u, impl_RelocName.f (i : Int) = some t ∧ spec_RelocName.f (i : Int) = some u ∧ t.toList = u.toList ∧ impl_RelocOf.f 30 t = some (i : Int) := by
  have h := reloc_all i (by rw [List.mem_range'_1]; omega)
  obtain ⟨t, ht, h⟩ := Option.bind_eq_some_iff.1 h
  obtain ⟨u, hu, h⟩ := Option.map_eq_some_iff.1 h
  rw [Bool.and_eq_true, decide_eq_true_eq, decide_eq_true_eq] at h
  exact ⟨t, u, ht, hu, h.1, by rw [relocOf_impl 30 t (by decide), h.2]⟩
theorem split_parts (k : Nat) (hk : 64 < k) (v : Int) (h0 : -2147483648 ≤ v) (h1 : v ≤ 2147483647) : ∃ a b c, impl_SplitAddress.f k v = some (a, b, c) ∧ (c = 0 → a + b = v ∧ a % 4096 = 0 ∧ -2048 ≤ b ∧ b ≤ 2047) ∧ (c ≠ 0 → c = 25 ∧ v > 2147481599) := by
  unfold impl_SplitAddress.f impl_isValue.f impl_immOK.f impl_within.f
  rw [upper_is v (by omega) (by omega), lower_is v (by omega) (by omega)]
  have hm : Int.tmod (v + 2048 - (v + 2048) % 4096) 4096 = 0 := by
    rw [show v + 2048 - (v + 2048) % 4096 = 4096 * ((v + 2048) / 4096) by omega]
    exact Int.mul_tmod_right _ _
  have hl : v - (v + 2048 - (v + 2048) % 4096) = (v + 2048) % 4096 - 2048 := by omega
  have hl0 : -2048 ≤ (v + 2048) % 4096 - 2048 ∧ (v + 2048) % 4096 - 2048 ≤ 2047 := by omega
  have hm2 : (v + 2048 - (v + 2048) % 4096) % 4096 = 0 := by omega
  simp only [Option.bind_some, show (-4294967296 : Int) ≤ v by omega, show v ≤ 4294967296 by omega, if_true, decide_true]
  generalize hu : v + 2048 - (v + 2048) % 4096 = u at *
  generalize (v + 2048) % 4096 - 2048 = l at *
  have c3 : -2147483648 ≤ u := by omega
  by_cases c4 : u ≤ 2147479552
  · exact ⟨u, l, 0, by simp [c3, c4, hm], fun _ => ⟨by omega, hm2, hl0.1, hl0.2⟩, fun h => absurd rfl h⟩
  · exact ⟨0, 0, 25, by simp [c3, c4], fun h => by omega, fun _ => ⟨rfl, by omega⟩⟩
theorem FnSplit : laws_FnSplit.Pure := by
  intro l0 l1 m0 z0 w0 m1 z1 w1
  have b0 := bytesIn_wf w0
  have b1 := bytesIn_wf w1
  obtain ⟨k, hk⟩ : ∃ k : Nat, 64 < k := ⟨65, by decide⟩
  refine ⟨k + 2, ?_⟩
  unfold laws_FnSplit.f
  by_cases c0 : (l0.length : Int) > 1048576
  · rw [if_pos c0, laws_FnSplit.j0, if_pos rfl]
  · rw [if_neg c0, laws_FnSplit.j0]
    by_cases c1 : (l1.length : Int) > 1048576
    · rw [if_pos (by simpa using c1)]
    · rw [if_neg (by simpa using c1)]
      obtain ⟨x, hx, x0, x1⟩ := wordDrawn_is b0 (by omega)
      rw [hx]
      simp only [Option.bind_some]
      rw [w64_id (n := x - 2147483648) (by omega) (by omega)]
      obtain ⟨a, b, c, e, p1, p2⟩ := split_parts (k + 1) (by omega) (x - 2147483648) (by omega) (by omega)
      obtain ⟨r, r1, r2⟩ := splitSame (k + 1) (by omega) (x - 2147483648) (by omega)
      have hr : r = (a, b, c) := Option.some.inj (r2.symm.trans e)
      subst hr
      rw [e, r1]
      simp only [Option.bind_some]
      obtain ⟨y, hy, y0, y1⟩ := at_is b1 (by omega) 0 9 (by omega) (by omega) (by omega) (by omega)
      rw [hy]
      simp only [Option.bind_some]
      obtain ⟨i, hi⟩ : ∃ i : Nat, 1 + y = i := ⟨(1 + y).toNat, by omega⟩
      rw [w64_id (n := 1 + y) (by omega) (by omega), hi]
      obtain ⟨t, u, t1, t2, tu, t3⟩ := reloc_names i (by omega) (by omega)
      have t4 : impl_RelocOf.f (k + 1) t = some (i : Int) := by rw [relocOf_impl (k + 1) t (by omega), ← t3, relocOf_impl 30 t (by decide)]
      rw [t1, t2]
      simp only [Option.bind_some, if_true]
      rw [if_pos tu, t4]
      simp only [Option.bind_some]
      rw [laws_FnSplit.j1]
      rw [if_neg (by simp)]
      by_cases cc : c = 0
      · obtain ⟨q1, q2, q3, q4⟩ := p1 cc
        rw [if_pos cc, q1, w64_id (by omega) (by omega), if_pos rfl]
        obtain ⟨q, hq⟩ : ∃ q, a = 4096 * q := ⟨a / 4096, by omega⟩
        rw [if_pos (by rw [hq]; exact Int.mul_tmod_right _ _), if_pos q3]
        simp [q4]
      · obtain ⟨q1, q2⟩ := p2 cc
        rw [if_neg cc, if_pos q1]
        simp [q2]

end Go.Proofs.Ytoaonegjefbipaa.Pure
