/- TakeLittle of the program is TakeLittle of the reference, for all texts and numbers. -/
import Derived.Test.YtjmgihpgpkhhjaaPFnExactTakeLittlex1
import Derived.Laws.BitsLemmas
set_option linter.unusedVariables false
set_option linter.unusedSimpArgs false
namespace Go.Proofs.Ytjmgihpgpkhhjaa.Pure
open Go.RowKit Go.Proofs.Ytjmgihpgpkhhjaa.PFnExactTakeLittle Go.Proofs.YtjmgihpgpkhhjaaW.PrintWords Go.Proofs.YtjmgihpgpkhhjaaW.PrintLast Go.Proofs.YtjmgihpgpkhhjaaW.PrintMore

theorem wf64 {x : Int} (h : (Lit.int .i64 x).wf = true) : -9223372036854775808 ≤ x ∧ x ≤ 9223372036854775807 := by
  simp only [Lit.wf, IntKind.min, IntKind.max, IntKind.signed, IntKind.bits, Bool.and_eq_true, decide_eq_true_eq, if_true] at h
  omega
theorem u64w (n : Int) : IntKind.u64.wrap n = n % 18446744073709551616 := by simp [IntKind.wrap, IntKind.bits, IntKind.signed]
theorem i64w (n : Int) : IntKind.i64.wrap n = wrap64 n := by unfold wrap64; exact Go.IntKind.wrap_i64 n
theorem w64_id {n : Int} (h0 : -9223372036854775808 ≤ n) (h1 : n ≤ 9223372036854775807) : wrap64 n = n := by unfold wrap64; omega
theorem u64_id {n : Int} (h0 : 0 ≤ n) (h1 : n < 18446744073709551616) : IntKind.u64.wrap n = n := by rw [u64w]; omega
theorem w64_rng (n : Int) : -9223372036854775808 ≤ wrap64 n ∧ wrap64 n ≤ 9223372036854775807 := by unfold wrap64; omega
theorem pow64 : (18446744073709551616 : Nat) = 2 ^ 64 := by decide

/-- The number of the first n bits. -/
def ob (b : Nat → Bool) : Nat → Nat
  | 0 => 0
  | n + 1 => (if b n then 2 ^ n else 0) + ob b n
theorem ob_lt (b : Nat → Bool) (n : Nat) : ob b n < 2 ^ n := by
  induction n with
  | zero => simp [ob]
  | succ n ih => unfold ob; rw [Nat.pow_succ]; split <;> omega
theorem ob_testBit (b : Nat → Bool) (n j : Nat) : (ob b n).testBit j = (decide (j < n) && b j) := by
  induction n with
  | zero => simp [ob]
  | succ n ih =>
    have hl := ob_lt b n
    have e : ob b (n + 1) = 2 ^ n * (b n).toNat + ob b n := by rw [ob]; cases b n <;> simp
    rw [e, Nat.testBit_two_pow_mul_add _ hl, ih]
    by_cases h : j < n
    · simp [h]; intro; omega
    · by_cases h2 : j = n
      · subst h2; simp; cases b j <;> simp
      · have h3 : j - n ≠ 0 := by omega
        have h4 : ¬ j < n + 1 := by omega
        simp [h, h4]
        cases hb : b n
        · simp
        · obtain ⟨m, hm⟩ : ∃ m, j - n = m + 1 := ⟨j - n - 1, by omega⟩
          rw [hm]; simp [Nat.testBit_succ]
theorem ob_congr {b c : Nat → Bool} {n : Nat} (h : ∀ i, i < n → b i = c i) : ob b n = ob c n := by
  induction n with
  | zero => rfl
  | succ n ih => unfold ob; rw [h n (by omega), ih (fun i hi => h i (by omega))]

/-- Bit i of a number's two's complement. -/
def tb (v : Int) (i : Nat) : Bool := (v % 18446744073709551616).toNat.testBit i
theorem nlt (v : Int) : (v % 18446744073709551616).toNat < 2 ^ 64 := by rw [← pow64]; omega
theorem tb_hi (v : Int) (i : Nat) (h : 64 ≤ i) : tb v i = false := by
  unfold tb
  exact Nat.testBit_lt_two_pow (Nat.lt_of_lt_of_le (nlt v) (Nat.pow_le_pow_right (by decide) h))
theorem tb_nat (n i : Nat) (h : n < 18446744073709551616) : tb (n : Int) i = n.testBit i := by
  unfold tb
  congr 1
  omega
theorem tb_eq {x y : Int} (h : ∀ i, i < 64 → tb x i = tb y i) : x % 18446744073709551616 = y % 18446744073709551616 := by
  have e : (x % 18446744073709551616).toNat = (y % 18446744073709551616).toNat := by
    refine Nat.eq_of_testBit_eq fun i => ?_
    by_cases hi : i < 64
    · exact h i hi
    · have h1 := tb_hi x i (by omega)
      have h2 := tb_hi y i (by omega)
      unfold tb at h1 h2
      rw [h1, h2]
  omega
theorem tb_ext {x y : Int} (hx0 : -9223372036854775808 ≤ x) (hx1 : x ≤ 9223372036854775807) (hy0 : -9223372036854775808 ≤ y) (hy1 : y ≤ 9223372036854775807) (h : ∀ i, i < 64 → tb x i = tb y i) : x = y := by
  have := tb_eq h
  omega
theorem tb_congr {x y : Int} (h : x % 18446744073709551616 = y % 18446744073709551616) (i : Nat) : tb x i = tb y i := by unfold tb; rw [h]
theorem tb_wrap64 (x : Int) (i : Nat) : tb (wrap64 x) i = tb x i := tb_congr (by unfold wrap64; omega) i
theorem tb_u64 (x : Int) (i : Nat) : tb (IntKind.u64.wrap x) i = tb x i := tb_congr (by rw [u64w]; omega) i
theorem tb_ob (b : Nat → Bool) (n i : Nat) (hn : n ≤ 64) : tb ((ob b n : Nat) : Int) i = (decide (i < n) && b i) := by
  rw [tb_nat _ _ (by rw [pow64]; exact Nat.lt_of_lt_of_le (ob_lt b n) (Nat.pow_le_pow_right (by decide) hn)), ob_testBit]
theorem tb_bv (v : Int) (i : Nat) : tb v i = (BitVec.ofInt 64 v).getLsbD i := by
  unfold tb BitVec.getLsbD
  rw [BitVec.toNat_ofInt]
  rfl
theorem tb_mul (x : Int) (s i : Nat) (hi : i < 64) : tb (x * 2 ^ s) i = (decide (s ≤ i) && tb x (i - s)) := by
  have e : tb (x * 2 ^ s) i = ((x % 18446744073709551616).toNat * 2 ^ s).testBit i := by
    have h1 : ((x * 2 ^ s) % 18446744073709551616).toNat = ((x % 18446744073709551616).toNat * 2 ^ s) % 2 ^ 64 := by
      have h2 : (x * 2 ^ s) % 18446744073709551616 = ((x % 18446744073709551616) * 2 ^ s) % 18446744073709551616 := by
        have h5 := Int.mul_emod x (2 ^ s) 18446744073709551616
        have h6 := Int.mul_emod (x % 18446744073709551616) (2 ^ s) 18446744073709551616
        rw [Int.emod_emod_of_dvd x (Int.dvd_refl _)] at h6
        rw [h5, h6]
      obtain ⟨m, hm⟩ : ∃ m : Nat, x % 18446744073709551616 = m := ⟨(x % 18446744073709551616).toNat, by omega⟩
      rw [h2, hm, ← pow64]
      have h3 : ((m : Int) * 2 ^ s) % 18446744073709551616 = ((m * 2 ^ s % 18446744073709551616 : Nat) : Int) := by simp
      rw [h3]
      exact Int.toNat_natCast _
    unfold tb
    rw [h1, Nat.testBit_mod_two_pow]
    simp [hi]
  rw [e, ← Nat.shiftLeft_eq, Nat.testBit_shiftLeft]
  rfl
theorem tb_div_u (x : Int) (h0 : 0 ≤ x) (h1 : x < 18446744073709551616) (s i : Nat) : tb (x / 2 ^ s) i = tb x (i + s) := by
  obtain ⟨m, rfl⟩ := Int.eq_ofNat_of_zero_le h0
  have h2 : ((m : Int) / 2 ^ s) = ((m / 2 ^ s : Nat) : Int) := by simp
  have h3 : m / 2 ^ s ≤ m := Nat.div_le_self _ _
  rw [h2, tb_nat _ _ (by omega), tb_nat _ _ (by omega), Nat.testBit_div_two_pow]
theorem tb_div_s (x : Int) (h0 : -9223372036854775808 ≤ x) (h1 : x ≤ 9223372036854775807) (s i : Nat) (hi : i < 64) : tb (x / 2 ^ s) i = tb x (min (i + s) 63) := by
  have e : x / 2 ^ s = ((BitVec.ofInt 64 x).sshiftRight s).toInt := by
    rw [BitVec.toInt_sshiftRight, Int.shiftRight_eq_div_pow, BitVec.toInt_ofInt]
    have : x.bmod (2 ^ 64) = x := by
      have p : (2 ^ 64 : Nat) = 18446744073709551616 := by decide
      rw [p, Int.bmod_def]
      omega
    rw [this]
    simp
  have g : tb ((BitVec.ofInt 64 x).sshiftRight s).toInt i = ((BitVec.ofInt 64 x).sshiftRight s).getLsbD i := by
    rw [tb_bv, BitVec.ofInt_toInt]
  rw [e, g, BitVec.getLsbD_sshiftRight]
  have hm : (BitVec.ofInt 64 x).msb = tb x 63 := by rw [tb_bv, BitVec.msb_eq_getLsbD_last]
  by_cases h : s + i < 64
  · have h2 : min (i + s) 63 = s + i := by omega
    rw [h2, if_pos h, tb_bv]
    simp [show ¬ 64 ≤ i by omega]
  · have h2 : min (i + s) 63 = 63 := by omega
    rw [h2, if_neg h, hm]
    simp [show ¬ 64 ≤ i by omega]
theorem tb_bits {r : BitVec 64} (i : Nat) : tb (IntKind.i64.wrap (r.toNat : Int)) i = r.getLsbD i := by
  rw [i64w, tb_wrap64, tb_nat _ _ (by rw [pow64]; exact r.isLt)]
  rfl
theorem tb_and (x y : Int) (i : Nat) : tb (Go.bits .and .i64 x y) i = (tb x i && tb y i) := by
  rw [show Go.bits .and .i64 x y = IntKind.i64.wrap (((BitVec.ofInt 64 x) &&& (BitVec.ofInt 64 y) : BitVec 64).toNat : Int) from rfl, tb_bits, BitVec.getLsbD_and, tb_bv, tb_bv]
theorem tb_or (x y : Int) (i : Nat) : tb (Go.bits .or .i64 x y) i = (tb x i || tb y i) := by
  rw [show Go.bits .or .i64 x y = IntKind.i64.wrap (((BitVec.ofInt 64 x) ||| (BitVec.ofInt 64 y) : BitVec 64).toNat : Int) from rfl, tb_bits, BitVec.getLsbD_or, tb_bv, tb_bv]
theorem tb_xor (x y : Int) (i : Nat) : tb (Go.bits .xor .i64 x y) i = (tb x i ^^ tb y i) := by
  rw [show Go.bits .xor .i64 x y = IntKind.i64.wrap (((BitVec.ofInt 64 x) ^^^ (BitVec.ofInt 64 y) : BitVec 64).toNat : Int) from rfl, tb_bits, BitVec.getLsbD_xor, tb_bv, tb_bv]
theorem tb_andNot (x y : Int) (i : Nat) (hi : i < 64) : tb (Go.bits .andNot .i64 x y) i = (tb x i && !tb y i) := by
  rw [show Go.bits .andNot .i64 x y = IntKind.i64.wrap (((BitVec.ofInt 64 x) &&& ~~~(BitVec.ofInt 64 y) : BitVec 64).toNat : Int) from rfl, tb_bits, BitVec.getLsbD_and, BitVec.getLsbD_not, tb_bv, tb_bv]
  simp [hi]
theorem bits_rng (o : BinOp) (x y : Int) : -9223372036854775808 ≤ Go.bits o .i64 x y ∧ Go.bits o .i64 x y ≤ 9223372036854775807 := by
  have h : ∀ n : Int, -9223372036854775808 ≤ IntKind.i64.wrap n ∧ IntKind.i64.wrap n ≤ 9223372036854775807 := fun n => by rw [i64w]; exact w64_rng n
  unfold Go.bits
  split <;> first | exact h _ | omega
theorem tb_pow1 (c i : Nat) (hc : c ≤ 64) : tb ((2 : Int) ^ c - 1) i = decide (i < c) := by
  have hp : 0 < 2 ^ c := Nat.two_pow_pos c
  have e : ((2 : Int) ^ c - 1) = ((2 ^ c - 1 : Nat) : Int) := by rw [Int.natCast_sub hp]; simp
  have hl : 2 ^ c ≤ 2 ^ 64 := Nat.pow_le_pow_right (by decide) hc
  rw [e, tb_nat _ _ (by rw [pow64]; omega), Nat.testBit_two_pow_sub_one]
theorem tb_mod (x : Int) (c i : Nat) (hc : c ≤ 64) : tb (x % 2 ^ c) i = (decide (i < c) && tb x i) := by
  obtain ⟨m, hm⟩ : ∃ m : Nat, x % 18446744073709551616 = m := ⟨(x % 18446744073709551616).toNat, by omega⟩
  have hml : m < 18446744073709551616 := by omega
  have e : x % 2 ^ c = ((m % 2 ^ c : Nat) : Int) := by
    have hd : ((2 : Int) ^ c) ∣ 18446744073709551616 := by
      refine ⟨2 ^ (64 - c), ?_⟩
      rw [← Int.pow_add, show c + (64 - c) = 64 by omega]; rfl
    have h2 : x % 2 ^ c = (x % 18446744073709551616) % 2 ^ c := (Int.emod_emod_of_dvd x hd).symm
    rw [h2, hm]; simp
  have hle : m % 2 ^ c ≤ m := Nat.mod_le _ _
  have h3 : tb x i = m.testBit i := by unfold tb; rw [hm]; simp
  rw [e, tb_nat _ _ (by omega), Nat.testBit_mod_two_pow, h3]
/-- The lowest c bits as a signed number. -/
def smod (v : Int) (c : Nat) : Int := (v + 2 ^ (c - 1)) % 2 ^ c - 2 ^ (c - 1)
theorem ipow_pos (c : Nat) : (0 : Int) < 2 ^ c := Int.pow_pos (by decide)
theorem ipow_split (c : Nat) (h1 : 1 ≤ c) : (2 : Int) ^ c = 2 ^ (c - 1) * 2 := by
  obtain ⟨m, rfl⟩ : ∃ m, c = m + 1 := ⟨c - 1, by omega⟩
  rw [Int.pow_succ]; rfl
theorem ipow_le (c d : Nat) (h : c ≤ d) : (2 : Int) ^ c ≤ 2 ^ d := by exact_mod_cast Nat.pow_le_pow_right (by decide : 0 < 2) h
theorem smod_rng (v : Int) (c : Nat) (h1 : 1 ≤ c) : -(2 ^ (c - 1)) ≤ smod v c ∧ smod v c < 2 ^ (c - 1) := by
  have h0 := Int.emod_nonneg (v + 2 ^ (c - 1)) (Int.ne_of_gt (ipow_pos c))
  have h2 := Int.emod_lt_of_pos (v + 2 ^ (c - 1)) (ipow_pos c)
  have h3 := ipow_split c h1
  unfold smod
  omega
theorem smod_rng64 (v : Int) (c : Nat) (h1 : 1 ≤ c) (h2 : c ≤ 64) : -9223372036854775808 ≤ smod v c ∧ smod v c ≤ 9223372036854775807 := by
  have h := smod_rng v c h1
  have h3 := ipow_le (c - 1) 63 (by omega)
  have h4 : (2 : Int) ^ 63 = 9223372036854775808 := by decide
  omega
theorem smod_shift (v : Int) (c : Nat) (h1 : 1 ≤ c) (h2 : c ≤ 64) : wrap64 (v * 2 ^ (64 - c)) / 2 ^ (64 - c) = smod v c := by
  have hs := ipow_pos (64 - c)
  have e1 : (9223372036854775808 : Int) = 2 ^ (64 - c) * 2 ^ (c - 1) := by rw [← Int.pow_add, show 64 - c + (c - 1) = 63 by omega]; decide
  have e2 : (18446744073709551616 : Int) = 2 ^ (64 - c) * 2 ^ c := by rw [← Int.pow_add, show 64 - c + c = 64 by omega]; decide
  have e3 : wrap64 (v * 2 ^ (64 - c)) = 2 ^ (64 - c) * smod v c := by
    unfold wrap64 smod
    rw [e1, e2, Int.mul_comm v, ← Int.mul_add, Int.mul_emod_mul_of_pos _ _ hs, Int.mul_sub]
  rw [e3, Int.mul_ediv_cancel_left _ (Int.ne_of_gt hs)]
theorem tb_smod (v : Int) (c i : Nat) (h1 : 1 ≤ c) (h2 : c ≤ 64) (hi : i < 64) : tb (smod v c) i = tb v (min i (c - 1)) := by
  have hr := w64_rng (v * 2 ^ (64 - c))
  rw [← smod_shift v c h1 h2, tb_div_s _ hr.1 hr.2 _ _ hi, tb_wrap64, tb_mul _ _ _ (by omega)]
  rw [show min (i + (64 - c)) 63 - (64 - c) = min i (c - 1) by omega]
  simp [show 64 - c ≤ min (i + (64 - c)) 63 by omega]
theorem sgn_math (v : Int) (c : Nat) (h1 : 1 ≤ c) (h2 : c ≤ 64) : wrap64 ((ob (fun j => tb v (min j (c - 1))) 64 : Nat) : Int) = smod v c := by
  have hr := smod_rng64 v c h1 h2
  have hw := w64_rng ((ob (fun j => tb v (min j (c - 1))) 64 : Nat) : Int)
  refine tb_ext hw.1 hw.2 hr.1 hr.2 fun i hi => ?_
  rw [tb_wrap64, tb_ob _ _ _ (by omega), tb_smod v c i h1 h2 hi]
  simp [hi]
theorem field_math (v : Int) (low c : Nat) (h : low + c ≤ 64) : ((ob (fun j => tb v (low + j)) c : Nat) : Int) = (v % 18446744073709551616) / 2 ^ low % 2 ^ c := by
  have h0 : 0 ≤ (v % 18446744073709551616) / 2 ^ low % 2 ^ c := Int.emod_nonneg _ (Int.ne_of_gt (ipow_pos c))
  have h1 : (v % 18446744073709551616) / 2 ^ low % 2 ^ c < 2 ^ c := Int.emod_lt_of_pos _ (ipow_pos c)
  have h2 : (2 : Int) ^ c ≤ 18446744073709551616 := by have := ipow_le c 64 (by omega); rw [show (18446744073709551616 : Int) = 2 ^ 64 by decide]; exact this
  have h3 : ob (fun j => tb v (low + j)) c < 18446744073709551616 := by rw [pow64]; exact Nat.lt_of_lt_of_le (ob_lt _ _) (Nat.pow_le_pow_right (by decide) (by omega))
  have e := tb_eq (x := ((ob (fun j => tb v (low + j)) c : Nat) : Int)) (y := (v % 18446744073709551616) / 2 ^ low % 2 ^ c) fun i hi => by
    rw [tb_ob _ _ _ (by omega), tb_mod _ _ _ (by omega), tb_div_u _ (by omega) (by omega)]
    have : tb (v % 18446744073709551616) (i + low) = tb v (i + low) := tb_congr (by omega) _
    rw [this, Nat.add_comm i low]
  omega
theorem fin_i (r : Int) : ((some r).bind fun t => (some r).bind fun u => if u = t then some true else some false) = some true := by simp
theorem fin_ii (r : Int × Int) : ((some r).bind fun t => (some r).bind fun u => if u.1 = t.1 then (if u.2 = t.2 then some true else some false) else some false) = some true := by simp

def isw (n : Int) : Bool := decide (n = 1 ∨ n = 2 ∨ n = 4 ∨ n = 8)
theorem swidth_is (n : Int) : spec_l01Width.f n = some (isw n) := by
  unfold spec_l01Width.f isw
  by_cases h1 : n = 1
  · simp [h1]
  · by_cases h2 : n = 2
    · simp [h2]
    · by_cases h4 : n = 4
      · simp [h4]
      · by_cases h8 : n = 8 <;> simp [h1, h2, h4, h8]
theorem iwidth_is (n : Int) : impl_isWidth.f n = some (isw n) := by
  unfold impl_isWidth.f isw
  by_cases h1 : n = 1
  · simp [h1]
  · by_cases h2 : n = 2
    · simp [h2]
    · by_cases h4 : n = 4
      · simp [h4]
      · by_cases h8 : n = 8 <;> simp [h1, h2, h4, h8]
theorem isw_nat (n : Int) (h : isw n = true) : ∃ m : Nat, n = m ∧ 1 ≤ m ∧ m ≤ 8 := by
  simp [isw] at h
  exact ⟨n.toNat, by omega, by omega, by omega⟩

/-- The number of i bytes from o on. -/
def tk (s : ByteArray) (o : Nat) : Nat → Nat
  | 0 => 0
  | i + 1 => (bt s ((o + i : Nat) : Int)).toNat * 256 ^ i + tk s o i
theorem bt_nat (s : ByteArray) (i : Int) : ∃ b : Nat, bt s i = b ∧ b < 256 := by
  have h := bt_range s i
  exact ⟨(bt s i).toNat, by omega, by omega⟩
theorem tk_lt (s : ByteArray) (o i : Nat) : tk s o i < 256 ^ i := by
  induction i with
  | zero => simp [tk]
  | succ i ih =>
    have h := bt_range s ((o + i : Nat) : Int)
    rw [tk, Nat.pow_succ]
    have : (bt s ((o + i : Nat) : Int)).toNat * 256 ^ i ≤ 255 * 256 ^ i := Nat.mul_le_mul_right _ (by omega)
    omega
theorem stake_l (s : ByteArray) (o n : Nat) (hn : n ≤ 8) (ho : o + n ≤ s.size) (hs : s.size ≤ 140737488355320) : ∀ (i A k : Nat), i ≤ n → A < 256 ^ (n - i) → i < k →
    spec_l01Take.l0 k s (o : Int) (A : Int) ((i : Int) - 1) = some (wrap64 (((A * 256 ^ i + tk s o i : Nat)) : Int)) := by
  intro i
  induction i with
  | zero =>
    intro A k _ _ hk
    obtain ⟨k, rfl⟩ : ∃ m, k = m + 1 := ⟨k - 1, by omega⟩
    simp only [spec_l01Take.l0]
    rw [if_neg (by omega)]
    simp [tk]
  | succ i ih =>
    intro A k hi hA hk
    obtain ⟨k, rfl⟩ : ∃ m, k = m + 1 := ⟨k - 1, by omega⟩
    have hp : 256 ^ (n - i) = 256 * 256 ^ (n - (i + 1)) := by rw [show n - i = (n - (i + 1)) + 1 by omega, Nat.pow_succ]; omega
    have hq : 256 ^ (n - i) ≤ 256 ^ 8 := Nat.pow_le_pow_right (by decide) (by omega)
    rw [show (256 : Nat) ^ 8 = 18446744073709551616 by decide] at hq
    simp only [spec_l01Take.l0]
    have e0 : ((i + 1 : Nat) : Int) - 1 = (i : Int) := by omega
    have em : wrap64 ((o : Int) + (i : Int)) = ((o + i : Nat) : Int) := by rw [w64_id (by omega) (by omega)]; omega
    rw [e0, if_pos (by omega), em, if_pos (by omega), if_pos (by omega)]
    obtain ⟨b, hb, hb2⟩ := bt_nat s ((o + i : Nat) : Int)
    have e1 : IntKind.u64.wrap (IntKind.u64.wrap (256 * (A : Int)) + IntKind.u64.wrap (b : Int)) = ((256 * A + b : Nat) : Int) := by
      simp only [u64w]; omega
    rw [hb, e1, w64_id (by omega) (by omega), ih _ k (by omega) (by omega) (by omega)]
    congr 3
    rw [tk, Nat.pow_succ, hb, Int.toNat_natCast]
    grind
theorem stake_is (s : ByteArray) (o n k : Nat) (hn : n ≤ 8) (ho : o + n ≤ s.size) (hs : s.size ≤ 140737488355320) (hk : n < k) :
    spec_l01Take.f k s (o : Int) (n : Int) = some (wrap64 ((tk s o n : Nat) : Int)) := by
  unfold spec_l01Take.f
  have h := stake_l s o n hn ho hs n 0 k (Nat.le_refl _) (by rw [Nat.sub_self]; decide) hk
  rw [w64_id (by omega) (by omega)]
  rw [Nat.zero_mul, Nat.zero_add] at h
  exact h
theorem or_nat (x y : Int) : Go.bits .or .i64 x y = wrap64 ((((x % 18446744073709551616).toNat ||| (y % 18446744073709551616).toNat : Nat)) : Int) := by
  rw [show Go.bits .or .i64 x y = IntKind.i64.wrap (((BitVec.ofInt 64 x) ||| (BitVec.ofInt 64 y) : BitVec 64).toNat : Int) from rfl, i64w, BitVec.toNat_or, BitVec.toNat_ofInt, BitVec.toNat_ofInt]
  rfl
/-- What lies above 2^a and what lies below do not meet. -/
theorem or_low (x y : Int) (a : Nat) (ha : a ≤ 64) (hx : x % 2 ^ a = 0) (h0 : 0 ≤ y) (h1 : y < 2 ^ a) : Go.bits .or .i64 x y = wrap64 (x + y) := by
  have hle := ipow_le a 64 ha
  rw [show (2 : Int) ^ 64 = 18446744073709551616 by decide] at hle
  obtain ⟨m, hm⟩ : ∃ m : Nat, x % 18446744073709551616 = m := ⟨(x % 18446744073709551616).toNat, by omega⟩
  obtain ⟨b, rfl⟩ := Int.eq_ofNat_of_zero_le h0
  have hmd : m % 2 ^ a = 0 := by
    have hd : ((2 : Int) ^ a) ∣ 18446744073709551616 := by
      refine ⟨2 ^ (64 - a), ?_⟩
      rw [← Int.pow_add, show a + (64 - a) = 64 by omega]; rfl
    have h2 : (m : Int) % 2 ^ a = 0 := by rw [← hm, Int.emod_emod_of_dvd x hd, hx]
    exact_mod_cast h2
  have hb : b < 2 ^ a := by exact_mod_cast h1
  have hq : m = 2 ^ a * (m / 2 ^ a) := by have := Nat.div_add_mod m (2 ^ a); omega
  have e : (m ||| b) = m + b := by rw [hq]; exact (Nat.two_pow_add_eq_or_of_lt hb _).symm
  rw [or_nat, hm, show ((b : Int) % 18446744073709551616).toNat = b by omega, Int.toNat_natCast, e]
  unfold wrap64
  omega
theorem itake_l (s : ByteArray) (hs : s.size ≤ 140737488355320) : ∀ (i : Nat) (A : Int) (k : Nat), i ≤ s.size → i < k →
    impl_takeLittle.l0 k s (wrap64 A) ((i : Int) - 1) = some (wrap64 (A * 256 ^ i + (tk s 0 i : Nat))) := by
  intro i
  induction i with
  | zero =>
    intro A k _ hk
    obtain ⟨k, rfl⟩ : ∃ m, k = m + 1 := ⟨k - 1, by omega⟩
    simp only [impl_takeLittle.l0]
    rw [if_neg (by omega)]
    simp [tk]
  | succ i ih =>
    intro A k hi hk
    obtain ⟨k, rfl⟩ : ∃ m, k = m + 1 := ⟨k - 1, by omega⟩
    simp only [impl_takeLittle.l0]
    have e0 : ((i + 1 : Nat) : Int) - 1 = (i : Int) := by omega
    rw [e0, if_pos (by omega), if_pos (by omega), if_pos (by omega)]
    obtain ⟨b, hb, hb2⟩ := bt_nat s (i : Int)
    have e1 : Go.bits .or .i64 (wrap64 (wrap64 A * 256)) (wrap64 (b : Int)) = wrap64 (A * 256 + b) := by
      rw [w64_id (n := (b : Int)) (by omega) (by omega), or_low _ _ 8 (by decide) (by unfold wrap64; omega) (by omega) (by omega)]
      unfold wrap64
      omega
    rw [hb, e1, w64_id (n := (i : Int) - 1) (by omega) (by omega), ih _ k (by omega) (by omega)]
    congr 2
    rw [tk, Nat.zero_add, hb, Int.toNat_natCast, Int.pow_succ]
    rw [Int.natCast_add, Int.natCast_mul, Int.natCast_pow, show ((256 : Nat) : Int) = 256 from rfl]
    generalize (256 : Int) ^ i = q
    generalize ((tk s 0 i : Nat) : Int) = z
    rw [Int.add_mul, Int.mul_assoc, Int.mul_comm 256 q, Int.add_assoc]
theorem itake_is (s : ByteArray) (hs : s.size ≤ 140737488355320) (k : Nat) (hk : s.size < k) : impl_takeLittle.f k s = some (wrap64 ((tk s 0 s.size : Nat) : Int)) := by
  unfold impl_takeLittle.f
  have h := itake_l s hs s.size 0 k (Nat.le_refl _) hk
  rw [w64_id (n := (s.size : Int) - 1) (by omega) (by omega)]
  have e : wrap64 0 = 0 := by unfold wrap64; omega
  rw [e, Int.zero_mul, Int.zero_add] at h
  exact h
theorem bt_extract (s : ByteArray) (a b j : Nat) (h : a + j < b) (hb : b ≤ s.size) : bt (s.extract a b) (j : Int) = bt s ((a + j : Nat) : Int) := by
  have h1 : j < (s.extract a b).size := by rw [ByteArray.size_extract]; omega
  unfold bt
  simp only [Int.toNat_natCast]
  rw [dif_pos h1, dif_pos (by omega), ByteArray.getElem_extract]
theorem tk_extract (s : ByteArray) (a b : Nat) (hb : b ≤ s.size) : ∀ i, a + i ≤ b → tk (s.extract a b) 0 i = tk s a i := by
  intro i
  induction i with
  | zero => intro _; rfl
  | succ i ih => intro h; rw [tk, tk, Nat.zero_add, bt_extract s a b i (by omega) hb, ih (by omega)]
/-- The program's number of some bytes of a text is the reference's. -/
theorem take_same (s : ByteArray) (o n k : Nat) (hn : n ≤ 8) (ho : o + n ≤ s.size) (hs : s.size ≤ 140737488355320) (hk : n < k) :
    spec_l01Take.f k s (o : Int) (n : Int) = some (wrap64 ((tk s o n : Nat) : Int)) ∧ impl_takeLittle.f k (s.extract o (o + n)) = some (wrap64 ((tk s o n : Nat) : Int)) := by
  refine ⟨stake_is s o n k hn ho hs hk, ?_⟩
  have hz : (s.extract o (o + n)).size = n := by rw [ByteArray.size_extract]; omega
  rw [itake_is _ (by omega) k (by omega), hz, tk_extract s o (o + n) ho n (Nat.le_refl _)]

theorem fin_take (r : Int) : (((some r).bind fun t102 => some (t102, (0 : Int))).bind fun bt107 => ((some r).bind fun t106 => some (t106, (0 : Int))).bind fun bt109 =>
    if bt109.1 = bt107.1 then if bt109.2 = bt107.2 then some true else some false else some false) = some true := by simp
theorem FnExactTakeLittle : laws_FnExactTakeLittle.Pure := by
  intro s a n hs w0 w1
  have wa := wf64 w0
  obtain ⟨k, hk⟩ : ∃ k : Nat, 20 < k := ⟨21, by decide⟩
  refine ⟨k, ?_⟩
  unfold laws_FnExactTakeLittle.f spec_TakeLittle.f impl_TakeLittle.f impl_isLong.f impl_within.f
  by_cases h : (s.size : Int) > 1048576
  · rw [if_pos h]
  · rw [if_neg h]
    by_cases hl : (s.size : Int) > 65536
    · simp [hl]
    · rw [swidth_is, iwidth_is, if_neg hl]
      simp only [Option.bind_some]
      rw [if_neg (show ¬ decide ((s.size : Int) > 65536) = true by simp; omega)]
      cases hw : isw n
      · simp
      · obtain ⟨m, rfl, hm1, hm⟩ := isw_nat n hw
        rw [if_pos rfl, if_pos rfl]
        by_cases h0 : a < 0
        · simp [h0, show ¬ 0 ≤ a by omega]
        · rw [if_neg h0, if_pos (show 0 ≤ a by omega)]
          obtain ⟨o, rfl⟩ := Int.eq_ofNat_of_zero_le (show 0 ≤ a by omega)
          simp only [Option.bind_some]
          rw [w64_id (n := (s.size : Int) - (m : Int)) (by omega) (by omega)]
          by_cases h1 : (o : Int) > (s.size : Int)
          · rw [if_pos h1, if_neg (by simp; omega)]; simp
          · rw [if_neg h1, w64_id (n := (s.size : Int) - (o : Int)) (by omega) (by omega)]
            by_cases h2 : (m : Int) > (s.size : Int) - (o : Int)
            · rw [if_pos h2, if_neg (by simp; omega)]; simp
            · have e : wrap64 ((o : Int) + (m : Int)) = ((o + m : Nat) : Int) := by rw [w64_id (by omega) (by omega)]; omega
              obtain ⟨t1, t2⟩ := take_same s o m k hm (by omega) (by omega) (by omega)
              rw [if_neg h2, if_pos (by simp; omega), if_pos (by omega), e, if_pos (by omega), if_pos (by omega), Int.toNat_natCast, Int.toNat_natCast, t1, t2]
              exact fin_take _

end Go.Proofs.Ytjmgihpgpkhhjaa.Pure
