/- ShapeOf of the program is ShapeOf of the reference, for all numbers. -/
import Derived.Test.YtoaonegjefbipaaPFnExactShapeOfx1
import Derived.Laws.BitsLemmas
set_option linter.unusedVariables false
set_option linter.unusedSimpArgs false
namespace Go.Proofs.Ytoaonegjefbipaa.Pure
open Go.RowKit Go.Proofs.Ytoaonegjefbipaa.PFnExactShapeOf Go.Proofs.YtoaonegjefbipaaW.PrintWords Go.Proofs.YtoaonegjefbipaaW.PrintLast Go.Proofs.YtoaonegjefbipaaW.PrintMore

theorem wf64 {x : Int} (h : (Lit.int .i64 x).wf = true) : -9223372036854775808 ≤ x ∧ x ≤ 9223372036854775807 := by
  simp only [Lit.wf, IntKind.min, IntKind.max, IntKind.signed, IntKind.bits, Bool.and_eq_true, decide_eq_true_eq, if_true] at h
  omega
theorem u64w (n : Int) : IntKind.u64.wrap n = n % 18446744073709551616 := by simp [IntKind.wrap, IntKind.bits, IntKind.signed]
theorem i64w (n : Int) : IntKind.i64.wrap n = wrap64 n := by unfold wrap64; exact Go.IntKind.wrap_i64 n
theorem w64_id {n : Int} (h0 : -9223372036854775808 ≤ n) (h1 : n ≤ 9223372036854775807) : wrap64 n = n := by unfold wrap64; omega
theorem u64_id {n : Int} (h0 : 0 ≤ n) (h1 : n < 18446744073709551616) : IntKind.u64.wrap n = n := by rw [u64w]; omega
theorem w64_rng (n : Int) : -9223372036854775808 ≤ wrap64 n ∧ wrap64 n ≤ 9223372036854775807 := by unfold wrap64; omega
theorem pow64 : (18446744073709551616 : Nat) = 2 ^ 64 := by decide

/-- The number of the first n bits. -/
def ob (b : Nat → Bool) : Nat → Nat
  | 0 => 0
  | n + 1 => (if b n then 2 ^ n else 0) + ob b n
theorem ob_lt (b : Nat → Bool) (n : Nat) : ob b n < 2 ^ n := by
  induction n with
  | zero => simp [ob]
  | succ n ih => unfold ob; rw [Nat.pow_succ]; split <;> omega
theorem ob_testBit (b : Nat → Bool) (n j : Nat) : (ob b n).testBit j = (decide (j < n) && b j) := by
  induction n with
  | zero => simp [ob]
  | succ n ih =>
    have hl := ob_lt b n
    have e : ob b (n + 1) = 2 ^ n * (b n).toNat + ob b n := by rw [ob]; cases b n <;> simp
    rw [e, Nat.testBit_two_pow_mul_add _ hl, ih]
    by_cases h : j < n
    · simp [h]; intro; omega
    · by_cases h2 : j = n
      · subst h2; simp; cases b j <;> simp
      · have h3 : j - n ≠ 0 := by omega
        have h4 : ¬ j < n + 1 := by omega
        simp [h, h4]
        cases hb : b n
        · simp
        · obtain ⟨m, hm⟩ : ∃ m, j - n = m + 1 := ⟨j - n - 1, by omega⟩
          rw [hm]; simp [Nat.testBit_succ]
theorem ob_congr {b c : Nat → Bool} {n : Nat} (h : ∀ i, i < n → b i = c i) : ob b n = ob c n := by
  induction n with
  | zero => rfl
  | succ n ih => unfold ob; rw [h n (by omega), ih (fun i hi => h i (by omega))]

/-- Bit i of a number's two's complement. -/
def tb (v : Int) (i : Nat) : Bool := (v % 18446744073709551616).toNat.testBit i
theorem nlt (v : Int) : (v % 18446744073709551616).toNat < 2 ^ 64 := by rw [← pow64]; omega
theorem tb_hi (v : Int) (i : Nat) (h : 64 ≤ i) : tb v i = false := by
  unfold tb
  exact Nat.testBit_lt_two_pow (Nat.lt_of_lt_of_le (nlt v) (Nat.pow_le_pow_right (by decide) h))
theorem tb_nat (n i : Nat) (h : n < 18446744073709551616) : tb (n : Int) i = n.testBit i := by
  unfold tb
  congr 1
  omega
theorem tb_eq {x y : Int} (h : ∀ i, i < 64 → tb x i = tb y i) : x % 18446744073709551616 = y % 18446744073709551616 := by
  have e : (x % 18446744073709551616).toNat = (y % 18446744073709551616).toNat := by
    refine Nat.eq_of_testBit_eq fun i => ?_
    by_cases hi : i < 64
    · exact h i hi
    · have h1 := tb_hi x i (by omega)
      have h2 := tb_hi y i (by omega)
      unfold tb at h1 h2
      rw [h1, h2]
  omega
theorem tb_ext {x y : Int} (hx0 : -9223372036854775808 ≤ x) (hx1 : x ≤ 9223372036854775807) (hy0 : -9223372036854775808 ≤ y) (hy1 : y ≤ 9223372036854775807) (h : ∀ i, i < 64 → tb x i = tb y i) : x = y := by
  have := tb_eq h
  omega
theorem tb_congr {x y : Int} (h : x % 18446744073709551616 = y % 18446744073709551616) (i : Nat) : tb x i = tb y i := by unfold tb; rw [h]
theorem tb_wrap64 (x : Int) (i : Nat) : tb (wrap64 x) i = tb x i := tb_congr (by unfold wrap64; omega) i
theorem tb_u64 (x : Int) (i : Nat) : tb (IntKind.u64.wrap x) i = tb x i := tb_congr (by rw [u64w]; omega) i
theorem tb_ob (b : Nat → Bool) (n i : Nat) (hn : n ≤ 64) : tb ((ob b n : Nat) : Int) i = (decide (i < n) && b i) := by
  rw [tb_nat _ _ (by rw [pow64]; exact Nat.lt_of_lt_of_le (ob_lt b n) (Nat.pow_le_pow_right (by decide) hn)), ob_testBit]
theorem tb_bv (v : Int) (i : Nat) : tb v i = (BitVec.ofInt 64 v).getLsbD i := by
  unfold tb BitVec.getLsbD
  rw [BitVec.toNat_ofInt]
  rfl
theorem tb_mul (x : Int) (s i : Nat) (hi : i < 64) : tb (x * 2 ^ s) i = (decide (s ≤ i) && tb x (i - s)) := by
  have e : tb (x * 2 ^ s) i = ((x % 18446744073709551616).toNat * 2 ^ s).testBit i := by
    have h1 : ((x * 2 ^ s) % 18446744073709551616).toNat = ((x % 18446744073709551616).toNat * 2 ^ s) % 2 ^ 64 := by
      have h2 : (x * 2 ^ s) % 18446744073709551616 = ((x % 18446744073709551616) * 2 ^ s) % 18446744073709551616 := by
        have h5 := Int.mul_emod x (2 ^ s) 18446744073709551616
        have h6 := Int.mul_emod (x % 18446744073709551616) (2 ^ s) 18446744073709551616
        rw [Int.emod_emod_of_dvd x (Int.dvd_refl _)] at h6
        rw [h5, h6]
      obtain ⟨m, hm⟩ : ∃ m : Nat, x % 18446744073709551616 = m := ⟨(x % 18446744073709551616).toNat, by omega⟩
      rw [h2, hm, ← pow64]
      have h3 : ((m : Int) * 2 ^ s) % 18446744073709551616 = ((m * 2 ^ s % 18446744073709551616 : Nat) : Int) := by simp
      rw [h3]
      exact Int.toNat_natCast _
    unfold tb
    rw [h1, Nat.testBit_mod_two_pow]
    simp [hi]
  rw [e, ← Nat.shiftLeft_eq, Nat.testBit_shiftLeft]
  rfl
theorem tb_div_u (x : Int) (h0 : 0 ≤ x) (h1 : x < 18446744073709551616) (s i : Nat) : tb (x / 2 ^ s) i = tb x (i + s) := by
  obtain ⟨m, rfl⟩ := Int.eq_ofNat_of_zero_le h0
  have h2 : ((m : Int) / 2 ^ s) = ((m / 2 ^ s : Nat) : Int) := by simp
  have h3 : m / 2 ^ s ≤ m := Nat.div_le_self _ _
  rw [h2, tb_nat _ _ (by omega), tb_nat _ _ (by omega), Nat.testBit_div_two_pow]
theorem tb_div_s (x : Int) (h0 : -9223372036854775808 ≤ x) (h1 : x ≤ 9223372036854775807) (s i : Nat) (hi : i < 64) : tb (x / 2 ^ s) i = tb x (min (i + s) 63) := by
  have e : x / 2 ^ s = ((BitVec.ofInt 64 x).sshiftRight s).toInt := by
    rw [BitVec.toInt_sshiftRight, Int.shiftRight_eq_div_pow, BitVec.toInt_ofInt]
    have : x.bmod (2 ^ 64) = x := by
      have p : (2 ^ 64 : Nat) = 18446744073709551616 := by decide
      rw [p, Int.bmod_def]
      omega
    rw [this]
    simp
  have g : tb ((BitVec.ofInt 64 x).sshiftRight s).toInt i = ((BitVec.ofInt 64 x).sshiftRight s).getLsbD i := by
    rw [tb_bv, BitVec.ofInt_toInt]
  rw [e, g, BitVec.getLsbD_sshiftRight]
  have hm : (BitVec.ofInt 64 x).msb = tb x 63 := by rw [tb_bv, BitVec.msb_eq_getLsbD_last]
  by_cases h : s + i < 64
  · have h2 : min (i + s) 63 = s + i := by omega
    rw [h2, if_pos h, tb_bv]
    simp [show ¬ 64 ≤ i by omega]
  · have h2 : min (i + s) 63 = 63 := by omega
    rw [h2, if_neg h, hm]
    simp [show ¬ 64 ≤ i by omega]
theorem tb_bits {r : BitVec 64} (i : Nat) : tb (IntKind.i64.wrap (r.toNat : Int)) i = r.getLsbD i := by
  rw [i64w, tb_wrap64, tb_nat _ _ (by rw [pow64]; exact r.isLt)]
  rfl
theorem tb_and (x y : Int) (i : Nat) : tb (Go.bits .and .i64 x y) i = (tb x i && tb y i) := by
  rw [show Go.bits .and .i64 x y = IntKind.i64.wrap (((BitVec.ofInt 64 x) &&& (BitVec.ofInt 64 y) : BitVec 64).toNat : Int) from rfl, tb_bits, BitVec.getLsbD_and, tb_bv, tb_bv]
theorem tb_or (x y : Int) (i : Nat) : tb (Go.bits .or .i64 x y) i = (tb x i || tb y i) := by
  rw [show Go.bits .or .i64 x y = IntKind.i64.wrap (((BitVec.ofInt 64 x) ||| (BitVec.ofInt 64 y) : BitVec 64).toNat : Int) from rfl, tb_bits, BitVec.getLsbD_or, tb_bv, tb_bv]
theorem tb_xor (x y : Int) (i : Nat) : tb (Go.bits .xor .i64 x y) i = (tb x i ^^ tb y i) := by
  rw [show Go.bits .xor .i64 x y = IntKind.i64.wrap (((BitVec.ofInt 64 x) ^^^ (BitVec.ofInt 64 y) : BitVec 64).toNat : Int) from rfl, tb_bits, BitVec.getLsbD_xor, tb_bv, tb_bv]
theorem tb_andNot (x y : Int) (i : Nat) (hi : i < 64) : tb (Go.bits .andNot .i64 x y) i = (tb x i && !tb y i) := by
  rw [show Go.bits .andNot .i64 x y = IntKind.i64.wrap (((BitVec.ofInt 64 x) &&& ~~~(BitVec.ofInt 64 y) : BitVec 64).toNat : Int) from rfl, tb_bits, BitVec.getLsbD_and, BitVec.getLsbD_not, tb_bv, tb_bv]
  simp [hi]
theorem bits_rng (o : BinOp) (x y : Int) : -9223372036854775808 ≤ Go.bits o .i64 x y ∧ Go.bits o .i64 x y ≤ 9223372036854775807 := by
  have h : ∀ n : Int, -9223372036854775808 ≤ IntKind.i64.wrap n ∧ IntKind.i64.wrap n ≤ 9223372036854775807 := fun n => by rw [i64w]; exact w64_rng n
  unfold Go.bits
  split <;> first | exact h _ | omega
theorem tb_pow1 (c i : Nat) (hc : c ≤ 64) : tb ((2 : Int) ^ c - 1) i = decide (i < c) := by
  have hp : 0 < 2 ^ c := Nat.two_pow_pos c
  have e : ((2 : Int) ^ c - 1) = ((2 ^ c - 1 : Nat) : Int) := by rw [Int.natCast_sub hp]; simp
  have hl : 2 ^ c ≤ 2 ^ 64 := Nat.pow_le_pow_right (by decide) hc
  rw [e, tb_nat _ _ (by rw [pow64]; omega), Nat.testBit_two_pow_sub_one]
theorem tb_mod (x : Int) (c i : Nat) (hc : c ≤ 64) : tb (x % 2 ^ c) i = (decide (i < c) && tb x i) := by
  obtain ⟨m, hm⟩ : ∃ m : Nat, x % 18446744073709551616 = m := ⟨(x % 18446744073709551616).toNat, by omega⟩
  have hml : m < 18446744073709551616 := by omega
  have e : x % 2 ^ c = ((m % 2 ^ c : Nat) : Int) := by
    have hd : ((2 : Int) ^ c) ∣ 18446744073709551616 := by
      refine ⟨2 ^ (64 - c), ?_⟩
      rw [← Int.pow_add, show c + (64 - c) = 64 by omega]; rfl
    have h2 : x % 2 ^ c = (x % 18446744073709551616) % 2 ^ c := (Int.emod_emod_of_dvd x hd).symm
    rw [h2, hm]; simp
  have hle : m % 2 ^ c ≤ m := Nat.mod_le _ _
  have h3 : tb x i = m.testBit i := by unfold tb; rw [hm]; simp
  rw [e, tb_nat _ _ (by omega), Nat.testBit_mod_two_pow, h3]
/-- The lowest c bits as a signed number. -/
def smod (v : Int) (c : Nat) : Int := (v + 2 ^ (c - 1)) % 2 ^ c - 2 ^ (c - 1)
theorem ipow_pos (c : Nat) : (0 : Int) < 2 ^ c := Int.pow_pos (by decide)
theorem ipow_split (c : Nat) (h1 : 1 ≤ c) : (2 : Int) ^ c = 2 ^ (c - 1) * 2 := by
  obtain ⟨m, rfl⟩ : ∃ m, c = m + 1 := ⟨c - 1, by omega⟩
  rw [Int.pow_succ]; rfl
theorem ipow_le (c d : Nat) (h : c ≤ d) : (2 : Int) ^ c ≤ 2 ^ d := by exact_mod_cast Nat.pow_le_pow_right (by decide : 0 < 2) h
theorem smod_rng (v : Int) (c : Nat) (h1 : 1 ≤ c) : -(2 ^ (c - 1)) ≤ smod v c ∧ smod v c < 2 ^ (c - 1) := by
  have h0 := Int.emod_nonneg (v + 2 ^ (c - 1)) (Int.ne_of_gt (ipow_pos c))
  have h2 := Int.emod_lt_of_pos (v + 2 ^ (c - 1)) (ipow_pos c)
  have h3 := ipow_split c h1
  unfold smod
  omega
theorem smod_rng64 (v : Int) (c : Nat) (h1 : 1 ≤ c) (h2 : c ≤ 64) : -9223372036854775808 ≤ smod v c ∧ smod v c ≤ 9223372036854775807 := by
  have h := smod_rng v c h1
  have h3 := ipow_le (c - 1) 63 (by omega)
  have h4 : (2 : Int) ^ 63 = 9223372036854775808 := by decide
  omega
theorem smod_shift (v : Int) (c : Nat) (h1 : 1 ≤ c) (h2 : c ≤ 64) : wrap64 (v * 2 ^ (64 - c)) / 2 ^ (64 - c) = smod v c := by
  have hs := ipow_pos (64 - c)
  have e1 : (9223372036854775808 : Int) = 2 ^ (64 - c) * 2 ^ (c - 1) := by rw [← Int.pow_add, show 64 - c + (c - 1) = 63 by omega]; decide
  have e2 : (18446744073709551616 : Int) = 2 ^ (64 - c) * 2 ^ c := by rw [← Int.pow_add, show 64 - c + c = 64 by omega]; decide
  have e3 : wrap64 (v * 2 ^ (64 - c)) = 2 ^ (64 - c) * smod v c := by
    unfold wrap64 smod
    rw [e1, e2, Int.mul_comm v, ← Int.mul_add, Int.mul_emod_mul_of_pos _ _ hs, Int.mul_sub]
  rw [e3, Int.mul_ediv_cancel_left _ (Int.ne_of_gt hs)]
theorem tb_smod (v : Int) (c i : Nat) (h1 : 1 ≤ c) (h2 : c ≤ 64) (hi : i < 64) : tb (smod v c) i = tb v (min i (c - 1)) := by
  have hr := w64_rng (v * 2 ^ (64 - c))
  rw [← smod_shift v c h1 h2, tb_div_s _ hr.1 hr.2 _ _ hi, tb_wrap64, tb_mul _ _ _ (by omega)]
  rw [show min (i + (64 - c)) 63 - (64 - c) = min i (c - 1) by omega]
  simp [show 64 - c ≤ min (i + (64 - c)) 63 by omega]
theorem sgn_math (v : Int) (c : Nat) (h1 : 1 ≤ c) (h2 : c ≤ 64) : wrap64 ((ob (fun j => tb v (min j (c - 1))) 64 : Nat) : Int) = smod v c := by
  have hr := smod_rng64 v c h1 h2
  have hw := w64_rng ((ob (fun j => tb v (min j (c - 1))) 64 : Nat) : Int)
  refine tb_ext hw.1 hw.2 hr.1 hr.2 fun i hi => ?_
  rw [tb_wrap64, tb_ob _ _ _ (by omega), tb_smod v c i h1 h2 hi]
  simp [hi]
theorem field_math (v : Int) (low c : Nat) (h : low + c ≤ 64) : ((ob (fun j => tb v (low + j)) c : Nat) : Int) = (v % 18446744073709551616) / 2 ^ low % 2 ^ c := by
  have h0 : 0 ≤ (v % 18446744073709551616) / 2 ^ low % 2 ^ c := Int.emod_nonneg _ (Int.ne_of_gt (ipow_pos c))
  have h1 : (v % 18446744073709551616) / 2 ^ low % 2 ^ c < 2 ^ c := Int.emod_lt_of_pos _ (ipow_pos c)
  have h2 : (2 : Int) ^ c ≤ 18446744073709551616 := by have := ipow_le c 64 (by omega); rw [show (18446744073709551616 : Int) = 2 ^ 64 by decide]; exact this
  have h3 : ob (fun j => tb v (low + j)) c < 18446744073709551616 := by rw [pow64]; exact Nat.lt_of_lt_of_le (ob_lt _ _) (Nat.pow_le_pow_right (by decide) (by omega))
  have e := tb_eq (x := ((ob (fun j => tb v (low + j)) c : Nat) : Int)) (y := (v % 18446744073709551616) / 2 ^ low % 2 ^ c) fun i hi => by
    rw [tb_ob _ _ _ (by omega), tb_mod _ _ _ (by omega), tb_div_u _ (by omega) (by omega)]
    have : tb (v % 18446744073709551616) (i + low) = tb v (i + low) := tb_congr (by omega) _
    rw [this, Nat.add_comm i low]
  omega
theorem fin_i (r : Int) : ((some r).bind fun t => (some r).bind fun u => if u = t then some true else some false) = some true := by simp
theorem fin_ii (r : Int × Int) : ((some r).bind fun t => (some r).bind fun u => if u.1 = t.1 then (if u.2 = t.2 then some true else some false) else some false) = some true := by simp

theorem shape_all : ∀ i ∈ List.range' 1 64, laws_FnExactShapeOf.f (i : Int) = some true := by decide +kernel
theorem FnExactShapeOf : laws_FnExactShapeOf.Pure := by
  intro a w0
  by_cases h : 1 ≤ a
  · by_cases h2 : a ≤ 64
    · obtain ⟨i, rfl⟩ := Int.eq_ofNat_of_zero_le (show 0 ≤ a by omega)
      exact shape_all i (by rw [List.mem_range'_1]; omega)
    · unfold laws_FnExactShapeOf.f spec_ShapeOf.f impl_ShapeOf.f spec_l02Op.f impl_isOp.f spec_l01In.f impl_within.f laws_eqShape.f
      simp [h, h2]
  · unfold laws_FnExactShapeOf.f spec_ShapeOf.f impl_ShapeOf.f spec_l02Op.f impl_isOp.f spec_l01In.f impl_within.f laws_eqShape.f
    simp [h]

end Go.Proofs.Ytoaonegjefbipaa.Pure
