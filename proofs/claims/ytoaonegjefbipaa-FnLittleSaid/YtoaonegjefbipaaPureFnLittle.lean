/- Numbers are read back from their bytes, wherever these stand; for all drawn numbers. -/
import Derived.Test.YtoaonegjefbipaaPFnLittlex3
import Derived.Laws.BitsLemmas
set_option linter.unusedVariables false
set_option linter.unusedSimpArgs false
namespace Go.Proofs.Ytoaonegjefbipaa.Pure
open Go.RowKit Go.Proofs.Ytoaonegjefbipaa.PFnLittle Go.Proofs.YtoaonegjefbipaaW.PrintWords Go.Proofs.YtoaonegjefbipaaW.PrintLast Go.Proofs.YtoaonegjefbipaaW.PrintMore

theorem wf64 {x : Int} (h : (Lit.int .i64 x).wf = true) : -9223372036854775808 ≤ x ∧ x ≤ 9223372036854775807 := by
  simp only [Lit.wf, IntKind.min, IntKind.max, IntKind.signed, IntKind.bits, Bool.and_eq_true, decide_eq_true_eq, if_true] at h
  omega
theorem u64w (n : Int) : IntKind.u64.wrap n = n % 18446744073709551616 := by simp [IntKind.wrap, IntKind.bits, IntKind.signed]
theorem i64w (n : Int) : IntKind.i64.wrap n = wrap64 n := by unfold wrap64; exact Go.IntKind.wrap_i64 n
theorem w64_id {n : Int} (h0 : -9223372036854775808 ≤ n) (h1 : n ≤ 9223372036854775807) : wrap64 n = n := by unfold wrap64; omega
theorem u64_id {n : Int} (h0 : 0 ≤ n) (h1 : n < 18446744073709551616) : IntKind.u64.wrap n = n := by rw [u64w]; omega
theorem w64_rng (n : Int) : -9223372036854775808 ≤ wrap64 n ∧ wrap64 n ≤ 9223372036854775807 := by unfold wrap64; omega
theorem pow64 : (18446744073709551616 : Nat) = 2 ^ 64 := by decide

/-- The number of the first n bits. -/
def ob (b : Nat → Bool) : Nat → Nat
  | 0 => 0
  | n + 1 => (if b n then 2 ^ n else 0) + ob b n
theorem ob_lt (b : Nat → Bool) (n : Nat) : ob b n < 2 ^ n := by
  induction n with
  | zero => simp [ob]
  | succ n ih => unfold ob; rw [Nat.pow_succ]; split <;> omega
theorem ob_testBit (b : Nat → Bool) (n j : Nat) : (ob b n).testBit j = (decide (j < n) && b j) := by
  induction n with
  | zero => simp [ob]
  | succ n ih =>
    have hl := ob_lt b n
    have e : ob b (n + 1) = 2 ^ n * (b n).toNat + ob b n := by rw [ob]; cases b n <;> simp
    rw [e, Nat.testBit_two_pow_mul_add _ hl, ih]
    by_cases h : j < n
    · simp [h]; intro; omega
    · by_cases h2 : j = n
      · subst h2; simp; cases b j <;> simp
      · have h3 : j - n ≠ 0 := by omega
        have h4 : ¬ j < n + 1 := by omega
        simp [h, h4]
        cases hb : b n
        · simp
        · obtain ⟨m, hm⟩ : ∃ m, j - n = m + 1 := ⟨j - n - 1, by omega⟩
          rw [hm]; simp [Nat.testBit_succ]
theorem ob_congr {b c : Nat → Bool} {n : Nat} (h : ∀ i, i < n → b i = c i) : ob b n = ob c n := by
  induction n with
  | zero => rfl
  | succ n ih => unfold ob; rw [h n (by omega), ih (fun i hi => h i (by omega))]

/-- Bit i of a number's two's complement. -/
def tb (v : Int) (i : Nat) : Bool := (v % 18446744073709551616).toNat.testBit i
theorem nlt (v : Int) : (v % 18446744073709551616).toNat < 2 ^ 64 := by rw [← pow64]; omega
theorem tb_hi (v : Int) (i : Nat) (h : 64 ≤ i) : tb v i = false := by
  unfold tb
  exact Nat.testBit_lt_two_pow (Nat.lt_of_lt_of_le (nlt v) (Nat.pow_le_pow_right (by decide) h))
theorem tb_nat (n i : Nat) (h : n < 18446744073709551616) : tb (n : Int) i = n.testBit i := by
  unfold tb
  congr 1
  omega
theorem tb_eq {x y : Int} (h : ∀ i, i < 64 → tb x i = tb y i) : x % 18446744073709551616 = y % 18446744073709551616 := by
  have e : (x % 18446744073709551616).toNat = (y % 18446744073709551616).toNat := by
    refine Nat.eq_of_testBit_eq fun i => ?_
    by_cases hi : i < 64
    · exact h i hi
    · have h1 := tb_hi x i (by omega)
      have h2 := tb_hi y i (by omega)
      unfold tb at h1 h2
      rw [h1, h2]
  omega
theorem tb_ext {x y : Int} (hx0 : -9223372036854775808 ≤ x) (hx1 : x ≤ 9223372036854775807) (hy0 : -9223372036854775808 ≤ y) (hy1 : y ≤ 9223372036854775807) (h : ∀ i, i < 64 → tb x i = tb y i) : x = y := by
  have := tb_eq h
  omega
theorem tb_congr {x y : Int} (h : x % 18446744073709551616 = y % 18446744073709551616) (i : Nat) : tb x i = tb y i := by unfold tb; rw [h]
theorem tb_wrap64 (x : Int) (i : Nat) : tb (wrap64 x) i = tb x i := tb_congr (by unfold wrap64; omega) i
theorem tb_u64 (x : Int) (i : Nat) : tb (IntKind.u64.wrap x) i = tb x i := tb_congr (by rw [u64w]; omega) i
theorem tb_ob (b : Nat → Bool) (n i : Nat) (hn : n ≤ 64) : tb ((ob b n : Nat) : Int) i = (decide (i < n) && b i) := by
  rw [tb_nat _ _ (by rw [pow64]; exact Nat.lt_of_lt_of_le (ob_lt b n) (Nat.pow_le_pow_right (by decide) hn)), ob_testBit]
theorem tb_bv (v : Int) (i : Nat) : tb v i = (BitVec.ofInt 64 v).getLsbD i := by
  unfold tb BitVec.getLsbD
  rw [BitVec.toNat_ofInt]
  rfl
theorem tb_mul (x : Int) (s i : Nat) (hi : i < 64) : tb (x * 2 ^ s) i = (decide (s ≤ i) && tb x (i - s)) := by
  have e : tb (x * 2 ^ s) i = ((x % 18446744073709551616).toNat * 2 ^ s).testBit i := by
    have h1 : ((x * 2 ^ s) % 18446744073709551616).toNat = ((x % 18446744073709551616).toNat * 2 ^ s) % 2 ^ 64 := by
      have h2 : (x * 2 ^ s) % 18446744073709551616 = ((x % 18446744073709551616) * 2 ^ s) % 18446744073709551616 := by
        have h5 := Int.mul_emod x (2 ^ s) 18446744073709551616
        have h6 := Int.mul_emod (x % 18446744073709551616) (2 ^ s) 18446744073709551616
        rw [Int.emod_emod_of_dvd x (Int.dvd_refl _)] at h6
        rw [h5, h6]
      obtain ⟨m, hm⟩ : ∃ m : Nat, x % 18446744073709551616 = m := ⟨(x % 18446744073709551616).toNat, by omega⟩
      rw [h2, hm, ← pow64]
      have h3 : ((m : Int) * 2 ^ s) % 18446744073709551616 = ((m * 2 ^ s % 18446744073709551616 : Nat) : Int) := by simp
      rw [h3]
      exact Int.toNat_natCast _
    unfold tb
    rw [h1, Nat.testBit_mod_two_pow]
    simp [hi]
  rw [e, ← Nat.shiftLeft_eq, Nat.testBit_shiftLeft]
  rfl
theorem tb_div_u (x : Int) (h0 : 0 ≤ x) (h1 : x < 18446744073709551616) (s i : Nat) : tb (x / 2 ^ s) i = tb x (i + s) := by
  obtain ⟨m, rfl⟩ := Int.eq_ofNat_of_zero_le h0
  have h2 : ((m : Int) / 2 ^ s) = ((m / 2 ^ s : Nat) : Int) := by simp
  have h3 : m / 2 ^ s ≤ m := Nat.div_le_self _ _
  rw [h2, tb_nat _ _ (by omega), tb_nat _ _ (by omega), Nat.testBit_div_two_pow]
theorem tb_div_s (x : Int) (h0 : -9223372036854775808 ≤ x) (h1 : x ≤ 9223372036854775807) (s i : Nat) (hi : i < 64) : tb (x / 2 ^ s) i = tb x (min (i + s) 63) := by
  have e : x / 2 ^ s = ((BitVec.ofInt 64 x).sshiftRight s).toInt := by
    rw [BitVec.toInt_sshiftRight, Int.shiftRight_eq_div_pow, BitVec.toInt_ofInt]
    have : x.bmod (2 ^ 64) = x := by
      have p : (2 ^ 64 : Nat) = 18446744073709551616 := by decide
      rw [p, Int.bmod_def]
      omega
    rw [this]
    simp
  have g : tb ((BitVec.ofInt 64 x).sshiftRight s).toInt i = ((BitVec.ofInt 64 x).sshiftRight s).getLsbD i := by
    rw [tb_bv, BitVec.ofInt_toInt]
  rw [e, g, BitVec.getLsbD_sshiftRight]
  have hm : (BitVec.ofInt 64 x).msb = tb x 63 := by rw [tb_bv, BitVec.msb_eq_getLsbD_last]
  by_cases h : s + i < 64
  · have h2 : min (i + s) 63 = s + i := by omega
    rw [h2, if_pos h, tb_bv]
    simp [show ¬ 64 ≤ i by omega]
  · have h2 : min (i + s) 63 = 63 := by omega
    rw [h2, if_neg h, hm]
    simp [show ¬ 64 ≤ i by omega]
theorem tb_bits {r : BitVec 64} (i : Nat) : tb (IntKind.i64.wrap (r.toNat : Int)) i = r.getLsbD i := by
  rw [i64w, tb_wrap64, tb_nat _ _ (by rw [pow64]; exact r.isLt)]
  rfl
theorem tb_and (x y : Int) (i : Nat) : tb (Go.bits .and .i64 x y) i = (tb x i && tb y i) := by
  rw [show Go.bits .and .i64 x y = IntKind.i64.wrap (((BitVec.ofInt 64 x) &&& (BitVec.ofInt 64 y) : BitVec 64).toNat : Int) from rfl, tb_bits, BitVec.getLsbD_and, tb_bv, tb_bv]
theorem tb_or (x y : Int) (i : Nat) : tb (Go.bits .or .i64 x y) i = (tb x i || tb y i) := by
  rw [show Go.bits .or .i64 x y = IntKind.i64.wrap (((BitVec.ofInt 64 x) ||| (BitVec.ofInt 64 y) : BitVec 64).toNat : Int) from rfl, tb_bits, BitVec.getLsbD_or, tb_bv, tb_bv]
theorem tb_xor (x y : Int) (i : Nat) : tb (Go.bits .xor .i64 x y) i = (tb x i ^^ tb y i) := by
  rw [show Go.bits .xor .i64 x y = IntKind.i64.wrap (((BitVec.ofInt 64 x) ^^^ (BitVec.ofInt 64 y) : BitVec 64).toNat : Int) from rfl, tb_bits, BitVec.getLsbD_xor, tb_bv, tb_bv]
theorem tb_andNot (x y : Int) (i : Nat) (hi : i < 64) : tb (Go.bits .andNot .i64 x y) i = (tb x i && !tb y i) := by
  rw [show Go.bits .andNot .i64 x y = IntKind.i64.wrap (((BitVec.ofInt 64 x) &&& ~~~(BitVec.ofInt 64 y) : BitVec 64).toNat : Int) from rfl, tb_bits, BitVec.getLsbD_and, BitVec.getLsbD_not, tb_bv, tb_bv]
  simp [hi]
theorem bits_rng (o : BinOp) (x y : Int) : -9223372036854775808 ≤ Go.bits o .i64 x y ∧ Go.bits o .i64 x y ≤ 9223372036854775807 := by
  have h : ∀ n : Int, -9223372036854775808 ≤ IntKind.i64.wrap n ∧ IntKind.i64.wrap n ≤ 9223372036854775807 := fun n => by rw [i64w]; exact w64_rng n
  unfold Go.bits
  split <;> first | exact h _ | omega
theorem tb_pow1 (c i : Nat) (hc : c ≤ 64) : tb ((2 : Int) ^ c - 1) i = decide (i < c) := by
  have hp : 0 < 2 ^ c := Nat.two_pow_pos c
  have e : ((2 : Int) ^ c - 1) = ((2 ^ c - 1 : Nat) : Int) := by rw [Int.natCast_sub hp]; simp
  have hl : 2 ^ c ≤ 2 ^ 64 := Nat.pow_le_pow_right (by decide) hc
  rw [e, tb_nat _ _ (by rw [pow64]; omega), Nat.testBit_two_pow_sub_one]
theorem tb_mod (x : Int) (c i : Nat) (hc : c ≤ 64) : tb (x % 2 ^ c) i = (decide (i < c) && tb x i) := by
  obtain ⟨m, hm⟩ : ∃ m : Nat, x % 18446744073709551616 = m := ⟨(x % 18446744073709551616).toNat, by omega⟩
  have hml : m < 18446744073709551616 := by omega
  have e : x % 2 ^ c = ((m % 2 ^ c : Nat) : Int) := by
    have hd : ((2 : Int) ^ c) ∣ 18446744073709551616 := by
      refine ⟨2 ^ (64 - c), ?_⟩
      rw [← Int.pow_add, show c + (64 - c) = 64 by omega]; rfl
    have h2 : x % 2 ^ c = (x % 18446744073709551616) % 2 ^ c := (Int.emod_emod_of_dvd x hd).symm
    rw [h2, hm]; simp
  have hle : m % 2 ^ c ≤ m := Nat.mod_le _ _
  have h3 : tb x i = m.testBit i := by unfold tb; rw [hm]; simp
  rw [e, tb_nat _ _ (by omega), Nat.testBit_mod_two_pow, h3]
/-- The lowest c bits as a signed number. -/
def smod (v : Int) (c : Nat) : Int := (v + 2 ^ (c - 1)) % 2 ^ c - 2 ^ (c - 1)
theorem ipow_pos (c : Nat) : (0 : Int) < 2 ^ c := Int.pow_pos (by decide)
theorem ipow_split (c : Nat) (h1 : 1 ≤ c) : (2 : Int) ^ c = 2 ^ (c - 1) * 2 := by
  obtain ⟨m, rfl⟩ : ∃ m, c = m + 1 := ⟨c - 1, by omega⟩
  rw [Int.pow_succ]; rfl
theorem ipow_le (c d : Nat) (h : c ≤ d) : (2 : Int) ^ c ≤ 2 ^ d := by exact_mod_cast Nat.pow_le_pow_right (by decide : 0 < 2) h
theorem smod_rng (v : Int) (c : Nat) (h1 : 1 ≤ c) : -(2 ^ (c - 1)) ≤ smod v c ∧ smod v c < 2 ^ (c - 1) := by
  have h0 := Int.emod_nonneg (v + 2 ^ (c - 1)) (Int.ne_of_gt (ipow_pos c))
  have h2 := Int.emod_lt_of_pos (v + 2 ^ (c - 1)) (ipow_pos c)
  have h3 := ipow_split c h1
  unfold smod
  omega
theorem smod_rng64 (v : Int) (c : Nat) (h1 : 1 ≤ c) (h2 : c ≤ 64) : -9223372036854775808 ≤ smod v c ∧ smod v c ≤ 9223372036854775807 := by
  have h := smod_rng v c h1
  have h3 := ipow_le (c - 1) 63 (by omega)
  have h4 : (2 : Int) ^ 63 = 9223372036854775808 := by decide
  omega
theorem smod_shift (v : Int) (c : Nat) (h1 : 1 ≤ c) (h2 : c ≤ 64) : wrap64 (v * 2 ^ (64 - c)) / 2 ^ (64 - c) = smod v c := by
  have hs := ipow_pos (64 - c)
  have e1 : (9223372036854775808 : Int) = 2 ^ (64 - c) * 2 ^ (c - 1) := by rw [← Int.pow_add, show 64 - c + (c - 1) = 63 by omega]; decide
  have e2 : (18446744073709551616 : Int) = 2 ^ (64 - c) * 2 ^ c := by rw [← Int.pow_add, show 64 - c + c = 64 by omega]; decide
  have e3 : wrap64 (v * 2 ^ (64 - c)) = 2 ^ (64 - c) * smod v c := by
    unfold wrap64 smod
    rw [e1, e2, Int.mul_comm v, ← Int.mul_add, Int.mul_emod_mul_of_pos _ _ hs, Int.mul_sub]
  rw [e3, Int.mul_ediv_cancel_left _ (Int.ne_of_gt hs)]
theorem tb_smod (v : Int) (c i : Nat) (h1 : 1 ≤ c) (h2 : c ≤ 64) (hi : i < 64) : tb (smod v c) i = tb v (min i (c - 1)) := by
  have hr := w64_rng (v * 2 ^ (64 - c))
  rw [← smod_shift v c h1 h2, tb_div_s _ hr.1 hr.2 _ _ hi, tb_wrap64, tb_mul _ _ _ (by omega)]
  rw [show min (i + (64 - c)) 63 - (64 - c) = min i (c - 1) by omega]
  simp [show 64 - c ≤ min (i + (64 - c)) 63 by omega]
theorem sgn_math (v : Int) (c : Nat) (h1 : 1 ≤ c) (h2 : c ≤ 64) : wrap64 ((ob (fun j => tb v (min j (c - 1))) 64 : Nat) : Int) = smod v c := by
  have hr := smod_rng64 v c h1 h2
  have hw := w64_rng ((ob (fun j => tb v (min j (c - 1))) 64 : Nat) : Int)
  refine tb_ext hw.1 hw.2 hr.1 hr.2 fun i hi => ?_
  rw [tb_wrap64, tb_ob _ _ _ (by omega), tb_smod v c i h1 h2 hi]
  simp [hi]
theorem field_math (v : Int) (low c : Nat) (h : low + c ≤ 64) : ((ob (fun j => tb v (low + j)) c : Nat) : Int) = (v % 18446744073709551616) / 2 ^ low % 2 ^ c := by
  have h0 : 0 ≤ (v % 18446744073709551616) / 2 ^ low % 2 ^ c := Int.emod_nonneg _ (Int.ne_of_gt (ipow_pos c))
  have h1 : (v % 18446744073709551616) / 2 ^ low % 2 ^ c < 2 ^ c := Int.emod_lt_of_pos _ (ipow_pos c)
  have h2 : (2 : Int) ^ c ≤ 18446744073709551616 := by have := ipow_le c 64 (by omega); rw [show (18446744073709551616 : Int) = 2 ^ 64 by decide]; exact this
  have h3 : ob (fun j => tb v (low + j)) c < 18446744073709551616 := by rw [pow64]; exact Nat.lt_of_lt_of_le (ob_lt _ _) (Nat.pow_le_pow_right (by decide) (by omega))
  have e := tb_eq (x := ((ob (fun j => tb v (low + j)) c : Nat) : Int)) (y := (v % 18446744073709551616) / 2 ^ low % 2 ^ c) fun i hi => by
    rw [tb_ob _ _ _ (by omega), tb_mod _ _ _ (by omega), tb_div_u _ (by omega) (by omega)]
    have : tb (v % 18446744073709551616) (i + low) = tb v (i + low) := tb_congr (by omega) _
    rw [this, Nat.add_comm i low]
  omega
theorem fin_i (r : Int) : ((some r).bind fun t => (some r).bind fun u => if u = t then some true else some false) = some true := by simp
theorem fin_ii (r : Int × Int) : ((some r).bind fun t => (some r).bind fun u => if u.1 = t.1 then (if u.2 = t.2 then some true else some false) else some false) = some true := by simp

def bytesIn (l : List Int) : Prop := ∀ x ∈ l, 0 ≤ x ∧ x ≤ 255
theorem bytesIn_wf {l : List Int} (h : ∀ x ∈ l, (Lit.int .u8 x).wf = true) : bytesIn l := fun x hx => by
  have := h x hx
  simp only [Lit.wf, IntKind.min, IntKind.max, IntKind.signed, IntKind.bits, Bool.and_eq_true, decide_eq_true_eq] at this
  simpa using this
theorem rd_in {l : List Int} (h : bytesIn l) (i : Int) : 0 ≤ rd l i ∧ rd l i ≤ 255 := by
  unfold rd
  rw [List.getD_eq_getElem?_getD]
  cases e : l[i.toNat]? with
  | none => simp
  | some x => simpa using h x (List.mem_of_getElem? e)
/-- A draw. -/
theorem byte_is {l : List Int} (h : bytesIn l) (hl : l.length ≤ 140737488351232) (a s : Int) (ha0 : 0 ≤ a) (ha1 : a ≤ 1000000000) (hs0 : 0 ≤ s) (hs1 : s < 2147483648) :
    ∃ b s', spec_l00Src_byte.f l a s = some (b, a + 1, s') ∧ 0 ≤ b ∧ b ≤ 255 ∧ 0 ≤ s' ∧ s' < 2147483648 := by
  have hr := rd_in h a
  unfold spec_l00Src_byte.f
  rw [w64_id (n := a + 1) (by omega) (by omega), show a + 1 - 1 = a by omega, w64_id (n := a) (by omega) (by omega)]
  by_cases c : a + 1 ≤ (l.length : Int)
  · rw [if_pos c, if_pos (by omega), if_pos (by omega), w64_id (n := rd l a) (by omega) (by omega), w64_id (n := s * 31) (by omega) (by omega), w64_id (n := s * 31 + rd l a) (by omega) (by omega), w64_id (by omega) (by omega)]
    rw [Int.tmod_eq_emod_of_nonneg (by omega)]
    exact ⟨_, _, rfl, by omega, by omega, by omega, by omega⟩
  · rw [if_neg c]
    by_cases c2 : a + 1 > 3000
    · rw [if_pos c2]
      exact ⟨_, _, rfl, by omega, by omega, by omega, by omega⟩
    · rw [if_neg c2, w64_id (n := s * 1103515245) (by omega) (by omega), w64_id (n := s * 1103515245 + 12345) (by omega) (by omega), Int.tmod_eq_emod_of_nonneg (a := s * 1103515245 + 12345) (by omega)]
      generalize hz : (s * 1103515245 + 12345) % 2147483648 = z
      have hz0 : 0 ≤ z ∧ z < 2147483648 := by omega
      rw [Int.tdiv_eq_ediv_of_nonneg (by omega), w64_id (by omega) (by omega), Int.tmod_eq_emod_of_nonneg (by omega)]
      exact ⟨_, _, rfl, by omega, by omega, by omega, by omega⟩

/-- The i-th choice out of n. -/
theorem at_is {l : List Int} (h : bytesIn l) (hl : l.length ≤ 140737488351232) (i n : Int) (hi0 : 0 ≤ i) (hi1 : i ≤ 1000) (hn0 : 1 ≤ n) (hn1 : n ≤ 1000000) : ∃ r, laws_at.f l i n = some r ∧ 0 ≤ r ∧ r < n := by
  unfold laws_at.f
  by_cases c : n ≤ 1
  · rw [if_pos c]
    exact ⟨0, rfl, by omega, by omega⟩
  · rw [if_neg c]
    by_cases c2 : (l.length : Int) = 0
    · rw [if_pos c2, if_neg (by omega), w64_id (by omega) (by omega), Int.tmod_eq_emod_of_nonneg (by omega)]
      exact ⟨_, rfl, Int.emod_nonneg _ (by omega), Int.emod_lt_of_pos _ (by omega)⟩
    · rw [if_neg c2, Int.tmod_eq_emod_of_nonneg (a := i) (by omega), w64_id (n := i + 1) (by omega) (by omega), Int.tmod_eq_emod_of_nonneg (a := i + 1) (by omega)]
      have p1 := Int.emod_nonneg i c2
      have p2 := Int.emod_lt_of_pos i (show 0 < (l.length : Int) by omega)
      have p3 := Int.emod_nonneg (i + 1) c2
      have p4 := Int.emod_lt_of_pos (i + 1) (show 0 < (l.length : Int) by omega)
      have r1 := rd_in h (i % (l.length : Int))
      have r2 := rd_in h ((i + 1) % (l.length : Int))
      have q1 : 0 ≤ Int.tdiv i (l.length : Int) ∧ Int.tdiv i (l.length : Int) ≤ i := by
        rw [Int.tdiv_eq_ediv_of_nonneg hi0]
        exact ⟨Int.ediv_nonneg hi0 (by omega), Int.ediv_le_self _ hi0⟩
      generalize rd l (i % (l.length : Int)) = x at *
      generalize rd l ((i + 1) % (l.length : Int)) = y at *
      generalize Int.tdiv i (l.length : Int) = q at *
      rw [if_pos p1, if_pos p2, if_pos p3, if_pos p4, if_neg (by omega)]
      rw [w64_id (n := x) (by omega) (by omega), w64_id (n := x * 31) (by omega) (by omega), w64_id (n := y) (by omega) (by omega), w64_id (n := x * 31 + y) (by omega) (by omega), w64_id (n := q) (by omega) (by omega), w64_id (n := x * 31 + y + q) (by omega) (by omega), Int.tmod_eq_emod_of_nonneg (by omega)]
      exact ⟨_, rfl, Int.emod_nonneg _ (by omega), Int.emod_lt_of_pos _ (by omega)⟩

theorem word_is {l : List Int} (h : bytesIn l) (hl : l.length ≤ 140737488351232) (a s : Int) (ha0 : 0 ≤ a) (ha1 : a ≤ 999999000) (hs0 : 0 ≤ s) (hs1 : s < 2147483648) :
    ∃ b s', spec_l00Src_word.f l a s = some (b, a + 4, s') ∧ 0 ≤ b ∧ b ≤ 4294967295 ∧ 0 ≤ s' ∧ s' < 2147483648 := by
  unfold spec_l00Src_word.f
  obtain ⟨b1, s1, e1, p1, q1, u1, v1⟩ := byte_is h hl a s ha0 (by omega) hs0 hs1
  obtain ⟨b2, s2, e2, p2, q2, u2, v2⟩ := byte_is h hl (a + 1) s1 (by omega) (by omega) u1 v1
  obtain ⟨b3, s3, e3, p3, q3, u3, v3⟩ := byte_is h hl (a + 1 + 1) s2 (by omega) (by omega) u2 v2
  obtain ⟨b4, s4, e4, p4, q4, u4, v4⟩ := byte_is h hl (a + 1 + 1 + 1) s3 (by omega) (by omega) u3 v3
  rw [e1]
  simp only [Option.bind_some]
  rw [e2]
  simp only [Option.bind_some]
  rw [e3]
  simp only [Option.bind_some]
  rw [e4]
  simp only [Option.bind_some]
  rw [w64_id (n := 256 * b2) (by omega) (by omega), w64_id (n := b1 + 256 * b2) (by omega) (by omega), w64_id (n := 65536 * b3) (by omega) (by omega), w64_id (n := b1 + 256 * b2 + 65536 * b3) (by omega) (by omega), w64_id (n := 16777216 * b4) (by omega) (by omega), w64_id (by omega) (by omega)]
  refine ⟨b1 + 256 * b2 + 65536 * b3 + 16777216 * b4, s4, ?_, ?_, ?_, u4, v4⟩
  · rw [show a + 1 + 1 + 1 + 1 = a + 4 by omega]
  · omega
  · omega

theorem next_is {l : List Int} (h : bytesIn l) (hl : l.length ≤ 140737488351232) (a s n : Int) (ha0 : 0 ≤ a) (ha1 : a ≤ 999999000) (hs0 : 0 ≤ s) (hs1 : s < 2147483648) (hn : 1 ≤ n) :
    ∃ b a' s', spec_l00Src_next.f l a s n = some (b, a', s') ∧ 0 ≤ b ∧ b < n ∧ a ≤ a' ∧ a' ≤ a + 3 ∧ 0 ≤ s' ∧ s' < 2147483648 := by
  unfold spec_l00Src_next.f
  by_cases c : n ≤ 1
  · rw [if_pos c]
    exact ⟨0, a, s, rfl, by omega, by omega, by omega, by omega, hs0, hs1⟩
  · rw [if_neg c]
    obtain ⟨b1, s1, e1, p1, q1, u1, v1⟩ := byte_is h hl a s ha0 (by omega) hs0 hs1
    obtain ⟨b2, s2, e2, p2, q2, u2, v2⟩ := byte_is h hl (a + 1) s1 (by omega) (by omega) u1 v1
    obtain ⟨b3, s3, e3, p3, q3, u3, v3⟩ := byte_is h hl (a + 1 + 1) s2 (by omega) (by omega) u2 v2
    by_cases c2 : n ≤ 256
    · rw [if_pos c2, e1]
      simp only [Option.bind_some]
      rw [if_neg (by omega), Int.tmod_eq_emod_of_nonneg (by omega)]
      exact ⟨_, _, _, rfl, Int.emod_nonneg _ (by omega), Int.emod_lt_of_pos _ (by omega), by omega, by omega, u1, v1⟩
    · rw [if_neg c2, e1]
      simp only [Option.bind_some]
      rw [e2]
      simp only [Option.bind_some]
      rw [e3]
      simp only [Option.bind_some]
      rw [if_neg (by omega), w64_id (n := b1 * 65536) (by omega) (by omega), w64_id (n := b2 * 256) (by omega) (by omega), w64_id (n := b1 * 65536 + b2 * 256) (by omega) (by omega), w64_id (by omega) (by omega), Int.tmod_eq_emod_of_nonneg (by omega)]
      exact ⟨_, _, _, rfl, Int.emod_nonneg _ (by omega), Int.emod_lt_of_pos _ (by omega), by omega, by omega, u3, v3⟩
theorem shl64_rng (x y : Int) : -9223372036854775808 ≤ shl .i64 x y ∧ shl .i64 x y ≤ 9223372036854775807 := by
  unfold shl
  rw [i64w]
  exact w64_rng _
theorem odd_list : ∀ i ∈ List.range 14, -9223372036854775808 ≤ rd ([0, (-1), 1, 2, 63, 64, 65, 4096, 8192, 16384, 4097, 9223372036854775807, (-9223372036854775808), 30] : List Int) (i : Int) ∧ rd ([0, (-1), 1, 2, 63, 64, 65, 4096, 8192, 16384, 4097, 9223372036854775807, (-9223372036854775808), 30] : List Int) (i : Int) ≤ 9223372036854775807 := by decide +kernel
theorem wide_some {l : List Int} (h : bytesIn l) (hl : l.length ≤ 140737488351232) (a s : Int) (ha0 : 0 ≤ a) (ha1 : a ≤ 999998000) (hs0 : 0 ≤ s) (hs1 : s < 2147483648) :
    ∃ b a' s', spec_l00Src_wide.f l a s = some (b, a', s') ∧ -9223372036854775808 ≤ b ∧ b ≤ 9223372036854775807 := by
  unfold spec_l00Src_wide.f
  obtain ⟨n1, a1, s1, e1, p1, q1, x1, y1, u1, v1⟩ := next_is h hl a s 7 ha0 (by omega) hs0 hs1 (by omega)
  rw [e1]
  simp only [Option.bind_some]
  by_cases c0 : n1 = 0
  · rw [if_pos c0]
    obtain ⟨b2, s2, e2, p2, q2, u2, v2⟩ := word_is h hl a1 s1 (by omega) (by omega) u1 v1
    obtain ⟨b3, s3, e3, p3, q3, u3, v3⟩ := word_is h hl (a1 + 4) s2 (by omega) (by omega) u2 v2
    rw [e2]
    simp only [Option.bind_some]
    rw [e3]
    have hr := bits_rng .or (wrap64 (b2 * 4294967296)) b3
    exact ⟨_, _, _, rfl, hr.1, hr.2⟩
  · rw [if_neg c0]
    by_cases c1 : n1 = 1
    · rw [if_pos c1]
      unfold spec_l00Src_odd.f
      obtain ⟨n2, a2, s2, e2, p2, q2, x2, y2, u2, v2⟩ := next_is h hl a1 s1 14 (by omega) (by omega) u1 v1 (by omega)
      rw [e2]
      simp only [Option.bind_some]
      obtain ⟨i, rfl⟩ := Int.eq_ofNat_of_zero_le p2
      have ho := odd_list i (by rw [List.mem_range]; omega)
      rw [if_pos p2, if_pos (by simpa using q2)]
      exact ⟨_, _, _, rfl, ho.1, ho.2⟩
    · rw [if_neg c1]
      by_cases c2 : n1 = 2
      · rw [if_pos c2]
        obtain ⟨n2, a2, s2, e2, p2, q2, x2, y2, u2, v2⟩ := next_is h hl a1 s1 300 (by omega) (by omega) u1 v1 (by omega)
        rw [e2]
        have hr := w64_rng (-n2)
        exact ⟨_, _, _, rfl, hr.1, hr.2⟩
      · rw [if_neg c2]
        by_cases c3 : n1 = 3
        · rw [if_pos c3]
          obtain ⟨b2, s2, e2, p2, q2, u2, v2⟩ := word_is h hl a1 s1 (by omega) (by omega) u1 v1
          rw [e2]
          have hr := w64_rng (b2 - 2147483648)
          exact ⟨_, _, _, rfl, hr.1, hr.2⟩
        · rw [if_neg c3]
          by_cases c4 : n1 = 4
          · rw [if_pos c4]
            obtain ⟨n2, a2, s2, e2, p2, q2, x2, y2, u2, v2⟩ := next_is h hl a1 s1 64 (by omega) (by omega) u1 v1 (by omega)
            rw [e2]
            simp only [Option.bind_some]
            rw [if_pos (by rw [u64w]; omega)]
            have hr := shl64_rng 1 (IntKind.u64.wrap n2)
            exact ⟨_, _, _, rfl, hr.1, hr.2⟩
          · rw [if_neg c4]
            obtain ⟨n2, a2, s2, e2, p2, q2, x2, y2, u2, v2⟩ := next_is h hl a1 s1 300 (by omega) (by omega) u1 v1 (by omega)
            rw [e2]
            exact ⟨_, _, _, rfl, by omega, by omega⟩
theorem numberOf_is {l : List Int} (h : bytesIn l) (hl : l.length ≤ 140737488351232) : ∃ b, spec_NumberOf.f l = some b ∧ -9223372036854775808 ≤ b ∧ b ≤ 9223372036854775807 := by
  unfold spec_NumberOf.f spec_l00Source.f
  simp only [Option.bind_some]
  obtain ⟨b, a, s, e, p, q⟩ := wide_some h hl 0 ((l.length : Int) % 1000) (by omega) (by omega) (by omega) (by omega)
  rw [e]
  exact ⟨b, rfl, p, q⟩

theorem strOfNums_size (xs : List Int) : (strOfNums xs).size = xs.length := by
  unfold strOfNums
  simp [ByteArray.size]
theorem some_l {l : List Int} (h : bytesIn l) (hl : l.length ≤ 140737488351232) (n : Nat) (hn : n ≤ 1000000) (d : Nat) : ∀ (i k : Nat) (xs : List Int) (a s : Int), i + d = n → d < k → xs.length = i → 0 ≤ a → a ≤ 1000000 + i → 0 ≤ s → s < 2147483648 →
    ∃ t a' s', spec_l00Src_some.l0 k (n : Int) xs (i : Int) l a s = some (t, a', s') ∧ t.size = n := by
  induction d with
  | zero =>
    intro i k xs a s hi hk hx ha0 ha1 hs0 hs1
    obtain ⟨k, rfl⟩ : ∃ m, k = m + 1 := ⟨k - 1, by omega⟩
    simp only [spec_l00Src_some.l0]
    rw [if_neg (by omega)]
    exact ⟨_, _, _, rfl, by rw [strOfNums_size]; omega⟩
  | succ d ih =>
    intro i k xs a s hi hk hx ha0 ha1 hs0 hs1
    obtain ⟨k, rfl⟩ : ∃ m, k = m + 1 := ⟨k - 1, by omega⟩
    obtain ⟨b, s', e, b0, b1, s0, s1⟩ := byte_is h hl a s ha0 (by omega) hs0 hs1
    simp only [spec_l00Src_some.l0]
    rw [if_pos (by omega), e]
    simp only [Option.bind_some]
    rw [if_pos (by omega), w64_id (n := (i : Int) + 1) (by omega) (by omega)]
    exact ih (i + 1) k _ (a + 1) s' (by omega) (by omega) (by simp; omega) (by omega) (by omega) s0 s1
theorem textOf_is {l : List Int} (h : bytesIn l) (hl : l.length ≤ 140737488351232) (n k : Nat) (hn : n ≤ 1000000) (hk : n < k) : ∃ t, spec_TextOf.f k l (n : Int) = some t ∧ t.size = n := by
  unfold spec_TextOf.f spec_l00Source.f spec_l00Src_some.f
  simp only [Option.bind_some]
  obtain ⟨t, a', s', e, ht⟩ := some_l h hl n hn n 0 k [] 0 ((l.length : Int) % 1000) (by omega) hk rfl (by omega) (by omega) (by omega) (by omega)
  refine ⟨t, ?_, ht⟩
  have e0 : ((0 : Nat) : Int) = 0 := rfl
  rw [e0] at e
  rw [e]
  rfl

theorem bt_one (x : Int) (h0 : 0 ≤ x) (h1 : x ≤ 255) : bt (strOfNums [x]) 0 = x := by
  unfold bt
  rw [dif_pos (by rw [strOfNums_size]; simp)]
  have e : (((strOfNums [x])[(0 : Int).toNat]'(by rw [strOfNums_size]; simp)).toNat : Int) = (((UInt8.ofNat x.toNat).toNat : Nat) : Int) := rfl
  rw [e, UInt8.toNat_ofNat']
  omega
theorem bt_app_l (s t : ByteArray) (j : Nat) (h : j < s.size) : bt (s ++ t) (j : Int) = bt s j := by
  unfold bt
  rw [dif_pos (by simp; omega), dif_pos (by simpa using h)]
  simp only [Int.toNat_natCast]
  rw [ByteArray.getElem_append_left h]
theorem bt_app_r (s t : ByteArray) (j : Nat) (h : s.size ≤ j) (h2 : j < s.size + t.size) : bt (s ++ t) (j : Int) = bt t ((j - s.size : Nat) : Int) := by
  unfold bt
  rw [dif_pos (by simp; omega), dif_pos (by simp; omega)]
  simp only [Int.toNat_natCast]
  rw [ByteArray.getElem_append_right h]
theorem bt_ext (s : ByteArray) (a b j : Nat) (h : a + j < b) (hb : b ≤ s.size) : bt (s.extract a b) (j : Int) = bt s ((a + j : Nat) : Int) := by
  have h1 : j < (s.extract a b).size := by rw [ByteArray.size_extract]; omega
  unfold bt
  simp only [Int.toNat_natCast]
  rw [dif_pos h1, dif_pos (by omega), ByteArray.getElem_extract]

theorem bt_nums (xs : List Int) (i : Nat) (h : i < xs.length) (h0 : 0 ≤ xs.getD i 0) (h1 : xs.getD i 0 ≤ 255) : bt (strOfNums xs) (i : Int) = xs.getD i 0 := by
  have hs : i < (strOfNums xs).size := by rw [strOfNums_size]; exact h
  unfold bt
  rw [dif_pos (by simpa using hs)]
  simp only [Int.toNat_natCast]
  have e : ((strOfNums xs)[i]'hs) = (xs.map (fun n => UInt8.ofNat n.toNat))[i]'(by simpa using h) := rfl
  have e2 : xs.getD i 0 = xs[i] := by simp [List.getD_eq_getElem?_getD, List.getElem?_eq_getElem h]
  rw [e2] at h0 h1 ⊢
  rw [e, List.getElem_map, UInt8.toNat_ofNat']
  omega

/-- The number of i bytes from o on. -/
def tk (s : ByteArray) (o : Nat) : Nat → Nat
  | 0 => 0
  | i + 1 => (bt s ((o + i : Nat) : Int)).toNat * 256 ^ i + tk s o i
theorem bt_nat (s : ByteArray) (i : Int) : ∃ b : Nat, bt s i = b ∧ b < 256 := by
  have h := bt_range s i
  exact ⟨(bt s i).toNat, by omega, by omega⟩
theorem tk_lt (s : ByteArray) (o i : Nat) : tk s o i < 256 ^ i := by
  induction i with
  | zero => simp [tk]
  | succ i ih =>
    have h := bt_range s ((o + i : Nat) : Int)
    rw [tk, Nat.pow_succ]
    have : (bt s ((o + i : Nat) : Int)).toNat * 256 ^ i ≤ 255 * 256 ^ i := Nat.mul_le_mul_right _ (by omega)
    omega
theorem or_nat (x y : Int) : Go.bits .or .i64 x y = wrap64 ((((x % 18446744073709551616).toNat ||| (y % 18446744073709551616).toNat : Nat)) : Int) := by
  rw [show Go.bits .or .i64 x y = IntKind.i64.wrap (((BitVec.ofInt 64 x) ||| (BitVec.ofInt 64 y) : BitVec 64).toNat : Int) from rfl, i64w, BitVec.toNat_or, BitVec.toNat_ofInt, BitVec.toNat_ofInt]
  rfl
/-- What lies above 2^a and what lies below do not meet. -/
theorem or_low (x y : Int) (a : Nat) (ha : a ≤ 64) (hx : x % 2 ^ a = 0) (h0 : 0 ≤ y) (h1 : y < 2 ^ a) : Go.bits .or .i64 x y = wrap64 (x + y) := by
  have hle := ipow_le a 64 ha
  rw [show (2 : Int) ^ 64 = 18446744073709551616 by decide] at hle
  obtain ⟨m, hm⟩ : ∃ m : Nat, x % 18446744073709551616 = m := ⟨(x % 18446744073709551616).toNat, by omega⟩
  obtain ⟨b, rfl⟩ := Int.eq_ofNat_of_zero_le h0
  have hmd : m % 2 ^ a = 0 := by
    have hd : ((2 : Int) ^ a) ∣ 18446744073709551616 := by
      refine ⟨2 ^ (64 - a), ?_⟩
      rw [← Int.pow_add, show a + (64 - a) = 64 by omega]; rfl
    have h2 : (m : Int) % 2 ^ a = 0 := by rw [← hm, Int.emod_emod_of_dvd x hd, hx]
    exact_mod_cast h2
  have hb : b < 2 ^ a := by exact_mod_cast h1
  have hq : m = 2 ^ a * (m / 2 ^ a) := by have := Nat.div_add_mod m (2 ^ a); omega
  have e : (m ||| b) = m + b := by rw [hq]; exact (Nat.two_pow_add_eq_or_of_lt hb _).symm
  rw [or_nat, hm, show ((b : Int) % 18446744073709551616).toNat = b by omega, Int.toNat_natCast, e]
  unfold wrap64
  omega
theorem itake_l (s : ByteArray) (hs : s.size ≤ 140737488355320) : ∀ (i : Nat) (A : Int) (k : Nat), i ≤ s.size → i < k →
    impl_takeLittle.l0 k s (wrap64 A) ((i : Int) - 1) = some (wrap64 (A * 256 ^ i + (tk s 0 i : Nat))) := by
  intro i
  induction i with
  | zero =>
    intro A k _ hk
    obtain ⟨k, rfl⟩ : ∃ m, k = m + 1 := ⟨k - 1, by omega⟩
    simp only [impl_takeLittle.l0]
    rw [if_neg (by omega)]
    simp [tk]
  | succ i ih =>
    intro A k hi hk
    obtain ⟨k, rfl⟩ : ∃ m, k = m + 1 := ⟨k - 1, by omega⟩
    simp only [impl_takeLittle.l0]
    have e0 : ((i + 1 : Nat) : Int) - 1 = (i : Int) := by omega
    rw [e0, if_pos (by omega), if_pos (by omega), if_pos (by omega)]
    obtain ⟨b, hb, hb2⟩ := bt_nat s (i : Int)
    have e1 : Go.bits .or .i64 (wrap64 (wrap64 A * 256)) (wrap64 (b : Int)) = wrap64 (A * 256 + b) := by
      rw [w64_id (n := (b : Int)) (by omega) (by omega), or_low _ _ 8 (by decide) (by unfold wrap64; omega) (by omega) (by omega)]
      unfold wrap64
      omega
    rw [hb, e1, w64_id (n := (i : Int) - 1) (by omega) (by omega), ih _ k (by omega) (by omega)]
    congr 2
    rw [tk, Nat.zero_add, hb, Int.toNat_natCast, Int.pow_succ]
    rw [Int.natCast_add, Int.natCast_mul, Int.natCast_pow, show ((256 : Nat) : Int) = 256 from rfl]
    generalize (256 : Int) ^ i = q
    generalize ((tk s 0 i : Nat) : Int) = z
    rw [Int.add_mul, Int.mul_assoc, Int.mul_comm 256 q, Int.add_assoc]
theorem itake_is (s : ByteArray) (hs : s.size ≤ 140737488355320) (k : Nat) (hk : s.size < k) : impl_takeLittle.f k s = some (wrap64 ((tk s 0 s.size : Nat) : Int)) := by
  unfold impl_takeLittle.f
  have h := itake_l s hs s.size 0 k (Nat.le_refl _) hk
  rw [w64_id (n := (s.size : Int) - 1) (by omega) (by omega)]
  have e : wrap64 0 = 0 := by unfold wrap64; omega
  rw [e, Int.zero_mul, Int.zero_add] at h
  exact h
theorem bt_extract (s : ByteArray) (a b j : Nat) (h : a + j < b) (hb : b ≤ s.size) : bt (s.extract a b) (j : Int) = bt s ((a + j : Nat) : Int) := by
  have h1 : j < (s.extract a b).size := by rw [ByteArray.size_extract]; omega
  unfold bt
  simp only [Int.toNat_natCast]
  rw [dif_pos h1, dif_pos (by omega), ByteArray.getElem_extract]
theorem tk_extract (s : ByteArray) (a b : Nat) (hb : b ≤ s.size) : ∀ i, a + i ≤ b → tk (s.extract a b) 0 i = tk s a i := by
  intro i
  induction i with
  | zero => intro _; rfl
  | succ i ih => intro h; rw [tk, tk, Nat.zero_add, bt_extract s a b i (by omega) hb, ih (by omega)]
theorem take_impl (s : ByteArray) (o n k : Nat) (hn : n ≤ 8) (ho : o + n ≤ s.size) (hs : s.size ≤ 140737488355320) (hk : n < k) :
    impl_takeLittle.f k (s.extract o (o + n)) = some (wrap64 ((tk s o n : Nat) : Int)) := by
  have hz : (s.extract o (o + n)).size = n := by rw [ByteArray.size_extract]; omega
  rw [itake_is _ (by omega) k (by omega), hz, tk_extract s o (o + n) ho n (Nat.le_refl _)]

/-- The lowest n bytes of v. -/
def lb (v : Int) : Nat → List Int
  | 0 => []
  | n + 1 => v % 256 :: lb (v / 256) n
theorem lb_length (v : Int) (n : Nat) : (lb v n).length = n := by
  induction n generalizing v with
  | zero => rfl
  | succ n ih => simp [lb, ih]
theorem iput_l (n : Nat) (hn : n ≤ 1000) : ∀ (k : Nat) (v : Int) (xs : List Int), n < k → xs.length + n ≤ 1000000 →
    impl_putLittle.l0 k v (n : Int) xs = some (strOfNums (xs ++ lb v n)) := by
  induction n with
  | zero =>
    intro k v xs hk hl
    obtain ⟨k, rfl⟩ : ∃ m, k = m + 1 := ⟨k - 1, by omega⟩
    simp only [impl_putLittle.l0]
    rw [if_neg (by omega)]
    simp [lb]
  | succ n ih =>
    intro k v xs hk hl
    obtain ⟨k, rfl⟩ : ∃ m, k = m + 1 := ⟨k - 1, by omega⟩
    simp only [impl_putLittle.l0]
    rw [if_pos (by omega), if_pos (by omega), w64_id (by omega) (by omega)]
    have e : (((n + 1 : Nat) : Int) - 1) = (n : Int) := by omega
    rw [e, ih (by omega) k _ _ (by omega) (by simp; omega)]
    simp [lb]
theorem iput_is (n k : Nat) (hn : n ≤ 1000) (hk : n < k) (v : Int) : impl_putLittle.f k v (n : Int) = some (strOfNums (lb v n)) := by
  unfold impl_putLittle.f
  rw [iput_l n hn k v [] hk (by simp; omega)]
  rfl
theorem byte_at (v : Int) (i : Nat) (hi : i < 8) : (v % 18446744073709551616) / 2 ^ (8 * i) % 256 = v / 256 ^ i % 256 := by
  have : i = 0 ∨ i = 1 ∨ i = 2 ∨ i = 3 ∨ i = 4 ∨ i = 5 ∨ i = 6 ∨ i = 7 := by omega
  rcases this with rfl | rfl | rfl | rfl | rfl | rfl | rfl | rfl <;> simp <;> omega

def isw (n : Int) : Bool := decide (n = 1 ∨ n = 2 ∨ n = 4 ∨ n = 8)
theorem iwidth_is (n : Int) : impl_isWidth.f n = some (isw n) := by
  unfold impl_isWidth.f isw
  by_cases h1 : n = 1
  · simp [h1]
  · by_cases h2 : n = 2
    · simp [h2]
    · by_cases h4 : n = 4
      · simp [h4]
      · by_cases h8 : n = 8 <;> simp [h1, h2, h4, h8]
theorem isw_nat (n : Int) (h : isw n = true) : ∃ m : Nat, n = m ∧ 1 ≤ m ∧ m ≤ 8 := by
  simp [isw] at h
  exact ⟨n.toNat, by omega, by omega, by omega⟩

theorem bit_is (v : Int) (n : Nat) (hn : n < 9223372036854775808) : spec_l01Bit.f v (n : Int) = some (if tb v n then 1 else 0) := by
  unfold spec_l01Bit.f
  have e1 : IntKind.u64.wrap (n : Int) = n := u64_id (by omega) (by omega)
  rw [e1, if_pos (by omega)]
  obtain ⟨m, hm⟩ : ∃ m : Nat, IntKind.u64.wrap v = m := ⟨(v % 18446744073709551616).toNat, by rw [u64w]; omega⟩
  have hml : m < 2 ^ 64 := by rw [← pow64]; rw [u64w] at hm; omega
  have ht : tb v n = m.testBit n := by unfold tb; rw [← u64w, hm]; simp
  have e2 : shr .u64 (m : Int) (n : Int) = ((m / 2 ^ min n 64 : Nat) : Int) := by unfold shr; simp [IntKind.bits]
  have e3 : Int.tmod ((m / 2 ^ min n 64 : Nat) : Int) 2 = ((m / 2 ^ min n 64 % 2 : Nat) : Int) := rfl
  rw [hm, e2, ht, e3, Nat.testBit_eq_decide_div_mod_eq]
  by_cases h : n ≤ 64
  · rw [Nat.min_eq_left h]
    by_cases h2 : m / 2 ^ n % 2 = 1
    · simp [h2]
    · have h3 : m / 2 ^ n % 2 = 0 := by omega
      simp [h3]
  · rw [Nat.min_eq_right (by omega)]
    have h4 : m / 2 ^ 64 = 0 := Nat.div_eq_of_lt hml
    have h5 : m / 2 ^ n = 0 := Nat.div_eq_of_lt (Nat.lt_of_lt_of_le hml (Nat.pow_le_pow_right (by decide) (by omega)))
    simp [h4, h5]

theorem sign_l (v : Int) (C : Nat) (h1 : 1 ≤ C) (h2 : C ≤ 64) : ∀ (i A k : Nat), i ≤ 64 → A < 2 ^ (64 - i) → i < k →
    spec_l01Sign.l0 k v (C : Int) (A : Int) ((i : Int) - 1) = some (wrap64 (((A * 2 ^ i + ob (fun j => tb v (min j (C - 1))) i : Nat)) : Int)) := by
  intro i
  induction i with
  | zero =>
    intro A k _ _ hk
    obtain ⟨k, rfl⟩ : ∃ m, k = m + 1 := ⟨k - 1, by omega⟩
    simp only [spec_l01Sign.l0]
    rw [if_neg (by omega)]
    simp [ob]
  | succ i ih =>
    intro A k hi hA hk
    obtain ⟨k, rfl⟩ : ∃ m, k = m + 1 := ⟨k - 1, by omega⟩
    have hp : 2 ^ (64 - i) = 2 * 2 ^ (64 - (i + 1)) := by rw [show 64 - i = (64 - (i + 1)) + 1 by omega, Nat.pow_succ]; omega
    have hq : 2 ^ (64 - i) ≤ 2 ^ 64 := Nat.pow_le_pow_right (by decide) (by omega)
    rw [← pow64] at hq
    simp only [spec_l01Sign.l0]
    have e0 : ((i + 1 : Nat) : Int) - 1 = (i : Int) := by omega
    rw [e0, if_pos (by omega)]
    have em : mn (i : Int) (wrap64 ((C : Int) - 1)) = ((min i (C - 1) : Nat) : Int) := by
      rw [w64_id (by omega) (by omega)]; unfold mn; split <;> omega
    rw [em, bit_is v (min i (C - 1)) (by omega)]
    simp only [Option.bind_some]
    have e1 : IntKind.u64.wrap (IntKind.u64.wrap (2 * (A : Int)) + IntKind.u64.wrap (if tb v (min i (C - 1)) = true then 1 else 0)) = ((2 * A + (if tb v (min i (C - 1)) then 1 else 0) : Nat) : Int) := by
      simp only [u64w]; split <;> omega
    rw [e1, w64_id (by omega) (by omega), ih _ k (by omega) (by split <;> omega) (by omega)]
    congr 3
    rw [ob, Nat.pow_succ]
    split <;> grind
theorem sign_is (k : Nat) (v : Int) (C : Nat) (h1 : 1 ≤ C) (h2 : C ≤ 64) (hk : 64 < k) : spec_l01Sign.f k v (C : Int) = some (smod v C) := by
  unfold spec_l01Sign.f
  have h := sign_l v C h1 h2 64 0 k (by omega) (by decide) hk
  rw [show ((64 : Nat) : Int) - 1 = 63 by decide, show ((0 : Nat) : Int) = 0 by decide] at h
  rw [h, Nat.zero_mul, Nat.zero_add, sgn_math v C h1 h2]

theorem impl_signOf_is (v : Int) (C : Nat) (h1 : 1 ≤ C) (h2 : C ≤ 64) : impl_signOf.f v (C : Int) = some (smod v C) := by
  unfold impl_signOf.f
  rw [w64_id (by omega) (by omega), if_pos (by omega), ← smod_shift v C h1 h2]
  unfold shr shl
  rw [show min ((64 - (C : Int)).toNat) (IntKind.i64.bits) = 64 - C by simp [IntKind.bits] <;> omega, i64w]

theorem lb_at (n : Nat) : ∀ (v : Int) (i : Nat), i < n → (lb v n).getD i 0 = v / 256 ^ i % 256 := by
  induction n with
  | zero => intro v i h; omega
  | succ n ih =>
    intro v i h
    cases i with
    | zero => simp [lb]
    | succ j =>
      have e : v / 256 ^ (j + 1) = v / 256 / 256 ^ j := by rw [Int.pow_succ, Int.mul_comm, Int.ediv_ediv_of_nonneg (by decide)]
      rw [e, ← ih (v / 256) j (by omega)]
      rfl
theorem bt_lb (v : Int) (n i : Nat) (h : i < n) : bt (strOfNums (lb v n)) (i : Int) = v / 256 ^ i % 256 := by
  rw [bt_nums _ i (by rw [lb_length]; exact h) (by rw [lb_at n v i h]; omega) (by rw [lb_at n v i h]; omega), lb_at n v i h]
theorem tk_val (s : ByteArray) (o : Nat) (v : Int) (n : Nat) (hn : n ≤ 8) : ∀ i : Nat, i ≤ n → (∀ j : Nat, j < n → bt s ((o + j : Nat) : Int) = v / 256 ^ j % 256) → tk s o i = (v % 18446744073709551616).toNat % 256 ^ i := by
  intro i
  induction i with
  | zero => intro _ _; simp [tk, Nat.mod_one]
  | succ i ih =>
    intro hi h
    rw [tk, ih (by omega) h, h i (by omega), ← byte_at v i (by omega), Nat.pow_succ, Nat.mod_mul]
    obtain ⟨V, hV⟩ : ∃ V : Nat, v % 18446744073709551616 = V := ⟨(v % 18446744073709551616).toNat, by omega⟩
    have e : ((V : Int) / 2 ^ (8 * i) % 256).toNat = V / 256 ^ i % 256 := by
      have e2 : (2 : Int) ^ (8 * i) = ((256 ^ i : Nat) : Int) := by
        rw [Int.pow_mul]
        simp
      rw [e2]
      omega
    rw [hV, e, Int.toNat_natCast]
    rw [Nat.mul_comm, Nat.add_comm]

theorem putL (k m : Nat) (hm : m = 1 ∨ m = 2 ∨ m = 4 ∨ m = 8) (hk : 20 < k) (v : Int) : impl_PutLittle.f k v (m : Int) = some (strOfNums (lb v m), 0) := by
  unfold impl_PutLittle.f
  rw [iwidth_is, show isw (m : Int) = true by unfold isw; simp; omega]
  simp only [Option.bind_some, if_true]
  rw [iput_is m k (by omega) (by omega) v]
  rfl
theorem takeL (k : Nat) (s : ByteArray) (o m : Nat) (hm : m = 1 ∨ m = 2 ∨ m = 4 ∨ m = 8) (hs : s.size ≤ 1000) (ho : o + m ≤ s.size) (hk : 20 < k) : impl_TakeLittle.f k s (o : Int) (m : Int) = some (wrap64 ((tk s o m : Nat) : Int), 0) := by
  unfold impl_TakeLittle.f impl_isLong.f impl_within.f
  have t2 := take_impl s o m k (by omega) ho (by omega) (by omega)
  have e : wrap64 ((o : Int) + (m : Int)) = ((o + m : Nat) : Int) := by rw [w64_id (by omega) (by omega)]; omega
  simp only [Option.bind_some]
  rw [if_neg (show ¬ decide ((s.size : Int) > 65536) = true by simp; omega), iwidth_is, show isw (m : Int) = true by unfold isw; simp; omega]
  simp only [Option.bind_some, if_true]
  rw [w64_id (n := (s.size : Int) - (m : Int)) (by omega) (by omega), if_pos (by omega)]
  simp only [Option.bind_some]
  rw [if_pos (by simp; omega), if_pos (by omega), e, if_pos (by omega), if_pos (by omega), Int.toNat_natCast, Int.toNat_natCast, t2]
  rfl
theorem takeN (k : Nat) (s : ByteArray) (o m : Nat) (hm : m = 1 ∨ m = 2 ∨ m = 4 ∨ m = 8) (hs : s.size ≤ 1000) (ho : s.size < o + m) (ho2 : o ≤ 2000) (hk : 20 < k) : impl_TakeLittle.f k s (o : Int) (m : Int) = some (0, 8) := by
  unfold impl_TakeLittle.f impl_isLong.f impl_within.f
  simp only [Option.bind_some]
  rw [if_neg (show ¬ decide ((s.size : Int) > 65536) = true by simp; omega), iwidth_is, show isw (m : Int) = true by unfold isw; simp; omega]
  simp only [Option.bind_some, if_true]
  rw [w64_id (n := (s.size : Int) - (m : Int)) (by omega) (by omega), if_pos (by omega)]
  simp only [Option.bind_some]
  rw [if_neg (by simp; omega)]
theorem smod_congr (x y : Int) (c : Nat) (h : x % 2 ^ c = y % 2 ^ c) : smod x c = smod y c := by
  unfold smod
  rw [Int.add_emod x, h, ← Int.add_emod]
theorem signs (V : Nat) (v : Int) (m : Nat) (hm : m = 1 ∨ m = 2 ∨ m = 4 ∨ m = 8) (hV : v % 18446744073709551616 = V) : smod (wrap64 ((V % 256 ^ m : Nat) : Int)) (8 * m) = smod v (8 * m) := by
  refine smod_congr _ _ _ ?_
  rcases hm with rfl | rfl | rfl | rfl
  · rw [show (2 : Int) ^ (8 * 1) = 256 by decide, show (256 : Nat) ^ 1 = 256 by decide]
    unfold wrap64
    omega
  · rw [show (2 : Int) ^ (8 * 2) = 65536 by decide, show (256 : Nat) ^ 2 = 65536 by decide]
    unfold wrap64
    omega
  · rw [show (2 : Int) ^ (8 * 4) = 4294967296 by decide, show (256 : Nat) ^ 4 = 4294967296 by decide]
    unfold wrap64
    omega
  · rw [show (2 : Int) ^ (8 * 8) = 18446744073709551616 by decide, show (256 : Nat) ^ 8 = 18446744073709551616 by decide]
    unfold wrap64
    omega
theorem tkq (V : Nat) (v : Int) (m : Nat) (hm : m = 1 ∨ m = 2 ∨ m = 4 ∨ m = 8) (hV : v % 18446744073709551616 = V) : ∃ q : Nat, V % 256 ^ m = q ∧ smod (wrap64 (q : Int)) (8 * m) = smod v (8 * m) ∧ (m < 8 → q < 4294967296) := by
  refine ⟨_, rfl, signs V v m hm hV, fun c => ?_⟩
  rcases hm with rfl | rfl | rfl | rfl
  · exact Nat.lt_of_lt_of_le (Nat.mod_lt _ (by decide)) (by decide)
  · exact Nat.lt_of_lt_of_le (Nat.mod_lt _ (by decide)) (by decide)
  · exact Nat.lt_of_lt_of_le (Nat.mod_lt _ (by decide)) (by decide)
  · exact absurd c (by decide)
set_option maxHeartbeats 100000 in
theorem round1 (k m : Nat) (hm : m = 1 ∨ m = 2 ∨ m = 4 ∨ m = 8) (hk : 70 < k) (v : Int) (h : ByteArray) (hh : h.size ≤ 10) (X : Option Bool) (hX : X = laws_FnLittle.l0 k v h (wrap64 (2 * (m : Int)))) :
    laws_FnLittle.l0 (k + 1) v h (m : Int) = X := by
  subst hX
  have hz : (strOfNums (lb v m)).size = m := by rw [strOfNums_size, lb_length]
  obtain ⟨V, hV⟩ : ∃ V : Nat, v % 18446744073709551616 = V := ⟨(v % 18446744073709551616).toNat, by omega⟩
  have hbt : ∀ j : Nat, j < m → bt ((h ++ strOfNums (lb v m)) ++ (⟨#[120]⟩ : ByteArray)) ((h.size + j : Nat) : Int) = v / 256 ^ j % 256 := by
    intro j hj
    rw [bt_app_l _ _ _ (by rw [ByteArray.size_append]; omega), bt_app_r _ _ _ (by omega) (by omega), show h.size + j - h.size = j by omega, bt_lb v m j hj]
  obtain ⟨q, htk, hsq, hq0⟩ : ∃ q : Nat, tk ((h ++ strOfNums (lb v m)) ++ (⟨#[120]⟩ : ByteArray)) h.size m = q ∧ smod (wrap64 (q : Int)) (8 * m) = smod v (8 * m) ∧ (m < 8 → q < 4294967296) := by
    obtain ⟨q, e, f1, f2⟩ := tkq V v m hm hV
    refine ⟨q, ?_, f1, f2⟩
    rw [tk_val _ _ v m (by clear e; omega) m (Nat.le_refl _) hbt, hV, Int.toNat_natCast, e]
  clear hbt
  have e1 : (⟨#[120]⟩ : ByteArray).size = 1 := rfl
  have e8 : wrap64 (8 * (m : Int)) = ((8 * m : Nat) : Int) := by rw [w64_id (by omega) (by omega)]; omega
  have eo : wrap64 ((h.size : Int) + 1) = ((h.size + 1 : Nat) : Int) := by rw [w64_id (by omega) (by omega)]; omega
  have hS : ((h ++ strOfNums (lb v m)) ++ (⟨#[120]⟩ : ByteArray)).size = h.size + m + 1 := by rw [ByteArray.size_append, ByteArray.size_append, hz, e1]
  have hS2 : (h ++ strOfNums (lb v m)).size = h.size + m := by rw [ByteArray.size_append, hz]
  have hsz2 : (h ++ strOfNums (lb v m)).size + 1 ≤ 9223372036854775807 := by rw [hS2]; clear hS hS2 hsq e8 eo hV e1; omega
  have ht2 := takeN k (h ++ strOfNums (lb v m)) (h.size + 1) m hm (by rw [hS2]; clear hS hS2 hsq e8 eo hV e1; omega) (by rw [hS2]; clear hS hS2 hsq e8 eo hV e1; omega) (by clear hS hS2 hsq e8 eo hV e1; omega) (by clear hS hS2 hsq e8 eo hV e1; omega)
  clear hS2
  obtain ⟨T, hTT⟩ : ∃ T : ByteArray, ((h ++ strOfNums (lb v m)) ++ (⟨#[120]⟩ : ByteArray)) = T := ⟨_, rfl⟩
  rw [hTT] at hS htk
  have hT := takeL k T h.size m hm (by clear hsq e8 eo hV e1; omega) (by clear hsq e8 eo hV e1; omega) (by clear hsq e8 eo hV e1; omega)
  rw [htk] at hT
  clear htk
  have hx0 : (m : Int) < 8 → ¬ wrap64 (q : Int) < 0 := by
    clear hT hsq hS hTT e8 eo hV ht2 hsz2 hz e1
    intro c
    have hq := hq0 (by omega)
    rw [w64_id (n := (q : Int)) (by omega) (by omega)]
    omega
  clear hq0
  generalize wrap64 (q : Int) = x at hT hsq hx0
  have s1 : ∀ x : Int, impl_SignOf.f x ((8 * m : Nat) : Int) = some (smod x (8 * m), 0) := fun x => by
    unfold impl_SignOf.f impl_within.f
    rw [if_pos (by omega), impl_signOf_is x (8 * m) (by omega) (by omega)]
    simp
    omega
  have s2 : spec_SignOf.f k v ((8 * m : Nat) : Int) = some (smod v (8 * m), 0) := by
    unfold spec_SignOf.f spec_l01In.f
    rw [if_pos (by omega), sign_is k v (8 * m) (by omega) (by omega) (by omega)]
    simp
    omega
  have hb0 : bt (strOfNums (lb v m)) 0 = v % 256 := by
    have := bt_lb v m 0 (by omega)
    simpa using this
  have hu : Int.tmod (IntKind.u64.wrap v) 256 = v % 256 := by
    rw [u64w, Int.tmod_eq_emod_of_nonneg (by omega)]
    omega
  have hsz1 : h.size + (strOfNums (lb v m)).size ≤ 9223372036854775807 := by omega
  rw [laws_FnLittle.l0, putL k m hm (by omega) v]
  simp only [Option.bind_some]
  rw [hTT, hT, e8, eo, ht2]
  simp only [Option.bind_some]
  rw [s1, s2, hsq, hz, hb0, hu]
  generalize smod v (8 * m) = sg
  generalize wrap64 (v % 256) = y
  generalize laws_FnLittle.l0 k v h (wrap64 (2 * (m : Int))) = X
  clear s1 s2 hb0 hu ht2 hT hV e8 eo hsq hTT hS
  have hm8 : (m : Int) ≤ 8 := by omega
  have hm0 : 0 < m := by omega
  rw [hz] at hsz1
  by_cases c : (m : Int) < 8
  · simp [hm8, hm0, hsz1, hsz2, c, hx0 c]
    try (intro hbad; exfalso; omega)
  · simp [hm8, hm0, hsz1, hsz2, c]
    try (intro hbad; exfalso; omega)
theorem FnLittle : laws_FnLittle.Pure := by
  intro l0 l1 m0 z0 w0 m1 z1 w1
  have b0 := bytesIn_wf w0
  have b1 := bytesIn_wf w1
  obtain ⟨k, hk⟩ : ∃ k : Nat, 70 < k := ⟨71, by decide⟩
  refine ⟨k + 6, ?_⟩
  unfold laws_FnLittle.f
  by_cases c0 : (l0.length : Int) > 1048576
  · rw [if_pos c0, laws_FnLittle.j0, if_pos rfl]
  · rw [if_neg c0, laws_FnLittle.j0]
    by_cases c1 : (l1.length : Int) > 1048576
    · rw [if_pos (by simpa using c1)]
    · rw [if_neg (by simpa using c1)]
      obtain ⟨v, hv, v0, v1⟩ := numberOf_is b0 (by omega)
      obtain ⟨z, hz, z2, z3⟩ := at_is b1 (by omega) 0 9 (by omega) (by omega) (by omega) (by omega)
      rw [hv]
      simp only [Option.bind_some]
      rw [hz]
      simp only [Option.bind_some]
      obtain ⟨n, rfl⟩ := Int.eq_ofNat_of_zero_le z2
      obtain ⟨t, ht, hts⟩ := textOf_is b1 (by omega) n (k + 5) (by omega) (by omega)
      rw [ht]
      simp only [Option.bind_some]
      refine (round1 (k + 4) 1 (by omega) (by omega) v t (by omega) _ rfl).trans ?_
      rw [show wrap64 (2 * ((1 : Nat) : Int)) = ((2 : Nat) : Int) by unfold wrap64; omega]
      refine (round1 (k + 3) 2 (by omega) (by omega) v t (by omega) _ rfl).trans ?_
      rw [show wrap64 (2 * ((2 : Nat) : Int)) = ((4 : Nat) : Int) by unfold wrap64; omega]
      refine (round1 (k + 2) 4 (by omega) (by omega) v t (by omega) _ rfl).trans ?_
      rw [show wrap64 (2 * ((4 : Nat) : Int)) = ((8 : Nat) : Int) by unfold wrap64; omega]
      refine (round1 (k + 1) 8 (by omega) (by omega) v t (by omega) _ rfl).trans ?_
      rw [show wrap64 (2 * ((8 : Nat) : Int)) = 16 by unfold wrap64; omega, laws_FnLittle.l0, if_neg (by decide)]

end Go.Proofs.Ytoaonegjefbipaa.Pure
