/- Bytes read back from their hexadecimal text, and texts that are none refused; for all drawn bytes. -/
import Derived.Test.YtpppkjjfemflbaaPFnHexx3
import Derived.Laws.BitsLemmas
set_option linter.unusedVariables false
set_option linter.unusedSimpArgs false
namespace Go.Proofs.Ytpppkjjfemflbaa.Pure
open Go.RowKit Go.Proofs.Ytpppkjjfemflbaa.PFnHex Go.Proofs.YtpppkjjfemflbaaW.PrintWords Go.Proofs.YtpppkjjfemflbaaW.PrintLast Go.Proofs.YtpppkjjfemflbaaW.PrintMore

theorem wf64 {x : Int} (h : (Lit.int .i64 x).wf = true) : -9223372036854775808 ≤ x ∧ x ≤ 9223372036854775807 := by
  simp only [Lit.wf, IntKind.min, IntKind.max, IntKind.signed, IntKind.bits, Bool.and_eq_true, decide_eq_true_eq, if_true] at h
  omega
theorem u64w (n : Int) : IntKind.u64.wrap n = n % 18446744073709551616 := by simp [IntKind.wrap, IntKind.bits, IntKind.signed]
theorem i64w (n : Int) : IntKind.i64.wrap n = wrap64 n := by unfold wrap64; exact Go.IntKind.wrap_i64 n
theorem w64_id {n : Int} (h0 : -9223372036854775808 ≤ n) (h1 : n ≤ 9223372036854775807) : wrap64 n = n := by unfold wrap64; omega
theorem u64_id {n : Int} (h0 : 0 ≤ n) (h1 : n < 18446744073709551616) : IntKind.u64.wrap n = n := by rw [u64w]; omega
theorem w64_rng (n : Int) : -9223372036854775808 ≤ wrap64 n ∧ wrap64 n ≤ 9223372036854775807 := by unfold wrap64; omega
theorem pow64 : (18446744073709551616 : Nat) = 2 ^ 64 := by decide

/-- The number of the first n bits. -/
def ob (b : Nat → Bool) : Nat → Nat
  | 0 => 0
  | n + 1 => (if b n then 2 ^ n else 0) + ob b n
theorem ob_lt (b : Nat → Bool) (n : Nat) : ob b n < 2 ^ n := by
  induction n with
  | zero => simp [ob]
  | succ n ih => unfold ob; rw [Nat.pow_succ]; split <;> omega
theorem ob_testBit (b : Nat → Bool) (n j : Nat) : (ob b n).testBit j = (decide (j < n) && b j) := by
  induction n with
  | zero => simp [ob]
  | succ n ih =>
    have hl := ob_lt b n
    have e : ob b (n + 1) = 2 ^ n * (b n).toNat + ob b n := by rw [ob]; cases b n <;> simp
    rw [e, Nat.testBit_two_pow_mul_add _ hl, ih]
    by_cases h : j < n
    · simp [h]; intro; omega
    · by_cases h2 : j = n
      · subst h2; simp; cases b j <;> simp
      · have h3 : j - n ≠ 0 := by omega
        have h4 : ¬ j < n + 1 := by omega
        simp [h, h4]
        cases hb : b n
        · simp
        · obtain ⟨m, hm⟩ : ∃ m, j - n = m + 1 := ⟨j - n - 1, by omega⟩
          rw [hm]; simp [Nat.testBit_succ]
theorem ob_congr {b c : Nat → Bool} {n : Nat} (h : ∀ i, i < n → b i = c i) : ob b n = ob c n := by
  induction n with
  | zero => rfl
  | succ n ih => unfold ob; rw [h n (by omega), ih (fun i hi => h i (by omega))]

/-- Bit i of a number's two's complement. -/
def tb (v : Int) (i : Nat) : Bool := (v % 18446744073709551616).toNat.testBit i
theorem nlt (v : Int) : (v % 18446744073709551616).toNat < 2 ^ 64 := by rw [← pow64]; omega
theorem tb_hi (v : Int) (i : Nat) (h : 64 ≤ i) : tb v i = false := by
  unfold tb
  exact Nat.testBit_lt_two_pow (Nat.lt_of_lt_of_le (nlt v) (Nat.pow_le_pow_right (by decide) h))
theorem tb_nat (n i : Nat) (h : n < 18446744073709551616) : tb (n : Int) i = n.testBit i := by
  unfold tb
  congr 1
  omega
theorem tb_eq {x y : Int} (h : ∀ i, i < 64 → tb x i = tb y i) : x % 18446744073709551616 = y % 18446744073709551616 := by
  have e : (x % 18446744073709551616).toNat = (y % 18446744073709551616).toNat := by
    refine Nat.eq_of_testBit_eq fun i => ?_
    by_cases hi : i < 64
    · exact h i hi
    · have h1 := tb_hi x i (by omega)
      have h2 := tb_hi y i (by omega)
      unfold tb at h1 h2
      rw [h1, h2]
  omega
theorem tb_ext {x y : Int} (hx0 : -9223372036854775808 ≤ x) (hx1 : x ≤ 9223372036854775807) (hy0 : -9223372036854775808 ≤ y) (hy1 : y ≤ 9223372036854775807) (h : ∀ i, i < 64 → tb x i = tb y i) : x = y := by
  have := tb_eq h
  omega
theorem tb_congr {x y : Int} (h : x % 18446744073709551616 = y % 18446744073709551616) (i : Nat) : tb x i = tb y i := by unfold tb; rw [h]
theorem tb_wrap64 (x : Int) (i : Nat) : tb (wrap64 x) i = tb x i := tb_congr (by unfold wrap64; omega) i
theorem tb_u64 (x : Int) (i : Nat) : tb (IntKind.u64.wrap x) i = tb x i := tb_congr (by rw [u64w]; omega) i
theorem tb_ob (b : Nat → Bool) (n i : Nat) (hn : n ≤ 64) : tb ((ob b n : Nat) : Int) i = (decide (i < n) && b i) := by
  rw [tb_nat _ _ (by rw [pow64]; exact Nat.lt_of_lt_of_le (ob_lt b n) (Nat.pow_le_pow_right (by decide) hn)), ob_testBit]
theorem tb_bv (v : Int) (i : Nat) : tb v i = (BitVec.ofInt 64 v).getLsbD i := by
  unfold tb BitVec.getLsbD
  rw [BitVec.toNat_ofInt]
  rfl
theorem tb_mul (x : Int) (s i : Nat) (hi : i < 64) : tb (x * 2 ^ s) i = (decide (s ≤ i) && tb x (i - s)) := by
  have e : tb (x * 2 ^ s) i = ((x % 18446744073709551616).toNat * 2 ^ s).testBit i := by
    have h1 : ((x * 2 ^ s) % 18446744073709551616).toNat = ((x % 18446744073709551616).toNat * 2 ^ s) % 2 ^ 64 := by
      have h2 : (x * 2 ^ s) % 18446744073709551616 = ((x % 18446744073709551616) * 2 ^ s) % 18446744073709551616 := by
        have h5 := Int.mul_emod x (2 ^ s) 18446744073709551616
        have h6 := Int.mul_emod (x % 18446744073709551616) (2 ^ s) 18446744073709551616
        rw [Int.emod_emod_of_dvd x (Int.dvd_refl _)] at h6
        rw [h5, h6]
      obtain ⟨m, hm⟩ : ∃ m : Nat, x % 18446744073709551616 = m := ⟨(x % 18446744073709551616).toNat, by omega⟩
      rw [h2, hm, ← pow64]
      have h3 : ((m : Int) * 2 ^ s) % 18446744073709551616 = ((m * 2 ^ s % 18446744073709551616 : Nat) : Int) := by simp
      rw [h3]
      exact Int.toNat_natCast _
    unfold tb
    rw [h1, Nat.testBit_mod_two_pow]
    simp [hi]
  rw [e, ← Nat.shiftLeft_eq, Nat.testBit_shiftLeft]
  rfl
theorem tb_div_u (x : Int) (h0 : 0 ≤ x) (h1 : x < 18446744073709551616) (s i : Nat) : tb (x / 2 ^ s) i = tb x (i + s) := by
  obtain ⟨m, rfl⟩ := Int.eq_ofNat_of_zero_le h0
  have h2 : ((m : Int) / 2 ^ s) = ((m / 2 ^ s : Nat) : Int) := by simp
  have h3 : m / 2 ^ s ≤ m := Nat.div_le_self _ _
  rw [h2, tb_nat _ _ (by omega), tb_nat _ _ (by omega), Nat.testBit_div_two_pow]
theorem tb_div_s (x : Int) (h0 : -9223372036854775808 ≤ x) (h1 : x ≤ 9223372036854775807) (s i : Nat) (hi : i < 64) : tb (x / 2 ^ s) i = tb x (min (i + s) 63) := by
  have e : x / 2 ^ s = ((BitVec.ofInt 64 x).sshiftRight s).toInt := by
    rw [BitVec.toInt_sshiftRight, Int.shiftRight_eq_div_pow, BitVec.toInt_ofInt]
    have : x.bmod (2 ^ 64) = x := by
      have p : (2 ^ 64 : Nat) = 18446744073709551616 := by decide
      rw [p, Int.bmod_def]
      omega
    rw [this]
    simp
  have g : tb ((BitVec.ofInt 64 x).sshiftRight s).toInt i = ((BitVec.ofInt 64 x).sshiftRight s).getLsbD i := by
    rw [tb_bv, BitVec.ofInt_toInt]
  rw [e, g, BitVec.getLsbD_sshiftRight]
  have hm : (BitVec.ofInt 64 x).msb = tb x 63 := by rw [tb_bv, BitVec.msb_eq_getLsbD_last]
  by_cases h : s + i < 64
  · have h2 : min (i + s) 63 = s + i := by omega
    rw [h2, if_pos h, tb_bv]
    simp [show ¬ 64 ≤ i by omega]
  · have h2 : min (i + s) 63 = 63 := by omega
    rw [h2, if_neg h, hm]
    simp [show ¬ 64 ≤ i by omega]
theorem tb_bits {r : BitVec 64} (i : Nat) : tb (IntKind.i64.wrap (r.toNat : Int)) i = r.getLsbD i := by
  rw [i64w, tb_wrap64, tb_nat _ _ (by rw [pow64]; exact r.isLt)]
  rfl
theorem tb_and (x y : Int) (i : Nat) : tb (Go.bits .and .i64 x y) i = (tb x i && tb y i) := by
  rw [show Go.bits .and .i64 x y = IntKind.i64.wrap (((BitVec.ofInt 64 x) &&& (BitVec.ofInt 64 y) : BitVec 64).toNat : Int) from rfl, tb_bits, BitVec.getLsbD_and, tb_bv, tb_bv]
theorem tb_or (x y : Int) (i : Nat) : tb (Go.bits .or .i64 x y) i = (tb x i || tb y i) := by
  rw [show Go.bits .or .i64 x y = IntKind.i64.wrap (((BitVec.ofInt 64 x) ||| (BitVec.ofInt 64 y) : BitVec 64).toNat : Int) from rfl, tb_bits, BitVec.getLsbD_or, tb_bv, tb_bv]
theorem tb_xor (x y : Int) (i : Nat) : tb (Go.bits .xor .i64 x y) i = (tb x i ^^ tb y i) := by
  rw [show Go.bits .xor .i64 x y = IntKind.i64.wrap (((BitVec.ofInt 64 x) ^^^ (BitVec.ofInt 64 y) : BitVec 64).toNat : Int) from rfl, tb_bits, BitVec.getLsbD_xor, tb_bv, tb_bv]
theorem tb_andNot (x y : Int) (i : Nat) (hi : i < 64) : tb (Go.bits .andNot .i64 x y) i = (tb x i && !tb y i) := by
  rw [show Go.bits .andNot .i64 x y = IntKind.i64.wrap (((BitVec.ofInt 64 x) &&& ~~~(BitVec.ofInt 64 y) : BitVec 64).toNat : Int) from rfl, tb_bits, BitVec.getLsbD_and, BitVec.getLsbD_not, tb_bv, tb_bv]
  simp [hi]
theorem bits_rng (o : BinOp) (x y : Int) : -9223372036854775808 ≤ Go.bits o .i64 x y ∧ Go.bits o .i64 x y ≤ 9223372036854775807 := by
  have h : ∀ n : Int, -9223372036854775808 ≤ IntKind.i64.wrap n ∧ IntKind.i64.wrap n ≤ 9223372036854775807 := fun n => by rw [i64w]; exact w64_rng n
  unfold Go.bits
  split <;> first | exact h _ | omega
theorem tb_pow1 (c i : Nat) (hc : c ≤ 64) : tb ((2 : Int) ^ c - 1) i = decide (i < c) := by
  have hp : 0 < 2 ^ c := Nat.two_pow_pos c
  have e : ((2 : Int) ^ c - 1) = ((2 ^ c - 1 : Nat) : Int) := by rw [Int.natCast_sub hp]; simp
  have hl : 2 ^ c ≤ 2 ^ 64 := Nat.pow_le_pow_right (by decide) hc
  rw [e, tb_nat _ _ (by rw [pow64]; omega), Nat.testBit_two_pow_sub_one]
theorem tb_mod (x : Int) (c i : Nat) (hc : c ≤ 64) : tb (x % 2 ^ c) i = (decide (i < c) && tb x i) := by
  obtain ⟨m, hm⟩ : ∃ m : Nat, x % 18446744073709551616 = m := ⟨(x % 18446744073709551616).toNat, by omega⟩
  have hml : m < 18446744073709551616 := by omega
  have e : x % 2 ^ c = ((m % 2 ^ c : Nat) : Int) := by
    have hd : ((2 : Int) ^ c) ∣ 18446744073709551616 := by
      refine ⟨2 ^ (64 - c), ?_⟩
      rw [← Int.pow_add, show c + (64 - c) = 64 by omega]; rfl
    have h2 : x % 2 ^ c = (x % 18446744073709551616) % 2 ^ c := (Int.emod_emod_of_dvd x hd).symm
    rw [h2, hm]; simp
  have hle : m % 2 ^ c ≤ m := Nat.mod_le _ _
  have h3 : tb x i = m.testBit i := by unfold tb; rw [hm]; simp
  rw [e, tb_nat _ _ (by omega), Nat.testBit_mod_two_pow, h3]
/-- The lowest c bits as a signed number. -/
def smod (v : Int) (c : Nat) : Int := (v + 2 ^ (c - 1)) % 2 ^ c - 2 ^ (c - 1)
theorem ipow_pos (c : Nat) : (0 : Int) < 2 ^ c := Int.pow_pos (by decide)
theorem ipow_split (c : Nat) (h1 : 1 ≤ c) : (2 : Int) ^ c = 2 ^ (c - 1) * 2 := by
  obtain ⟨m, rfl⟩ : ∃ m, c = m + 1 := ⟨c - 1, by omega⟩
  rw [Int.pow_succ]; rfl
theorem ipow_le (c d : Nat) (h : c ≤ d) : (2 : Int) ^ c ≤ 2 ^ d := by exact_mod_cast Nat.pow_le_pow_right (by decide : 0 < 2) h
theorem smod_rng (v : Int) (c : Nat) (h1 : 1 ≤ c) : -(2 ^ (c - 1)) ≤ smod v c ∧ smod v c < 2 ^ (c - 1) := by
  have h0 := Int.emod_nonneg (v + 2 ^ (c - 1)) (Int.ne_of_gt (ipow_pos c))
  have h2 := Int.emod_lt_of_pos (v + 2 ^ (c - 1)) (ipow_pos c)
  have h3 := ipow_split c h1
  unfold smod
  omega
theorem smod_rng64 (v : Int) (c : Nat) (h1 : 1 ≤ c) (h2 : c ≤ 64) : -9223372036854775808 ≤ smod v c ∧ smod v c ≤ 9223372036854775807 := by
  have h := smod_rng v c h1
  have h3 := ipow_le (c - 1) 63 (by omega)
  have h4 : (2 : Int) ^ 63 = 9223372036854775808 := by decide
  omega
theorem smod_shift (v : Int) (c : Nat) (h1 : 1 ≤ c) (h2 : c ≤ 64) : wrap64 (v * 2 ^ (64 - c)) / 2 ^ (64 - c) = smod v c := by
  have hs := ipow_pos (64 - c)
  have e1 : (9223372036854775808 : Int) = 2 ^ (64 - c) * 2 ^ (c - 1) := by rw [← Int.pow_add, show 64 - c + (c - 1) = 63 by omega]; decide
  have e2 : (18446744073709551616 : Int) = 2 ^ (64 - c) * 2 ^ c := by rw [← Int.pow_add, show 64 - c + c = 64 by omega]; decide
  have e3 : wrap64 (v * 2 ^ (64 - c)) = 2 ^ (64 - c) * smod v c := by
    unfold wrap64 smod
    rw [e1, e2, Int.mul_comm v, ← Int.mul_add, Int.mul_emod_mul_of_pos _ _ hs, Int.mul_sub]
  rw [e3, Int.mul_ediv_cancel_left _ (Int.ne_of_gt hs)]
theorem tb_smod (v : Int) (c i : Nat) (h1 : 1 ≤ c) (h2 : c ≤ 64) (hi : i < 64) : tb (smod v c) i = tb v (min i (c - 1)) := by
  have hr := w64_rng (v * 2 ^ (64 - c))
  rw [← smod_shift v c h1 h2, tb_div_s _ hr.1 hr.2 _ _ hi, tb_wrap64, tb_mul _ _ _ (by omega)]
  rw [show min (i + (64 - c)) 63 - (64 - c) = min i (c - 1) by omega]
  simp [show 64 - c ≤ min (i + (64 - c)) 63 by omega]
theorem sgn_math (v : Int) (c : Nat) (h1 : 1 ≤ c) (h2 : c ≤ 64) : wrap64 ((ob (fun j => tb v (min j (c - 1))) 64 : Nat) : Int) = smod v c := by
  have hr := smod_rng64 v c h1 h2
  have hw := w64_rng ((ob (fun j => tb v (min j (c - 1))) 64 : Nat) : Int)
  refine tb_ext hw.1 hw.2 hr.1 hr.2 fun i hi => ?_
  rw [tb_wrap64, tb_ob _ _ _ (by omega), tb_smod v c i h1 h2 hi]
  simp [hi]
theorem field_math (v : Int) (low c : Nat) (h : low + c ≤ 64) : ((ob (fun j => tb v (low + j)) c : Nat) : Int) = (v % 18446744073709551616) / 2 ^ low % 2 ^ c := by
  have h0 : 0 ≤ (v % 18446744073709551616) / 2 ^ low % 2 ^ c := Int.emod_nonneg _ (Int.ne_of_gt (ipow_pos c))
  have h1 : (v % 18446744073709551616) / 2 ^ low % 2 ^ c < 2 ^ c := Int.emod_lt_of_pos _ (ipow_pos c)
  have h2 : (2 : Int) ^ c ≤ 18446744073709551616 := by have := ipow_le c 64 (by omega); rw [show (18446744073709551616 : Int) = 2 ^ 64 by decide]; exact this
  have h3 : ob (fun j => tb v (low + j)) c < 18446744073709551616 := by rw [pow64]; exact Nat.lt_of_lt_of_le (ob_lt _ _) (Nat.pow_le_pow_right (by decide) (by omega))
  have e := tb_eq (x := ((ob (fun j => tb v (low + j)) c : Nat) : Int)) (y := (v % 18446744073709551616) / 2 ^ low % 2 ^ c) fun i hi => by
    rw [tb_ob _ _ _ (by omega), tb_mod _ _ _ (by omega), tb_div_u _ (by omega) (by omega)]
    have : tb (v % 18446744073709551616) (i + low) = tb v (i + low) := tb_congr (by omega) _
    rw [this, Nat.add_comm i low]
  omega
theorem fin_i (r : Int) : ((some r).bind fun t => (some r).bind fun u => if u = t then some true else some false) = some true := by simp
theorem fin_ii (r : Int × Int) : ((some r).bind fun t => (some r).bind fun u => if u.1 = t.1 then (if u.2 = t.2 then some true else some false) else some false) = some true := by simp

def bytesIn (l : List Int) : Prop := ∀ x ∈ l, 0 ≤ x ∧ x ≤ 255
theorem bytesIn_wf {l : List Int} (h : ∀ x ∈ l, (Lit.int .u8 x).wf = true) : bytesIn l := fun x hx => by
  have := h x hx
  simp only [Lit.wf, IntKind.min, IntKind.max, IntKind.signed, IntKind.bits, Bool.and_eq_true, decide_eq_true_eq] at this
  simpa using this
theorem rd_in {l : List Int} (h : bytesIn l) (i : Int) : 0 ≤ rd l i ∧ rd l i ≤ 255 := by
  unfold rd
  rw [List.getD_eq_getElem?_getD]
  cases e : l[i.toNat]? with
  | none => simp
  | some x => simpa using h x (List.mem_of_getElem? e)
/-- A draw. -/
theorem byte_is {l : List Int} (h : bytesIn l) (hl : l.length ≤ 140737488351232) (a s : Int) (ha0 : 0 ≤ a) (ha1 : a ≤ 1000000000) (hs0 : 0 ≤ s) (hs1 : s < 2147483648) :
    ∃ b s', spec_l00Src_byte.f l a s = some (b, a + 1, s') ∧ 0 ≤ b ∧ b ≤ 255 ∧ 0 ≤ s' ∧ s' < 2147483648 := by
  have hr := rd_in h a
  unfold spec_l00Src_byte.f
  rw [w64_id (n := a + 1) (by omega) (by omega), show a + 1 - 1 = a by omega, w64_id (n := a) (by omega) (by omega)]
  by_cases c : a + 1 ≤ (l.length : Int)
  · rw [if_pos c, if_pos (by omega), if_pos (by omega), w64_id (n := rd l a) (by omega) (by omega), w64_id (n := s * 31) (by omega) (by omega), w64_id (n := s * 31 + rd l a) (by omega) (by omega), w64_id (by omega) (by omega)]
    rw [Int.tmod_eq_emod_of_nonneg (by omega)]
    exact ⟨_, _, rfl, by omega, by omega, by omega, by omega⟩
  · rw [if_neg c]
    by_cases c2 : a + 1 > 3000
    · rw [if_pos c2]
      exact ⟨_, _, rfl, by omega, by omega, by omega, by omega⟩
    · rw [if_neg c2, w64_id (n := s * 1103515245) (by omega) (by omega), w64_id (n := s * 1103515245 + 12345) (by omega) (by omega), Int.tmod_eq_emod_of_nonneg (a := s * 1103515245 + 12345) (by omega)]
      generalize hz : (s * 1103515245 + 12345) % 2147483648 = z
      have hz0 : 0 ≤ z ∧ z < 2147483648 := by omega
      rw [Int.tdiv_eq_ediv_of_nonneg (by omega), w64_id (by omega) (by omega), Int.tmod_eq_emod_of_nonneg (by omega)]
      exact ⟨_, _, rfl, by omega, by omega, by omega, by omega⟩
/-- The i-th choice out of n. -/
theorem at_is {l : List Int} (h : bytesIn l) (hl : l.length ≤ 140737488351232) (i n : Int) (hi0 : 0 ≤ i) (hi1 : i ≤ 1000) (hn0 : 1 ≤ n) (hn1 : n ≤ 1000000) : ∃ r, laws_at.f l i n = some r ∧ 0 ≤ r ∧ r < n := by
  unfold laws_at.f
  by_cases c : n ≤ 1
  · rw [if_pos c]
    exact ⟨0, rfl, by omega, by omega⟩
  · rw [if_neg c]
    by_cases c2 : (l.length : Int) = 0
    · rw [if_pos c2, if_neg (by omega), w64_id (by omega) (by omega), Int.tmod_eq_emod_of_nonneg (by omega)]
      exact ⟨_, rfl, Int.emod_nonneg _ (by omega), Int.emod_lt_of_pos _ (by omega)⟩
    · rw [if_neg c2, Int.tmod_eq_emod_of_nonneg (a := i) (by omega), w64_id (n := i + 1) (by omega) (by omega), Int.tmod_eq_emod_of_nonneg (a := i + 1) (by omega)]
      have p1 := Int.emod_nonneg i c2
      have p2 := Int.emod_lt_of_pos i (show 0 < (l.length : Int) by omega)
      have p3 := Int.emod_nonneg (i + 1) c2
      have p4 := Int.emod_lt_of_pos (i + 1) (show 0 < (l.length : Int) by omega)
      have r1 := rd_in h (i % (l.length : Int))
      have r2 := rd_in h ((i + 1) % (l.length : Int))
      have q1 : 0 ≤ Int.tdiv i (l.length : Int) ∧ Int.tdiv i (l.length : Int) ≤ i := by
        rw [Int.tdiv_eq_ediv_of_nonneg hi0]
        exact ⟨Int.ediv_nonneg hi0 (by omega), Int.ediv_le_self _ hi0⟩
      generalize rd l (i % (l.length : Int)) = x at *
      generalize rd l ((i + 1) % (l.length : Int)) = y at *
      generalize Int.tdiv i (l.length : Int) = q at *
      rw [if_pos p1, if_pos p2, if_pos p3, if_pos p4, if_neg (by omega)]
      rw [w64_id (n := x) (by omega) (by omega), w64_id (n := x * 31) (by omega) (by omega), w64_id (n := y) (by omega) (by omega), w64_id (n := x * 31 + y) (by omega) (by omega), w64_id (n := q) (by omega) (by omega), w64_id (n := x * 31 + y + q) (by omega) (by omega), Int.tmod_eq_emod_of_nonneg (by omega)]
      exact ⟨_, rfl, Int.emod_nonneg _ (by omega), Int.emod_lt_of_pos _ (by omega)⟩

theorem strOfNums_size (xs : List Int) : (strOfNums xs).size = xs.length := by
  unfold strOfNums
  simp [ByteArray.size]
theorem some_l {l : List Int} (h : bytesIn l) (hl : l.length ≤ 140737488351232) (n : Nat) (hn : n ≤ 1000000) (d : Nat) : ∀ (i k : Nat) (xs : List Int) (a s : Int), i + d = n → d < k → xs.length = i → 0 ≤ a → a ≤ 1000000 + i → 0 ≤ s → s < 2147483648 →
    ∃ t a' s', spec_l00Src_some.l0 k (n : Int) xs (i : Int) l a s = some (t, a', s') ∧ t.size = n := by
  induction d with
  | zero =>
    intro i k xs a s hi hk hx ha0 ha1 hs0 hs1
    obtain ⟨k, rfl⟩ : ∃ m, k = m + 1 := ⟨k - 1, by omega⟩
    simp only [spec_l00Src_some.l0]
    rw [if_neg (by omega)]
    exact ⟨_, _, _, rfl, by rw [strOfNums_size]; omega⟩
  | succ d ih =>
    intro i k xs a s hi hk hx ha0 ha1 hs0 hs1
    obtain ⟨k, rfl⟩ : ∃ m, k = m + 1 := ⟨k - 1, by omega⟩
    obtain ⟨b, s', e, b0, b1, s0, s1⟩ := byte_is h hl a s ha0 (by omega) hs0 hs1
    simp only [spec_l00Src_some.l0]
    rw [if_pos (by omega), e]
    simp only [Option.bind_some]
    rw [if_pos (by omega), w64_id (n := (i : Int) + 1) (by omega) (by omega)]
    exact ih (i + 1) k _ (a + 1) s' (by omega) (by omega) (by simp; omega) (by omega) (by omega) s0 s1
theorem textOf_is {l : List Int} (h : bytesIn l) (hl : l.length ≤ 140737488351232) (n k : Nat) (hn : n ≤ 1000000) (hk : n < k) : ∃ t, spec_TextOf.f k l (n : Int) = some t ∧ t.size = n := by
  unfold spec_TextOf.f spec_l00Source.f spec_l00Src_some.f
  simp only [Option.bind_some]
  obtain ⟨t, a', s', e, ht⟩ := some_l h hl n hn n 0 k [] 0 ((l.length : Int) % 1000) (by omega) hk rfl (by omega) (by omega) (by omega) (by omega)
  refine ⟨t, ?_, ht⟩
  have e0 : ((0 : Nat) : Int) = 0 := rfl
  rw [e0] at e
  rw [e]
  rfl

theorem bt_one (x : Int) (h0 : 0 ≤ x) (h1 : x ≤ 255) : bt (strOfNums [x]) 0 = x := by
  unfold bt
  rw [dif_pos (by rw [strOfNums_size]; simp)]
  have e : (((strOfNums [x])[(0 : Int).toNat]'(by rw [strOfNums_size]; simp)).toNat : Int) = (((UInt8.ofNat x.toNat).toNat : Nat) : Int) := rfl
  rw [e, UInt8.toNat_ofNat']
  omega
theorem bt_app_l (s t : ByteArray) (j : Nat) (h : j < s.size) : bt (s ++ t) (j : Int) = bt s j := by
  unfold bt
  rw [dif_pos (by simp; omega), dif_pos (by simpa using h)]
  simp only [Int.toNat_natCast]
  rw [ByteArray.getElem_append_left h]
theorem bt_app_r (s t : ByteArray) (j : Nat) (h : s.size ≤ j) (h2 : j < s.size + t.size) : bt (s ++ t) (j : Int) = bt t ((j - s.size : Nat) : Int) := by
  unfold bt
  rw [dif_pos (by simp; omega), dif_pos (by simp; omega)]
  simp only [Int.toNat_natCast]
  rw [ByteArray.getElem_append_right h]
theorem bt_ext (s : ByteArray) (a b j : Nat) (h : a + j < b) (hb : b ≤ s.size) : bt (s.extract a b) (j : Int) = bt s ((a + j : Nat) : Int) := by
  have h1 : j < (s.extract a b).size := by rw [ByteArray.size_extract]; omega
  unfold bt
  simp only [Int.toNat_natCast]
  rw [dif_pos h1, dif_pos (by omega), ByteArray.getElem_extract]

theorem bt_nums (xs : List Int) (i : Nat) (h : i < xs.length) (h0 : 0 ≤ xs.getD i 0) (h1 : xs.getD i 0 ≤ 255) : bt (strOfNums xs) (i : Int) = xs.getD i 0 := by
  have hs : i < (strOfNums xs).size := by rw [strOfNums_size]; exact h
  unfold bt
  rw [dif_pos (by simpa using hs)]
  simp only [Int.toNat_natCast]
  have e : ((strOfNums xs)[i]'hs) = (xs.map (fun n => UInt8.ofNat n.toNat))[i]'(by simpa using h) := rfl
  have e2 : xs.getD i 0 = xs[i] := by simp [List.getD_eq_getElem?_getD, List.getElem?_eq_getElem h]
  rw [e2] at h0 h1 ⊢
  rw [e, List.getElem_map, UInt8.toNat_ofNat']
  omega

theorem hex_same : ∀ (k : Nat) (s : ByteArray) (x3 : List Int) (x4 : Int), spec_l01Hex.l0 k s x3 x4 = impl_hexOf.l0 k s x3 x4 := by
  intro k
  induction k with
  | zero => intros; rfl
  | succ k ih =>
    intro s x3 x4
    simp only [spec_l01Hex.l0, impl_hexOf.l0]
    have hb := bt_range s x4
    have e1 : IntKind.u8.wrap (Int.tdiv (bt s x4) 16) = bt s x4 / 16 := by rw [Go.IntKind.wrap_u8, Int.tdiv_eq_ediv_of_nonneg hb.1]; omega
    have e2 : Int.tmod (bt s x4) 16 = Go.bits .and .u8 (bt s x4) 15 := by rw [Int.tmod_eq_emod_of_nonneg hb.1, Go.u8_and15 _ hb.1 (by omega)]
    rw [e1, e2]
    simp only [ih]
theorem hex_ends (s : ByteArray) (d : Nat) : ∀ (k : Nat) (x3 : List Int) (x4 : Int), 0 ≤ x4 → (s.size : Int) - x4 ≤ d → d < k → x3.length + 2 * d < 140737488355320 → s.size ≤ 140737488355320 →
    ∃ r, impl_hexOf.l0 k s x3 x4 = some r := by
  induction d with
  | zero =>
    intro k x3 x4 h0 h1 hk _ _
    obtain ⟨k, rfl⟩ : ∃ m, k = m + 1 := ⟨k - 1, by omega⟩
    simp only [impl_hexOf.l0]
    rw [if_neg (by omega)]
    exact ⟨_, rfl⟩
  | succ d ih =>
    intro k x3 x4 h0 h1 hk hl hs
    obtain ⟨k, rfl⟩ : ∃ m, k = m + 1 := ⟨k - 1, by omega⟩
    simp only [impl_hexOf.l0]
    by_cases h : x4 < (s.size : Int)
    · have hb := bt_range s x4
      rw [if_pos h, if_pos h0, Go.u8_and15 _ hb.1 (by omega), if_pos (by omega), if_pos (by omega), if_pos (by omega), if_pos (by omega)]
      simp only [Option.bind_some]
      rw [if_pos (by simp; omega), w64_id (by omega) (by omega)]
      exact ih k _ _ (by omega) (by omega) (by omega) (by simp; omega) hs
    · rw [if_neg h]
      exact ⟨_, rfl⟩

/-- The digits of the bytes from i on. -/
def hx (s : ByteArray) : Nat → Nat → List Int
  | _, 0 => []
  | i, d + 1 => bt (⟨#[48, 49, 50, 51, 52, 53, 54, 55, 56, 57, 97, 98, 99, 100, 101, 102]⟩ : ByteArray) (bt s (i : Int) / 16) :: bt (⟨#[48, 49, 50, 51, 52, 53, 54, 55, 56, 57, 97, 98, 99, 100, 101, 102]⟩ : ByteArray) (bt s (i : Int) % 16) :: hx s (i + 1) d
/-- A text's bytes as numbers. -/
def nums (s : ByteArray) : List Int := s.data.toList.map (fun u => (u.toNat : Int))
theorem hx_length (s : ByteArray) (d : Nat) : ∀ i : Nat, (hx s i d).length = 2 * d := by
  induction d with
  | zero => intro i; rfl
  | succ d ih => intro i; simp [hx, ih]; omega
theorem hx_at (s : ByteArray) (d : Nat) : ∀ i j : Nat, j < d → (hx s i d).getD (2 * j) 0 = bt (⟨#[48, 49, 50, 51, 52, 53, 54, 55, 56, 57, 97, 98, 99, 100, 101, 102]⟩ : ByteArray) (bt s ((i + j : Nat) : Int) / 16) ∧ (hx s i d).getD (2 * j + 1) 0 = bt (⟨#[48, 49, 50, 51, 52, 53, 54, 55, 56, 57, 97, 98, 99, 100, 101, 102]⟩ : ByteArray) (bt s ((i + j : Nat) : Int) % 16) := by
  induction d with
  | zero => intro i j h; omega
  | succ d ih =>
    intro i j h
    cases j with
    | zero => exact ⟨rfl, rfl⟩
    | succ j =>
      have := ih (i + 1) j (by omega)
      rw [show i + 1 + j = i + (j + 1) by omega] at this
      exact this
theorem hexOf_l (s : ByteArray) (hs : s.size ≤ 1000) (d : Nat) : ∀ (i k : Nat) (x3 : List Int), i + d = s.size → d < k → x3.length + 2 * d ≤ 100000 → impl_hexOf.l0 k s x3 (i : Int) = some (strOfNums (x3 ++ hx s i d)) := by
  induction d with
  | zero =>
    intro i k x3 hi hk hl
    obtain ⟨k, rfl⟩ : ∃ m, k = m + 1 := ⟨k - 1, by omega⟩
    simp only [impl_hexOf.l0]
    rw [if_neg (by omega)]
    simp [hx]
  | succ d ih =>
    intro i k x3 hi hk hl
    obtain ⟨k, rfl⟩ : ∃ m, k = m + 1 := ⟨k - 1, by omega⟩
    simp only [impl_hexOf.l0]
    have hb := bt_range s (i : Int)
    rw [if_pos (by omega), if_pos (by omega), Go.u8_and15 _ hb.1 (by omega), if_pos (by omega), if_pos (by omega), if_pos (by omega), if_pos (by omega)]
    simp only [Option.bind_some]
    rw [if_pos (by simp; omega), w64_id (by omega) (by omega)]
    have e : ((i : Int) + 1) = ((i + 1 : Nat) : Int) := by omega
    rw [e, ih (i + 1) k _ (by omega) (by omega) (by simp; omega)]
    simp [hx]
theorem nums_take (s : ByteArray) (j : Nat) (h : j < s.size) : (nums s).take j ++ [bt s (j : Int)] = (nums s).take (j + 1) := by
  have hl : j < (nums s).length := by unfold nums; simpa using h
  have e : bt s (j : Int) = (nums s)[j] := by
    unfold bt
    rw [dif_pos (by simpa using h)]
    simp [nums, ByteArray.getElem_eq_getElem_data]
  rw [e, List.take_append_getElem]
theorem nums_back (s : ByteArray) : strOfNums (nums s) = s := by
  unfold strOfNums nums
  rw [List.map_map]
  have e : ((fun n : Int => UInt8.ofNat n.toNat) ∘ fun u : UInt8 => (u.toNat : Int)) = id := by
    funext u
    simp
  first
    | (rw [e, List.map_id])
    | simp [e]
theorem dig_all : ∀ c ∈ List.range 16, strings_IndexByte.f (⟨#[48, 49, 50, 51, 52, 53, 54, 55, 56, 57, 97, 98, 99, 100, 101, 102]⟩ : ByteArray) (bt (⟨#[48, 49, 50, 51, 52, 53, 54, 55, 56, 57, 97, 98, 99, 100, 101, 102]⟩ : ByteArray) (c : Int)) = some (c : Int) := by decide +kernel
theorem dig_is (x : Int) (h0 : 0 ≤ x) (h1 : x < 16) : strings_IndexByte.f (⟨#[48, 49, 50, 51, 52, 53, 54, 55, 56, 57, 97, 98, 99, 100, 101, 102]⟩ : ByteArray) (bt (⟨#[48, 49, 50, 51, 52, 53, 54, 55, 56, 57, 97, 98, 99, 100, 101, 102]⟩ : ByteArray) x) = some x := by
  obtain ⟨c, rfl⟩ := Int.eq_ofNat_of_zero_le h0
  exact dig_all c (by rw [List.mem_range]; omega)
theorem loopT (s T : ByteArray) (n : Nat) (hn : n = s.size) (hs : n ≤ 1000) (hT : 2 * n ≤ T.size) (hT2 : T.size ≤ 10000) (h0 : ∀ j : Nat, j < n → bt T ((2 * j : Nat) : Int) = bt (⟨#[48, 49, 50, 51, 52, 53, 54, 55, 56, 57, 97, 98, 99, 100, 101, 102]⟩ : ByteArray) (bt s (j : Int) / 16)) (h1 : ∀ j : Nat, j < n → bt T ((2 * j + 1 : Nat) : Int) = bt (⟨#[48, 49, 50, 51, 52, 53, 54, 55, 56, 57, 97, 98, 99, 100, 101, 102]⟩ : ByteArray) (bt s (j : Int) % 16)) (d : Nat) :
    ∀ (j k : Nat), j + d = n → impl_bytesOf.l0 (k + d) T ((nums s).take j) ((2 * j : Nat) : Int) = impl_bytesOf.l0 k T (nums s) ((2 * n : Nat) : Int) := by
  have hl : (nums s).length = n := by unfold nums; simp [hn]
  induction d with
  | zero =>
    intro j k hj
    rw [show j = n by omega, List.take_of_length_le (by omega)]
    rfl
  | succ d ih =>
    intro j k hj
    have e1 : wrap64 (((2 * j : Nat) : Int) + 1) = ((2 * j + 1 : Nat) : Int) := by rw [w64_id (by omega) (by omega)]; omega
    have e2 : wrap64 (((2 * j : Nat) : Int) + 2) = ((2 * (j + 1) : Nat) : Int) := by rw [w64_id (by omega) (by omega)]; omega
    have hb := bt_range s (j : Int)
    have hv : (wrap64 ((wrap64 (16 * (bt s (j : Int) / 16))) + bt s (j : Int) % 16)) % 256 = bt s (j : Int) := by
      rw [w64_id (n := 16 * (bt s (j : Int) / 16)) (by omega) (by omega), w64_id (by omega) (by omega)]
      omega
    have d1 := dig_is (bt s (j : Int) / 16) (by omega) (by omega)
    have d2 := dig_is (bt s (j : Int) % 16) (by omega) (by omega)
    rw [← Nat.add_assoc, impl_bytesOf.l0, if_pos (by omega), if_pos (by omega), e1, e2, h0 j (by omega), h1 j (by omega), d1, d2]
    simp only [Option.bind_some]
    rw [if_pos (by omega), if_pos (by omega), if_neg (by omega), if_neg (by omega), if_pos (by simp; omega), hv, nums_take s j (by omega)]
    exact ih (j + 1) k (by omega)
theorem ends_ok (s T : ByteArray) (k : Nat) (hs : s.size ≤ 1000) (hT : T.size = 2 * s.size) (h0 : ∀ j : Nat, j < s.size → bt T ((2 * j : Nat) : Int) = bt (⟨#[48, 49, 50, 51, 52, 53, 54, 55, 56, 57, 97, 98, 99, 100, 101, 102]⟩ : ByteArray) (bt s (j : Int) / 16)) (h1 : ∀ j : Nat, j < s.size → bt T ((2 * j + 1 : Nat) : Int) = bt (⟨#[48, 49, 50, 51, 52, 53, 54, 55, 56, 57, 97, 98, 99, 100, 101, 102]⟩ : ByteArray) (bt s (j : Int) % 16)) :
    impl_BytesOf.f (k + 1 + s.size) T = some (s, 0) := by
  unfold impl_BytesOf.f impl_isLong.f impl_bytesOf.f
  have h := loopT s T s.size rfl hs (by omega) (by omega) h0 h1 s.size 0 (k + 1) (by omega)
  simp only [Option.bind_some]
  rw [if_neg (by simp; omega), if_pos (by omega)]
  rw [List.take_zero, show ((2 * 0 : Nat) : Int) = 0 from rfl] at h
  rw [h, impl_bytesOf.l0, if_neg (by omega), nums_back]
  rfl
theorem ends_odd (T : ByteArray) (k : Nat) (hs : T.size ≤ 10000) (hT : T.size % 2 = 1) : impl_BytesOf.f k T = some ((⟨#[]⟩ : ByteArray), 3) := by
  unfold impl_BytesOf.f impl_isLong.f impl_bytesOf.f
  simp only [Option.bind_some]
  rw [if_neg (by simp; omega), if_neg (by omega)]
  rfl
theorem dig0 : strings_IndexByte.f (⟨#[48, 49, 50, 51, 52, 53, 54, 55, 56, 57, 97, 98, 99, 100, 101, 102]⟩ : ByteArray) 48 = some 0 := by decide +kernel
theorem digG : strings_IndexByte.f (⟨#[48, 49, 50, 51, 52, 53, 54, 55, 56, 57, 97, 98, 99, 100, 101, 102]⟩ : ByteArray) 71 = some (-1) := by decide +kernel
theorem ends_bad (s T : ByteArray) (k : Nat) (hs : s.size ≤ 1000) (hT : T.size = 2 * s.size + 2) (h0 : ∀ j : Nat, j < s.size → bt T ((2 * j : Nat) : Int) = bt (⟨#[48, 49, 50, 51, 52, 53, 54, 55, 56, 57, 97, 98, 99, 100, 101, 102]⟩ : ByteArray) (bt s (j : Int) / 16)) (h1 : ∀ j : Nat, j < s.size → bt T ((2 * j + 1 : Nat) : Int) = bt (⟨#[48, 49, 50, 51, 52, 53, 54, 55, 56, 57, 97, 98, 99, 100, 101, 102]⟩ : ByteArray) (bt s (j : Int) % 16))
    (g0 : bt T ((2 * s.size : Nat) : Int) = 48) (g1 : bt T ((2 * s.size + 1 : Nat) : Int) = 71) :
    impl_BytesOf.f (k + 1 + s.size) T = some ((⟨#[]⟩ : ByteArray), 3) := by
  unfold impl_BytesOf.f impl_isLong.f impl_bytesOf.f
  have h := loopT s T s.size rfl hs (by omega) (by omega) h0 h1 s.size 0 (k + 1) (by omega)
  have e1 : wrap64 (((2 * s.size : Nat) : Int) + 1) = ((2 * s.size + 1 : Nat) : Int) := by rw [w64_id (by omega) (by omega)]; omega
  simp only [Option.bind_some]
  rw [if_neg (by simp; omega), if_pos (by omega)]
  rw [List.take_zero, show ((2 * 0 : Nat) : Int) = 0 from rfl] at h
  rw [h, impl_bytesOf.l0, if_pos (by omega), if_pos (by omega), e1, g0, g1, dig0, digG]
  simp only [Option.bind_some]
  rw [if_pos (by omega), if_pos (by omega), if_neg (by decide), if_pos (by decide)]
  rfl
theorem fin_h (a b : List UInt8) (n : Int) : (if a = a then (if n = n then (if (0 : Int) = 0 then (if b = b then (if (3 : Int) = 3 then (some ((3 : Int) == 3)) else (some false)) else (some false)) else (some false)) else (some false)) else (some false)) = some true := by simp
theorem FnHex : laws_FnHex.Pure := by
  intro l0 l1 m0 z0 w0 m1 z1 w1
  have b0 := bytesIn_wf w0
  have b1 := bytesIn_wf w1
  obtain ⟨K, hK⟩ : ∃ k : Nat, 170 < k := ⟨171, by decide⟩
  refine ⟨K + 1, ?_⟩
  unfold laws_FnHex.f
  by_cases c0 : (l0.length : Int) > 1048576
  · rw [if_pos c0, laws_FnHex.j0, if_pos rfl]
  · rw [if_neg c0, laws_FnHex.j0]
    by_cases c1 : (l1.length : Int) > 1048576
    · rw [if_pos (by simpa using c1)]
    · rw [if_neg (by simpa using c1)]
      obtain ⟨z, hz, z2, z3⟩ := at_is b1 (by omega) 0 40 (by omega) (by omega) (by omega) (by omega)
      rw [hz]
      simp only [Option.bind_some]
      obtain ⟨n, rfl⟩ := Int.eq_ofNat_of_zero_le z2
      obtain ⟨t, ht, hts⟩ := textOf_is b0 (by omega) n K (by omega) (by omega)
      rw [ht]
      simp only [Option.bind_some]
      have hH : impl_hexOf.l0 K t [] 0 = some (strOfNums (hx t 0 t.size)) := by
        have := hexOf_l t (by omega) t.size 0 K [] (by omega) (by omega) (by simp; omega)
        simpa using this
      have hI : impl_HexOf.f K t = some (strOfNums (hx t 0 t.size)) := by
        unfold impl_HexOf.f impl_hexOf.f
        rw [if_neg (by omega), hH]
        rfl
      have hS : spec_HexOf.f K t = some (strOfNums (hx t 0 t.size)) := by
        unfold spec_HexOf.f spec_l01Hex.f
        rw [if_neg (by omega), hex_same, hH]
        rfl
      have hsz : (strOfNums (hx t 0 t.size)).size = 2 * t.size := by rw [strOfNums_size, hx_length]
      have f0 : ∀ j : Nat, j < t.size → bt (strOfNums (hx t 0 t.size)) ((2 * j : Nat) : Int) = bt (⟨#[48, 49, 50, 51, 52, 53, 54, 55, 56, 57, 97, 98, 99, 100, 101, 102]⟩ : ByteArray) (bt t (j : Int) / 16) := by
        intro j hj
        have h := (hx_at t t.size 0 j hj).1
        rw [show 0 + j = j by omega] at h
        have r := bt_range (⟨#[48, 49, 50, 51, 52, 53, 54, 55, 56, 57, 97, 98, 99, 100, 101, 102]⟩ : ByteArray) (bt t (j : Int) / 16)
        rw [bt_nums _ _ (by rw [hx_length]; omega) (by rw [h]; omega) (by rw [h]; omega), h]
      have f1 : ∀ j : Nat, j < t.size → bt (strOfNums (hx t 0 t.size)) ((2 * j + 1 : Nat) : Int) = bt (⟨#[48, 49, 50, 51, 52, 53, 54, 55, 56, 57, 97, 98, 99, 100, 101, 102]⟩ : ByteArray) (bt t (j : Int) % 16) := by
        intro j hj
        have h := (hx_at t t.size 0 j hj).2
        rw [show 0 + j = j by omega] at h
        have r := bt_range (⟨#[48, 49, 50, 51, 52, 53, 54, 55, 56, 57, 97, 98, 99, 100, 101, 102]⟩ : ByteArray) (bt t (j : Int) % 16)
        rw [bt_nums _ _ (by rw [hx_length]; omega) (by rw [h]; omega) (by rw [h]; omega), h]
      generalize strOfNums (hx t 0 t.size) = H at *
      obtain ⟨q, rfl⟩ : ∃ q, K = q + 1 + t.size := ⟨K - 1 - t.size, by omega⟩
      have g1 := ends_ok t H q (by omega) hsz f0 f1
      have s1 : (⟨#[48]⟩ : ByteArray).size = 1 := rfl
      have s2 : (⟨#[48, 71]⟩ : ByteArray).size = 2 := rfl
      have g2 := ends_odd (H ++ (⟨#[48]⟩ : ByteArray)) (q + 1 + t.size) (by rw [ByteArray.size_append]; omega) (by rw [ByteArray.size_append]; omega)
      have g3 := ends_bad t (H ++ (⟨#[48, 71]⟩ : ByteArray)) q (by omega) (by rw [ByteArray.size_append]; omega)
        (fun j hj => by rw [bt_app_l _ _ _ (by omega), f0 j hj]) (fun j hj => by rw [bt_app_l _ _ _ (by omega), f1 j hj])
        (by rw [bt_app_r _ _ _ (by omega) (by omega), show 2 * t.size - H.size = 0 by omega]; rfl)
        (by rw [bt_app_r _ _ _ (by omega) (by omega), show 2 * t.size + 1 - H.size = 1 by omega]; rfl)
      have hw : wrap64 (2 * (t.size : Int)) = (H.size : Int) := by rw [w64_id (by omega) (by omega)]; omega
      rw [hI]
      simp only [Option.bind_some]
      rw [g1]
      simp only [Option.bind_some]
      rw [if_pos (show H.size + 1 ≤ 9223372036854775807 by omega), g2]
      simp only [Option.bind_some]
      rw [if_pos (show H.size + 2 ≤ 9223372036854775807 by omega), g3]
      simp only [Option.bind_some]
      rw [hS]
      simp only [Option.bind_some]
      rw [hw]
      simp only [if_true, beq_self_eq_true]

end Go.Proofs.Ytpppkjjfemflbaa.Pure
