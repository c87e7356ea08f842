/- Register operations have the documented results, for all drawn operations and numbers. -/
import Derived.Test.YtbbaggpmhiickaaPFnComputex7
import Derived.Laws.BitsLemmas
set_option linter.unusedVariables false
set_option linter.unusedSimpArgs false
namespace Go.Proofs.Ytbbaggpmhiickaa.Pure
open Go.RowKit Go.Proofs.Ytbbaggpmhiickaa.PFnCompute Go.Proofs.YtbbaggpmhiickaaW.PrintWords Go.Proofs.YtbbaggpmhiickaaW.PrintLast Go.Proofs.YtbbaggpmhiickaaW.PrintMore

theorem u64w (n : Int) : IntKind.u64.wrap n = n % 18446744073709551616 := by simp [IntKind.wrap, IntKind.bits, IntKind.signed]
theorem i64w (n : Int) : IntKind.i64.wrap n = wrap64 n := by unfold wrap64; exact Go.IntKind.wrap_i64 n
theorem w64_id {n : Int} (h0 : -9223372036854775808 ≤ n) (h1 : n ≤ 9223372036854775807) : wrap64 n = n := by unfold wrap64; omega
theorem u64_id {n : Int} (h0 : 0 ≤ n) (h1 : n < 18446744073709551616) : IntKind.u64.wrap n = n := by rw [u64w]; omega
theorem w64_rng (n : Int) : -9223372036854775808 ≤ wrap64 n ∧ wrap64 n ≤ 9223372036854775807 := by unfold wrap64; omega
theorem pow64 : (18446744073709551616 : Nat) = 2 ^ 64 := by decide

/-- The number of the first n bits. -/
def ob (b : Nat → Bool) : Nat → Nat
  | 0 => 0
  | n + 1 => (if b n then 2 ^ n else 0) + ob b n
theorem ob_lt (b : Nat → Bool) (n : Nat) : ob b n < 2 ^ n := by
  induction n with
  | zero => simp [ob]
  | succ n ih => unfold ob; rw [Nat.pow_succ]; split <;> omega
theorem ob_testBit (b : Nat → Bool) (n j : Nat) : (ob b n).testBit j = (decide (j < n) && b j) := by
  induction n with
  | zero => simp [ob]
  | succ n ih =>
    have hl := ob_lt b n
    have e : ob b (n + 1) = 2 ^ n * (b n).toNat + ob b n := by rw [ob]; cases b n <;> simp
    rw [e, Nat.testBit_two_pow_mul_add _ hl, ih]
    by_cases h : j < n
    · simp [h]; intro; omega
    · by_cases h2 : j = n
      · subst h2; simp; cases b j <;> simp
      · have h3 : j - n ≠ 0 := by omega
        have h4 : ¬ j < n + 1 := by omega
        simp [h, h4]
        cases hb : b n
        · simp
        · obtain ⟨m, hm⟩ : ∃ m, j - n = m + 1 := ⟨j - n - 1, by omega⟩
          rw [hm]; simp [Nat.testBit_succ]
/-- Bit i of a number's two's complement. -/
def tb (v : Int) (i : Nat) : Bool := (v % 18446744073709551616).toNat.testBit i
theorem nlt (v : Int) : (v % 18446744073709551616).toNat < 2 ^ 64 := by rw [← pow64]; omega
theorem tb_hi (v : Int) (i : Nat) (h : 64 ≤ i) : tb v i = false := by
  unfold tb
  exact Nat.testBit_lt_two_pow (Nat.lt_of_lt_of_le (nlt v) (Nat.pow_le_pow_right (by decide) h))
theorem tb_nat (n i : Nat) (h : n < 18446744073709551616) : tb (n : Int) i = n.testBit i := by
  unfold tb
  congr 1
  omega
theorem tb_eq {x y : Int} (h : ∀ i, i < 64 → tb x i = tb y i) : x % 18446744073709551616 = y % 18446744073709551616 := by
  have e : (x % 18446744073709551616).toNat = (y % 18446744073709551616).toNat := by
    refine Nat.eq_of_testBit_eq fun i => ?_
    by_cases hi : i < 64
    · exact h i hi
    · have h1 := tb_hi x i (by omega)
      have h2 := tb_hi y i (by omega)
      unfold tb at h1 h2
      rw [h1, h2]
  omega
theorem tb_ext {x y : Int} (hx0 : -9223372036854775808 ≤ x) (hx1 : x ≤ 9223372036854775807) (hy0 : -9223372036854775808 ≤ y) (hy1 : y ≤ 9223372036854775807) (h : ∀ i, i < 64 → tb x i = tb y i) : x = y := by
  have := tb_eq h
  omega
theorem tb_congr {x y : Int} (h : x % 18446744073709551616 = y % 18446744073709551616) (i : Nat) : tb x i = tb y i := by unfold tb; rw [h]
theorem tb_wrap64 (x : Int) (i : Nat) : tb (wrap64 x) i = tb x i := tb_congr (by unfold wrap64; omega) i
theorem tb_u64 (x : Int) (i : Nat) : tb (IntKind.u64.wrap x) i = tb x i := tb_congr (by rw [u64w]; omega) i
theorem tb_ob (b : Nat → Bool) (n i : Nat) (hn : n ≤ 64) : tb ((ob b n : Nat) : Int) i = (decide (i < n) && b i) := by
  rw [tb_nat _ _ (by rw [pow64]; exact Nat.lt_of_lt_of_le (ob_lt b n) (Nat.pow_le_pow_right (by decide) hn)), ob_testBit]
theorem tb_bv (v : Int) (i : Nat) : tb v i = (BitVec.ofInt 64 v).getLsbD i := by
  unfold tb BitVec.getLsbD
  rw [BitVec.toNat_ofInt]
  rfl
theorem tb_mul (x : Int) (s i : Nat) (hi : i < 64) : tb (x * 2 ^ s) i = (decide (s ≤ i) && tb x (i - s)) := by
  have e : tb (x * 2 ^ s) i = ((x % 18446744073709551616).toNat * 2 ^ s).testBit i := by
    have h1 : ((x * 2 ^ s) % 18446744073709551616).toNat = ((x % 18446744073709551616).toNat * 2 ^ s) % 2 ^ 64 := by
      have h2 : (x * 2 ^ s) % 18446744073709551616 = ((x % 18446744073709551616) * 2 ^ s) % 18446744073709551616 := by
        have h5 := Int.mul_emod x (2 ^ s) 18446744073709551616
        have h6 := Int.mul_emod (x % 18446744073709551616) (2 ^ s) 18446744073709551616
        rw [Int.emod_emod_of_dvd x (Int.dvd_refl _)] at h6
        rw [h5, h6]
      obtain ⟨m, hm⟩ : ∃ m : Nat, x % 18446744073709551616 = m := ⟨(x % 18446744073709551616).toNat, by omega⟩
      rw [h2, hm, ← pow64]
      have h3 : ((m : Int) * 2 ^ s) % 18446744073709551616 = ((m * 2 ^ s % 18446744073709551616 : Nat) : Int) := by simp
      rw [h3]
      exact Int.toNat_natCast _
    unfold tb
    rw [h1, Nat.testBit_mod_two_pow]
    simp [hi]
  rw [e, ← Nat.shiftLeft_eq, Nat.testBit_shiftLeft]
  rfl
theorem tb_div_u (x : Int) (h0 : 0 ≤ x) (h1 : x < 18446744073709551616) (s i : Nat) : tb (x / 2 ^ s) i = tb x (i + s) := by
  obtain ⟨m, rfl⟩ := Int.eq_ofNat_of_zero_le h0
  have h2 : ((m : Int) / 2 ^ s) = ((m / 2 ^ s : Nat) : Int) := by simp
  have h3 : m / 2 ^ s ≤ m := Nat.div_le_self _ _
  rw [h2, tb_nat _ _ (by omega), tb_nat _ _ (by omega), Nat.testBit_div_two_pow]
theorem tb_div_s (x : Int) (h0 : -9223372036854775808 ≤ x) (h1 : x ≤ 9223372036854775807) (s i : Nat) (hi : i < 64) : tb (x / 2 ^ s) i = tb x (min (i + s) 63) := by
  have e : x / 2 ^ s = ((BitVec.ofInt 64 x).sshiftRight s).toInt := by
    rw [BitVec.toInt_sshiftRight, Int.shiftRight_eq_div_pow, BitVec.toInt_ofInt]
    have : x.bmod (2 ^ 64) = x := by
      have p : (2 ^ 64 : Nat) = 18446744073709551616 := by decide
      rw [p, Int.bmod_def]
      omega
    rw [this]
    simp
  have g : tb ((BitVec.ofInt 64 x).sshiftRight s).toInt i = ((BitVec.ofInt 64 x).sshiftRight s).getLsbD i := by
    rw [tb_bv, BitVec.ofInt_toInt]
  rw [e, g, BitVec.getLsbD_sshiftRight]
  have hm : (BitVec.ofInt 64 x).msb = tb x 63 := by rw [tb_bv, BitVec.msb_eq_getLsbD_last]
  by_cases h : s + i < 64
  · have h2 : min (i + s) 63 = s + i := by omega
    rw [h2, if_pos h, tb_bv]
    simp [show ¬ 64 ≤ i by omega]
  · have h2 : min (i + s) 63 = 63 := by omega
    rw [h2, if_neg h, hm]
    simp [show ¬ 64 ≤ i by omega]
theorem tb_bits {r : BitVec 64} (i : Nat) : tb (IntKind.i64.wrap (r.toNat : Int)) i = r.getLsbD i := by
  rw [i64w, tb_wrap64, tb_nat _ _ (by rw [pow64]; exact r.isLt)]
  rfl
theorem tb_and (x y : Int) (i : Nat) : tb (Go.bits .and .i64 x y) i = (tb x i && tb y i) := by
  rw [show Go.bits .and .i64 x y = IntKind.i64.wrap (((BitVec.ofInt 64 x) &&& (BitVec.ofInt 64 y) : BitVec 64).toNat : Int) from rfl, tb_bits, BitVec.getLsbD_and, tb_bv, tb_bv]
theorem tb_or (x y : Int) (i : Nat) : tb (Go.bits .or .i64 x y) i = (tb x i || tb y i) := by
  rw [show Go.bits .or .i64 x y = IntKind.i64.wrap (((BitVec.ofInt 64 x) ||| (BitVec.ofInt 64 y) : BitVec 64).toNat : Int) from rfl, tb_bits, BitVec.getLsbD_or, tb_bv, tb_bv]
theorem tb_xor (x y : Int) (i : Nat) : tb (Go.bits .xor .i64 x y) i = (tb x i ^^ tb y i) := by
  rw [show Go.bits .xor .i64 x y = IntKind.i64.wrap (((BitVec.ofInt 64 x) ^^^ (BitVec.ofInt 64 y) : BitVec 64).toNat : Int) from rfl, tb_bits, BitVec.getLsbD_xor, tb_bv, tb_bv]
theorem bits_rng (o : BinOp) (x y : Int) : -9223372036854775808 ≤ Go.bits o .i64 x y ∧ Go.bits o .i64 x y ≤ 9223372036854775807 := by
  have h : ∀ n : Int, -9223372036854775808 ≤ IntKind.i64.wrap n ∧ IntKind.i64.wrap n ≤ 9223372036854775807 := fun n => by rw [i64w]; exact w64_rng n
  unfold Go.bits
  split <;> first | exact h _ | omega
theorem tb_pow1 (c i : Nat) (hc : c ≤ 64) : tb ((2 : Int) ^ c - 1) i = decide (i < c) := by
  have hp : 0 < 2 ^ c := Nat.two_pow_pos c
  have e : ((2 : Int) ^ c - 1) = ((2 ^ c - 1 : Nat) : Int) := by rw [Int.natCast_sub hp]; simp
  have hl : 2 ^ c ≤ 2 ^ 64 := Nat.pow_le_pow_right (by decide) hc
  rw [e, tb_nat _ _ (by rw [pow64]; omega), Nat.testBit_two_pow_sub_one]
theorem tb_mod (x : Int) (c i : Nat) (hc : c ≤ 64) : tb (x % 2 ^ c) i = (decide (i < c) && tb x i) := by
  obtain ⟨m, hm⟩ : ∃ m : Nat, x % 18446744073709551616 = m := ⟨(x % 18446744073709551616).toNat, by omega⟩
  have hml : m < 18446744073709551616 := by omega
  have e : x % 2 ^ c = ((m % 2 ^ c : Nat) : Int) := by
    have hd : ((2 : Int) ^ c) ∣ 18446744073709551616 := by
      refine ⟨2 ^ (64 - c), ?_⟩
      rw [← Int.pow_add, show c + (64 - c) = 64 by omega]; rfl
    have h2 : x % 2 ^ c = (x % 18446744073709551616) % 2 ^ c := (Int.emod_emod_of_dvd x hd).symm
    rw [h2, hm]; simp
  have hle : m % 2 ^ c ≤ m := Nat.mod_le _ _
  have h3 : tb x i = m.testBit i := by unfold tb; rw [hm]; simp
  rw [e, tb_nat _ _ (by omega), Nat.testBit_mod_two_pow, h3]
/-- The lowest c bits as a signed number. -/
def smod (v : Int) (c : Nat) : Int := (v + 2 ^ (c - 1)) % 2 ^ c - 2 ^ (c - 1)
theorem ipow_pos (c : Nat) : (0 : Int) < 2 ^ c := Int.pow_pos (by decide)
theorem ipow_split (c : Nat) (h1 : 1 ≤ c) : (2 : Int) ^ c = 2 ^ (c - 1) * 2 := by
  obtain ⟨m, rfl⟩ : ∃ m, c = m + 1 := ⟨c - 1, by omega⟩
  rw [Int.pow_succ]; rfl
theorem ipow_le (c d : Nat) (h : c ≤ d) : (2 : Int) ^ c ≤ 2 ^ d := by exact_mod_cast Nat.pow_le_pow_right (by decide : 0 < 2) h
theorem smod_rng (v : Int) (c : Nat) (h1 : 1 ≤ c) : -(2 ^ (c - 1)) ≤ smod v c ∧ smod v c < 2 ^ (c - 1) := by
  have h0 := Int.emod_nonneg (v + 2 ^ (c - 1)) (Int.ne_of_gt (ipow_pos c))
  have h2 := Int.emod_lt_of_pos (v + 2 ^ (c - 1)) (ipow_pos c)
  have h3 := ipow_split c h1
  unfold smod
  omega
theorem smod_rng64 (v : Int) (c : Nat) (h1 : 1 ≤ c) (h2 : c ≤ 64) : -9223372036854775808 ≤ smod v c ∧ smod v c ≤ 9223372036854775807 := by
  have h := smod_rng v c h1
  have h3 := ipow_le (c - 1) 63 (by omega)
  have h4 : (2 : Int) ^ 63 = 9223372036854775808 := by decide
  omega
theorem smod_shift (v : Int) (c : Nat) (h1 : 1 ≤ c) (h2 : c ≤ 64) : wrap64 (v * 2 ^ (64 - c)) / 2 ^ (64 - c) = smod v c := by
  have hs := ipow_pos (64 - c)
  have e1 : (9223372036854775808 : Int) = 2 ^ (64 - c) * 2 ^ (c - 1) := by rw [← Int.pow_add, show 64 - c + (c - 1) = 63 by omega]; decide
  have e2 : (18446744073709551616 : Int) = 2 ^ (64 - c) * 2 ^ c := by rw [← Int.pow_add, show 64 - c + c = 64 by omega]; decide
  have e3 : wrap64 (v * 2 ^ (64 - c)) = 2 ^ (64 - c) * smod v c := by
    unfold wrap64 smod
    rw [e1, e2, Int.mul_comm v, ← Int.mul_add, Int.mul_emod_mul_of_pos _ _ hs, Int.mul_sub]
  rw [e3, Int.mul_ediv_cancel_left _ (Int.ne_of_gt hs)]
theorem tb_smod (v : Int) (c i : Nat) (h1 : 1 ≤ c) (h2 : c ≤ 64) (hi : i < 64) : tb (smod v c) i = tb v (min i (c - 1)) := by
  have hr := w64_rng (v * 2 ^ (64 - c))
  rw [← smod_shift v c h1 h2, tb_div_s _ hr.1 hr.2 _ _ hi, tb_wrap64, tb_mul _ _ _ (by omega)]
  rw [show min (i + (64 - c)) 63 - (64 - c) = min i (c - 1) by omega]
  simp [show 64 - c ≤ min (i + (64 - c)) 63 by omega]
theorem sgn_math (v : Int) (c : Nat) (h1 : 1 ≤ c) (h2 : c ≤ 64) : wrap64 ((ob (fun j => tb v (min j (c - 1))) 64 : Nat) : Int) = smod v c := by
  have hr := smod_rng64 v c h1 h2
  have hw := w64_rng ((ob (fun j => tb v (min j (c - 1))) 64 : Nat) : Int)
  refine tb_ext hw.1 hw.2 hr.1 hr.2 fun i hi => ?_
  rw [tb_wrap64, tb_ob _ _ _ (by omega), tb_smod v c i h1 h2 hi]
  simp [hi]
theorem field_math (v : Int) (low c : Nat) (h : low + c ≤ 64) : ((ob (fun j => tb v (low + j)) c : Nat) : Int) = (v % 18446744073709551616) / 2 ^ low % 2 ^ c := by
  have h0 : 0 ≤ (v % 18446744073709551616) / 2 ^ low % 2 ^ c := Int.emod_nonneg _ (Int.ne_of_gt (ipow_pos c))
  have h1 : (v % 18446744073709551616) / 2 ^ low % 2 ^ c < 2 ^ c := Int.emod_lt_of_pos _ (ipow_pos c)
  have h2 : (2 : Int) ^ c ≤ 18446744073709551616 := by have := ipow_le c 64 (by omega); rw [show (18446744073709551616 : Int) = 2 ^ 64 by decide]; exact this
  have h3 : ob (fun j => tb v (low + j)) c < 18446744073709551616 := by rw [pow64]; exact Nat.lt_of_lt_of_le (ob_lt _ _) (Nat.pow_le_pow_right (by decide) (by omega))
  have e := tb_eq (x := ((ob (fun j => tb v (low + j)) c : Nat) : Int)) (y := (v % 18446744073709551616) / 2 ^ low % 2 ^ c) fun i hi => by
    rw [tb_ob _ _ _ (by omega), tb_mod _ _ _ (by omega), tb_div_u _ (by omega) (by omega)]
    have : tb (v % 18446744073709551616) (i + low) = tb v (i + low) := tb_congr (by omega) _
    rw [this, Nat.add_comm i low]
  omega
def bytesIn (l : List Int) : Prop := ∀ x ∈ l, 0 ≤ x ∧ x ≤ 255
theorem bytesIn_wf {l : List Int} (h : ∀ x ∈ l, (Lit.int .u8 x).wf = true) : bytesIn l := fun x hx => by
  have := h x hx
  simp only [Lit.wf, IntKind.min, IntKind.max, IntKind.signed, IntKind.bits, Bool.and_eq_true, decide_eq_true_eq] at this
  simpa using this
theorem rd_in {l : List Int} (h : bytesIn l) (i : Int) : 0 ≤ rd l i ∧ rd l i ≤ 255 := by
  unfold rd
  rw [List.getD_eq_getElem?_getD]
  cases e : l[i.toNat]? with
  | none => simp
  | some x => simpa using h x (List.mem_of_getElem? e)
/-- A draw. -/
theorem byte_is {l : List Int} (h : bytesIn l) (hl : l.length ≤ 140737488351232) (a s : Int) (ha0 : 0 ≤ a) (ha1 : a ≤ 1000000000) (hs0 : 0 ≤ s) (hs1 : s < 2147483648) :
    ∃ b s', spec_l00Src_byte.f l a s = some (b, a + 1, s') ∧ 0 ≤ b ∧ b ≤ 255 ∧ 0 ≤ s' ∧ s' < 2147483648 := by
  have hr := rd_in h a
  unfold spec_l00Src_byte.f
  rw [w64_id (n := a + 1) (by omega) (by omega), show a + 1 - 1 = a by omega, w64_id (n := a) (by omega) (by omega)]
  by_cases c : a + 1 ≤ (l.length : Int)
  · rw [if_pos c, if_pos (by omega), if_pos (by omega), w64_id (n := rd l a) (by omega) (by omega), w64_id (n := s * 31) (by omega) (by omega), w64_id (n := s * 31 + rd l a) (by omega) (by omega), w64_id (by omega) (by omega)]
    rw [Int.tmod_eq_emod_of_nonneg (by omega)]
    exact ⟨_, _, rfl, by omega, by omega, by omega, by omega⟩
  · rw [if_neg c]
    by_cases c2 : a + 1 > 3000
    · rw [if_pos c2]
      exact ⟨_, _, rfl, by omega, by omega, by omega, by omega⟩
    · rw [if_neg c2, w64_id (n := s * 1103515245) (by omega) (by omega), w64_id (n := s * 1103515245 + 12345) (by omega) (by omega), Int.tmod_eq_emod_of_nonneg (a := s * 1103515245 + 12345) (by omega)]
      generalize hz : (s * 1103515245 + 12345) % 2147483648 = z
      have hz0 : 0 ≤ z ∧ z < 2147483648 := by omega
      rw [Int.tdiv_eq_ediv_of_nonneg (by omega), w64_id (by omega) (by omega), Int.tmod_eq_emod_of_nonneg (by omega)]
      exact ⟨_, _, rfl, by omega, by omega, by omega, by omega⟩

/-- The i-th choice out of n. -/
theorem at_is {l : List Int} (h : bytesIn l) (hl : l.length ≤ 140737488351232) (i n : Int) (hi0 : 0 ≤ i) (hi1 : i ≤ 1000) (hn0 : 1 ≤ n) (hn1 : n ≤ 1000000) : ∃ r, laws_at.f l i n = some r ∧ 0 ≤ r ∧ r < n := by
  unfold laws_at.f
  by_cases c : n ≤ 1
  · rw [if_pos c]
    exact ⟨0, rfl, by omega, by omega⟩
  · rw [if_neg c]
    by_cases c2 : (l.length : Int) = 0
    · rw [if_pos c2, if_neg (by omega), w64_id (by omega) (by omega), Int.tmod_eq_emod_of_nonneg (by omega)]
      exact ⟨_, rfl, Int.emod_nonneg _ (by omega), Int.emod_lt_of_pos _ (by omega)⟩
    · rw [if_neg c2, Int.tmod_eq_emod_of_nonneg (a := i) (by omega), w64_id (n := i + 1) (by omega) (by omega), Int.tmod_eq_emod_of_nonneg (a := i + 1) (by omega)]
      have p1 := Int.emod_nonneg i c2
      have p2 := Int.emod_lt_of_pos i (show 0 < (l.length : Int) by omega)
      have p3 := Int.emod_nonneg (i + 1) c2
      have p4 := Int.emod_lt_of_pos (i + 1) (show 0 < (l.length : Int) by omega)
      have r1 := rd_in h (i % (l.length : Int))
      have r2 := rd_in h ((i + 1) % (l.length : Int))
      have q1 : 0 ≤ Int.tdiv i (l.length : Int) ∧ Int.tdiv i (l.length : Int) ≤ i := by
        rw [Int.tdiv_eq_ediv_of_nonneg hi0]
        exact ⟨Int.ediv_nonneg hi0 (by omega), Int.ediv_le_self _ hi0⟩
      generalize rd l (i % (l.length : Int)) = x at *
      generalize rd l ((i + 1) % (l.length : Int)) = y at *
      generalize Int.tdiv i (l.length : Int) = q at *
      rw [if_pos p1, if_pos p2, if_pos p3, if_pos p4, if_neg (by omega)]
      rw [w64_id (n := x) (by omega) (by omega), w64_id (n := x * 31) (by omega) (by omega), w64_id (n := y) (by omega) (by omega), w64_id (n := x * 31 + y) (by omega) (by omega), w64_id (n := q) (by omega) (by omega), w64_id (n := x * 31 + y + q) (by omega) (by omega), Int.tmod_eq_emod_of_nonneg (by omega)]
      exact ⟨_, rfl, Int.emod_nonneg _ (by omega), Int.emod_lt_of_pos _ (by omega)⟩

theorem word_is {l : List Int} (h : bytesIn l) (hl : l.length ≤ 140737488351232) (a s : Int) (ha0 : 0 ≤ a) (ha1 : a ≤ 999999000) (hs0 : 0 ≤ s) (hs1 : s < 2147483648) :
    ∃ b s', spec_l00Src_word.f l a s = some (b, a + 4, s') ∧ 0 ≤ b ∧ b ≤ 4294967295 ∧ 0 ≤ s' ∧ s' < 2147483648 := by
  unfold spec_l00Src_word.f
  obtain ⟨b1, s1, e1, p1, q1, u1, v1⟩ := byte_is h hl a s ha0 (by omega) hs0 hs1
  obtain ⟨b2, s2, e2, p2, q2, u2, v2⟩ := byte_is h hl (a + 1) s1 (by omega) (by omega) u1 v1
  obtain ⟨b3, s3, e3, p3, q3, u3, v3⟩ := byte_is h hl (a + 1 + 1) s2 (by omega) (by omega) u2 v2
  obtain ⟨b4, s4, e4, p4, q4, u4, v4⟩ := byte_is h hl (a + 1 + 1 + 1) s3 (by omega) (by omega) u3 v3
  rw [e1]
  simp only [Option.bind_some]
  rw [e2]
  simp only [Option.bind_some]
  rw [e3]
  simp only [Option.bind_some]
  rw [e4]
  simp only [Option.bind_some]
  rw [w64_id (n := 256 * b2) (by omega) (by omega), w64_id (n := b1 + 256 * b2) (by omega) (by omega), w64_id (n := 65536 * b3) (by omega) (by omega), w64_id (n := b1 + 256 * b2 + 65536 * b3) (by omega) (by omega), w64_id (n := 16777216 * b4) (by omega) (by omega), w64_id (by omega) (by omega)]
  refine ⟨b1 + 256 * b2 + 65536 * b3 + 16777216 * b4, s4, ?_, ?_, ?_, u4, v4⟩
  · rw [show a + 1 + 1 + 1 + 1 = a + 4 by omega]
  · omega
  · omega

theorem next_is {l : List Int} (h : bytesIn l) (hl : l.length ≤ 140737488351232) (a s n : Int) (ha0 : 0 ≤ a) (ha1 : a ≤ 999999000) (hs0 : 0 ≤ s) (hs1 : s < 2147483648) (hn : 1 ≤ n) :
    ∃ b a' s', spec_l00Src_next.f l a s n = some (b, a', s') ∧ 0 ≤ b ∧ b < n ∧ a ≤ a' ∧ a' ≤ a + 3 ∧ 0 ≤ s' ∧ s' < 2147483648 := by
  unfold spec_l00Src_next.f
  by_cases c : n ≤ 1
  · rw [if_pos c]
    exact ⟨0, a, s, rfl, by omega, by omega, by omega, by omega, hs0, hs1⟩
  · rw [if_neg c]
    obtain ⟨b1, s1, e1, p1, q1, u1, v1⟩ := byte_is h hl a s ha0 (by omega) hs0 hs1
    obtain ⟨b2, s2, e2, p2, q2, u2, v2⟩ := byte_is h hl (a + 1) s1 (by omega) (by omega) u1 v1
    obtain ⟨b3, s3, e3, p3, q3, u3, v3⟩ := byte_is h hl (a + 1 + 1) s2 (by omega) (by omega) u2 v2
    by_cases c2 : n ≤ 256
    · rw [if_pos c2, e1]
      simp only [Option.bind_some]
      rw [if_neg (by omega), Int.tmod_eq_emod_of_nonneg (by omega)]
      exact ⟨_, _, _, rfl, Int.emod_nonneg _ (by omega), Int.emod_lt_of_pos _ (by omega), by omega, by omega, u1, v1⟩
    · rw [if_neg c2, e1]
      simp only [Option.bind_some]
      rw [e2]
      simp only [Option.bind_some]
      rw [e3]
      simp only [Option.bind_some]
      rw [if_neg (by omega), w64_id (n := b1 * 65536) (by omega) (by omega), w64_id (n := b2 * 256) (by omega) (by omega), w64_id (n := b1 * 65536 + b2 * 256) (by omega) (by omega), w64_id (by omega) (by omega), Int.tmod_eq_emod_of_nonneg (by omega)]
      exact ⟨_, _, _, rfl, Int.emod_nonneg _ (by omega), Int.emod_lt_of_pos _ (by omega), by omega, by omega, u3, v3⟩
theorem shl64_rng (x y : Int) : -9223372036854775808 ≤ shl .i64 x y ∧ shl .i64 x y ≤ 9223372036854775807 := by
  unfold shl
  rw [i64w]
  exact w64_rng _
theorem odd_list : ∀ i ∈ List.range 14, -9223372036854775808 ≤ rd ([0, (-1), 1, 2, 63, 64, 65, 4096, 8192, 16384, 4097, 9223372036854775807, (-9223372036854775808), 30] : List Int) (i : Int) ∧ rd ([0, (-1), 1, 2, 63, 64, 65, 4096, 8192, 16384, 4097, 9223372036854775807, (-9223372036854775808), 30] : List Int) (i : Int) ≤ 9223372036854775807 := by decide +kernel
theorem wide_some {l : List Int} (h : bytesIn l) (hl : l.length ≤ 140737488351232) (a s : Int) (ha0 : 0 ≤ a) (ha1 : a ≤ 999998000) (hs0 : 0 ≤ s) (hs1 : s < 2147483648) :
    ∃ b a' s', spec_l00Src_wide.f l a s = some (b, a', s') ∧ -9223372036854775808 ≤ b ∧ b ≤ 9223372036854775807 ∧ a ≤ a' ∧ a' ≤ a + 20 ∧ 0 ≤ s' ∧ s' < 2147483648 := by
  unfold spec_l00Src_wide.f
  obtain ⟨n1, a1, s1, e1, p1, q1, x1, y1, u1, v1⟩ := next_is h hl a s 7 ha0 (by omega) hs0 hs1 (by omega)
  rw [e1]
  simp only [Option.bind_some]
  by_cases c0 : n1 = 0
  · rw [if_pos c0]
    obtain ⟨b2, s2, e2, p2, q2, u2, v2⟩ := word_is h hl a1 s1 (by omega) (by omega) u1 v1
    obtain ⟨b3, s3, e3, p3, q3, u3, v3⟩ := word_is h hl (a1 + 4) s2 (by omega) (by omega) u2 v2
    rw [e2]
    simp only [Option.bind_some]
    rw [e3]
    have hr := bits_rng .or (wrap64 (b2 * 4294967296)) b3
    exact ⟨_, _, _, rfl, hr.1, hr.2, by (try dsimp only); omega, by (try dsimp only); omega, by (try dsimp only); omega, by (try dsimp only); omega⟩
  · rw [if_neg c0]
    by_cases c1 : n1 = 1
    · rw [if_pos c1]
      unfold spec_l00Src_odd.f
      obtain ⟨n2, a2, s2, e2, p2, q2, x2, y2, u2, v2⟩ := next_is h hl a1 s1 14 (by omega) (by omega) u1 v1 (by omega)
      rw [e2]
      simp only [Option.bind_some]
      obtain ⟨i, rfl⟩ := Int.eq_ofNat_of_zero_le p2
      have ho := odd_list i (by rw [List.mem_range]; omega)
      rw [if_pos p2, if_pos (by simpa using q2)]
      exact ⟨_, _, _, rfl, ho.1, ho.2, by (try dsimp only); omega, by (try dsimp only); omega, by (try dsimp only); omega, by (try dsimp only); omega⟩
    · rw [if_neg c1]
      by_cases c2 : n1 = 2
      · rw [if_pos c2]
        obtain ⟨n2, a2, s2, e2, p2, q2, x2, y2, u2, v2⟩ := next_is h hl a1 s1 300 (by omega) (by omega) u1 v1 (by omega)
        rw [e2]
        have hr := w64_rng (-n2)
        exact ⟨_, _, _, rfl, hr.1, hr.2, by (try dsimp only); omega, by (try dsimp only); omega, by (try dsimp only); omega, by (try dsimp only); omega⟩
      · rw [if_neg c2]
        by_cases c3 : n1 = 3
        · rw [if_pos c3]
          obtain ⟨b2, s2, e2, p2, q2, u2, v2⟩ := word_is h hl a1 s1 (by omega) (by omega) u1 v1
          rw [e2]
          have hr := w64_rng (b2 - 2147483648)
          exact ⟨_, _, _, rfl, hr.1, hr.2, by (try dsimp only); omega, by (try dsimp only); omega, by (try dsimp only); omega, by (try dsimp only); omega⟩
        · rw [if_neg c3]
          by_cases c4 : n1 = 4
          · rw [if_pos c4]
            obtain ⟨n2, a2, s2, e2, p2, q2, x2, y2, u2, v2⟩ := next_is h hl a1 s1 64 (by omega) (by omega) u1 v1 (by omega)
            rw [e2]
            simp only [Option.bind_some]
            rw [if_pos (by rw [u64w]; omega)]
            have hr := shl64_rng 1 (IntKind.u64.wrap n2)
            exact ⟨_, _, _, rfl, hr.1, hr.2, by (try dsimp only); omega, by (try dsimp only); omega, by (try dsimp only); omega, by (try dsimp only); omega⟩
          · rw [if_neg c4]
            obtain ⟨n2, a2, s2, e2, p2, q2, x2, y2, u2, v2⟩ := next_is h hl a1 s1 300 (by omega) (by omega) u1 v1 (by omega)
            rw [e2]
            exact ⟨_, _, _, rfl, by omega, by omega, by (try dsimp only); omega, by (try dsimp only); omega, by (try dsimp only); omega, by (try dsimp only); omega⟩
theorem chance_is {l : List Int} (h : bytesIn l) (hl : l.length ≤ 140737488351232) (a s n : Int) (ha0 : 0 ≤ a) (ha1 : a ≤ 999999000) (hs0 : 0 ≤ s) (hs1 : s < 2147483648) (hn : 1 ≤ n) :
    ∃ b a' s', spec_l00Src_chance.f l a s n = some (b, a', s') ∧ a ≤ a' ∧ a' ≤ a + 3 ∧ 0 ≤ s' ∧ s' < 2147483648 := by
  unfold spec_l00Src_chance.f
  obtain ⟨n1, a1, s1, e1, p1, q1, x1, y1, u1, v1⟩ := next_is h hl a s n ha0 ha1 hs0 hs1 hn
  rw [e1]
  exact ⟨_, _, _, rfl, x1, y1, u1, v1⟩
theorem cj0_is (k : Nat) {l : List Int} (h : bytesIn l) (hl : l.length ≤ 140737488351232) (x a s : Int) (ha0 : 0 ≤ a) (ha1 : a ≤ 999990000) (hs0 : 0 ≤ s) (hs1 : s < 2147483648) :
    ∃ o p q a' s', spec_l00Src_compute.j0 (k + 1) x l a s = some (o, p, q, a', s') ∧ -9223372036854775808 ≤ p ∧ p ≤ 9223372036854775807 ∧ -9223372036854775808 ≤ q ∧ q ≤ 9223372036854775807 ∧ 0 ≤ a' ∧ a' ≤ 999999000 ∧ 0 ≤ s' ∧ s' < 2147483648 := by
  rw [spec_l00Src_compute.j0]
  obtain ⟨p, a1, s1, e1, p0, p1, x1, y1, u1, v1⟩ := wide_some h hl a s ha0 (by omega) hs0 hs1
  obtain ⟨q, a2, s2, e2, q0, q1, x2, y2, u2, v2⟩ := wide_some h hl a1 s1 (by omega) (by omega) u1 v1
  obtain ⟨b3, a3, s3, e3, x3, y3, u3, v3⟩ := chance_is h hl a2 s2 16 (by omega) (by omega) u2 v2 (by omega)
  obtain ⟨b4, a4, s4, e4, x4, y4, u4, v4⟩ := chance_is h hl a3 s3 16 (by omega) (by omega) u3 v3 (by omega)
  rw [e1, Option.bind_some, e2, Option.bind_some, e3, Option.bind_some]
  cases b3 <;> rw [e4, Option.bind_some] <;> cases b4
  · exact ⟨_, _, _, _, _, rfl, p0, p1, q0, q1, by (try dsimp only); omega, by (try dsimp only); omega, u4, v4⟩
  · exact ⟨_, _, _, _, _, rfl, by decide, by decide, by decide, by decide, by (try dsimp only); omega, by (try dsimp only); omega, u4, v4⟩
  · exact ⟨_, _, _, _, _, rfl, by decide, by decide, by decide, by decide, by (try dsimp only); omega, by (try dsimp only); omega, u4, v4⟩
  · exact ⟨_, _, _, _, _, rfl, by decide, by decide, by decide, by decide, by (try dsimp only); omega, by (try dsimp only); omega, u4, v4⟩
theorem computeDrawn_is (k : Nat) {l : List Int} (h : bytesIn l) (hl : l.length ≤ 140737488351232) : ∃ o p q, spec_ComputeDrawn.f (k + 1) l = some (o, p, q) ∧ 22 ≤ o ∧ o ≤ 62 ∧ -9223372036854775808 ≤ p ∧ p ≤ 9223372036854775807 ∧ -9223372036854775808 ≤ q ∧ q ≤ 9223372036854775807 := by
  unfold spec_ComputeDrawn.f spec_l00Source.f spec_l00Src_compute.f
  rw [Option.bind_some]
  obtain ⟨n1, a1, s1, e1, p1, q1, x1, y1, u1, v1⟩ := next_is h hl 0 ((l.length : Int) % 1000) 41 (by omega) (by omega) (by omega) (by omega) (by omega)
  obtain ⟨b2, a2, s2, e2, x2, y2, u2, v2⟩ := chance_is h hl a1 s1 10 (by omega) (by omega) u1 v1 (by omega)
  obtain ⟨n3, a3, s3, e3, p3, q3, x3, y3, u3, v3⟩ := next_is h hl a2 s2 68 (by omega) (by omega) u2 v2 (by omega)
  rw [e1, Option.bind_some, e2, Option.bind_some]
  have key : ∃ o p q a' s', (if b2 = true then (spec_l00Src_next.f l a2 s2 68).bind fun bt => spec_l00Src_compute.j0 (k + 1) (wrap64 (bt.1 - 1)) l bt.2.1 bt.2.2 else spec_l00Src_compute.j0 (k + 1) (wrap64 (22 + n1)) l a2 s2) = some (o, p, q, a', s') ∧ -9223372036854775808 ≤ p ∧ p ≤ 9223372036854775807 ∧ -9223372036854775808 ≤ q ∧ q ≤ 9223372036854775807 ∧ 0 ≤ a' ∧ a' ≤ 999999000 ∧ 0 ≤ s' ∧ s' < 2147483648 := by
    cases b2
    · exact cj0_is k h hl _ a2 s2 (by omega) (by omega) u2 v2
    · rw [if_pos rfl, e3, Option.bind_some]
      exact cj0_is k h hl _ a3 s3 (by omega) (by omega) u3 v3
  obtain ⟨o, p, q, a', s', e, p0, p1, q0, q1, ha0, ha1, hs0, hs1⟩ := key
  obtain ⟨n5, a5, s5, e5, p5, q5, _⟩ := next_is h hl a' s' 41 ha0 ha1 hs0 hs1 (by omega)
  refine ⟨wrap64 (22 + n5), p, q, ?_, ?_, ?_, p0, p1, q0, q1⟩
  · dsimp only
    rw [e, Option.bind_some]
    dsimp only
    rw [e5, Option.bind_some]
  · unfold wrap64; omega
  · unfold wrap64; omega

theorem bit_is (v : Int) (n : Nat) (hn : n < 9223372036854775808) : spec_l01Bit.f v (n : Int) = some (if tb v n then 1 else 0) := by
  unfold spec_l01Bit.f
  have e1 : IntKind.u64.wrap (n : Int) = n := u64_id (by omega) (by omega)
  rw [e1, if_pos (by omega)]
  obtain ⟨m, hm⟩ : ∃ m : Nat, IntKind.u64.wrap v = m := ⟨(v % 18446744073709551616).toNat, by rw [u64w]; omega⟩
  have hml : m < 2 ^ 64 := by rw [← pow64]; rw [u64w] at hm; omega
  have ht : tb v n = m.testBit n := by unfold tb; rw [← u64w, hm]; simp
  have e2 : shr .u64 (m : Int) (n : Int) = ((m / 2 ^ min n 64 : Nat) : Int) := by unfold shr; simp [IntKind.bits]
  have e3 : Int.tmod ((m / 2 ^ min n 64 : Nat) : Int) 2 = ((m / 2 ^ min n 64 % 2 : Nat) : Int) := rfl
  rw [hm, e2, ht, e3, Nat.testBit_eq_decide_div_mod_eq]
  by_cases h : n ≤ 64
  · rw [Nat.min_eq_left h]
    by_cases h2 : m / 2 ^ n % 2 = 1
    · simp [h2]
    · have h3 : m / 2 ^ n % 2 = 0 := by omega
      simp [h3]
  · rw [Nat.min_eq_right (by omega)]
    have h4 : m / 2 ^ 64 = 0 := Nat.div_eq_of_lt hml
    have h5 : m / 2 ^ n = 0 := Nat.div_eq_of_lt (Nat.lt_of_lt_of_le hml (Nat.pow_le_pow_right (by decide) (by omega)))
    simp [h4, h5]

theorem sign_l (v : Int) (C : Nat) (h1 : 1 ≤ C) (h2 : C ≤ 64) : ∀ (i A k : Nat), i ≤ 64 → A < 2 ^ (64 - i) → i < k →
    spec_l01Sign.l0 k v (C : Int) (A : Int) ((i : Int) - 1) = some (wrap64 (((A * 2 ^ i + ob (fun j => tb v (min j (C - 1))) i : Nat)) : Int)) := by
  intro i
  induction i with
  | zero =>
    intro A k _ _ hk
    obtain ⟨k, rfl⟩ : ∃ m, k = m + 1 := ⟨k - 1, by omega⟩
    simp only [spec_l01Sign.l0]
    rw [if_neg (by omega)]
    simp [ob]
  | succ i ih =>
    intro A k hi hA hk
    obtain ⟨k, rfl⟩ : ∃ m, k = m + 1 := ⟨k - 1, by omega⟩
    have hp : 2 ^ (64 - i) = 2 * 2 ^ (64 - (i + 1)) := by rw [show 64 - i = (64 - (i + 1)) + 1 by omega, Nat.pow_succ]; omega
    have hq : 2 ^ (64 - i) ≤ 2 ^ 64 := Nat.pow_le_pow_right (by decide) (by omega)
    rw [← pow64] at hq
    simp only [spec_l01Sign.l0]
    have e0 : ((i + 1 : Nat) : Int) - 1 = (i : Int) := by omega
    rw [e0, if_pos (by omega)]
    have em : mn (i : Int) (wrap64 ((C : Int) - 1)) = ((min i (C - 1) : Nat) : Int) := by
      rw [w64_id (by omega) (by omega)]; unfold mn; split <;> omega
    rw [em, bit_is v (min i (C - 1)) (by omega)]
    simp only [Option.bind_some]
    have e1 : IntKind.u64.wrap (IntKind.u64.wrap (2 * (A : Int)) + IntKind.u64.wrap (if tb v (min i (C - 1)) = true then 1 else 0)) = ((2 * A + (if tb v (min i (C - 1)) then 1 else 0) : Nat) : Int) := by
      simp only [u64w]; split <;> omega
    rw [e1, w64_id (by omega) (by omega), ih _ k (by omega) (by split <;> omega) (by omega)]
    congr 3
    rw [ob, Nat.pow_succ]
    split <;> grind
theorem sign_is (k : Nat) (v : Int) (C : Nat) (h1 : 1 ≤ C) (h2 : C ≤ 64) (hk : 64 < k) : spec_l01Sign.f k v (C : Int) = some (smod v C) := by
  unfold spec_l01Sign.f
  have h := sign_l v C h1 h2 64 0 k (by omega) (by decide) hk
  rw [show ((64 : Nat) : Int) - 1 = 63 by decide, show ((0 : Nat) : Int) = 0 by decide] at h
  rw [h, Nat.zero_mul, Nat.zero_add, sgn_math v C h1 h2]

theorem field_l (v : Int) (L C : Nat) (h2 : C ≤ 62) (h3 : L ≤ 1000) : ∀ (i A k : Nat), i ≤ C → A < 2 ^ (C - i) → i < k →
    spec_l01Field.l0 k v (L : Int) (A : Int) ((i : Int) - 1) = some (((A * 2 ^ i + ob (fun j => tb v (L + j)) i : Nat)) : Int) := by
  intro i
  induction i with
  | zero =>
    intro A k _ _ hk
    obtain ⟨k, rfl⟩ : ∃ m, k = m + 1 := ⟨k - 1, by omega⟩
    simp only [spec_l01Field.l0]
    rw [if_neg (by omega)]
    simp [ob]
  | succ i ih =>
    intro A k hi hA hk
    obtain ⟨k, rfl⟩ : ∃ m, k = m + 1 := ⟨k - 1, by omega⟩
    have hp : 2 ^ (C - i) = 2 * 2 ^ (C - (i + 1)) := by rw [show C - i = (C - (i + 1)) + 1 by omega, Nat.pow_succ]; omega
    have hq : 2 ^ (C - i) ≤ 2 ^ 62 := Nat.pow_le_pow_right (by decide) (by omega)
    rw [show (2 : Nat) ^ 62 = 4611686018427387904 by decide] at hq
    simp only [spec_l01Field.l0]
    have e0 : ((i + 1 : Nat) : Int) - 1 = (i : Int) := by omega
    rw [e0, if_pos (by omega)]
    have em : wrap64 ((L : Int) + (i : Int)) = ((L + i : Nat) : Int) := by rw [w64_id (by omega) (by omega)]; omega
    rw [em, bit_is v (L + i) (by omega)]
    simp only [Option.bind_some]
    have e1 : wrap64 (wrap64 (2 * (A : Int)) + (if tb v (L + i) = true then 1 else 0)) = ((2 * A + (if tb v (L + i) then 1 else 0) : Nat) : Int) := by
      rw [w64_id (n := 2 * (A : Int)) (by omega) (by omega)]
      split <;> (rw [w64_id (by omega) (by omega)]; omega)
    rw [e1, w64_id (by omega) (by omega), ih _ k (by omega) (by split <;> omega) (by omega)]
    congr 2
    rw [ob, Nat.pow_succ]
    split <;> grind
/-- The reference's field: the bits, divided and cut. -/
theorem field_is (k : Nat) (v : Int) (L C : Nat) (h1 : 1 ≤ C) (h2 : C ≤ 62) (h : L + C ≤ 64) (hk : C < k) :
    spec_l01Field.f k v (L : Int) (C : Int) = some ((v % 18446744073709551616) / 2 ^ L % 2 ^ C) := by
  unfold spec_l01Field.f
  have h4 := field_l v L C h2 (by omega) C 0 k (Nat.le_refl _) (by rw [Nat.sub_self]; decide) hk
  rw [w64_id (by omega) (by omega)]
  rw [Nat.zero_mul, Nat.zero_add, field_math v L C h] at h4
  exact h4

theorem wide_l (A B : Nat) (hA : A < 18446744073709551616) (hB : B < 18446744073709551616) : ∀ (i k : Nat), i ≤ 64 → i < k →
    spec_l03Wide.l0 k (A : Int) (B : Int) ((A * (B / 2 ^ i) / 18446744073709551616 : Nat) : Int) ((A * (B / 2 ^ i) % 18446744073709551616 : Nat) : Int) ((i : Int) - 1) = some (((A * B / 18446744073709551616 : Nat) : Int), ((A * B % 18446744073709551616 : Nat) : Int)) := by
  intro i
  induction i with
  | zero =>
    intro k _ hk
    obtain ⟨k, rfl⟩ : ∃ m, k = m + 1 := ⟨k - 1, by omega⟩
    simp only [spec_l03Wide.l0]
    rw [if_neg (by omega)]
    simp
  | succ i ih =>
    intro k hi hk
    obtain ⟨k, rfl⟩ : ∃ m, k = m + 1 := ⟨k - 1, by omega⟩
    have ih := ih k (by omega) (by omega)
    have eY : B / 2 ^ (i + 1) = B / 2 ^ i / 2 := by rw [Nat.pow_succ, Nat.div_div_eq_div_mul]
    have hYB : B / 2 ^ i ≤ B := Nat.div_le_self _ _
    have eS : shr .u64 (B : Int) (i : Int) = ((B / 2 ^ i : Nat) : Int) := by
      unfold shr
      simp [IntKind.bits, Nat.min_eq_left (show i ≤ 64 by omega)]
    rw [eY]
    generalize B / 2 ^ i = Y at *
    have hAY : A * Y = 2 * (A * (Y / 2)) + A * (Y % 2) := by
      have := Nat.div_add_mod Y 2
      generalize Y / 2 = q at *
      generalize Y % 2 = r at *
      subst this
      grind
    have hP : A * (Y / 2) < 18446744073709551616 * 9223372036854775808 := by
      have h1 : A * (Y / 2) ≤ 18446744073709551615 * 9223372036854775807 := Nat.mul_le_mul (by omega) (by omega)
      omega
    have hb : A * Y ≤ 18446744073709551615 * 18446744073709551615 := Nat.mul_le_mul (by omega) (by omega)
    rw [hAY] at ih hb
    clear hAY
    generalize A * (Y / 2) = P at *
    simp only [spec_l03Wide.l0]
    have e0 : ((i + 1 : Nat) : Int) - 1 = (i : Int) := by omega
    have e3 : Int.tmod ((Y : Nat) : Int) 2 = ((Y % 2 : Nat) : Int) := rfl
    rw [e0, if_pos (by omega), u64_id (n := (i : Int)) (by omega) (by omega), if_pos (by omega), eS, e3, w64_id (n := (i : Int) - 1) (by omega) (by omega)]
    simp only [u64w]
    by_cases hc : Y % 2 = 1
    · rw [hc, Nat.mul_one] at ih hb
      rw [if_pos (by omega)]
      have e2 : ((((P % 18446744073709551616 : Nat) : Int) * 2 % 18446744073709551616 + (A : Int)) % 18446744073709551616) = (((2 * P + A) % 18446744073709551616 : Nat) : Int) := by omega
      rw [e2]
      by_cases ht : (((2 * P + A) % 18446744073709551616 : Nat) : Int) < ((P % 18446744073709551616 : Nat) : Int) * 2 % 18446744073709551616
      · rw [if_pos ht]
        have e1 : ((((P / 18446744073709551616 : Nat) : Int) * 2 % 18446744073709551616 + ((P % 18446744073709551616 : Nat) : Int) / 9223372036854775808) % 18446744073709551616 + 1) % 18446744073709551616 = (((2 * P + A) / 18446744073709551616 : Nat) : Int) := by omega
        rw [e1, ih]
      · rw [if_neg ht]
        have e1 : ((((P / 18446744073709551616 : Nat) : Int) * 2 % 18446744073709551616 + ((P % 18446744073709551616 : Nat) : Int) / 9223372036854775808) % 18446744073709551616) = (((2 * P + A) / 18446744073709551616 : Nat) : Int) := by omega
        rw [e1, ih]
    · rw [show Y % 2 = 0 by omega, Nat.mul_zero, Nat.add_zero] at ih hb
      rw [if_neg (by omega)]
      have e1 : ((((P / 18446744073709551616 : Nat) : Int) * 2 % 18446744073709551616 + ((P % 18446744073709551616 : Nat) : Int) / 9223372036854775808) % 18446744073709551616) = (((2 * P) / 18446744073709551616 : Nat) : Int) := by omega
      have e2 : (((P % 18446744073709551616 : Nat) : Int) * 2 % 18446744073709551616) = (((2 * P) % 18446744073709551616 : Nat) : Int) := by omega
      rw [e1, e2, ih]
theorem wide_is (k : Nat) (A B : Nat) (hA : A < 18446744073709551616) (hB : B < 18446744073709551616) (hk : 64 < k) :
    spec_l03Wide.f k (A : Int) (B : Int) = some (((A * B / 18446744073709551616 : Nat) : Int), ((A * B % 18446744073709551616 : Nat) : Int)) := by
  unfold spec_l03Wide.f
  have h := wide_l A B hA hB 64 k (by omega) hk
  have e : B / 2 ^ 64 = 0 := Nat.div_eq_of_lt (by rw [← pow64]; exact hB)
  rw [e, Nat.mul_zero, Nat.zero_div, Nat.zero_mod] at h
  exact h

theorem u64_low32 (x : Int) (h0 : 0 ≤ x) (h1 : x < 18446744073709551616) : Go.bits .and .u64 x 4294967295 = x % 4294967296 := by
  have h := Go.bits_mask .u64 64 (by decide) (fun n h0 h1 => by rw [u64w]; rw [show (2 : Int) ^ 64 = 18446744073709551616 by decide] at h1; omega) 32 (by decide) x h0 (by rw [show (2 : Int) ^ 64 = 18446744073709551616 by decide]; exact h1)
  rw [show (2 : Int) ^ 32 = 4294967296 by decide] at h
  exact h
theorem mul64_is (A B : Nat) (hA : A < 18446744073709551616) (hB : B < 18446744073709551616) :
    bits_Mul64.f (A : Int) (B : Int) = some (((A * B / 18446744073709551616 : Nat) : Int), ((A * B % 18446744073709551616 : Nat) : Int)) := by
  unfold bits_Mul64.f
  rw [u64_low32 A (by omega) (by omega), u64_low32 B (by omega) (by omega)]
  obtain ⟨a1, ha1⟩ : ∃ m : Nat, m = A / 4294967296 := ⟨_, rfl⟩
  obtain ⟨a0, ha0⟩ : ∃ m : Nat, m = A % 4294967296 := ⟨_, rfl⟩
  obtain ⟨b1, hb1⟩ : ∃ m : Nat, m = B / 4294967296 := ⟨_, rfl⟩
  obtain ⟨b0, hb0⟩ : ∃ m : Nat, m = B % 4294967296 := ⟨_, rfl⟩
  have e1 : (A : Int) / 4294967296 = a1 := by omega
  have e2 : (A : Int) % 4294967296 = a0 := by omega
  have e3 : (B : Int) / 4294967296 = b1 := by omega
  have e4 : (B : Int) % 4294967296 = b0 := by omega
  rw [e1, e2, e3, e4]
  have hAB : A * B = a1 * b1 * 18446744073709551616 + (a1 * b0 + a0 * b1) * 4294967296 + a0 * b0 := by
    have h1 : A = a1 * 4294967296 + a0 := by omega
    have h2 : B = b1 * 4294967296 + b0 := by omega
    rw [h1, h2]
    grind
  have m11 : a1 * b1 ≤ 4294967295 * 4294967295 := Nat.mul_le_mul (by omega) (by omega)
  have m10 : a1 * b0 ≤ 4294967295 * 4294967295 := Nat.mul_le_mul (by omega) (by omega)
  have m01 : a0 * b1 ≤ 4294967295 * 4294967295 := Nat.mul_le_mul (by omega) (by omega)
  have m00 : a0 * b0 ≤ 4294967295 * 4294967295 := Nat.mul_le_mul (by omega) (by omega)
  have c11 : (a1 : Int) * b1 = ((a1 * b1 : Nat) : Int) := by push_cast; rfl
  have c10 : (a1 : Int) * b0 = ((a1 * b0 : Nat) : Int) := by push_cast; rfl
  have c01 : (a0 : Int) * b1 = ((a0 * b1 : Nat) : Int) := by push_cast; rfl
  have c00 : (a0 : Int) * b0 = ((a0 * b0 : Nat) : Int) := by push_cast; rfl
  have cAB : (A : Int) * B = ((A * B : Nat) : Int) := by push_cast; rfl
  rw [c11, c10, c01, c00, cAB, hAB]
  generalize a1 * b1 = p11 at *
  generalize a1 * b0 = p10 at *
  generalize a0 * b1 = p01 at *
  generalize a0 * b0 = p00 at *
  have f1 : IntKind.u64.wrap (p10 : Int) = p10 := u64_id (by omega) (by omega)
  have f2 : IntKind.u64.wrap (p00 : Int) = p00 := u64_id (by omega) (by omega)
  have f3 : IntKind.u64.wrap (p11 : Int) = p11 := u64_id (by omega) (by omega)
  have f4 : IntKind.u64.wrap (p01 : Int) = p01 := u64_id (by omega) (by omega)
  rw [f1, f2, f3, f4]
  have f5 : IntKind.u64.wrap ((p10 : Int) + (p00 : Int) / 4294967296) = (p10 : Int) + (p00 : Int) / 4294967296 := u64_id (by omega) (by omega)
  rw [f5, u64_low32 _ (by omega) (by omega)]
  simp only [u64w]
  congr 2
  omega

/-- The bit that a shift takes from the place f. -/
def sbit (kind a : Int) (count : Nat) (f : Int) : Bool := if 0 ≤ f ∧ f < (count : Int) then tb a f.toNat else if kind = 2 then tb a (count - 1) else false
def sfrom (kind n : Int) (i : Nat) : Int := if kind > 0 then (i : Int) + n else (i : Int) - n
theorem shl_bit (b : Bool) (i : Nat) (hi : i < 64) : shl .u64 (IntKind.u64.wrap (if b = true then 1 else 0)) (IntKind.u64.wrap (i : Int)) = (((if b then 2 ^ i else 0 : Nat)) : Int) := by
  have hp : 2 ^ i ≤ 2 ^ 63 := Nat.pow_le_pow_right (by decide) (by omega)
  rw [show (2 : Nat) ^ 63 = 9223372036854775808 by decide] at hp
  rw [u64_id (n := (i : Int)) (by omega) (by omega)]
  unfold shl
  rw [show min ((i : Int).toNat) (IntKind.u64.bits) = i by simp [IntKind.bits]; omega]
  cases b
  · simp [u64w]
  · have e : (IntKind.u64.wrap (if true = true then 1 else 0) : Int) = 1 := by rw [if_pos rfl, u64_id (by decide) (by decide)]
    rw [e, Int.one_mul, if_pos rfl]
    have e2 : (2 : Int) ^ i = ((2 ^ i : Nat) : Int) := by simp
    rw [e2]
    generalize 2 ^ i = p at *
    exact u64_id (by omega) (by omega)
theorem shift_j2 (kind a n : Int) (count i A k : Nat) (hc1 : 1 ≤ count) (hc : count ≤ 64) (hi : i < count) (hA : A < 2 ^ i) (f : Int) (hf0 : -1000 ≤ f) (hf1 : f ≤ 1000) :
    spec_l03Shift.j1 (k + 2) kind a n (count : Int) (A : Int) (i : Int) f = spec_l03Shift.l0 k kind a n (count : Int) (((if sbit kind a count f then 2 ^ i else 0) + A : Nat) : Int) ((i + 1 : Nat) : Int) := by
  have hp : 2 ^ i ≤ 2 ^ 63 := Nat.pow_le_pow_right (by decide) (by omega)
  rw [show (2 : Nat) ^ 63 = 9223372036854775808 by decide] at hp
  have hu : IntKind.u64.wrap (i : Int) = (i : Int) := u64_id (by omega) (by omega)
  have hg : ∀ b : Bool, IntKind.u64.wrap ((A : Int) + (((if b then 2 ^ i else 0 : Nat)) : Int)) = (((if b then 2 ^ i else 0) + A : Nat) : Int) := by
    intro b
    generalize 2 ^ i = p at *
    cases b <;> simp <;> rw [u64_id (by omega) (by omega)] <;> omega
  have hw : wrap64 ((i : Int) + 1) = ((i + 1 : Nat) : Int) := by rw [w64_id (by omega) (by omega)]; omega
  have hz : IntKind.u64.wrap 0 = (IntKind.u64.wrap (if false = true then 1 else 0) : Int) := by rw [if_neg (by decide)]
  simp only [spec_l03Shift.j1, spec_l03Shift.j2]
  by_cases c1 : f ≥ 0
  · rw [if_pos c1]
    by_cases c2 : f < (count : Int)
    · rw [if_pos (by simpa using c2)]
      obtain ⟨F, rfl⟩ := Int.eq_ofNat_of_zero_le c1
      rw [bit_is a F (by omega)]
      simp only [Option.bind_some]
      rw [if_pos (by omega), shl_bit _ i (by omega), hg, hw]
      have e : sbit kind a count (F : Int) = tb a F := by
        unfold sbit
        rw [if_pos ⟨c1, c2⟩, Int.toNat_natCast]
      rw [e]
    · rw [if_neg (by simpa using c2)]
      by_cases c3 : kind = 2
      · have ec : wrap64 ((count : Int) - 1) = ((count - 1 : Nat) : Int) := by rw [w64_id (by omega) (by omega)]; omega
        rw [if_pos c3, ec, bit_is a (count - 1) (by omega)]
        simp only [Option.bind_some]
        rw [if_pos (by omega), shl_bit _ i (by omega), hg, hw]
        have e : sbit kind a count f = tb a (count - 1) := by
          unfold sbit
          rw [if_neg (by omega), if_pos c3]
        rw [e]
      · rw [if_neg c3, if_pos (by omega), hz, shl_bit false i (by omega), hg, hw]
        have e : sbit kind a count f = false := by
          unfold sbit
          rw [if_neg (by omega), if_neg c3]
        rw [e]
  · rw [if_neg c1, if_neg (by decide)]
    by_cases c3 : kind = 2
    · have ec : wrap64 ((count : Int) - 1) = ((count - 1 : Nat) : Int) := by rw [w64_id (by omega) (by omega)]; omega
      rw [if_pos c3, ec, bit_is a (count - 1) (by omega)]
      simp only [Option.bind_some]
      rw [if_pos (by omega), shl_bit _ i (by omega), hg, hw]
      have e : sbit kind a count f = tb a (count - 1) := by
        unfold sbit
        rw [if_neg (by omega), if_pos c3]
      rw [e]
    · rw [if_neg c3, if_pos (by omega), hz, shl_bit false i (by omega), hg, hw]
      have e : sbit kind a count f = false := by
        unfold sbit
        rw [if_neg (by omega), if_neg c3]
      rw [e]
theorem shift_l (kind a n : Int) (count : Nat) (hc1 : 1 ≤ count) (hc : count ≤ 64) (hn0 : 0 ≤ n) (hn1 : n ≤ 64) (d : Nat) : ∀ (i k : Nat), i + d = count → 3 * d + 70 < k →
    spec_l03Shift.l0 k kind a n (count : Int) ((ob (fun j => sbit kind a count (sfrom kind n j)) i : Nat) : Int) (i : Int) = some (smod ((ob (fun j => sbit kind a count (sfrom kind n j)) count : Nat) : Int) count) := by
  induction d with
  | zero =>
    intro i k hi hk
    obtain ⟨k, rfl⟩ : ∃ m, k = m + 1 := ⟨k - 1, by omega⟩
    obtain rfl : i = count := by omega
    simp only [spec_l03Shift.l0]
    rw [if_neg (by omega), sign_is k _ i hc1 hc (by omega)]
    simp only [Option.bind_some]
    congr 1
    have hw : ∀ x : Int, smod (wrap64 x) i = smod x i := by
      intro x
      unfold smod
      have hd : ((2 : Int) ^ i) ∣ 18446744073709551616 := by
        refine ⟨2 ^ (64 - i), ?_⟩
        rw [← Int.pow_add, show i + (64 - i) = 64 by omega]; rfl
      obtain ⟨e, he⟩ := hd
      have h2 : ∃ q : Int, wrap64 x = x + 18446744073709551616 * q := by
        unfold wrap64
        exact ⟨-((x + 9223372036854775808) / 18446744073709551616), by omega⟩
      obtain ⟨q, hq⟩ := h2
      rw [hq, he, show x + 2 ^ i * e * q + 2 ^ (i - 1) = x + 2 ^ (i - 1) + 2 ^ i * (e * q) by rw [Int.mul_assoc]; omega, Int.add_mul_emod_self_left]
    exact hw _
  | succ d ih =>
    intro i k hi hk
    obtain ⟨k, rfl⟩ : ∃ m, k = m + 3 := ⟨k - 3, by omega⟩
    have hl := ob_lt (fun j => sbit kind a count (sfrom kind n j)) i
    have hj := shift_j2 kind a n count i _ k hc1 hc (by omega) hl (sfrom kind n i) (by unfold sfrom; split <;> omega) (by unfold sfrom; split <;> omega)
    have ih := ih (i + 1) k (by omega) (by omega)
    rw [ob] at ih
    simp only [spec_l03Shift.l0]
    rw [if_pos (by omega)]
    by_cases ck : kind > 0
    · rw [if_pos ck, w64_id (by omega) (by omega)]
      have e : sfrom kind n i = (i : Int) + n := by unfold sfrom; rw [if_pos ck]
      rw [← e, hj, ih]
    · rw [if_neg ck, w64_id (by omega) (by omega)]
      have e : sfrom kind n i = (i : Int) - n := by unfold sfrom; rw [if_neg ck]
      rw [← e, hj, ih]
theorem shift_is (kind a n : Int) (count k : Nat) (hc1 : 1 ≤ count) (hc : count ≤ 64) (hn0 : 0 ≤ n) (hn1 : n ≤ 64) (hk : 300 < k) :
    spec_l03Shift.f k kind a n (count : Int) = some (smod ((ob (fun j => sbit kind a count (sfrom kind n j)) count : Nat) : Int) count) := by
  unfold spec_l03Shift.f
  exact shift_l kind a n count hc1 hc hn0 hn1 count 0 k (by omega) (by omega)

theorem shift_tb (kind a n : Int) (count i : Nat) (hc1 : 1 ≤ count) (hc : count ≤ 64) (hi : i < 64) :
    tb (smod ((ob (fun j => sbit kind a count (sfrom kind n j)) count : Nat) : Int) count) i = sbit kind a count (sfrom kind n (min i (count - 1))) := by
  rw [tb_smod _ _ _ hc1 hc hi, tb_ob _ _ _ hc]
  simp [show min i (count - 1) < count by omega]
theorem shl_v (a : Int) (n : Nat) (h : n ≤ 63) : shl .i64 a (n : Int) = wrap64 (a * 2 ^ n) := by
  unfold shl
  rw [show min ((n : Int).toNat) (IntKind.i64.bits) = n by simp [IntKind.bits]; omega, i64w]
theorem shr_v (a : Int) (n : Nat) (h : n ≤ 63) : shr .i64 a (n : Int) = a / 2 ^ n := by
  unfold shr
  rw [show min ((n : Int).toNat) (IntKind.i64.bits) = n by simp [IntKind.bits]; omega]
theorem shru_v (a : Int) (n : Nat) (h : n ≤ 63) : shr .u64 a (n : Int) = a / 2 ^ n := by
  unfold shr
  rw [show min ((n : Int).toNat) (IntKind.u64.bits) = n by simp [IntKind.bits]; omega]
theorem sll64 (k : Nat) (hk : 300 < k) (a : Int) (n : Nat) (h : n ≤ 63) : spec_l03Shift.f k 0 a (n : Int) 64 = some (shl .i64 a (n : Int)) := by
  have hs := shift_is 0 a (n : Int) 64 k (by decide) (by decide) (by omega) (by omega) hk
  rw [show ((64 : Nat) : Int) = 64 from rfl] at hs
  rw [hs, shl_v a n h]
  refine congrArg some ?_
  have r1 := smod_rng64 ((ob (fun j => sbit 0 a 64 (sfrom 0 (n : Int) j)) 64 : Nat) : Int) 64 (by decide) (by decide)
  have r2 := w64_rng (a * 2 ^ n)
  refine tb_ext r1.1 r1.2 r2.1 r2.2 fun i hi => ?_
  rw [shift_tb 0 a n 64 i (by decide) (by decide) hi, tb_wrap64, tb_mul _ _ _ hi, show min i (64 - 1) = i by omega]
  rw [show sfrom 0 (n : Int) i = (i : Int) - n by unfold sfrom; rw [if_neg (by decide)]]
  unfold sbit
  by_cases c : n ≤ i
  · rw [if_pos (by omega), show ((i : Int) - (n : Int)).toNat = i - n by omega]
    simp [c]
  · rw [if_neg (by omega), if_neg (by decide)]
    simp [c]
theorem srl64 (k : Nat) (hk : 300 < k) (a : Int) (n : Nat) (h : n ≤ 63) : spec_l03Shift.f k 1 a (n : Int) 64 = some (wrap64 (shr .u64 (IntKind.u64.wrap a) (n : Int))) := by
  have hs := shift_is 1 a (n : Int) 64 k (by decide) (by decide) (by omega) (by omega) hk
  rw [show ((64 : Nat) : Int) = 64 from rfl] at hs
  rw [hs, shru_v _ n h]
  refine congrArg some ?_
  have r1 := smod_rng64 ((ob (fun j => sbit 1 a 64 (sfrom 1 (n : Int) j)) 64 : Nat) : Int) 64 (by decide) (by decide)
  have r2 := w64_rng (IntKind.u64.wrap a / 2 ^ n)
  refine tb_ext r1.1 r1.2 r2.1 r2.2 fun i hi => ?_
  rw [shift_tb 1 a n 64 i (by decide) (by decide) hi, tb_wrap64, tb_div_u _ (by rw [u64w]; omega) (by rw [u64w]; omega), tb_u64, show min i (64 - 1) = i by omega]
  rw [show sfrom 1 (n : Int) i = (i : Int) + n by unfold sfrom; rw [if_pos (by decide)]]
  unfold sbit
  by_cases c : i + n < 64
  · rw [if_pos (by omega), show ((i : Int) + (n : Int)).toNat = i + n by omega]
  · rw [if_neg (by omega), if_neg (by decide), tb_hi _ _ (by omega)]
theorem sra64 (k : Nat) (hk : 300 < k) (a : Int) (ha0 : -9223372036854775808 ≤ a) (ha1 : a ≤ 9223372036854775807) (n : Nat) (h : n ≤ 63) : spec_l03Shift.f k 2 a (n : Int) 64 = some (shr .i64 a (n : Int)) := by
  have hs := shift_is 2 a (n : Int) 64 k (by decide) (by decide) (by omega) (by omega) hk
  rw [show ((64 : Nat) : Int) = 64 from rfl] at hs
  rw [hs, shr_v _ n h]
  refine congrArg some ?_
  have r1 := smod_rng64 ((ob (fun j => sbit 2 a 64 (sfrom 2 (n : Int) j)) 64 : Nat) : Int) 64 (by decide) (by decide)
  have hp := ipow_pos n
  have r2 : -9223372036854775808 ≤ a / 2 ^ n ∧ a / 2 ^ n ≤ 9223372036854775807 := by
    have hp1 : (1 : Int) ≤ 2 ^ n := by omega
    constructor
    · refine (Int.le_ediv_iff_mul_le hp).2 ?_
      generalize (2 : Int) ^ n = p at *
      have : (9223372036854775808 : Int) * 1 ≤ 9223372036854775808 * p := Int.mul_le_mul_of_nonneg_left hp1 (by decide)
      omega
    · by_cases c : 0 ≤ a
      · exact Int.le_trans (Int.ediv_le_self _ c) ha1
      · have := Int.ediv_neg_of_neg_of_pos (show a < 0 by omega) hp
        omega
  refine tb_ext r1.1 r1.2 r2.1 r2.2 fun i hi => ?_
  rw [shift_tb 2 a n 64 i (by decide) (by decide) hi, tb_div_s a ha0 ha1 _ _ hi, show min i (64 - 1) = i by omega]
  rw [show sfrom 2 (n : Int) i = (i : Int) + n by unfold sfrom; rw [if_pos (by decide)]]
  unfold sbit
  by_cases c : i + n < 64
  · rw [if_pos (by omega), show ((i : Int) + (n : Int)).toNat = i + n by omega, show min (i + n) 63 = i + n by omega]
  · rw [if_neg (by omega), if_pos rfl, show min (i + n) 63 = 63 by omega]

theorem smod32 (v : Int) : smod v 32 = (v + 2147483648) % 4294967296 - 2147483648 := by
  unfold smod
  rw [show (2 : Int) ^ (32 - 1) = 2147483648 by decide, show (2 : Int) ^ 32 = 4294967296 by decide]
theorem wordv_is (v : Int) : impl_WordOf.f v = some (smod v 32) := by
  unfold impl_WordOf.f
  refine congrArg some ?_
  rw [smod32]
  unfold wrap32 wrap64
  omega
theorem low32 (a : Int) : Go.bits .and .i64 a 4294967295 = a % 4294967296 := by
  have r1 := bits_rng .and a 4294967295
  refine tb_ext r1.1 r1.2 (by omega) (by omega) fun i hi => ?_
  have e := tb_mod a 32 i (by decide)
  have e2 := tb_pow1 32 i (by decide)
  rw [show (2 : Int) ^ 32 = 4294967296 by decide] at e e2
  rw [tb_and, e, show (4294967295 : Int) = 4294967296 - 1 by decide, e2, Bool.and_comm]
theorem shiftw_eq (k : Nat) (hk : 300 < k) (kind a X : Int) (n : Nat) (h : n ≤ 31) (hX : ∀ m : Nat, m < 32 → sbit kind a 32 (sfrom kind (n : Int) m) = tb X m) : spec_l03Shift.f k kind a (n : Int) 32 = some (smod X 32) := by
  have hs := shift_is kind a (n : Int) 32 k (by decide) (by decide) (by omega) (by omega) hk
  rw [show ((32 : Nat) : Int) = 32 from rfl] at hs
  rw [hs]
  refine congrArg some ?_
  have r1 := smod_rng64 ((ob (fun j => sbit kind a 32 (sfrom kind (n : Int) j)) 32 : Nat) : Int) 32 (by decide) (by decide)
  have r2 := smod_rng64 X 32 (by decide) (by decide)
  refine tb_ext r1.1 r1.2 r2.1 r2.2 fun i hi => ?_
  rw [shift_tb kind a n 32 i (by decide) (by decide) hi, tb_smod X 32 i (by decide) (by decide) hi]
  exact hX _ (by omega)
theorem sll32 (k : Nat) (hk : 300 < k) (a : Int) (n : Nat) (h : n ≤ 31) : spec_l03Shift.f k 0 a (n : Int) 32 = some (smod (shl .i64 (smod a 32) (n : Int)) 32) := by
  refine shiftw_eq k hk 0 a _ n h fun m hm => ?_
  rw [shl_v _ n (by omega), tb_wrap64, tb_mul _ _ _ (by omega), show sfrom 0 (n : Int) m = (m : Int) - n by unfold sfrom; rw [if_neg (by decide)]]
  unfold sbit
  by_cases c : n ≤ m
  · rw [if_pos (by omega), show ((m : Int) - (n : Int)).toNat = m - n by omega, tb_smod a 32 _ (by decide) (by decide) (by omega), show min (m - n) (32 - 1) = m - n by omega]
    simp [c]
  · rw [if_neg (by omega), if_neg (by decide)]
    simp [c]
theorem srl32 (k : Nat) (hk : 300 < k) (a : Int) (n : Nat) (h : n ≤ 31) : spec_l03Shift.f k 1 a (n : Int) 32 = some (smod (shr .i64 (Go.bits .and .i64 a 4294967295) (n : Int)) 32) := by
  refine shiftw_eq k hk 1 a _ n h fun m hm => ?_
  have e := tb_mod a 32 (min (m + n) 63) (by decide)
  rw [show (2 : Int) ^ 32 = 4294967296 by decide] at e
  rw [low32, shr_v _ n (by omega), tb_div_s _ (by omega) (by omega) _ _ (by omega), e, show sfrom 1 (n : Int) m = (m : Int) + n by unfold sfrom; rw [if_pos (by decide)]]
  unfold sbit
  by_cases c : m + n < 32
  · rw [if_pos (by omega), show ((m : Int) + (n : Int)).toNat = m + n by omega, show min (m + n) 63 = m + n by omega]
    simp [c]
  · rw [if_neg (by omega), if_neg (by decide)]
    simp [show ¬ min (m + n) 63 < 32 by omega]
theorem sra32 (k : Nat) (hk : 300 < k) (a : Int) (n : Nat) (h : n ≤ 31) : spec_l03Shift.f k 2 a (n : Int) 32 = some (smod (shr .i64 (smod a 32) (n : Int)) 32) := by
  refine shiftw_eq k hk 2 a _ n h fun m hm => ?_
  have r := smod_rng64 a 32 (by decide) (by decide)
  rw [shr_v _ n (by omega), tb_div_s _ r.1 r.2 _ _ (by omega), tb_smod a 32 _ (by decide) (by decide) (by omega), show sfrom 2 (n : Int) m = (m : Int) + n by unfold sfrom; rw [if_pos (by decide)]]
  unfold sbit
  by_cases c : m + n < 32
  · rw [if_pos (by omega), show ((m : Int) + (n : Int)).toNat = m + n by omega, show min (min (m + n) 63) (32 - 1) = m + n by omega]
  · rw [if_neg (by omega), if_pos rfl, show min (min (m + n) 63) (32 - 1) = 32 - 1 by omega]

theorem wise_l (op a b : Int) (f : Bool → Bool → Bool) (hf : (op = 40 ∧ f = fun x y => x && y) ∨ (op = 39 ∧ f = fun x y => x || y) ∨ (op = 36 ∧ f = fun x y => x ^^ y)) : ∀ (i A k : Nat), i ≤ 64 → A < 2 ^ (64 - i) → i < k →
    spec_l03Wise.l0 k op a b (A : Int) ((i : Int) - 1) = some (wrap64 (((A * 2 ^ i + ob (fun j => f (tb a j) (tb b j)) i : Nat)) : Int)) := by
  intro i
  induction i with
  | zero =>
    intro A k _ _ hk
    obtain ⟨k, rfl⟩ : ∃ m, k = m + 1 := ⟨k - 1, by omega⟩
    simp only [spec_l03Wise.l0]
    rw [if_neg (by omega)]
    simp [ob]
  | succ i ih =>
    intro A k hi hA hk
    obtain ⟨k, rfl⟩ : ∃ m, k = m + 1 := ⟨k - 1, by omega⟩
    have hp : 2 ^ (64 - i) = 2 * 2 ^ (64 - (i + 1)) := by rw [show 64 - i = (64 - (i + 1)) + 1 by omega, Nat.pow_succ]; omega
    have hq : 2 ^ (64 - i) ≤ 2 ^ 64 := Nat.pow_le_pow_right (by decide) (by omega)
    rw [← pow64] at hq
    have ih0 := ih (2 * A) k (by omega) (by omega) (by omega)
    have ih1 := ih (2 * A + 1) k (by omega) (by omega) (by omega)
    have e0 : ((i + 1 : Nat) : Int) - 1 = (i : Int) := by omega
    have e1 : IntKind.u64.wrap (2 * (A : Int)) = ((2 * A : Nat) : Int) := by rw [u64_id (by omega) (by omega)]; omega
    have e2 : IntKind.u64.wrap (((2 * A : Nat) : Int) + 1) = ((2 * A + 1 : Nat) : Int) := by rw [u64_id (by omega) (by omega)]; omega
    have e3 : wrap64 ((i : Int) - 1) = (i : Int) - 1 := w64_id (by omega) (by omega)
    have r0 : f (tb a i) (tb b i) = false → 2 * A * 2 ^ i + ob (fun j => f (tb a j) (tb b j)) i = A * 2 ^ (i + 1) + ob (fun j => f (tb a j) (tb b j)) (i + 1) := by
      intro h
      rw [ob, h, Nat.pow_succ]
      grind
    have r1 : f (tb a i) (tb b i) = true → (2 * A + 1) * 2 ^ i + ob (fun j => f (tb a j) (tb b j)) i = A * 2 ^ (i + 1) + ob (fun j => f (tb a j) (tb b j)) (i + 1) := by
      intro h
      rw [ob, h, Nat.pow_succ]
      grind
    have w00 : wrap64 (0 + 0) = 0 := by unfold wrap64; omega
    have w01 : wrap64 (0 + 1) = 1 := by unfold wrap64; omega
    have w10 : wrap64 (1 + 0) = 1 := by unfold wrap64; omega
    have w11 : wrap64 (1 + 1) = 2 := by unfold wrap64; omega
    have n1 : ((1 : Int) = 2) = False := by simp
    have n0 : ((0 : Int) = 2) = False := by simp
    have n2 : ((0 : Int) > 0) = False := by simp
    have n3 : ((1 : Int) > 0) = True := by simp
    have n4 : ((2 : Int) > 0) = True := by simp
    have n5 : ((0 : Int) = 1) = False := by simp
    have n6 : ((2 : Int) = 1) = False := by simp
    have m1 : ((40 : Int) = 39) = False := by simp
    have m2 : ((40 : Int) = 36) = False := by simp
    have m3 : ((39 : Int) = 40) = False := by simp
    have m4 : ((39 : Int) = 36) = False := by simp
    have m5 : ((36 : Int) = 40) = False := by simp
    have m6 : ((36 : Int) = 39) = False := by simp
    simp only [spec_l03Wise.l0]
    rw [e0, if_pos (by omega), bit_is a i (by omega), bit_is b i (by omega)]
    simp only [Option.bind_some]
    rw [e1, e2, e3]
    rcases hf with ⟨rfl, rfl⟩ | ⟨rfl, rfl⟩ | ⟨rfl, rfl⟩ <;> cases h1 : tb a i <;> cases h2 : tb b i <;> simp only [h1, h2] at r0 r1 <;>
      simp only [if_true, if_false, Bool.false_eq_true, w00, w01, w10, w11, n1, n0, n2, n3, n4, n5, n6, m1, m2, m3, m4, m5, m6] <;>
      first
        | exact ih0.trans (by rw [r0 rfl])
        | exact ih1.trans (by rw [r1 rfl])
theorem wise_is (k : Nat) (hk : 64 < k) (op a b : Int) (f : Bool → Bool → Bool) (hf : (op = 40 ∧ f = fun x y => x && y) ∨ (op = 39 ∧ f = fun x y => x || y) ∨ (op = 36 ∧ f = fun x y => x ^^ y)) :
    spec_l03Wise.f k op a b = some (wrap64 ((ob (fun j => f (tb a j) (tb b j)) 64 : Nat) : Int)) := by
  unfold spec_l03Wise.f
  have h := wise_l op a b f hf 64 0 k (by omega) (by decide) hk
  rw [Nat.zero_mul, Nat.zero_add] at h
  exact h
theorem wise_tb (f : Bool → Bool → Bool) (a b z : Int) (hz : -9223372036854775808 ≤ z ∧ z ≤ 9223372036854775807) (h : ∀ i, i < 64 → tb z i = f (tb a i) (tb b i)) : wrap64 ((ob (fun j => f (tb a j) (tb b j)) 64 : Nat) : Int) = z := by
  have hw := w64_rng ((ob (fun j => f (tb a j) (tb b j)) 64 : Nat) : Int)
  refine tb_ext hw.1 hw.2 hz.1 hz.2 fun i hi => ?_
  rw [tb_wrap64, tb_ob _ _ _ (by omega), h i hi]
  simp [hi]
theorem wise_and (k : Nat) (hk : 64 < k) (a b : Int) : spec_l03Wise.f k 40 a b = some (Go.bits .and .i64 a b) := by
  rw [wise_is k hk 40 a b _ (.inl ⟨rfl, rfl⟩), wise_tb _ a b _ (bits_rng .and a b) fun i _ => tb_and a b i]
theorem wise_or (k : Nat) (hk : 64 < k) (a b : Int) : spec_l03Wise.f k 39 a b = some (Go.bits .or .i64 a b) := by
  rw [wise_is k hk 39 a b _ (.inr (.inl ⟨rfl, rfl⟩)), wise_tb _ a b _ (bits_rng .or a b) fun i _ => tb_or a b i]
theorem wise_xor (k : Nat) (hk : 64 < k) (a b : Int) : spec_l03Wise.f k 36 a b = some (Go.bits .xor .i64 a b) := by
  rw [wise_is k hk 36 a b _ (.inr (.inr ⟨rfl, rfl⟩)), wise_tb _ a b _ (bits_rng .xor a b) fun i _ => tb_xor a b i]

theorem div_l (A B : Nat) (hA : A < 18446744073709551616) (hB : 0 < B) (hB2 : B < 18446744073709551616) : ∀ (i k : Nat), i ≤ 64 → i < k →
    spec_l03Divide.l0 k (A : Int) (B : Int) ((A / 2 ^ i / B : Nat) : Int) ((A / 2 ^ i % B : Nat) : Int) ((i : Int) - 1) = some (((A / B : Nat) : Int), ((A % B : Nat) : Int)) := by
  intro i
  induction i with
  | zero =>
    intro k _ hk
    obtain ⟨k, rfl⟩ : ∃ m, k = m + 1 := ⟨k - 1, by omega⟩
    simp only [spec_l03Divide.l0]
    rw [if_neg (by omega)]
    simp
  | succ i ih =>
    intro k hi hk
    obtain ⟨k, rfl⟩ : ∃ m, k = m + 1 := ⟨k - 1, by omega⟩
    have ih := ih k (by omega) (by omega)
    have eY : A / 2 ^ (i + 1) = A / 2 ^ i / 2 := by rw [Nat.pow_succ, Nat.div_div_eq_div_mul]
    have hYA : A / 2 ^ i ≤ A := Nat.div_le_self _ _
    have eS : shr .u64 (A : Int) (IntKind.u64.wrap (i : Int)) = ((A / 2 ^ i : Nat) : Int) := by
      rw [u64_id (by omega) (by omega)]
      unfold shr
      simp [IntKind.bits, Nat.min_eq_left (show i ≤ 64 by omega)]
    rw [eY]
    generalize A / 2 ^ i = Y at *
    have hX := Nat.div_add_mod (Y / 2) B
    have hr := Nat.mod_lt (Y / 2) hB
    have hq : Y / 2 / B ≤ Y / 2 := Nat.div_le_self _ _
    generalize Y / 2 / B = q at *
    generalize Y / 2 % B = r at *
    simp only [spec_l03Divide.l0]
    have e0 : ((i + 1 : Nat) : Int) - 1 = (i : Int) := by omega
    rw [e0, if_pos (by omega), u64_id (n := (i : Int)) (by omega) (by omega), if_pos (by omega)]
    rw [u64_id (n := (i : Int)) (by omega) (by omega)] at eS
    have e3 : Int.tmod ((Y : Nat) : Int) 2 = ((Y % 2 : Nat) : Int) := rfl
    rw [eS, e3, w64_id (n := (i : Int) - 1) (by omega) (by omega)]
    simp only [u64w]
    by_cases hc : B ≤ 2 * r + Y % 2
    · have hYq : Y / B = 2 * q + 1 ∧ Y % B = 2 * r + Y % 2 - B := by
        refine (Nat.div_mod_unique hB).2 ⟨?_, by omega⟩
        rw [Nat.mul_add, ← Nat.mul_assoc, Nat.mul_comm B 2, Nat.mul_assoc]
        omega
      rw [hYq.1, hYq.2] at ih
      have e1 : ((q : Int) * 2 % 18446744073709551616 + 1) % 18446744073709551616 = ((2 * q + 1 : Nat) : Int) := by omega
      have e2 : (((r : Int) * 2 % 18446744073709551616 + ((Y % 2 : Nat) : Int)) % 18446744073709551616 - (B : Int)) % 18446744073709551616 = ((2 * r + Y % 2 - B : Nat) : Int) := by omega
      rw [e1, e2, ih]
      by_cases ht : (r : Int) / 9223372036854775808 = 1
      · rw [if_pos ht]
      · rw [if_neg ht, if_pos (by omega)]
    · have hYq : Y / B = 2 * q ∧ Y % B = 2 * r + Y % 2 := by
        refine (Nat.div_mod_unique hB).2 ⟨?_, by omega⟩
        rw [← Nat.mul_assoc, Nat.mul_comm B 2, Nat.mul_assoc]
        omega
      rw [hYq.1, hYq.2] at ih
      have e1 : ((q : Int) * 2 % 18446744073709551616) = ((2 * q : Nat) : Int) := by omega
      have e2 : (((r : Int) * 2 % 18446744073709551616 + ((Y % 2 : Nat) : Int)) % 18446744073709551616) = ((2 * r + Y % 2 : Nat) : Int) := by omega
      rw [e1, e2, ih]
      rw [if_neg (by omega), if_neg (by omega)]
theorem divide_is (k : Nat) (A B : Nat) (hA : A < 18446744073709551616) (hB : 0 < B) (hB2 : B < 18446744073709551616) (hk : 64 < k) :
    spec_l03Divide.f k (A : Int) (B : Int) = some (((A / B : Nat) : Int), ((A % B : Nat) : Int)) := by
  unfold spec_l03Divide.f
  rw [if_neg (by omega)]
  have h := div_l A B hA hB hB2 64 k (by omega) hk
  have e : A / 2 ^ 64 = 0 := Nat.div_eq_of_lt (by rw [← pow64]; exact hA)
  rw [e, Nat.zero_div, Nat.zero_mod] at h
  exact h

theorem size_is (a : Int) (h0 : -9223372036854775808 ≤ a) (h1 : a ≤ 9223372036854775807) : spec_l03Size.f a = some ((a.natAbs : Nat) : Int) := by
  unfold spec_l03Size.f
  simp only [u64w]
  by_cases c : a < 0
  · rw [if_pos c]
    refine congrArg some ?_
    omega
  · rw [if_neg c]
    refine congrArg some ?_
    omega
theorem signed_is (k : Nat) (hk : 64 < k) (a b : Int) (a0 : -9223372036854775808 ≤ a) (a1 : a ≤ 9223372036854775807) (b0 : -9223372036854775808 ≤ b) (b1 : b ≤ 9223372036854775807) : spec_l03Signed.f k a b = impl_divide.f a b := by
  unfold spec_l03Signed.f impl_divide.f
  by_cases c0 : b = 0
  · rw [if_pos c0, if_pos c0]
  · rw [if_neg c0, if_neg c0, size_is a a0 a1, size_is b b0 b1]
    simp only [Option.bind_some]
    rw [divide_is k a.natAbs b.natAbs (by omega) (by omega) (by omega) hk]
    simp only [Option.bind_some]
    have hq : a.natAbs / b.natAbs ≤ a.natAbs := Nat.div_le_self _ _
    have hr : a.natAbs % b.natAbs ≤ a.natAbs := Nat.mod_le _ _
    have t1 : Int.tdiv a b = if (decide (a < 0) != decide (b < 0)) = true then -((a.natAbs / b.natAbs : Nat) : Int) else ((a.natAbs / b.natAbs : Nat) : Int) := by
      rcases Int.natAbs_eq a with ha | ha <;> rcases Int.natAbs_eq b with hb | hb <;> generalize a.natAbs = A at * <;> generalize b.natAbs = B at * <;> subst ha <;> subst hb
      · rw [if_neg (by simp; omega)]; rfl
      · rw [Int.tdiv_neg]
        by_cases z : A = 0
        · subst z; simp
        · first | (rw [if_pos (by simp; omega)]; rfl) | (rw [if_neg (by simp; omega)]; rfl)
      · rw [Int.neg_tdiv]
        by_cases z : A = 0
        · subst z; simp
        · rw [if_pos (by simp; omega)]; rfl
      · rw [Int.neg_tdiv, Int.tdiv_neg, Int.neg_neg]
        by_cases z : A = 0
        · subst z; simp
        · rw [if_neg (by simp; omega)]; rfl
    have t2 : Int.tmod a b = if a < 0 then -((a.natAbs % b.natAbs : Nat) : Int) else ((a.natAbs % b.natAbs : Nat) : Int) := by
      rcases Int.natAbs_eq a with ha | ha <;> rcases Int.natAbs_eq b with hb | hb <;> generalize a.natAbs = A at * <;> generalize b.natAbs = B at * <;> subst ha <;> subst hb
      · rw [if_neg (by omega)]; rfl
      · rw [Int.tmod_neg, if_neg (by omega)]; rfl
      · rw [Int.neg_tmod]
        by_cases z : A = 0
        · subst z; simp
        · rw [if_pos (by omega)]; rfl
      · rw [Int.neg_tmod, Int.tmod_neg]
        by_cases z : A = 0
        · subst z; simp
        · rw [if_pos (by omega)]; rfl
    have hR : (if b = -1 then some (wrap64 (-a), 0) else some (wrap64 (Int.tdiv a b), Int.tmod a b)) = some (wrap64 (Int.tdiv a b), Int.tmod a b) := by
      by_cases c1 : b = -1
      · rw [if_pos c1, c1, Int.tdiv_neg, Int.tdiv_one, Int.tmod_neg, Int.tmod_one]
      · rw [if_neg c1]
    have wn : ∀ x : Int, wrap64 (IntKind.u64.wrap x) = wrap64 x := fun x => by
      rw [u64w]
      unfold wrap64
      omega
    have hr2 : ((a.natAbs % b.natAbs : Nat) : Int) ≤ 9223372036854775808 := by omega
    rw [hR, t1, t2, wn, wn]
    generalize ((a.natAbs / b.natAbs : Nat) : Int) = Q at *
    have hr3 : ¬ a < 0 → ((a.natAbs % b.natAbs : Nat) : Int) ≤ 9223372036854775807 := by omega
    have hr4 : 0 ≤ ((a.natAbs % b.natAbs : Nat) : Int) := by omega
    generalize ((a.natAbs % b.natAbs : Nat) : Int) = R at *
    by_cases c2 : (decide (a < 0) != decide (b < 0)) = true
    · rw [if_pos c2, if_pos c2]
      by_cases c3 : a < 0
      · rw [if_pos c3, if_pos c3, w64_id (n := -R) (by omega) (by omega)]
      · rw [if_neg c3, if_neg c3, w64_id (n := R) (by omega) (hr3 c3)]
    · rw [if_neg c2, if_neg c2]
      by_cases c3 : a < 0
      · rw [if_pos c3, if_pos c3, w64_id (n := -R) (by omega) (by omega)]
      · rw [if_neg c3, if_neg c3, w64_id (n := R) (by omega) (hr3 c3)]

theorem not64 (h : Nat) (hl : h < 18446744073709551616) : Go.bits .xor .u64 18446744073709551615 (h : Int) = 18446744073709551615 - (h : Int) := by
  rw [show Go.bits .xor .u64 18446744073709551615 (h : Int) = IntKind.u64.wrap (((BitVec.ofInt 64 18446744073709551615) ^^^ (BitVec.ofInt 64 (h : Int)) : BitVec 64).toNat : Int) from rfl]
  have e1 : BitVec.ofInt 64 18446744073709551615 = BitVec.allOnes 64 := by decide
  have e2 : (BitVec.ofInt 64 (h : Int)).toNat = h := by
    rw [BitVec.toNat_ofInt, ← pow64]
    omega
  rw [e1, BitVec.allOnes_xor, BitVec.toNat_not, e2, ← pow64, u64w]
  omega
theorem high_neg (Z : Nat) (hZ : Z / 18446744073709551616 < 18446744073709551616) : (if ((Z % 18446744073709551616 : Nat) : Int) = 0 then some (wrap64 (IntKind.u64.wrap ((Go.bits .xor .u64 18446744073709551615 ((Z / 18446744073709551616 : Nat) : Int)) + 1))) else some (wrap64 (Go.bits .xor .u64 18446744073709551615 ((Z / 18446744073709551616 : Nat) : Int)))) = some (wrap64 ((-(Z : Int)) / 18446744073709551616)) := by
  rw [not64 _ hZ, u64w]
  by_cases c : ((Z % 18446744073709551616 : Nat) : Int) = 0
  · rw [if_pos c]
    refine congrArg some ?_
    unfold wrap64
    omega
  · rw [if_neg c]
    refine congrArg some ?_
    unfold wrap64
    omega

theorem high_j3 (k P Q : Nat) (hk : 64 < k) (hP : P < 18446744073709551616) (hQ : Q < 18446744073709551616) (m : Bool) : spec_l03High.j3 (k + 1) (P : Int) (Q : Int) m = some (wrap64 ((if m = true then -((P * Q : Nat) : Int) else ((P * Q : Nat) : Int)) / 18446744073709551616)) := by
  have hb : P * Q ≤ 18446744073709551615 * 18446744073709551615 := Nat.mul_le_mul (by omega) (by omega)
  have hn := high_neg (P * Q) (by omega)
  rw [spec_l03High.j3, wide_is k P Q hP hQ hk]
  simp only [Option.bind_some]
  generalize P * Q = Z at *
  cases m
  · rw [if_neg (by decide), if_neg (by decide)]
    refine congrArg some ?_
    congr 1
  · rw [if_pos rfl, if_pos rfl, hn]
theorem high_j2 (k P : Nat) (b : Int) (b0 : -9223372036854775808 ≤ b) (b1 : b ≤ 9223372036854775807) (hk : 64 < k) (hP : P < 18446744073709551616) (m t : Bool) :
    spec_l03High.j1 (k + 3) b t (P : Int) (IntKind.u64.wrap b) m = some (wrap64 ((if m = true then -((P : Int) * (if t = true then b else IntKind.u64.wrap b)) else ((P : Int) * (if t = true then b else IntKind.u64.wrap b))) / 18446744073709551616)) := by
  obtain ⟨B, hB⟩ : ∃ n : Nat, IntKind.u64.wrap b = n := ⟨(b % 18446744073709551616).toNat, by rw [u64w]; omega⟩
  have hBl : B < 18446744073709551616 := by rw [u64w] at hB; omega
  have hcast : ∀ Q : Nat, ((P * Q : Nat) : Int) = (P : Int) * (Q : Int) := fun Q => Int.natCast_mul P Q
  rw [spec_l03High.j1]
  cases t
  · simp only [Bool.false_eq_true, if_false]
    rw [spec_l03High.j2, if_neg (by decide), hB, high_j3 k P B hk hP hBl m, hcast]
  · simp only [if_true]
    rw [spec_l03High.j2]
    by_cases c : b < 0
    · rw [if_pos (by simpa using c), size_is b b0 b1]
      simp only [Option.bind_some]
      rw [high_j3 k P b.natAbs hk hP (by omega) (!m), hcast, show ((b.natAbs : Nat) : Int) = -b by omega]
      cases m <;> simp [Int.mul_neg]
    · rw [if_neg (by simpa using c), show IntKind.u64.wrap b = ((b.natAbs : Nat) : Int) by rw [u64w]; omega, high_j3 k P b.natAbs hk hP (by omega) m, hcast, show ((b.natAbs : Nat) : Int) = b by omega]

theorem high_is (k : Nat) (a b : Int) (a0 : -9223372036854775808 ≤ a) (a1 : a ≤ 9223372036854775807) (b0 : -9223372036854775808 ≤ b) (b1 : b ≤ 9223372036854775807) (hk : 64 < k) (s t : Bool) :
    spec_l03High.f (k + 4) a b s t = some (wrap64 (((if s = true then a else IntKind.u64.wrap a) * (if t = true then b else IntKind.u64.wrap b)) / 18446744073709551616)) := by
  obtain ⟨A, hA⟩ : ∃ n : Nat, IntKind.u64.wrap a = n := ⟨(a % 18446744073709551616).toNat, by rw [u64w]; omega⟩
  have hAl : A < 18446744073709551616 := by rw [u64w] at hA; omega
  unfold spec_l03High.f
  cases s
  · simp only [Bool.false_eq_true, if_false]
    rw [spec_l03High.j0, if_neg (by decide), hA, high_j2 k A b b0 b1 hk hAl false t]
    simp only [Bool.false_eq_true, if_false]
  · simp only [if_true]
    rw [spec_l03High.j0]
    by_cases c : a < 0
    · rw [if_pos (by simpa using c), size_is a a0 a1]
      simp only [Option.bind_some]
      rw [high_j2 k a.natAbs b b0 b1 hk (by omega) (!false) t, show ((a.natAbs : Nat) : Int) = -a by omega]
      simp [Int.neg_mul]
    · rw [if_neg (by simpa using c), show IntKind.u64.wrap a = ((a.natAbs : Nat) : Int) by rw [u64w]; omega, high_j2 k a.natAbs b b0 b1 hk (by omega) false t, show ((a.natAbs : Nat) : Int) = a by omega]
      simp only [Bool.false_eq_true, if_false]

theorem mulhi (a b : Int) : ∃ lo, impl_MulWide.f a b = some (wrap64 ((IntKind.u64.wrap a * IntKind.u64.wrap b) / 18446744073709551616), lo) ∧ lo = wrap64 (a * b) := by
  obtain ⟨A, hA⟩ : ∃ m : Nat, IntKind.u64.wrap a = m := ⟨(a % 18446744073709551616).toNat, by rw [u64w]; omega⟩
  obtain ⟨B, hB⟩ : ∃ m : Nat, IntKind.u64.wrap b = m := ⟨(b % 18446744073709551616).toNat, by rw [u64w]; omega⟩
  have hAl : A < 18446744073709551616 := by rw [u64w] at hA; omega
  have hBl : B < 18446744073709551616 := by rw [u64w] at hB; omega
  refine ⟨wrap64 ((A * B % 18446744073709551616 : Nat) : Int), ?_, ?_⟩
  · unfold impl_MulWide.f
    rw [hA, hB, mul64_is A B hAl hBl]
    rfl
  · have e : (a * b) % 18446744073709551616 = ((A * B % 18446744073709551616 : Nat) : Int) := by
      rw [Int.mul_emod, ← u64w a, ← u64w b, hA, hB]
      simp
    rw [← e]
    unfold wrap64
    omega

theorem u64_neg (a : Int) (a0 : -9223372036854775808 ≤ a) (c : a < 0) : IntKind.u64.wrap a = a + 18446744073709551616 := by rw [u64w]; omega
theorem u64_pos (a : Int) (a1 : a ≤ 9223372036854775807) (c : ¬ a < 0) : IntKind.u64.wrap a = a := by rw [u64w]; omega
theorem adj51 (a b : Int) (a0 : -9223372036854775808 ≤ a) (a1 : a ≤ 9223372036854775807) (b0 : -9223372036854775808 ≤ b) (b1 : b ≤ 9223372036854775807) (hi : Int) (h : hi = wrap64 ((IntKind.u64.wrap a * IntKind.u64.wrap b) / 18446744073709551616)) :
    (if a < 0 then (if b < 0 then wrap64 (wrap64 (hi - b) - a) else wrap64 (hi - b)) else (if b < 0 then wrap64 (hi - a) else hi)) = wrap64 (a * b / 18446744073709551616) := by
  subst h
  by_cases c : a < 0 <;> by_cases d : b < 0
  · rw [if_pos c, if_pos d, u64_neg a a0 c, u64_neg b b0 d, show (a + 18446744073709551616) * (b + 18446744073709551616) = a * b + 18446744073709551616 * (a + b + 18446744073709551616) by grind]
    generalize a * b = P
    unfold wrap64
    omega
  · rw [if_pos c, if_neg d, u64_neg a a0 c, u64_pos b b1 d, show (a + 18446744073709551616) * b = a * b + 18446744073709551616 * b by grind]
    generalize a * b = P
    unfold wrap64
    omega
  · rw [if_neg c, if_pos d, u64_pos a a1 c, u64_neg b b0 d, show a * (b + 18446744073709551616) = a * b + 18446744073709551616 * a by grind]
    generalize a * b = P
    unfold wrap64
    omega
  · rw [if_neg c, if_neg d, u64_pos a a1 c, u64_pos b b1 d]
theorem adj52 (a b : Int) (a0 : -9223372036854775808 ≤ a) (a1 : a ≤ 9223372036854775807) (hi : Int) (h : hi = wrap64 ((IntKind.u64.wrap a * IntKind.u64.wrap b) / 18446744073709551616)) :
    (if a < 0 then wrap64 (hi - b) else hi) = wrap64 (a * IntKind.u64.wrap b / 18446744073709551616) := by
  subst h
  by_cases c : a < 0
  · rw [if_pos c, u64_neg a a0 c, show (a + 18446744073709551616) * IntKind.u64.wrap b = a * IntKind.u64.wrap b + 18446744073709551616 * IntKind.u64.wrap b by grind]
    generalize a * IntKind.u64.wrap b = P
    rw [u64w]
    unfold wrap64
    omega
  · rw [if_neg c, u64_pos a a1 c]

theorem u64_mask (x : Int) (c : Nat) (hc : c ≤ 64) (h0 : 0 ≤ x) (h1 : x < 18446744073709551616) : Go.bits .and .u64 x (2 ^ c - 1) = x % 2 ^ c :=
  Go.bits_mask .u64 64 (by decide) (fun n h0 h1 => by rw [u64w]; rw [show (2 : Int) ^ 64 = 18446744073709551616 by decide] at h1; omega) c (by omega) x h0 (by rw [show (2 : Int) ^ 64 = 18446744073709551616 by decide]; exact h1)
theorem by6 (k : Nat) (hk : 64 < k) (b : Int) : ∃ n : Nat, n ≤ 63 ∧ Go.bits .and .u64 (IntKind.u64.wrap b) 63 = (n : Int) ∧ spec_l01Field.f k b 0 6 = some (n : Int) := by
  have h := u64_mask (IntKind.u64.wrap b) 6 (by decide) (by rw [u64w]; omega) (by rw [u64w]; omega)
  have f := field_is k b 0 6 (by decide) (by decide) (by decide) (by omega)
  rw [show ((0 : Nat) : Int) = 0 from rfl, show ((6 : Nat) : Int) = 6 from rfl, show (2 : Int) ^ 0 = 1 by decide, show (2 : Int) ^ 6 = 64 by decide, Int.ediv_one] at f
  rw [show (2 : Int) ^ 6 = 64 by decide, show (64 : Int) - 1 = 63 by decide] at h
  rw [h, f, u64w]
  exact ⟨(b % 18446744073709551616 % 64).toNat, by omega, by omega, by rw [show (((b % 18446744073709551616 % 64).toNat : Nat) : Int) = b % 18446744073709551616 % 64 by omega]⟩
theorem by5 (k : Nat) (hk : 64 < k) (b : Int) : ∃ n : Nat, n ≤ 31 ∧ Go.bits .and .u64 (IntKind.u64.wrap b) 31 = (n : Int) ∧ spec_l01Field.f k b 0 5 = some (n : Int) := by
  have h := u64_mask (IntKind.u64.wrap b) 5 (by decide) (by rw [u64w]; omega) (by rw [u64w]; omega)
  have f := field_is k b 0 5 (by decide) (by decide) (by decide) (by omega)
  rw [show ((0 : Nat) : Int) = 0 from rfl, show ((5 : Nat) : Int) = 5 from rfl, show (2 : Int) ^ 0 = 1 by decide, show (2 : Int) ^ 5 = 32 by decide, Int.ediv_one] at f
  rw [show (2 : Int) ^ 5 = 32 by decide, show (32 : Int) - 1 = 31 by decide] at h
  rw [h, f, u64w]
  exact ⟨(b % 18446744073709551616 % 32).toNat, by omega, by omega, by rw [show (((b % 18446744073709551616 % 32).toNat : Nat) : Int) = b % 18446744073709551616 % 32 by omega]⟩

/-- What an operation with a number stands for: the same in both. -/
theorem plain_is (op : Int) (h0 : 22 ≤ op) (h1 : op ≤ 62) : ∃ p, spec_l03Plain.f op = some p ∧ impl_plain.f op = some p ∧ 31 ≤ p ∧ p ≤ 62 ∧ ¬ (41 ≤ p ∧ p ≤ 44) ∧ (50 ≤ p → op = p) := by
  have : op = 22 ∨ op = 23 ∨ op = 24 ∨ op = 25 ∨ op = 26 ∨ op = 27 ∨ op = 28 ∨ op = 29 ∨ op = 30 ∨ op = 41 ∨ op = 42 ∨ op = 43 ∨ op = 44 ∨ (31 ≤ op ∧ ¬ (41 ≤ op ∧ op ≤ 44)) := by omega
  rcases this with rfl | rfl | rfl | rfl | rfl | rfl | rfl | rfl | rfl | rfl | rfl | rfl | rfl | h
  all_goals first
    | exact ⟨_, rfl, rfl, by decide, by decide, by decide, by decide⟩
    | skip
  refine ⟨op, ?_, ?_, h.1, h1, h.2, fun _ => rfl⟩
  · unfold spec_l03Plain.f
    rw [if_neg (by omega), if_neg (by omega), if_neg (by omega), if_neg (by omega), if_neg (by omega), if_neg (by omega), if_neg (by omega), if_neg (by omega), if_neg (by omega), if_neg (by omega), if_neg (by omega), if_neg (by omega), if_neg (by omega)]
  · unfold impl_plain.f
    rw [if_neg (by omega), if_neg (by omega), if_neg (by omega), if_neg (by omega), if_neg (by omega), if_neg (by omega), if_neg (by omega), if_neg (by omega), if_neg (by omega), if_neg (by omega), if_neg (by omega), if_neg (by omega), if_neg (by omega)]

theorem divU_is (k : Nat) (hk : 64 < k) (a b : Int) (wa : -9223372036854775808 ≤ a ∧ a ≤ 9223372036854775807) (wb : -9223372036854775808 ≤ b ∧ b ≤ 9223372036854775807) : ∃ q r, spec_DivideU.f k a b = some (q, r) ∧ impl_DivideU.f a b = some (q, r) := by
  by_cases hb : b = 0
  · subst hb
    refine ⟨-1, a, ?_, ?_⟩
    · unfold spec_DivideU.f spec_l03Divide.f
      have e : IntKind.u64.wrap 0 = 0 := by rw [u64w]; omega
      have e2 : wrap64 18446744073709551615 = -1 := by unfold wrap64; omega
      have e3 : wrap64 (IntKind.u64.wrap a) = a := by rw [u64w]; unfold wrap64; omega
      rw [if_pos e]
      simp only [Option.bind_some]
      rw [e2, e3]
    · unfold impl_DivideU.f
      rw [if_pos rfl]
  · unfold spec_DivideU.f impl_DivideU.f
    have hub : IntKind.u64.wrap b ≠ 0 := by rw [u64w]; omega
    obtain ⟨A, hA⟩ : ∃ m : Nat, IntKind.u64.wrap a = m := ⟨(a % 18446744073709551616).toNat, by rw [u64w]; omega⟩
    obtain ⟨B, hB⟩ : ∃ m : Nat, IntKind.u64.wrap b = m := ⟨(b % 18446744073709551616).toNat, by rw [u64w]; omega⟩
    have hAl : A < 18446744073709551616 := by rw [u64w] at hA; omega
    have hBl : B < 18446744073709551616 := by rw [u64w] at hB; omega
    have hB0 : 0 < B := by omega
    rw [if_neg hb, if_neg hub, hA, hB, divide_is k A B hAl hB0 hBl hk]
    have hl : A / B ≤ A := Nat.div_le_self _ _
    have e1 : Int.tdiv (A : Int) (B : Int) = ((A / B : Nat) : Int) := rfl
    have e2 : Int.tmod (A : Int) (B : Int) = ((A % B : Nat) : Int) := rfl
    rw [e1, e2]
    generalize A / B = q at *
    rw [u64_id (n := (q : Int)) (by omega) (by omega)]
    exact ⟨_, _, rfl, rfl⟩

theorem bind_self (v : Int) : ((some v).bind fun t => some t) = some v := rfl
theorem bind_true (v : Int) : ((some v).bind fun t => some (t, true)) = some (v, true) := rfl
theorem cW (k : Nat) (op p a b v : Int) (hp : impl_plain.f op = some p) (h : impl_computeW.f p a b = some (v, true)) : impl_computes.f k op a b = some v := by
  unfold impl_computes.f
  rw [hp]
  rw [Option.bind_some]
  rw [h]
  simp only [Option.bind_some, if_true]
theorem cN (k : Nat) (op p a b v : Int) (hp : impl_plain.f op = some p) (h : impl_computeW.f p a b = some (0, false)) (h2 : impl_compute.f k p a b = some v) : impl_computes.f k op a b = some v := by
  unfold impl_computes.f
  rw [hp]
  rw [Option.bind_some]
  rw [h]
  rw [Option.bind_some]
  rw [if_neg (by decide), h2]
  rfl
theorem nW (p a b : Int) (h : p ≤ 44 ∨ (50 ≤ p ∧ p ≤ 57)) : impl_computeW.f p a b = some (0, false) := by
  unfold impl_computeW.f
  rw [wordv_is a, Option.bind_some, wordv_is b, Option.bind_some]
  rw [if_neg (by omega), if_neg (by omega), if_neg (by omega), if_neg (by omega), if_neg (by omega), if_neg (by omega), if_neg (by omega), if_neg (by omega), if_neg (by omega), if_neg (by omega)]
theorem divide_some (a b : Int) : ∃ q r, impl_divide.f a b = some (q, r) := by
  unfold impl_divide.f
  by_cases c : b = 0
  · rw [if_pos c]; exact ⟨_, _, rfl⟩
  · rw [if_neg c]
    by_cases d : b = -1
    · rw [if_pos d]; exact ⟨_, _, rfl⟩
    · rw [if_neg d]; exact ⟨_, _, rfl⟩
theorem sign32 (k : Nat) (hk : 64 < k) (a : Int) : spec_l01Sign.f k a 32 = some (smod a 32) := sign_is k a 32 (by decide) (by decide) hk
theorem field32 (k : Nat) (hk : 64 < k) (a : Int) : spec_l01Field.f k a 0 32 = some (a % 4294967296) := by
  have f := field_is k a 0 32 (by decide) (by decide) (by decide) (by omega)
  rw [show ((0 : Nat) : Int) = 0 from rfl, show ((32 : Nat) : Int) = 32 from rfl, show (2 : Int) ^ 0 = 1 by decide, show (2 : Int) ^ 32 = 4294967296 by decide, Int.ediv_one, show a % 18446744073709551616 % 4294967296 = a % 4294967296 by omega] at f
  exact f
theorem s31 (K : Nat) (hK : 400 < K) (op a b : Int) (hs : spec_l03Plain.f op = some 31) : spec_l03Compute.f (K + 5) op a b = some (wrap64 (a + b)) := by
  have hs1 := sign32 (K + 5) (by omega) a
  have hs2 := sign32 (K + 5) (by omega) b
  unfold spec_l03Compute.f
  rw [hs1]
  rw [Option.bind_some]
  rw [hs2]
  rw [Option.bind_some]
  rw [hs]
  rw [Option.bind_some]
  first | rw [if_pos True.intro] | rw [if_pos rfl]
  refine congrArg some ?_
  simp only [u64w]
  unfold wrap64
  omega

theorem i31 (k : Nat) (hk : 64 < k) (a b : Int) (a0 : -9223372036854775808 ≤ a) (a1 : a ≤ 9223372036854775807) (b0 : -9223372036854775808 ≤ b) (b1 : b ≤ 9223372036854775807) : impl_compute.f (k + 1) 31 a b = some (wrap64 (a + b)) := by
  obtain ⟨lo, hm, hlo⟩ := mulhi a b
  unfold impl_compute.f
  rw [hm]
  rw [Option.bind_some]
  first | rw [if_pos True.intro] | rw [if_pos rfl]

theorem s32 (K : Nat) (hK : 400 < K) (op a b : Int) (hs : spec_l03Plain.f op = some 32) : spec_l03Compute.f (K + 5) op a b = some (wrap64 (a - b)) := by
  have hs1 := sign32 (K + 5) (by omega) a
  have hs2 := sign32 (K + 5) (by omega) b
  unfold spec_l03Compute.f
  rw [hs1]
  rw [Option.bind_some]
  rw [hs2]
  rw [Option.bind_some]
  rw [hs]
  rw [Option.bind_some]
  rw [if_neg (by decide)]
  first | rw [if_pos True.intro] | rw [if_pos rfl]
  refine congrArg some ?_
  simp only [u64w]
  unfold wrap64
  omega

theorem i32 (k : Nat) (hk : 64 < k) (a b : Int) (a0 : -9223372036854775808 ≤ a) (a1 : a ≤ 9223372036854775807) (b0 : -9223372036854775808 ≤ b) (b1 : b ≤ 9223372036854775807) : impl_compute.f (k + 1) 32 a b = some (wrap64 (a - b)) := by
  obtain ⟨lo, hm, hlo⟩ := mulhi a b
  unfold impl_compute.f
  rw [hm]
  rw [Option.bind_some]
  rw [if_neg (by decide)]
  first | rw [if_pos True.intro] | rw [if_pos rfl]

theorem b33 (K : Nat) (hK : 400 < K) (op a b : Int) (a0 : -9223372036854775808 ≤ a) (a1 : a ≤ 9223372036854775807) (b0 : -9223372036854775808 ≤ b) (b1 : b ≤ 9223372036854775807) (hs : spec_l03Plain.f op = some 33) : ∃ v, spec_l03Compute.f K op a b = some v ∧ impl_compute.f K 33 a b = some v := by
  obtain ⟨n, hn, hb, hf⟩ := by6 K (by omega) b
  refine ⟨shl .i64 a (n : Int), ?_, ?_⟩
  · skip
    have hs1 := sign32 K (by omega) a
    have hs2 := sign32 K (by omega) b
    unfold spec_l03Compute.f
    rw [hs1]
    rw [Option.bind_some]
    rw [hs2]
    rw [Option.bind_some]
    rw [hs]
    rw [Option.bind_some]
    rw [if_neg (by decide), if_neg (by decide)]
    first | rw [if_pos True.intro] | rw [if_pos rfl]
    rw [hf]
    rw [Option.bind_some]
    rw [sll64 K (by omega) a n hn]
    exact bind_self _
  · obtain ⟨lo, hm, hlo⟩ := mulhi a b
    unfold impl_compute.f
    rw [hm]
    rw [Option.bind_some]
    rw [if_neg (by decide), if_neg (by decide)]
    first | rw [if_pos True.intro] | rw [if_pos rfl]
    rw [hb, if_pos (by omega)]
theorem b37 (K : Nat) (hK : 400 < K) (op a b : Int) (a0 : -9223372036854775808 ≤ a) (a1 : a ≤ 9223372036854775807) (b0 : -9223372036854775808 ≤ b) (b1 : b ≤ 9223372036854775807) (hs : spec_l03Plain.f op = some 37) : ∃ v, spec_l03Compute.f K op a b = some v ∧ impl_compute.f K 37 a b = some v := by
  obtain ⟨n, hn, hb, hf⟩ := by6 K (by omega) b
  refine ⟨wrap64 (shr .u64 (IntKind.u64.wrap a) (n : Int)), ?_, ?_⟩
  · skip
    have hs1 := sign32 K (by omega) a
    have hs2 := sign32 K (by omega) b
    unfold spec_l03Compute.f
    rw [hs1]
    rw [Option.bind_some]
    rw [hs2]
    rw [Option.bind_some]
    rw [hs]
    rw [Option.bind_some]
    rw [if_neg (by decide), if_neg (by decide), if_neg (by decide)]
    first | rw [if_pos True.intro] | rw [if_pos rfl]
    rw [hf]
    rw [Option.bind_some]
    rw [srl64 K (by omega) a n hn]
    exact bind_self _
  · obtain ⟨lo, hm, hlo⟩ := mulhi a b
    unfold impl_compute.f
    rw [hm]
    rw [Option.bind_some]
    rw [if_neg (by decide), if_neg (by decide), if_neg (by decide)]
    first | rw [if_pos True.intro] | rw [if_pos rfl]
    rw [hb, if_pos (by omega)]
theorem b38 (K : Nat) (hK : 400 < K) (op a b : Int) (a0 : -9223372036854775808 ≤ a) (a1 : a ≤ 9223372036854775807) (b0 : -9223372036854775808 ≤ b) (b1 : b ≤ 9223372036854775807) (hs : spec_l03Plain.f op = some 38) : ∃ v, spec_l03Compute.f K op a b = some v ∧ impl_compute.f K 38 a b = some v := by
  obtain ⟨n, hn, hb, hf⟩ := by6 K (by omega) b
  refine ⟨shr .i64 a (n : Int), ?_, ?_⟩
  · skip
    have hs1 := sign32 K (by omega) a
    have hs2 := sign32 K (by omega) b
    unfold spec_l03Compute.f
    rw [hs1]
    rw [Option.bind_some]
    rw [hs2]
    rw [Option.bind_some]
    rw [hs]
    rw [Option.bind_some]
    rw [if_neg (by decide), if_neg (by decide), if_neg (by decide), if_neg (by decide)]
    first | rw [if_pos True.intro] | rw [if_pos rfl]
    rw [hf]
    rw [Option.bind_some]
    rw [sra64 K (by omega) a a0 a1 n hn]
    exact bind_self _
  · obtain ⟨lo, hm, hlo⟩ := mulhi a b
    unfold impl_compute.f
    rw [hm]
    rw [Option.bind_some]
    rw [if_neg (by decide), if_neg (by decide), if_neg (by decide), if_neg (by decide)]
    first | rw [if_pos True.intro] | rw [if_pos rfl]
    rw [hb, if_pos (by omega)]
theorem s34 (K : Nat) (hK : 400 < K) (op a b : Int) (hs : spec_l03Plain.f op = some 34) : spec_l03Compute.f (K + 5) op a b = some (if decide (a < b) = true then 1 else 0) := by
  have hs1 := sign32 (K + 5) (by omega) a
  have hs2 := sign32 (K + 5) (by omega) b
  unfold spec_l03Compute.f
  rw [hs1]
  rw [Option.bind_some]
  rw [hs2]
  rw [Option.bind_some]
  rw [hs]
  rw [Option.bind_some]
  rw [if_neg (by decide), if_neg (by decide), if_neg (by decide), if_neg (by decide), if_neg (by decide)]
  first | rw [if_pos True.intro] | rw [if_pos rfl]
  unfold spec_l03Bit.f
  by_cases c : decide (a < b) = true
  · rw [if_pos c, if_pos c]; rfl
  · rw [if_neg c, if_neg c]; rfl

theorem i34 (k : Nat) (hk : 64 < k) (a b : Int) (a0 : -9223372036854775808 ≤ a) (a1 : a ≤ 9223372036854775807) (b0 : -9223372036854775808 ≤ b) (b1 : b ≤ 9223372036854775807) : impl_compute.f (k + 1) 34 a b = some (if decide (a < b) = true then 1 else 0) := by
  obtain ⟨lo, hm, hlo⟩ := mulhi a b
  unfold impl_compute.f
  rw [hm]
  rw [Option.bind_some]
  rw [if_neg (by decide), if_neg (by decide), if_neg (by decide), if_neg (by decide), if_neg (by decide)]
  first | rw [if_pos True.intro] | rw [if_pos rfl]
  unfold impl_truth.f
  by_cases c : decide (a < b) = true
  · rw [if_pos c, if_pos c]; rfl
  · rw [if_neg c, if_neg c]; rfl

theorem s35 (K : Nat) (hK : 400 < K) (op a b : Int) (hs : spec_l03Plain.f op = some 35) : spec_l03Compute.f (K + 5) op a b = some (if decide (IntKind.u64.wrap a < IntKind.u64.wrap b) = true then 1 else 0) := by
  have hs1 := sign32 (K + 5) (by omega) a
  have hs2 := sign32 (K + 5) (by omega) b
  unfold spec_l03Compute.f
  rw [hs1]
  rw [Option.bind_some]
  rw [hs2]
  rw [Option.bind_some]
  rw [hs]
  rw [Option.bind_some]
  rw [if_neg (by decide), if_neg (by decide), if_neg (by decide), if_neg (by decide), if_neg (by decide), if_neg (by decide)]
  first | rw [if_pos True.intro] | rw [if_pos rfl]
  unfold spec_BelowU.f spec_l03Bit.f
  rw [Option.bind_some]
  by_cases c : decide (IntKind.u64.wrap a < IntKind.u64.wrap b) = true
  · rw [if_pos c, if_pos c]; rfl
  · rw [if_neg c, if_neg c]; rfl

theorem i35 (k : Nat) (hk : 64 < k) (a b : Int) (a0 : -9223372036854775808 ≤ a) (a1 : a ≤ 9223372036854775807) (b0 : -9223372036854775808 ≤ b) (b1 : b ≤ 9223372036854775807) : impl_compute.f (k + 1) 35 a b = some (if decide (IntKind.u64.wrap a < IntKind.u64.wrap b) = true then 1 else 0) := by
  obtain ⟨lo, hm, hlo⟩ := mulhi a b
  unfold impl_compute.f
  rw [hm]
  rw [Option.bind_some]
  rw [if_neg (by decide), if_neg (by decide), if_neg (by decide), if_neg (by decide), if_neg (by decide), if_neg (by decide)]
  first | rw [if_pos True.intro] | rw [if_pos rfl]
  unfold impl_BelowU.f impl_truth.f
  rw [Option.bind_some]
  by_cases c : decide (IntKind.u64.wrap a < IntKind.u64.wrap b) = true
  · rw [if_pos c, if_pos c]; rfl
  · rw [if_neg c, if_neg c]; rfl

theorem s36 (K : Nat) (hK : 400 < K) (op a b : Int) (hs : spec_l03Plain.f op = some 36) : spec_l03Compute.f (K + 5) op a b = some (Go.bits .xor .i64 a b) := by
  have hs1 := sign32 (K + 5) (by omega) a
  have hs2 := sign32 (K + 5) (by omega) b
  unfold spec_l03Compute.f
  rw [hs1]
  rw [Option.bind_some]
  rw [hs2]
  rw [Option.bind_some]
  rw [hs]
  rw [Option.bind_some]
  rw [if_neg (by decide), if_neg (by decide), if_neg (by decide), if_neg (by decide), if_neg (by decide), if_neg (by decide), if_neg (by decide)]
  first | rw [if_pos True.intro] | rw [if_pos rfl]
  rw [spec_l03Compute.j0, if_pos (by decide), hs]
  rw [Option.bind_some]
  rw [wise_xor (K + 4) (by omega) a b]
  rfl

theorem i36 (k : Nat) (hk : 64 < k) (a b : Int) (a0 : -9223372036854775808 ≤ a) (a1 : a ≤ 9223372036854775807) (b0 : -9223372036854775808 ≤ b) (b1 : b ≤ 9223372036854775807) : impl_compute.f (k + 1) 36 a b = some (Go.bits .xor .i64 a b) := by
  obtain ⟨lo, hm, hlo⟩ := mulhi a b
  unfold impl_compute.f
  rw [hm]
  rw [Option.bind_some]
  rw [if_neg (by decide), if_neg (by decide), if_neg (by decide), if_neg (by decide), if_neg (by decide), if_neg (by decide), if_neg (by decide)]
  first | rw [if_pos True.intro] | rw [if_pos rfl]

theorem s39 (K : Nat) (hK : 400 < K) (op a b : Int) (hs : spec_l03Plain.f op = some 39) : spec_l03Compute.f (K + 5) op a b = some (Go.bits .or .i64 a b) := by
  have hs1 := sign32 (K + 5) (by omega) a
  have hs2 := sign32 (K + 5) (by omega) b
  unfold spec_l03Compute.f
  rw [hs1]
  rw [Option.bind_some]
  rw [hs2]
  rw [Option.bind_some]
  rw [hs]
  rw [Option.bind_some]
  rw [if_neg (by decide), if_neg (by decide), if_neg (by decide), if_neg (by decide), if_neg (by decide), if_neg (by decide), if_neg (by decide)]
  rw [if_neg (by decide)]
  first | rw [if_pos True.intro] | rw [if_pos rfl]
  rw [spec_l03Compute.j0, if_pos (by decide), hs]
  rw [Option.bind_some]
  rw [wise_or (K + 4) (by omega) a b]
  rfl

theorem i39 (k : Nat) (hk : 64 < k) (a b : Int) (a0 : -9223372036854775808 ≤ a) (a1 : a ≤ 9223372036854775807) (b0 : -9223372036854775808 ≤ b) (b1 : b ≤ 9223372036854775807) : impl_compute.f (k + 1) 39 a b = some (Go.bits .or .i64 a b) := by
  obtain ⟨lo, hm, hlo⟩ := mulhi a b
  unfold impl_compute.f
  rw [hm]
  rw [Option.bind_some]
  rw [if_neg (by decide), if_neg (by decide), if_neg (by decide), if_neg (by decide), if_neg (by decide), if_neg (by decide), if_neg (by decide), if_neg (by decide)]
  first | rw [if_pos True.intro] | rw [if_pos rfl]

theorem s40 (K : Nat) (hK : 400 < K) (op a b : Int) (hs : spec_l03Plain.f op = some 40) : spec_l03Compute.f (K + 5) op a b = some (Go.bits .and .i64 a b) := by
  have hs1 := sign32 (K + 5) (by omega) a
  have hs2 := sign32 (K + 5) (by omega) b
  unfold spec_l03Compute.f
  rw [hs1]
  rw [Option.bind_some]
  rw [hs2]
  rw [Option.bind_some]
  rw [hs]
  rw [Option.bind_some]
  rw [if_neg (by decide), if_neg (by decide), if_neg (by decide), if_neg (by decide), if_neg (by decide), if_neg (by decide), if_neg (by decide)]
  rw [if_neg (by decide), if_neg (by decide)]
  rw [spec_l03Compute.j0, if_pos (by decide), hs]
  rw [Option.bind_some]
  rw [wise_and (K + 4) (by omega) a b]
  rfl

theorem i40 (k : Nat) (hk : 64 < k) (a b : Int) (a0 : -9223372036854775808 ≤ a) (a1 : a ≤ 9223372036854775807) (b0 : -9223372036854775808 ≤ b) (b1 : b ≤ 9223372036854775807) : impl_compute.f (k + 1) 40 a b = some (Go.bits .and .i64 a b) := by
  obtain ⟨lo, hm, hlo⟩ := mulhi a b
  unfold impl_compute.f
  rw [hm]
  rw [Option.bind_some]
  rw [if_neg (by decide), if_neg (by decide), if_neg (by decide), if_neg (by decide), if_neg (by decide), if_neg (by decide), if_neg (by decide), if_neg (by decide), if_neg (by decide)]
  first | rw [if_pos True.intro] | rw [if_pos rfl]

theorem s45 (K : Nat) (hK : 400 < K) (op a b : Int) (hs : spec_l03Plain.f op = some 45) : spec_l03Compute.f (K + 5) op a b = some (smod (wrap64 (smod a 32 + smod b 32)) 32) := by
  have hs1 := sign32 (K + 5) (by omega) a
  have hs2 := sign32 (K + 5) (by omega) b
  unfold spec_l03Compute.f
  rw [hs1]
  rw [Option.bind_some]
  rw [hs2]
  rw [Option.bind_some]
  rw [hs]
  rw [Option.bind_some]
  rw [if_neg (by decide), if_neg (by decide), if_neg (by decide), if_neg (by decide), if_neg (by decide), if_neg (by decide), if_neg (by decide), if_neg (by decide), if_neg (by decide)]
  rw [spec_l03Compute.j0, if_neg (by decide)]
  first | rw [if_pos True.intro] | rw [if_pos rfl]
  rw [sign32 (K + 4) (by omega)]
  exact bind_self _

theorem i45 (k : Nat) (hk : 64 < k) (a b : Int) (a0 : -9223372036854775808 ≤ a) (a1 : a ≤ 9223372036854775807) (b0 : -9223372036854775808 ≤ b) (b1 : b ≤ 9223372036854775807) : impl_computeW.f 45 a b = some (smod (wrap64 (smod a 32 + smod b 32)) 32, true) := by
  unfold impl_computeW.f
  rw [wordv_is a]
  rw [Option.bind_some]
  rw [wordv_is b]
  rw [Option.bind_some]
  first | rw [if_pos True.intro] | rw [if_pos rfl]
  rw [wordv_is]
  exact bind_true _

theorem s46 (K : Nat) (hK : 400 < K) (op a b : Int) (hs : spec_l03Plain.f op = some 46) : spec_l03Compute.f (K + 5) op a b = some (smod (wrap64 (smod a 32 - smod b 32)) 32) := by
  have hs1 := sign32 (K + 5) (by omega) a
  have hs2 := sign32 (K + 5) (by omega) b
  unfold spec_l03Compute.f
  rw [hs1]
  rw [Option.bind_some]
  rw [hs2]
  rw [Option.bind_some]
  rw [hs]
  rw [Option.bind_some]
  rw [if_neg (by decide), if_neg (by decide), if_neg (by decide), if_neg (by decide), if_neg (by decide), if_neg (by decide), if_neg (by decide), if_neg (by decide), if_neg (by decide)]
  rw [spec_l03Compute.j0, if_neg (by decide)]
  rw [if_neg (by decide)]
  first | rw [if_pos True.intro] | rw [if_pos rfl]
  rw [sign32 (K + 4) (by omega)]
  exact bind_self _

theorem i46 (k : Nat) (hk : 64 < k) (a b : Int) (a0 : -9223372036854775808 ≤ a) (a1 : a ≤ 9223372036854775807) (b0 : -9223372036854775808 ≤ b) (b1 : b ≤ 9223372036854775807) : impl_computeW.f 46 a b = some (smod (wrap64 (smod a 32 - smod b 32)) 32, true) := by
  unfold impl_computeW.f
  rw [wordv_is a]
  rw [Option.bind_some]
  rw [wordv_is b]
  rw [Option.bind_some]
  rw [if_neg (by decide)]
  first | rw [if_pos True.intro] | rw [if_pos rfl]
  rw [wordv_is]
  exact bind_true _

theorem s58 (K : Nat) (hK : 400 < K) (op a b : Int) (hs : spec_l03Plain.f op = some 58) : spec_l03Compute.f (K + 5) op a b = some (smod (wrap64 (smod a 32 * smod b 32)) 32) := by
  have hs1 := sign32 (K + 5) (by omega) a
  have hs2 := sign32 (K + 5) (by omega) b
  unfold spec_l03Compute.f
  rw [hs1]
  rw [Option.bind_some]
  rw [hs2]
  rw [Option.bind_some]
  rw [hs]
  rw [Option.bind_some]
  rw [if_neg (by decide), if_neg (by decide), if_neg (by decide), if_neg (by decide), if_neg (by decide), if_neg (by decide), if_neg (by decide), if_neg (by decide), if_neg (by decide)]
  rw [spec_l03Compute.j0, if_neg (by decide)]
  rw [if_neg (by decide), if_neg (by decide), if_neg (by decide), if_neg (by decide), if_neg (by decide), if_neg (by decide), if_neg (by decide), if_neg (by decide), if_neg (by decide)]
  first | rw [if_pos True.intro] | rw [if_pos rfl]
  rw [sign32 (K + 4) (by omega)]
  exact bind_self _

theorem i58 (k : Nat) (hk : 64 < k) (a b : Int) (a0 : -9223372036854775808 ≤ a) (a1 : a ≤ 9223372036854775807) (b0 : -9223372036854775808 ≤ b) (b1 : b ≤ 9223372036854775807) : impl_computeW.f 58 a b = some (smod (wrap64 (smod a 32 * smod b 32)) 32, true) := by
  unfold impl_computeW.f
  rw [wordv_is a]
  rw [Option.bind_some]
  rw [wordv_is b]
  rw [Option.bind_some]
  rw [if_neg (by decide), if_neg (by decide), if_neg (by decide), if_neg (by decide), if_neg (by decide)]
  first | rw [if_pos True.intro] | rw [if_pos rfl]
  rw [wordv_is]
  exact bind_true _

theorem b47 (K : Nat) (hK : 400 < K) (op a b : Int) (hs : spec_l03Plain.f op = some 47) : ∃ v, spec_l03Compute.f (K + 1) op a b = some v ∧ impl_computeW.f 47 a b = some (v, true) := by
  obtain ⟨n, hn, hb, hf⟩ := by5 K (by omega) b
  refine ⟨smod (shl .i64 (smod a 32) (n : Int)) 32, ?_, ?_⟩
  · skip
    have hs1 := sign32 (K + 1) (by omega) a
    have hs2 := sign32 (K + 1) (by omega) b
    unfold spec_l03Compute.f
    rw [hs1]
    rw [Option.bind_some]
    rw [hs2]
    rw [Option.bind_some]
    rw [hs]
    rw [Option.bind_some]
    rw [if_neg (by decide), if_neg (by decide), if_neg (by decide), if_neg (by decide), if_neg (by decide), if_neg (by decide), if_neg (by decide), if_neg (by decide), if_neg (by decide)]
    rw [spec_l03Compute.j0, if_neg (by decide)]
    rw [if_neg (by decide), if_neg (by decide)]
    first | rw [if_pos True.intro] | rw [if_pos rfl]
    rw [hf]
    rw [Option.bind_some]
    rw [sll32 K (by omega) a n hn]
    exact bind_self _
  · skip
    unfold impl_computeW.f
    rw [wordv_is a]
    rw [Option.bind_some]
    rw [wordv_is b]
    rw [Option.bind_some]
    rw [if_neg (by decide), if_neg (by decide)]
    first | rw [if_pos True.intro] | rw [if_pos rfl]
    rw [hb, if_pos (by omega), wordv_is]
    exact bind_true _
theorem b48 (K : Nat) (hK : 400 < K) (op a b : Int) (hs : spec_l03Plain.f op = some 48) : ∃ v, spec_l03Compute.f (K + 1) op a b = some v ∧ impl_computeW.f 48 a b = some (v, true) := by
  obtain ⟨n, hn, hb, hf⟩ := by5 K (by omega) b
  refine ⟨smod (shr .i64 (Go.bits .and .i64 a 4294967295) (n : Int)) 32, ?_, ?_⟩
  · skip
    have hs1 := sign32 (K + 1) (by omega) a
    have hs2 := sign32 (K + 1) (by omega) b
    unfold spec_l03Compute.f
    rw [hs1]
    rw [Option.bind_some]
    rw [hs2]
    rw [Option.bind_some]
    rw [hs]
    rw [Option.bind_some]
    rw [if_neg (by decide), if_neg (by decide), if_neg (by decide), if_neg (by decide), if_neg (by decide), if_neg (by decide), if_neg (by decide), if_neg (by decide), if_neg (by decide)]
    rw [spec_l03Compute.j0, if_neg (by decide)]
    rw [if_neg (by decide), if_neg (by decide), if_neg (by decide)]
    first | rw [if_pos True.intro] | rw [if_pos rfl]
    rw [hf]
    rw [Option.bind_some]
    rw [srl32 K (by omega) a n hn]
    exact bind_self _
  · skip
    unfold impl_computeW.f
    rw [wordv_is a]
    rw [Option.bind_some]
    rw [wordv_is b]
    rw [Option.bind_some]
    rw [if_neg (by decide), if_neg (by decide), if_neg (by decide)]
    first | rw [if_pos True.intro] | rw [if_pos rfl]
    rw [hb, if_pos (by omega), wordv_is]
    exact bind_true _
theorem b49 (K : Nat) (hK : 400 < K) (op a b : Int) (hs : spec_l03Plain.f op = some 49) : ∃ v, spec_l03Compute.f (K + 1) op a b = some v ∧ impl_computeW.f 49 a b = some (v, true) := by
  obtain ⟨n, hn, hb, hf⟩ := by5 K (by omega) b
  refine ⟨smod (shr .i64 (smod a 32) (n : Int)) 32, ?_, ?_⟩
  · skip
    have hs1 := sign32 (K + 1) (by omega) a
    have hs2 := sign32 (K + 1) (by omega) b
    unfold spec_l03Compute.f
    rw [hs1]
    rw [Option.bind_some]
    rw [hs2]
    rw [Option.bind_some]
    rw [hs]
    rw [Option.bind_some]
    rw [if_neg (by decide), if_neg (by decide), if_neg (by decide), if_neg (by decide), if_neg (by decide), if_neg (by decide), if_neg (by decide), if_neg (by decide), if_neg (by decide)]
    rw [spec_l03Compute.j0, if_neg (by decide)]
    rw [if_neg (by decide), if_neg (by decide), if_neg (by decide), if_neg (by decide)]
    first | rw [if_pos True.intro] | rw [if_pos rfl]
    rw [hf]
    rw [Option.bind_some]
    rw [sra32 K (by omega) a n hn]
    exact bind_self _
  · skip
    unfold impl_computeW.f
    rw [wordv_is a]
    rw [Option.bind_some]
    rw [wordv_is b]
    rw [Option.bind_some]
    rw [if_neg (by decide), if_neg (by decide), if_neg (by decide), if_neg (by decide)]
    first | rw [if_pos True.intro] | rw [if_pos rfl]
    rw [hb, if_pos (by omega), wordv_is]
    exact bind_true _
theorem s50 (K : Nat) (hK : 400 < K) (op a b : Int) (hs : spec_l03Plain.f op = some 50) : spec_l03Compute.f (K + 5) op a b = some (wrap64 (a * b)) := by
  have hs1 := sign32 (K + 5) (by omega) a
  have hs2 := sign32 (K + 5) (by omega) b
  unfold spec_l03Compute.f
  rw [hs1]
  rw [Option.bind_some]
  rw [hs2]
  rw [Option.bind_some]
  rw [hs]
  rw [Option.bind_some]
  rw [if_neg (by decide), if_neg (by decide), if_neg (by decide), if_neg (by decide), if_neg (by decide), if_neg (by decide), if_neg (by decide), if_neg (by decide), if_neg (by decide)]
  rw [spec_l03Compute.j0, if_neg (by decide)]
  rw [if_neg (by decide), if_neg (by decide), if_neg (by decide), if_neg (by decide), if_neg (by decide)]
  first | rw [if_pos True.intro] | rw [if_pos rfl]
  obtain ⟨A, hA⟩ : ∃ m : Nat, IntKind.u64.wrap a = m := ⟨(a % 18446744073709551616).toNat, by rw [u64w]; omega⟩
  obtain ⟨B, hB⟩ : ∃ m : Nat, IntKind.u64.wrap b = m := ⟨(b % 18446744073709551616).toNat, by rw [u64w]; omega⟩
  have hAl : A < 18446744073709551616 := by rw [u64w] at hA; omega
  have hBl : B < 18446744073709551616 := by rw [u64w] at hB; omega
  rw [hA, hB, wide_is (K + 4) A B hAl hBl (by omega)]
  rw [Option.bind_some]
  refine congrArg some ?_
  have e : (a * b) % 18446744073709551616 = ((A * B % 18446744073709551616 : Nat) : Int) := by
    rw [Int.mul_emod, ← u64w a, ← u64w b, hA, hB]
    simp
  rw [← e]
  unfold wrap64
  omega
theorem i50 (k : Nat) (a b : Int) : impl_compute.f (k + 1) 50 a b = some (wrap64 (a * b)) := by
  obtain ⟨lo, hm, hlo⟩ := mulhi a b
  unfold impl_compute.f
  rw [hm]
  rw [Option.bind_some]
  rw [if_neg (by decide), if_neg (by decide), if_neg (by decide), if_neg (by decide), if_neg (by decide), if_neg (by decide), if_neg (by decide), if_neg (by decide), if_neg (by decide), if_neg (by decide)]
  first | rw [if_pos True.intro] | rw [if_pos rfl]
  rw [hlo]
theorem s51 (K : Nat) (hK : 400 < K) (op a b : Int) (a0 : -9223372036854775808 ≤ a) (a1 : a ≤ 9223372036854775807) (b0 : -9223372036854775808 ≤ b) (b1 : b ≤ 9223372036854775807) (hs : spec_l03Plain.f op = some 51) : spec_l03Compute.f (K + 5) op a b = some (wrap64 (a * b / 18446744073709551616)) := by
  have hs1 := sign32 (K + 5) (by omega) a
  have hs2 := sign32 (K + 5) (by omega) b
  unfold spec_l03Compute.f
  rw [hs1]
  rw [Option.bind_some]
  rw [hs2]
  rw [Option.bind_some]
  rw [hs]
  rw [Option.bind_some]
  rw [if_neg (by decide), if_neg (by decide), if_neg (by decide), if_neg (by decide), if_neg (by decide), if_neg (by decide), if_neg (by decide), if_neg (by decide), if_neg (by decide)]
  rw [spec_l03Compute.j0, if_neg (by decide)]
  rw [if_neg (by decide), if_neg (by decide), if_neg (by decide), if_neg (by decide), if_neg (by decide), if_neg (by decide)]
  first | rw [if_pos True.intro] | rw [if_pos rfl]
  rw [high_is K a b a0 a1 b0 b1 (by omega) true true, if_pos rfl, if_pos rfl]
  rfl

theorem i51 (k : Nat) (hk : 64 < k) (a b : Int) (a0 : -9223372036854775808 ≤ a) (a1 : a ≤ 9223372036854775807) (b0 : -9223372036854775808 ≤ b) (b1 : b ≤ 9223372036854775807) : impl_compute.f (k + 1) 51 a b = some (wrap64 (a * b / 18446744073709551616)) := by
  obtain ⟨lo, hm, hlo⟩ := mulhi a b
  unfold impl_compute.f
  rw [hm]
  rw [Option.bind_some]
  rw [if_neg (by decide), if_neg (by decide), if_neg (by decide), if_neg (by decide), if_neg (by decide), if_neg (by decide), if_neg (by decide), if_neg (by decide), if_neg (by decide), if_neg (by decide), if_neg (by decide), if_neg (by decide), if_neg (by decide)]
  rw [impl_compute.j0, if_pos (by decide), ← adj51 a b a0 a1 b0 b1 _ rfl]
  by_cases c : a < 0
  · rw [if_pos c, if_pos c]
    by_cases c2 : b < 0
    · rw [if_pos c2, if_pos rfl, if_pos c2]
    · rw [if_neg c2, if_neg c2]
  · rw [if_neg c, if_neg c]
    by_cases c2 : b < 0
    · rw [if_pos c2, if_pos rfl, if_pos c2]
    · rw [if_neg c2, if_neg c2]

theorem s52 (K : Nat) (hK : 400 < K) (op a b : Int) (a0 : -9223372036854775808 ≤ a) (a1 : a ≤ 9223372036854775807) (b0 : -9223372036854775808 ≤ b) (b1 : b ≤ 9223372036854775807) (hs : spec_l03Plain.f op = some 52) : spec_l03Compute.f (K + 5) op a b = some (wrap64 (a * IntKind.u64.wrap b / 18446744073709551616)) := by
  have hs1 := sign32 (K + 5) (by omega) a
  have hs2 := sign32 (K + 5) (by omega) b
  unfold spec_l03Compute.f
  rw [hs1]
  rw [Option.bind_some]
  rw [hs2]
  rw [Option.bind_some]
  rw [hs]
  rw [Option.bind_some]
  rw [if_neg (by decide), if_neg (by decide), if_neg (by decide), if_neg (by decide), if_neg (by decide), if_neg (by decide), if_neg (by decide), if_neg (by decide), if_neg (by decide)]
  rw [spec_l03Compute.j0, if_neg (by decide)]
  rw [if_neg (by decide), if_neg (by decide), if_neg (by decide), if_neg (by decide), if_neg (by decide), if_neg (by decide), if_neg (by decide)]
  first | rw [if_pos True.intro] | rw [if_pos rfl]
  rw [high_is K a b a0 a1 b0 b1 (by omega) true false, if_pos rfl, if_neg (by decide)]
  rfl

theorem i52 (k : Nat) (hk : 64 < k) (a b : Int) (a0 : -9223372036854775808 ≤ a) (a1 : a ≤ 9223372036854775807) (b0 : -9223372036854775808 ≤ b) (b1 : b ≤ 9223372036854775807) : impl_compute.f (k + 1) 52 a b = some (wrap64 (a * IntKind.u64.wrap b / 18446744073709551616)) := by
  obtain ⟨lo, hm, hlo⟩ := mulhi a b
  unfold impl_compute.f
  rw [hm]
  rw [Option.bind_some]
  rw [if_neg (by decide), if_neg (by decide), if_neg (by decide), if_neg (by decide), if_neg (by decide), if_neg (by decide), if_neg (by decide), if_neg (by decide), if_neg (by decide), if_neg (by decide), if_neg (by decide), if_neg (by decide)]
  first | rw [if_pos True.intro] | rw [if_pos rfl]
  rw [impl_compute.j0, if_pos (by decide), ← adj52 a b a0 a1 _ rfl]
  by_cases c : a < 0
  · rw [if_pos c, if_pos c]
    by_cases c2 : b < 0
    · rw [if_pos c2, if_neg (by decide)]
    · rw [if_neg c2]
  · rw [if_neg c, if_neg c]
    by_cases c2 : b < 0
    · rw [if_pos c2, if_neg (by decide)]
    · rw [if_neg c2]

theorem s53 (K : Nat) (hK : 400 < K) (op a b : Int) (a0 : -9223372036854775808 ≤ a) (a1 : a ≤ 9223372036854775807) (b0 : -9223372036854775808 ≤ b) (b1 : b ≤ 9223372036854775807) (hs : spec_l03Plain.f op = some 53) : spec_l03Compute.f (K + 5) op a b = some (wrap64 (IntKind.u64.wrap a * IntKind.u64.wrap b / 18446744073709551616)) := by
  have hs1 := sign32 (K + 5) (by omega) a
  have hs2 := sign32 (K + 5) (by omega) b
  unfold spec_l03Compute.f
  rw [hs1]
  rw [Option.bind_some]
  rw [hs2]
  rw [Option.bind_some]
  rw [hs]
  rw [Option.bind_some]
  rw [if_neg (by decide), if_neg (by decide), if_neg (by decide), if_neg (by decide), if_neg (by decide), if_neg (by decide), if_neg (by decide), if_neg (by decide), if_neg (by decide)]
  rw [spec_l03Compute.j0, if_neg (by decide)]
  rw [if_neg (by decide), if_neg (by decide), if_neg (by decide), if_neg (by decide), if_neg (by decide), if_neg (by decide), if_neg (by decide), if_neg (by decide)]
  first | rw [if_pos True.intro] | rw [if_pos rfl]
  rw [high_is K a b a0 a1 b0 b1 (by omega) false false]
  simp only [Bool.false_eq_true, if_false]
  rfl

theorem i53 (k : Nat) (hk : 64 < k) (a b : Int) (a0 : -9223372036854775808 ≤ a) (a1 : a ≤ 9223372036854775807) (b0 : -9223372036854775808 ≤ b) (b1 : b ≤ 9223372036854775807) : impl_compute.f (k + 1) 53 a b = some (wrap64 (IntKind.u64.wrap a * IntKind.u64.wrap b / 18446744073709551616)) := by
  obtain ⟨lo, hm, hlo⟩ := mulhi a b
  unfold impl_compute.f
  rw [hm]
  rw [Option.bind_some]
  rw [if_neg (by decide), if_neg (by decide), if_neg (by decide), if_neg (by decide), if_neg (by decide), if_neg (by decide), if_neg (by decide), if_neg (by decide), if_neg (by decide), if_neg (by decide), if_neg (by decide)]
  first | rw [if_pos True.intro] | rw [if_pos rfl]

theorem b54 (K : Nat) (hK : 400 < K) (op a b : Int) (a0 : -9223372036854775808 ≤ a) (a1 : a ≤ 9223372036854775807) (b0 : -9223372036854775808 ≤ b) (b1 : b ≤ 9223372036854775807) (hs : spec_l03Plain.f op = some 54) (ho : op = 54) : ∃ v, spec_l03Compute.f (K + 1) op a b = some v ∧ impl_compute.f (K + 1) 54 a b = some v := by
  obtain ⟨q, r, hd⟩ := divide_some a b
  refine ⟨q, ?_, ?_⟩
  · skip
    have hs1 := sign32 (K + 1) (by omega) a
    have hs2 := sign32 (K + 1) (by omega) b
    unfold spec_l03Compute.f
    rw [hs1]
    rw [Option.bind_some]
    rw [hs2]
    rw [Option.bind_some]
    rw [hs]
    rw [Option.bind_some]
    subst ho
    rw [if_neg (by decide), if_neg (by decide), if_neg (by decide), if_neg (by decide), if_neg (by decide), if_neg (by decide), if_neg (by decide), if_neg (by decide), if_neg (by decide)]
    rw [spec_l03Compute.j0, if_neg (by decide)]
    rw [if_neg (by decide), if_neg (by decide), if_neg (by decide), if_neg (by decide), if_neg (by decide), if_neg (by decide), if_neg (by decide), if_neg (by decide), if_neg (by decide), if_neg (by decide)]
    unfold spec_l03Over.f
    first | rw [if_pos True.intro] | rw [if_pos rfl]
    rw [signed_is K (by omega) a b a0 a1 b0 b1, hd]
    rfl
  · obtain ⟨lo, hm, hlo⟩ := mulhi a b
    unfold impl_compute.f
    rw [hm]
    rw [Option.bind_some]
    rw [if_neg (by decide), if_neg (by decide), if_neg (by decide), if_neg (by decide), if_neg (by decide), if_neg (by decide), if_neg (by decide), if_neg (by decide), if_neg (by decide), if_neg (by decide), if_neg (by decide), if_neg (by decide), if_neg (by decide)]
    rw [impl_compute.j0, if_neg (by decide)]
    first | rw [if_pos True.intro] | rw [if_pos rfl]
    rw [hd]
    rfl
theorem b56 (K : Nat) (hK : 400 < K) (op a b : Int) (a0 : -9223372036854775808 ≤ a) (a1 : a ≤ 9223372036854775807) (b0 : -9223372036854775808 ≤ b) (b1 : b ≤ 9223372036854775807) (hs : spec_l03Plain.f op = some 56) (ho : op = 56) : ∃ v, spec_l03Compute.f (K + 1) op a b = some v ∧ impl_compute.f (K + 1) 56 a b = some v := by
  obtain ⟨q, r, hd⟩ := divide_some a b
  refine ⟨r, ?_, ?_⟩
  · skip
    have hs1 := sign32 (K + 1) (by omega) a
    have hs2 := sign32 (K + 1) (by omega) b
    unfold spec_l03Compute.f
    rw [hs1]
    rw [Option.bind_some]
    rw [hs2]
    rw [Option.bind_some]
    rw [hs]
    rw [Option.bind_some]
    subst ho
    rw [if_neg (by decide), if_neg (by decide), if_neg (by decide), if_neg (by decide), if_neg (by decide), if_neg (by decide), if_neg (by decide), if_neg (by decide), if_neg (by decide)]
    rw [spec_l03Compute.j0, if_neg (by decide)]
    rw [if_neg (by decide), if_neg (by decide), if_neg (by decide), if_neg (by decide), if_neg (by decide), if_neg (by decide), if_neg (by decide), if_neg (by decide), if_neg (by decide), if_neg (by decide)]
    unfold spec_l03Over.f
    rw [if_neg (by decide)]
    first | rw [if_pos True.intro] | rw [if_pos rfl]
    rw [signed_is K (by omega) a b a0 a1 b0 b1, hd]
    rfl
  · obtain ⟨lo, hm, hlo⟩ := mulhi a b
    unfold impl_compute.f
    rw [hm]
    rw [Option.bind_some]
    rw [if_neg (by decide), if_neg (by decide), if_neg (by decide), if_neg (by decide), if_neg (by decide), if_neg (by decide), if_neg (by decide), if_neg (by decide), if_neg (by decide), if_neg (by decide), if_neg (by decide), if_neg (by decide), if_neg (by decide)]
    rw [impl_compute.j0, if_neg (by decide)]
    rw [if_neg (by decide)]
    first | rw [if_pos True.intro] | rw [if_pos rfl]
    rw [hd]
    rfl
theorem b55 (K : Nat) (hK : 400 < K) (op a b : Int) (a0 : -9223372036854775808 ≤ a) (a1 : a ≤ 9223372036854775807) (b0 : -9223372036854775808 ≤ b) (b1 : b ≤ 9223372036854775807) (hs : spec_l03Plain.f op = some 55) (ho : op = 55) : ∃ v, spec_l03Compute.f (K + 1) op a b = some v ∧ impl_compute.f (K + 1) 55 a b = some v := by
  obtain ⟨q, r, hd1, hd⟩ := divU_is K (by omega) a b ⟨a0, a1⟩ ⟨b0, b1⟩
  refine ⟨q, ?_, ?_⟩
  · skip
    have hs1 := sign32 (K + 1) (by omega) a
    have hs2 := sign32 (K + 1) (by omega) b
    unfold spec_l03Compute.f
    rw [hs1]
    rw [Option.bind_some]
    rw [hs2]
    rw [Option.bind_some]
    rw [hs]
    rw [Option.bind_some]
    subst ho
    rw [if_neg (by decide), if_neg (by decide), if_neg (by decide), if_neg (by decide), if_neg (by decide), if_neg (by decide), if_neg (by decide), if_neg (by decide), if_neg (by decide)]
    rw [spec_l03Compute.j0, if_neg (by decide)]
    rw [if_neg (by decide), if_neg (by decide), if_neg (by decide), if_neg (by decide), if_neg (by decide), if_neg (by decide), if_neg (by decide), if_neg (by decide), if_neg (by decide), if_neg (by decide)]
    unfold spec_l03Over.f
    rw [if_neg (by decide), if_neg (by decide)]
    first | rw [if_pos True.intro] | rw [if_pos rfl]
    rw [hd1]
    rfl
  · obtain ⟨lo, hm, hlo⟩ := mulhi a b
    unfold impl_compute.f
    rw [hm]
    rw [Option.bind_some]
    rw [if_neg (by decide), if_neg (by decide), if_neg (by decide), if_neg (by decide), if_neg (by decide), if_neg (by decide), if_neg (by decide), if_neg (by decide), if_neg (by decide), if_neg (by decide), if_neg (by decide), if_neg (by decide), if_neg (by decide)]
    rw [impl_compute.j0, if_neg (by decide)]
    rw [if_neg (by decide), if_neg (by decide)]
    first | rw [if_pos True.intro] | rw [if_pos rfl]
    rw [hd]
    rfl
theorem b57 (K : Nat) (hK : 400 < K) (op a b : Int) (a0 : -9223372036854775808 ≤ a) (a1 : a ≤ 9223372036854775807) (b0 : -9223372036854775808 ≤ b) (b1 : b ≤ 9223372036854775807) (hs : spec_l03Plain.f op = some 57) (ho : op = 57) : ∃ v, spec_l03Compute.f (K + 1) op a b = some v ∧ impl_compute.f (K + 1) 57 a b = some v := by
  obtain ⟨q, r, hd1, hd⟩ := divU_is K (by omega) a b ⟨a0, a1⟩ ⟨b0, b1⟩
  refine ⟨r, ?_, ?_⟩
  · skip
    have hs1 := sign32 (K + 1) (by omega) a
    have hs2 := sign32 (K + 1) (by omega) b
    unfold spec_l03Compute.f
    rw [hs1]
    rw [Option.bind_some]
    rw [hs2]
    rw [Option.bind_some]
    rw [hs]
    rw [Option.bind_some]
    subst ho
    rw [if_neg (by decide), if_neg (by decide), if_neg (by decide), if_neg (by decide), if_neg (by decide), if_neg (by decide), if_neg (by decide), if_neg (by decide), if_neg (by decide)]
    rw [spec_l03Compute.j0, if_neg (by decide)]
    rw [if_neg (by decide), if_neg (by decide), if_neg (by decide), if_neg (by decide), if_neg (by decide), if_neg (by decide), if_neg (by decide), if_neg (by decide), if_neg (by decide), if_neg (by decide)]
    unfold spec_l03Over.f
    rw [if_neg (by decide), if_neg (by decide), if_neg (by decide)]
    first | rw [if_pos True.intro] | rw [if_pos rfl]
    rw [hd1]
    rfl
  · obtain ⟨lo, hm, hlo⟩ := mulhi a b
    unfold impl_compute.f
    rw [hm]
    rw [Option.bind_some]
    rw [if_neg (by decide), if_neg (by decide), if_neg (by decide), if_neg (by decide), if_neg (by decide), if_neg (by decide), if_neg (by decide), if_neg (by decide), if_neg (by decide), if_neg (by decide), if_neg (by decide), if_neg (by decide), if_neg (by decide)]
    rw [impl_compute.j0, if_neg (by decide)]
    rw [if_neg (by decide), if_neg (by decide), if_neg (by decide)]
    rw [hd]
    rfl
theorem b59 (K : Nat) (hK : 400 < K) (op a b : Int) (hs : spec_l03Plain.f op = some 59) (ho : op = 59) : ∃ v, spec_l03Compute.f (K + 1) op a b = some v ∧ impl_computeW.f 59 a b = some (v, true) := by
  have ra := smod_rng64 a 32 (by decide) (by decide)
  have rb := smod_rng64 b 32 (by decide) (by decide)
  obtain ⟨q, r, hd⟩ := divide_some (smod a 32) (smod b 32)
  refine ⟨smod q 32, ?_, ?_⟩
  · skip
    have hs1 := sign32 (K + 1) (by omega) a
    have hs2 := sign32 (K + 1) (by omega) b
    unfold spec_l03Compute.f
    rw [hs1]
    rw [Option.bind_some]
    rw [hs2]
    rw [Option.bind_some]
    rw [hs]
    rw [Option.bind_some]
    subst ho
    rw [if_neg (by decide), if_neg (by decide), if_neg (by decide), if_neg (by decide), if_neg (by decide), if_neg (by decide), if_neg (by decide), if_neg (by decide), if_neg (by decide)]
    rw [spec_l03Compute.j0, if_neg (by decide)]
    rw [if_neg (by decide), if_neg (by decide), if_neg (by decide), if_neg (by decide), if_neg (by decide), if_neg (by decide), if_neg (by decide), if_neg (by decide), if_neg (by decide), if_neg (by decide)]
    unfold spec_l03Over.f
    rw [if_neg (by decide), if_neg (by decide), if_neg (by decide), if_neg (by decide)]
    first | rw [if_pos True.intro] | rw [if_pos rfl]
    rw [sign32 K (by omega) a]
    rw [Option.bind_some]
    rw [sign32 K (by omega) b]
    rw [Option.bind_some]
    rw [signed_is K (by omega) _ _ ra.1 ra.2 rb.1 rb.2, hd]
    rw [Option.bind_some]
    rw [sign32 K (by omega)]
    exact bind_self _
  · skip
    unfold impl_computeW.f
    rw [wordv_is a]
    rw [Option.bind_some]
    rw [wordv_is b]
    rw [Option.bind_some]
    rw [if_neg (by decide), if_neg (by decide), if_neg (by decide), if_neg (by decide), if_neg (by decide), if_neg (by decide)]
    first | rw [if_pos True.intro] | rw [if_pos rfl]
    rw [hd]
    rw [Option.bind_some]
    rw [wordv_is]
    exact bind_true _
theorem b61 (K : Nat) (hK : 400 < K) (op a b : Int) (hs : spec_l03Plain.f op = some 61) (ho : op = 61) : ∃ v, spec_l03Compute.f (K + 1) op a b = some v ∧ impl_computeW.f 61 a b = some (v, true) := by
  have ra := smod_rng64 a 32 (by decide) (by decide)
  have rb := smod_rng64 b 32 (by decide) (by decide)
  obtain ⟨q, r, hd⟩ := divide_some (smod a 32) (smod b 32)
  refine ⟨smod r 32, ?_, ?_⟩
  · skip
    have hs1 := sign32 (K + 1) (by omega) a
    have hs2 := sign32 (K + 1) (by omega) b
    unfold spec_l03Compute.f
    rw [hs1]
    rw [Option.bind_some]
    rw [hs2]
    rw [Option.bind_some]
    rw [hs]
    rw [Option.bind_some]
    subst ho
    rw [if_neg (by decide), if_neg (by decide), if_neg (by decide), if_neg (by decide), if_neg (by decide), if_neg (by decide), if_neg (by decide), if_neg (by decide), if_neg (by decide)]
    rw [spec_l03Compute.j0, if_neg (by decide)]
    rw [if_neg (by decide), if_neg (by decide), if_neg (by decide), if_neg (by decide), if_neg (by decide), if_neg (by decide), if_neg (by decide), if_neg (by decide), if_neg (by decide), if_neg (by decide)]
    unfold spec_l03Over.f
    rw [if_neg (by decide), if_neg (by decide), if_neg (by decide), if_neg (by decide), if_neg (by decide)]
    first | rw [if_pos True.intro] | rw [if_pos rfl]
    rw [sign32 K (by omega) a]
    rw [Option.bind_some]
    rw [sign32 K (by omega) b]
    rw [Option.bind_some]
    rw [signed_is K (by omega) _ _ ra.1 ra.2 rb.1 rb.2, hd]
    rw [Option.bind_some]
    rw [sign32 K (by omega)]
    exact bind_self _
  · skip
    unfold impl_computeW.f
    rw [wordv_is a]
    rw [Option.bind_some]
    rw [wordv_is b]
    rw [Option.bind_some]
    rw [if_neg (by decide), if_neg (by decide), if_neg (by decide), if_neg (by decide), if_neg (by decide), if_neg (by decide), if_neg (by decide)]
    first | rw [if_pos True.intro] | rw [if_pos rfl]
    rw [hd]
    rw [Option.bind_some]
    rw [wordv_is]
    exact bind_true _
theorem b60 (K : Nat) (hK : 400 < K) (op a b : Int) (hs : spec_l03Plain.f op = some 60) (ho : op = 60) : ∃ v, spec_l03Compute.f (K + 1) op a b = some v ∧ impl_computeW.f 60 a b = some (v, true) := by
  obtain ⟨q, r, hd1, hd⟩ := divU_is K (by omega) (a % 4294967296) (b % 4294967296) (by omega) (by omega)
  refine ⟨smod q 32, ?_, ?_⟩
  · skip
    have hs1 := sign32 (K + 1) (by omega) a
    have hs2 := sign32 (K + 1) (by omega) b
    unfold spec_l03Compute.f
    rw [hs1]
    rw [Option.bind_some]
    rw [hs2]
    rw [Option.bind_some]
    rw [hs]
    rw [Option.bind_some]
    subst ho
    rw [if_neg (by decide), if_neg (by decide), if_neg (by decide), if_neg (by decide), if_neg (by decide), if_neg (by decide), if_neg (by decide), if_neg (by decide), if_neg (by decide)]
    rw [spec_l03Compute.j0, if_neg (by decide)]
    rw [if_neg (by decide), if_neg (by decide), if_neg (by decide), if_neg (by decide), if_neg (by decide), if_neg (by decide), if_neg (by decide), if_neg (by decide), if_neg (by decide), if_neg (by decide)]
    unfold spec_l03Over.f
    rw [if_neg (by decide), if_neg (by decide), if_neg (by decide), if_neg (by decide), if_neg (by decide), if_neg (by decide)]
    first | rw [if_pos True.intro] | rw [if_pos rfl]
    rw [field32 K (by omega) a]
    rw [Option.bind_some]
    rw [field32 K (by omega) b]
    rw [Option.bind_some]
    rw [hd1]
    rw [Option.bind_some]
    rw [sign32 K (by omega)]
    exact bind_self _
  · skip
    unfold impl_computeW.f
    rw [wordv_is a]
    rw [Option.bind_some]
    rw [wordv_is b]
    rw [Option.bind_some]
    rw [if_neg (by decide), if_neg (by decide), if_neg (by decide), if_neg (by decide), if_neg (by decide), if_neg (by decide), if_neg (by decide), if_neg (by decide)]
    first | rw [if_pos True.intro] | rw [if_pos rfl]
    rw [low32 a, low32 b, hd]
    rw [Option.bind_some]
    rw [wordv_is]
    exact bind_true _
theorem b62 (K : Nat) (hK : 400 < K) (op a b : Int) (hs : spec_l03Plain.f op = some 62) (ho : op = 62) : ∃ v, spec_l03Compute.f (K + 1) op a b = some v ∧ impl_computeW.f 62 a b = some (v, true) := by
  obtain ⟨q, r, hd1, hd⟩ := divU_is K (by omega) (a % 4294967296) (b % 4294967296) (by omega) (by omega)
  refine ⟨smod r 32, ?_, ?_⟩
  · skip
    have hs1 := sign32 (K + 1) (by omega) a
    have hs2 := sign32 (K + 1) (by omega) b
    unfold spec_l03Compute.f
    rw [hs1]
    rw [Option.bind_some]
    rw [hs2]
    rw [Option.bind_some]
    rw [hs]
    rw [Option.bind_some]
    subst ho
    rw [if_neg (by decide), if_neg (by decide), if_neg (by decide), if_neg (by decide), if_neg (by decide), if_neg (by decide), if_neg (by decide), if_neg (by decide), if_neg (by decide)]
    rw [spec_l03Compute.j0, if_neg (by decide)]
    rw [if_neg (by decide), if_neg (by decide), if_neg (by decide), if_neg (by decide), if_neg (by decide), if_neg (by decide), if_neg (by decide), if_neg (by decide), if_neg (by decide), if_neg (by decide)]
    unfold spec_l03Over.f
    rw [if_neg (by decide), if_neg (by decide), if_neg (by decide), if_neg (by decide), if_neg (by decide), if_neg (by decide), if_neg (by decide)]
    first | rw [if_pos True.intro] | rw [if_pos rfl]
    rw [field32 K (by omega) a]
    rw [Option.bind_some]
    rw [field32 K (by omega) b]
    rw [Option.bind_some]
    rw [hd1]
    rw [Option.bind_some]
    rw [sign32 K (by omega)]
    exact bind_self _
  · skip
    unfold impl_computeW.f
    rw [wordv_is a]
    rw [Option.bind_some]
    rw [wordv_is b]
    rw [Option.bind_some]
    rw [if_neg (by decide), if_neg (by decide), if_neg (by decide), if_neg (by decide), if_neg (by decide), if_neg (by decide), if_neg (by decide), if_neg (by decide), if_neg (by decide)]
    first | rw [if_pos True.intro] | rw [if_pos rfl]
    rw [low32 a, low32 b, hd]
    rw [Option.bind_some]
    rw [wordv_is]
    exact bind_true _
theorem alu_same (K : Nat) (hK : 400 < K) (op a b : Int) (a0 : -9223372036854775808 ≤ a) (a1 : a ≤ 9223372036854775807) (b0 : -9223372036854775808 ≤ b) (b1 : b ≤ 9223372036854775807) (h0 : 22 ≤ op) (h1 : op ≤ 62) : ∃ v, spec_l03Compute.f (K + 5) op a b = some v ∧ impl_computes.f (K + 5) op a b = some v := by
  obtain ⟨p, hs, hp, p0, p1, p2, p3⟩ := plain_is op h0 h1
  have : p = 31 ∨ p = 32 ∨ p = 33 ∨ p = 34 ∨ p = 35 ∨ p = 36 ∨ p = 37 ∨ p = 38 ∨ p = 39 ∨ p = 40 ∨ p = 45 ∨ p = 46 ∨ p = 47 ∨ p = 48 ∨ p = 49 ∨ p = 50 ∨ p = 51 ∨ p = 52 ∨ p = 53 ∨ p = 54 ∨ p = 55 ∨ p = 56 ∨ p = 57 ∨ p = 58 ∨ p = 59 ∨ p = 60 ∨ p = 61 ∨ p = 62 := by omega
  rcases this with rfl | rfl | rfl | rfl | rfl | rfl | rfl | rfl | rfl | rfl | rfl | rfl | rfl | rfl | rfl | rfl | rfl | rfl | rfl | rfl | rfl | rfl | rfl | rfl | rfl | rfl | rfl | rfl
  · exact ⟨_, s31 K hK op a b hs, cN _ op 31 a b _ hp (nW _ _ _ (by omega)) (i31 (K + 4) (by omega) a b a0 a1 b0 b1)⟩
  · exact ⟨_, s32 K hK op a b hs, cN _ op 32 a b _ hp (nW _ _ _ (by omega)) (i32 (K + 4) (by omega) a b a0 a1 b0 b1)⟩
  · obtain ⟨v, h1, h2⟩ := b33 (K + 5) (by omega) op a b a0 a1 b0 b1 hs
    exact ⟨v, h1, cN _ op 33 a b v hp (nW _ _ _ (by omega)) h2⟩
  · exact ⟨_, s34 K hK op a b hs, cN _ op 34 a b _ hp (nW _ _ _ (by omega)) (i34 (K + 4) (by omega) a b a0 a1 b0 b1)⟩
  · exact ⟨_, s35 K hK op a b hs, cN _ op 35 a b _ hp (nW _ _ _ (by omega)) (i35 (K + 4) (by omega) a b a0 a1 b0 b1)⟩
  · exact ⟨_, s36 K hK op a b hs, cN _ op 36 a b _ hp (nW _ _ _ (by omega)) (i36 (K + 4) (by omega) a b a0 a1 b0 b1)⟩
  · obtain ⟨v, h1, h2⟩ := b37 (K + 5) (by omega) op a b a0 a1 b0 b1 hs
    exact ⟨v, h1, cN _ op 37 a b v hp (nW _ _ _ (by omega)) h2⟩
  · obtain ⟨v, h1, h2⟩ := b38 (K + 5) (by omega) op a b a0 a1 b0 b1 hs
    exact ⟨v, h1, cN _ op 38 a b v hp (nW _ _ _ (by omega)) h2⟩
  · exact ⟨_, s39 K hK op a b hs, cN _ op 39 a b _ hp (nW _ _ _ (by omega)) (i39 (K + 4) (by omega) a b a0 a1 b0 b1)⟩
  · exact ⟨_, s40 K hK op a b hs, cN _ op 40 a b _ hp (nW _ _ _ (by omega)) (i40 (K + 4) (by omega) a b a0 a1 b0 b1)⟩
  · exact ⟨_, s45 K hK op a b hs, cW _ op 45 a b _ hp (i45 65 (by decide) a b a0 a1 b0 b1)⟩
  · exact ⟨_, s46 K hK op a b hs, cW _ op 46 a b _ hp (i46 65 (by decide) a b a0 a1 b0 b1)⟩
  · obtain ⟨v, h1, h2⟩ := b47 (K + 4) (by omega) op a b hs
    exact ⟨v, h1, cW _ op 47 a b v hp h2⟩
  · obtain ⟨v, h1, h2⟩ := b48 (K + 4) (by omega) op a b hs
    exact ⟨v, h1, cW _ op 48 a b v hp h2⟩
  · obtain ⟨v, h1, h2⟩ := b49 (K + 4) (by omega) op a b hs
    exact ⟨v, h1, cW _ op 49 a b v hp h2⟩
  · exact ⟨_, s50 K hK op a b hs, cN _ op 50 a b _ hp (nW _ _ _ (by omega)) (i50 (K + 4) a b)⟩
  · exact ⟨_, s51 K hK op a b a0 a1 b0 b1 hs, cN _ op 51 a b _ hp (nW _ _ _ (by omega)) (i51 (K + 4) (by omega) a b a0 a1 b0 b1)⟩
  · exact ⟨_, s52 K hK op a b a0 a1 b0 b1 hs, cN _ op 52 a b _ hp (nW _ _ _ (by omega)) (i52 (K + 4) (by omega) a b a0 a1 b0 b1)⟩
  · exact ⟨_, s53 K hK op a b a0 a1 b0 b1 hs, cN _ op 53 a b _ hp (nW _ _ _ (by omega)) (i53 (K + 4) (by omega) a b a0 a1 b0 b1)⟩
  · obtain ⟨v, h1, h2⟩ := b54 (K + 4) (by omega) op a b a0 a1 b0 b1 hs (p3 (by decide))
    exact ⟨v, h1, cN _ op 54 a b v hp (nW _ _ _ (by omega)) h2⟩
  · obtain ⟨v, h1, h2⟩ := b55 (K + 4) (by omega) op a b a0 a1 b0 b1 hs (p3 (by decide))
    exact ⟨v, h1, cN _ op 55 a b v hp (nW _ _ _ (by omega)) h2⟩
  · obtain ⟨v, h1, h2⟩ := b56 (K + 4) (by omega) op a b a0 a1 b0 b1 hs (p3 (by decide))
    exact ⟨v, h1, cN _ op 56 a b v hp (nW _ _ _ (by omega)) h2⟩
  · obtain ⟨v, h1, h2⟩ := b57 (K + 4) (by omega) op a b a0 a1 b0 b1 hs (p3 (by decide))
    exact ⟨v, h1, cN _ op 57 a b v hp (nW _ _ _ (by omega)) h2⟩
  · exact ⟨_, s58 K hK op a b hs, cW _ op 58 a b _ hp (i58 65 (by decide) a b a0 a1 b0 b1)⟩
  · obtain ⟨v, h1, h2⟩ := b59 (K + 4) (by omega) op a b hs (p3 (by decide))
    exact ⟨v, h1, cW _ op 59 a b v hp h2⟩
  · obtain ⟨v, h1, h2⟩ := b60 (K + 4) (by omega) op a b hs (p3 (by decide))
    exact ⟨v, h1, cW _ op 60 a b v hp h2⟩
  · obtain ⟨v, h1, h2⟩ := b61 (K + 4) (by omega) op a b hs (p3 (by decide))
    exact ⟨v, h1, cW _ op 61 a b v hp h2⟩
  · obtain ⟨v, h1, h2⟩ := b62 (K + 4) (by omega) op a b hs (p3 (by decide))
    exact ⟨v, h1, cW _ op 62 a b v hp h2⟩

theorem comp_both (K : Nat) (hK : 400 < K) (op a b v : Int) (a0 : -9223372036854775808 ≤ a) (a1 : a ≤ 9223372036854775807) (b0 : -9223372036854775808 ≤ b) (b1 : b ≤ 9223372036854775807) (h0 : 22 ≤ op) (h1 : op ≤ 62) (h : impl_computes.f (K + 5) op a b = some v) :
    impl_Compute.f (K + 5) op a b = some (v, 0) ∧ spec_Compute.f (K + 5) op a b = some (v, 0) := by
  obtain ⟨v2, h2, h3⟩ := alu_same K hK op a b a0 a1 b0 b1 h0 h1
  obtain rfl : v2 = v := Option.some.inj (h3.symm.trans h)
  unfold spec_Compute.f impl_Compute.f impl_isOp.f impl_within.f spec_l02Op.f spec_l03Alu.f spec_l01In.f
  constructor <;> simp [h0, h1, h2, h3, show (1 : Int) ≤ op by omega, show op ≤ 64 by omega]
theorem plus_v (x y : Int) : laws_plus.f x y = some (wrap64 (x + y)) := by
  unfold laws_plus.f
  refine congrArg some ?_
  simp only [u64w]
  unfold wrap64
  omega
theorem u64n (n : Nat) (h : n ≤ 63) : Go.bits .and .u64 (IntKind.u64.wrap (n : Int)) 63 = (n : Int) := by
  have h1 : IntKind.u64.wrap (n : Int) = n := u64_id (by omega) (by omega)
  have h2 := u64_mask (n : Int) 6 (by decide) (by omega) (by omega)
  rw [show (2 : Int) ^ 6 = 64 by decide, show (64 : Int) - 1 = 63 by decide] at h2
  rw [h1, h2]
  omega
theorem comp (K : Nat) (hK : 400 < K) (op p a b v : Int) (h0 : 22 ≤ op) (h1 : op ≤ 62) (hp : impl_plain.f op = some p) (hn : p ≤ 44) (h : impl_compute.f (K + 5) p a b = some v) : impl_Compute.f (K + 5) op a b = some (v, 0) := by
  unfold impl_Compute.f impl_isOp.f impl_within.f
  rw [if_pos (by omega), if_pos (by omega), decide_eq_true (show op ≤ 64 by omega), decide_eq_true h1, Option.bind_some, Option.bind_some, if_pos rfl, Option.bind_some, if_pos rfl, cN _ op p a b v hp (nW _ _ _ (.inl hn)) h]
  rfl
theorem k31 (k : Nat) (a b : Int) : impl_compute.f k 31 a b = some (wrap64 (a + b)) := by
  obtain ⟨lo, hm, hlo⟩ := mulhi a b
  unfold impl_compute.f
  rw [hm, Option.bind_some, if_pos rfl]
theorem k32 (k : Nat) (a b : Int) : impl_compute.f k 32 a b = some (wrap64 (a - b)) := by
  obtain ⟨lo, hm, hlo⟩ := mulhi a b
  unfold impl_compute.f
  rw [hm, Option.bind_some, if_neg (by decide), if_pos rfl]
theorem k33 (k : Nat) (a : Int) (n : Nat) (h : n ≤ 63) : impl_compute.f k 33 a (n : Int) = some (shl .i64 a (n : Int)) := by
  obtain ⟨lo, hm, hlo⟩ := mulhi a (n : Int)
  unfold impl_compute.f
  rw [hm, Option.bind_some, if_neg (by decide), if_neg (by decide), if_pos rfl, u64n n h, if_pos (Int.natCast_nonneg n)]
theorem k38 (k : Nat) (a : Int) (n : Nat) (h : n ≤ 63) : impl_compute.f k 38 a (n : Int) = some (shr .i64 a (n : Int)) := by
  obtain ⟨lo, hm, hlo⟩ := mulhi a (n : Int)
  unfold impl_compute.f
  rw [hm, Option.bind_some, if_neg (by decide), if_neg (by decide), if_neg (by decide), if_neg (by decide), if_pos rfl, u64n n h, if_pos (Int.natCast_nonneg n)]
theorem k36 (k : Nat) (a b : Int) : impl_compute.f k 36 a b = some (Go.bits .xor .i64 a b) := by
  obtain ⟨lo, hm, hlo⟩ := mulhi a b
  unfold impl_compute.f
  rw [hm, Option.bind_some, if_neg (by decide), if_neg (by decide), if_neg (by decide), if_neg (by decide), if_neg (by decide), if_neg (by decide), if_neg (by decide), if_pos rfl]
theorem k45 (k : Nat) (a b : Int) (a0 : -9223372036854775808 ≤ a) (a1 : a ≤ 9223372036854775807) (b0 : -9223372036854775808 ≤ b) (b1 : b ≤ 9223372036854775807) : impl_Compute.f k 45 a b = some (smod (wrap64 (smod a 32 + smod b 32)) 32, 0) := by
  have hc := cW k 45 45 a b _ rfl (i45 65 (by decide) a b a0 a1 b0 b1)
  unfold impl_Compute.f impl_isOp.f impl_within.f
  rw [if_pos (by omega), if_pos (by omega), decide_eq_true (by omega), decide_eq_true (by omega), Option.bind_some, Option.bind_some, if_pos rfl, Option.bind_some, if_pos rfl, hc]
  rfl
theorem sub_back (a b : Int) (a0 : -9223372036854775808 ≤ a) (a1 : a ≤ 9223372036854775807) : wrap64 (wrap64 (a + b) - b) = a := by unfold wrap64; omega
theorem word_sum (a b : Int) : smod (wrap64 (smod a 32 + smod b 32)) 32 = smod (wrap64 (a + b)) 32 := by
  simp only [smod32]
  unfold wrap64
  omega
theorem xor_back (a b : Int) (a0 : -9223372036854775808 ≤ a) (a1 : a ≤ 9223372036854775807) : Go.bits .xor .i64 (Go.bits .xor .i64 a b) b = a := by
  have r := bits_rng .xor (Go.bits .xor .i64 a b) b
  refine tb_ext r.1 r.2 a0 a1 fun i _ => ?_
  rw [tb_xor, tb_xor]
  cases tb a i <;> cases tb b i <;> rfl
theorem dbl (X P Q z : Int) (hP : P = X + 18446744073709551616 * z) (hQ : Q = 2 * X) : wrap64 Q = wrap64 (P + P) := by
  subst hP hQ
  unfold wrap64
  omega
theorem w64z (Q : Int) : ∃ z, wrap64 Q = Q + 18446744073709551616 * z := ⟨-((Q + 9223372036854775808) / 18446744073709551616), by unfold wrap64; omega⟩
theorem shl_next (a : Int) (n : Nat) (h : n ≤ 62) : shl .i64 a ((n + 1 : Nat) : Int) = wrap64 (shl .i64 a (n : Int) + shl .i64 a (n : Int)) := by
  rw [shl_v a (n + 1) (by omega), shl_v a n (by omega)]
  obtain ⟨z, hz⟩ := w64z (a * 2 ^ n)
  exact dbl (a * 2 ^ n) _ _ z hz (by rw [Int.pow_succ, ← Int.mul_assoc, Int.mul_comm])
theorem shr63 (a : Int) (a0 : -9223372036854775808 ≤ a) (a1 : a ≤ 9223372036854775807) : shr .i64 a ((63 : Nat) : Int) = if a < 0 then -1 else 0 := by
  rw [shr_v a 63 (by decide), show (2 : Int) ^ 63 = 9223372036854775808 by decide]
  by_cases h : a < 0
  · rw [if_pos h]
    omega
  · rw [if_neg h]
    omega
theorem FnCompute : laws_FnCompute.Pure := by
  intro l0 l1 m0 z0 w0 m1 z1 w1
  have b0 := bytesIn_wf w0
  have b1 := bytesIn_wf w1
  obtain ⟨K, hK⟩ : ∃ k : Nat, 400 < k := ⟨401, by decide⟩
  refine ⟨K + 7, ?_⟩
  unfold laws_FnCompute.f
  by_cases c0 : (l0.length : Int) > 1048576
  · rw [if_pos c0, laws_FnCompute.j0, if_pos rfl]
  · rw [if_neg c0, laws_FnCompute.j0]
    by_cases c1 : (l1.length : Int) > 1048576
    · rw [if_pos (by simpa using c1)]
    · rw [if_neg (by simpa using c1)]
      obtain ⟨op, a, b, hd, o0, o1, a0, a1, x0, x1⟩ := computeDrawn_is (K + 5) b0 (by omega)
      obtain ⟨v, hv1, hv2⟩ := alu_same (K + 1) (by omega) op a b a0 a1 x0 x1 o0 o1
      obtain ⟨i1, i2⟩ := comp_both (K + 1) (by omega) op a b v a0 a1 x0 x1 o0 o1 hv2
      obtain ⟨n, hn, n0, n1⟩ := at_is b1 (by omega) 0 63 (by omega) (by omega) (by omega) (by omega)
      obtain ⟨n, rfl⟩ := Int.eq_ofNat_of_zero_le n0
      have s0 := w64_rng (a + b)
      have e31 := comp K hK 31 31 a b _ (by decide) (by decide) rfl (by decide) (k31 (K + 5) a b)
      have e32 := comp K hK 32 32 (wrap64 (a + b)) b _ (by decide) (by decide) rfl (by decide) (k32 (K + 5) (wrap64 (a + b)) b)
      have e45 := k45 (K + 5) a b a0 a1 x0 x1
      have e36 := comp K hK 36 36 a b _ (by decide) (by decide) rfl (by decide) (k36 (K + 5) a b)
      have e25 := comp K hK 25 36 (Go.bits .xor .i64 a b) b _ (by decide) (by decide) rfl (by decide) (k36 (K + 5) (Go.bits .xor .i64 a b) b)
      have e28 := comp K hK 28 33 a (n : Int) _ (by decide) (by decide) rfl (by decide) (k33 (K + 5) a n (by omega))
      have e29 := comp K hK 28 33 a ((n + 1 : Nat) : Int) _ (by decide) (by decide) rfl (by decide) (k33 (K + 5) a (n + 1) (by omega))
      have e30 := comp K hK 30 38 a ((63 : Nat) : Int) _ (by decide) (by decide) rfl (by decide) (k38 (K + 5) a 63 (by decide))
      rw [sub_back a b a0 a1] at e32
      rw [word_sum] at e45
      rw [xor_back a b a0 a1] at e25
      rw [shl_next a n (by omega)] at e29
      rw [shr63 a a0 a1] at e30
      have u1 : wrap64 ((n : Int) + 1) = ((n + 1 : Nat) : Int) := by rw [w64_id (by omega) (by omega)]; omega
      have hw := wordv_is (wrap64 (a + b))
      have hs : spec_WordOf.f (K + 5) (wrap64 (a + b)) = some (smod (wrap64 (a + b)) 32) := by
        unfold spec_WordOf.f
        rw [sign32 (K + 5) (by omega)]
        rfl
      rw [hd, Option.bind_some]
      dsimp only
      rw [i1, Option.bind_some, i2, Option.bind_some, if_pos rfl, laws_FnCompute.j1, if_neg (by simp)]
      rw [e31, Option.bind_some, e32, Option.bind_some, e45, Option.bind_some, e36, Option.bind_some, e25, Option.bind_some, hn, Option.bind_some, e28, Option.bind_some, u1, e29, Option.bind_some]
      rw [show ((63 : Nat) : Int) = 63 from rfl] at e30
      rw [e30, Option.bind_some, if_pos rfl, plus_v, Option.bind_some, if_pos rfl, if_pos rfl, if_pos rfl, if_pos rfl, hw, Option.bind_some, if_pos rfl, hs, Option.bind_some, if_pos rfl, if_pos rfl, if_pos rfl, if_pos rfl, if_pos rfl, if_pos rfl, plus_v, Option.bind_some, if_pos rfl, if_pos rfl]
      by_cases h : a < 0
      · simp [h]
        try omega
      · simp [h]
        try omega

end Go.Proofs.Ytbbaggpmhiickaa.Pure
