/- A field laid into a word is read back from it, leaves the rest as it was, and its sign is the sign of its bits; for all drawn words. -/
import Derived.Test.YtbbaggpmhiickaaPFnFieldsx2
import Derived.Laws.BitsLemmas
set_option linter.unusedVariables false
set_option linter.unusedSimpArgs false
namespace Go.Proofs.Ytbbaggpmhiickaa.Pure
open Go.RowKit Go.Proofs.Ytbbaggpmhiickaa.PFnFields Go.Proofs.YtbbaggpmhiickaaW.PrintWords Go.Proofs.YtbbaggpmhiickaaW.PrintLast Go.Proofs.YtbbaggpmhiickaaW.PrintMore

theorem u64w (n : Int) : IntKind.u64.wrap n = n % 18446744073709551616 := by simp [IntKind.wrap, IntKind.bits, IntKind.signed]
theorem i64w (n : Int) : IntKind.i64.wrap n = wrap64 n := by unfold wrap64; exact Go.IntKind.wrap_i64 n
theorem w64_id {n : Int} (h0 : -9223372036854775808 ≤ n) (h1 : n ≤ 9223372036854775807) : wrap64 n = n := by unfold wrap64; omega
theorem u64_id {n : Int} (h0 : 0 ≤ n) (h1 : n < 18446744073709551616) : IntKind.u64.wrap n = n := by rw [u64w]; omega
theorem w64_rng (n : Int) : -9223372036854775808 ≤ wrap64 n ∧ wrap64 n ≤ 9223372036854775807 := by unfold wrap64; omega
theorem pow64 : (18446744073709551616 : Nat) = 2 ^ 64 := by decide

/-- The number of the first n bits. -/
def ob (b : Nat → Bool) : Nat → Nat
  | 0 => 0
  | n + 1 => (if b n then 2 ^ n else 0) + ob b n
theorem ob_lt (b : Nat → Bool) (n : Nat) : ob b n < 2 ^ n := by
  induction n with
  | zero => simp [ob]
  | succ n ih => unfold ob; rw [Nat.pow_succ]; split <;> omega
theorem ob_testBit (b : Nat → Bool) (n j : Nat) : (ob b n).testBit j = (decide (j < n) && b j) := by
  induction n with
  | zero => simp [ob]
  | succ n ih =>
    have hl := ob_lt b n
    have e : ob b (n + 1) = 2 ^ n * (b n).toNat + ob b n := by rw [ob]; cases b n <;> simp
    rw [e, Nat.testBit_two_pow_mul_add _ hl, ih]
    by_cases h : j < n
    · simp [h]; intro; omega
    · by_cases h2 : j = n
      · subst h2; simp; cases b j <;> simp
      · have h3 : j - n ≠ 0 := by omega
        have h4 : ¬ j < n + 1 := by omega
        simp [h, h4]
        cases hb : b n
        · simp
        · obtain ⟨m, hm⟩ : ∃ m, j - n = m + 1 := ⟨j - n - 1, by omega⟩
          rw [hm]; simp [Nat.testBit_succ]
/-- Bit i of a number's two's complement. -/
def tb (v : Int) (i : Nat) : Bool := (v % 18446744073709551616).toNat.testBit i
theorem nlt (v : Int) : (v % 18446744073709551616).toNat < 2 ^ 64 := by rw [← pow64]; omega
theorem tb_hi (v : Int) (i : Nat) (h : 64 ≤ i) : tb v i = false := by
  unfold tb
  exact Nat.testBit_lt_two_pow (Nat.lt_of_lt_of_le (nlt v) (Nat.pow_le_pow_right (by decide) h))
theorem tb_nat (n i : Nat) (h : n < 18446744073709551616) : tb (n : Int) i = n.testBit i := by
  unfold tb
  congr 1
  omega
theorem tb_eq {x y : Int} (h : ∀ i, i < 64 → tb x i = tb y i) : x % 18446744073709551616 = y % 18446744073709551616 := by
  have e : (x % 18446744073709551616).toNat = (y % 18446744073709551616).toNat := by
    refine Nat.eq_of_testBit_eq fun i => ?_
    by_cases hi : i < 64
    · exact h i hi
    · have h1 := tb_hi x i (by omega)
      have h2 := tb_hi y i (by omega)
      unfold tb at h1 h2
      rw [h1, h2]
  omega
theorem tb_ext {x y : Int} (hx0 : -9223372036854775808 ≤ x) (hx1 : x ≤ 9223372036854775807) (hy0 : -9223372036854775808 ≤ y) (hy1 : y ≤ 9223372036854775807) (h : ∀ i, i < 64 → tb x i = tb y i) : x = y := by
  have := tb_eq h
  omega
theorem tb_congr {x y : Int} (h : x % 18446744073709551616 = y % 18446744073709551616) (i : Nat) : tb x i = tb y i := by unfold tb; rw [h]
theorem tb_wrap64 (x : Int) (i : Nat) : tb (wrap64 x) i = tb x i := tb_congr (by unfold wrap64; omega) i
theorem tb_ob (b : Nat → Bool) (n i : Nat) (hn : n ≤ 64) : tb ((ob b n : Nat) : Int) i = (decide (i < n) && b i) := by
  rw [tb_nat _ _ (by rw [pow64]; exact Nat.lt_of_lt_of_le (ob_lt b n) (Nat.pow_le_pow_right (by decide) hn)), ob_testBit]
theorem tb_bv (v : Int) (i : Nat) : tb v i = (BitVec.ofInt 64 v).getLsbD i := by
  unfold tb BitVec.getLsbD
  rw [BitVec.toNat_ofInt]
  rfl
theorem tb_mul (x : Int) (s i : Nat) (hi : i < 64) : tb (x * 2 ^ s) i = (decide (s ≤ i) && tb x (i - s)) := by
  have e : tb (x * 2 ^ s) i = ((x % 18446744073709551616).toNat * 2 ^ s).testBit i := by
    have h1 : ((x * 2 ^ s) % 18446744073709551616).toNat = ((x % 18446744073709551616).toNat * 2 ^ s) % 2 ^ 64 := by
      have h2 : (x * 2 ^ s) % 18446744073709551616 = ((x % 18446744073709551616) * 2 ^ s) % 18446744073709551616 := by
        have h5 := Int.mul_emod x (2 ^ s) 18446744073709551616
        have h6 := Int.mul_emod (x % 18446744073709551616) (2 ^ s) 18446744073709551616
        rw [Int.emod_emod_of_dvd x (Int.dvd_refl _)] at h6
        rw [h5, h6]
      obtain ⟨m, hm⟩ : ∃ m : Nat, x % 18446744073709551616 = m := ⟨(x % 18446744073709551616).toNat, by omega⟩
      rw [h2, hm, ← pow64]
      have h3 : ((m : Int) * 2 ^ s) % 18446744073709551616 = ((m * 2 ^ s % 18446744073709551616 : Nat) : Int) := by simp
      rw [h3]
      exact Int.toNat_natCast _
    unfold tb
    rw [h1, Nat.testBit_mod_two_pow]
    simp [hi]
  rw [e, ← Nat.shiftLeft_eq, Nat.testBit_shiftLeft]
  rfl
theorem tb_bits {r : BitVec 64} (i : Nat) : tb (IntKind.i64.wrap (r.toNat : Int)) i = r.getLsbD i := by
  rw [i64w, tb_wrap64, tb_nat _ _ (by rw [pow64]; exact r.isLt)]
  rfl
theorem tb_and (x y : Int) (i : Nat) : tb (Go.bits .and .i64 x y) i = (tb x i && tb y i) := by
  rw [show Go.bits .and .i64 x y = IntKind.i64.wrap (((BitVec.ofInt 64 x) &&& (BitVec.ofInt 64 y) : BitVec 64).toNat : Int) from rfl, tb_bits, BitVec.getLsbD_and, tb_bv, tb_bv]
theorem tb_or (x y : Int) (i : Nat) : tb (Go.bits .or .i64 x y) i = (tb x i || tb y i) := by
  rw [show Go.bits .or .i64 x y = IntKind.i64.wrap (((BitVec.ofInt 64 x) ||| (BitVec.ofInt 64 y) : BitVec 64).toNat : Int) from rfl, tb_bits, BitVec.getLsbD_or, tb_bv, tb_bv]
theorem tb_andNot (x y : Int) (i : Nat) (hi : i < 64) : tb (Go.bits .andNot .i64 x y) i = (tb x i && !tb y i) := by
  rw [show Go.bits .andNot .i64 x y = IntKind.i64.wrap (((BitVec.ofInt 64 x) &&& ~~~(BitVec.ofInt 64 y) : BitVec 64).toNat : Int) from rfl, tb_bits, BitVec.getLsbD_and, BitVec.getLsbD_not, tb_bv, tb_bv]
  simp [hi]
theorem bits_rng (o : BinOp) (x y : Int) : -9223372036854775808 ≤ Go.bits o .i64 x y ∧ Go.bits o .i64 x y ≤ 9223372036854775807 := by
  have h : ∀ n : Int, -9223372036854775808 ≤ IntKind.i64.wrap n ∧ IntKind.i64.wrap n ≤ 9223372036854775807 := fun n => by rw [i64w]; exact w64_rng n
  unfold Go.bits
  split <;> first | exact h _ | omega
theorem tb_pow1 (c i : Nat) (hc : c ≤ 64) : tb ((2 : Int) ^ c - 1) i = decide (i < c) := by
  have hp : 0 < 2 ^ c := Nat.two_pow_pos c
  have e : ((2 : Int) ^ c - 1) = ((2 ^ c - 1 : Nat) : Int) := by rw [Int.natCast_sub hp]; simp
  have hl : 2 ^ c ≤ 2 ^ 64 := Nat.pow_le_pow_right (by decide) hc
  rw [e, tb_nat _ _ (by rw [pow64]; omega), Nat.testBit_two_pow_sub_one]
theorem tb_mod (x : Int) (c i : Nat) (hc : c ≤ 64) : tb (x % 2 ^ c) i = (decide (i < c) && tb x i) := by
  obtain ⟨m, hm⟩ : ∃ m : Nat, x % 18446744073709551616 = m := ⟨(x % 18446744073709551616).toNat, by omega⟩
  have hml : m < 18446744073709551616 := by omega
  have e : x % 2 ^ c = ((m % 2 ^ c : Nat) : Int) := by
    have hd : ((2 : Int) ^ c) ∣ 18446744073709551616 := by
      refine ⟨2 ^ (64 - c), ?_⟩
      rw [← Int.pow_add, show c + (64 - c) = 64 by omega]; rfl
    have h2 : x % 2 ^ c = (x % 18446744073709551616) % 2 ^ c := (Int.emod_emod_of_dvd x hd).symm
    rw [h2, hm]; simp
  have hle : m % 2 ^ c ≤ m := Nat.mod_le _ _
  have h3 : tb x i = m.testBit i := by unfold tb; rw [hm]; simp
  rw [e, tb_nat _ _ (by omega), Nat.testBit_mod_two_pow, h3]
/-- The lowest c bits as a signed number. -/
def smod (v : Int) (c : Nat) : Int := (v + 2 ^ (c - 1)) % 2 ^ c - 2 ^ (c - 1)
theorem ipow_pos (c : Nat) : (0 : Int) < 2 ^ c := Int.pow_pos (by decide)
theorem ipow_split (c : Nat) (h1 : 1 ≤ c) : (2 : Int) ^ c = 2 ^ (c - 1) * 2 := by
  obtain ⟨m, rfl⟩ : ∃ m, c = m + 1 := ⟨c - 1, by omega⟩
  rw [Int.pow_succ]; rfl
theorem ipow_le (c d : Nat) (h : c ≤ d) : (2 : Int) ^ c ≤ 2 ^ d := by exact_mod_cast Nat.pow_le_pow_right (by decide : 0 < 2) h
theorem smod_shift (v : Int) (c : Nat) (h1 : 1 ≤ c) (h2 : c ≤ 64) : wrap64 (v * 2 ^ (64 - c)) / 2 ^ (64 - c) = smod v c := by
  have hs := ipow_pos (64 - c)
  have e1 : (9223372036854775808 : Int) = 2 ^ (64 - c) * 2 ^ (c - 1) := by rw [← Int.pow_add, show 64 - c + (c - 1) = 63 by omega]; decide
  have e2 : (18446744073709551616 : Int) = 2 ^ (64 - c) * 2 ^ c := by rw [← Int.pow_add, show 64 - c + c = 64 by omega]; decide
  have e3 : wrap64 (v * 2 ^ (64 - c)) = 2 ^ (64 - c) * smod v c := by
    unfold wrap64 smod
    rw [e1, e2, Int.mul_comm v, ← Int.mul_add, Int.mul_emod_mul_of_pos _ _ hs, Int.mul_sub]
  rw [e3, Int.mul_ediv_cancel_left _ (Int.ne_of_gt hs)]
def bytesIn (l : List Int) : Prop := ∀ x ∈ l, 0 ≤ x ∧ x ≤ 255
theorem bytesIn_wf {l : List Int} (h : ∀ x ∈ l, (Lit.int .u8 x).wf = true) : bytesIn l := fun x hx => by
  have := h x hx
  simp only [Lit.wf, IntKind.min, IntKind.max, IntKind.signed, IntKind.bits, Bool.and_eq_true, decide_eq_true_eq] at this
  simpa using this
theorem rd_in {l : List Int} (h : bytesIn l) (i : Int) : 0 ≤ rd l i ∧ rd l i ≤ 255 := by
  unfold rd
  rw [List.getD_eq_getElem?_getD]
  cases e : l[i.toNat]? with
  | none => simp
  | some x => simpa using h x (List.mem_of_getElem? e)
/-- A draw. -/
theorem byte_is {l : List Int} (h : bytesIn l) (hl : l.length ≤ 140737488351232) (a s : Int) (ha0 : 0 ≤ a) (ha1 : a ≤ 1000000000) (hs0 : 0 ≤ s) (hs1 : s < 2147483648) :
    ∃ b s', spec_l00Src_byte.f l a s = some (b, a + 1, s') ∧ 0 ≤ b ∧ b ≤ 255 ∧ 0 ≤ s' ∧ s' < 2147483648 := by
  have hr := rd_in h a
  unfold spec_l00Src_byte.f
  rw [w64_id (n := a + 1) (by omega) (by omega), show a + 1 - 1 = a by omega, w64_id (n := a) (by omega) (by omega)]
  by_cases c : a + 1 ≤ (l.length : Int)
  · rw [if_pos c, if_pos (by omega), if_pos (by omega), w64_id (n := rd l a) (by omega) (by omega), w64_id (n := s * 31) (by omega) (by omega), w64_id (n := s * 31 + rd l a) (by omega) (by omega), w64_id (by omega) (by omega)]
    rw [Int.tmod_eq_emod_of_nonneg (by omega)]
    exact ⟨_, _, rfl, by omega, by omega, by omega, by omega⟩
  · rw [if_neg c]
    by_cases c2 : a + 1 > 3000
    · rw [if_pos c2]
      exact ⟨_, _, rfl, by omega, by omega, by omega, by omega⟩
    · rw [if_neg c2, w64_id (n := s * 1103515245) (by omega) (by omega), w64_id (n := s * 1103515245 + 12345) (by omega) (by omega), Int.tmod_eq_emod_of_nonneg (a := s * 1103515245 + 12345) (by omega)]
      generalize hz : (s * 1103515245 + 12345) % 2147483648 = z
      have hz0 : 0 ≤ z ∧ z < 2147483648 := by omega
      rw [Int.tdiv_eq_ediv_of_nonneg (by omega), w64_id (by omega) (by omega), Int.tmod_eq_emod_of_nonneg (by omega)]
      exact ⟨_, _, rfl, by omega, by omega, by omega, by omega⟩

/-- The i-th choice out of n. -/
theorem at_is {l : List Int} (h : bytesIn l) (hl : l.length ≤ 140737488351232) (i n : Int) (hi0 : 0 ≤ i) (hi1 : i ≤ 1000) (hn0 : 1 ≤ n) (hn1 : n ≤ 1000000) : ∃ r, laws_at.f l i n = some r ∧ 0 ≤ r ∧ r < n := by
  unfold laws_at.f
  by_cases c : n ≤ 1
  · rw [if_pos c]
    exact ⟨0, rfl, by omega, by omega⟩
  · rw [if_neg c]
    by_cases c2 : (l.length : Int) = 0
    · rw [if_pos c2, if_neg (by omega), w64_id (by omega) (by omega), Int.tmod_eq_emod_of_nonneg (by omega)]
      exact ⟨_, rfl, Int.emod_nonneg _ (by omega), Int.emod_lt_of_pos _ (by omega)⟩
    · rw [if_neg c2, Int.tmod_eq_emod_of_nonneg (a := i) (by omega), w64_id (n := i + 1) (by omega) (by omega), Int.tmod_eq_emod_of_nonneg (a := i + 1) (by omega)]
      have p1 := Int.emod_nonneg i c2
      have p2 := Int.emod_lt_of_pos i (show 0 < (l.length : Int) by omega)
      have p3 := Int.emod_nonneg (i + 1) c2
      have p4 := Int.emod_lt_of_pos (i + 1) (show 0 < (l.length : Int) by omega)
      have r1 := rd_in h (i % (l.length : Int))
      have r2 := rd_in h ((i + 1) % (l.length : Int))
      have q1 : 0 ≤ Int.tdiv i (l.length : Int) ∧ Int.tdiv i (l.length : Int) ≤ i := by
        rw [Int.tdiv_eq_ediv_of_nonneg hi0]
        exact ⟨Int.ediv_nonneg hi0 (by omega), Int.ediv_le_self _ hi0⟩
      generalize rd l (i % (l.length : Int)) = x at *
      generalize rd l ((i + 1) % (l.length : Int)) = y at *
      generalize Int.tdiv i (l.length : Int) = q at *
      rw [if_pos p1, if_pos p2, if_pos p3, if_pos p4, if_neg (by omega)]
      rw [w64_id (n := x) (by omega) (by omega), w64_id (n := x * 31) (by omega) (by omega), w64_id (n := y) (by omega) (by omega), w64_id (n := x * 31 + y) (by omega) (by omega), w64_id (n := q) (by omega) (by omega), w64_id (n := x * 31 + y + q) (by omega) (by omega), Int.tmod_eq_emod_of_nonneg (by omega)]
      exact ⟨_, rfl, Int.emod_nonneg _ (by omega), Int.emod_lt_of_pos _ (by omega)⟩

theorem shl1 (C : Nat) (h : C ≤ 62) : wrap64 ((shl .i64 1 (C : Int)) - 1) = 2 ^ C - 1 := by
  have h2 := ipow_le C 62 h
  rw [show (2 : Int) ^ 62 = 4611686018427387904 by decide] at h2
  have h3 := ipow_pos C
  have e : shl .i64 1 (C : Int) = 2 ^ C := by
    unfold shl
    rw [i64w, show min ((C : Int).toNat) (IntKind.i64.bits) = C by simp [IntKind.bits]; omega, Int.one_mul, w64_id (by omega) (by omega)]
  rw [e, w64_id (by omega) (by omega)]

/-- Some bits of a number, as the program takes them. -/
theorem bitsOf_is (v : Int) (L C : Nat) (hv0 : -9223372036854775808 ≤ v) (hv1 : v ≤ 9223372036854775807) (hL : L ≤ 63) (hC : C ≤ 62) : impl_bitsOf.f v (L : Int) (C : Int) = some (v / 2 ^ L % 2 ^ C) := by
  unfold impl_bitsOf.f
  rw [if_pos (by omega), if_pos (by omega), shl1 C hC]
  have e : shr .i64 v (L : Int) = v / 2 ^ L := by
    unfold shr
    rw [show min ((L : Int).toNat) (IntKind.i64.bits) = L by simp [IntKind.bits]; omega]
  rw [e]
  congr 1
  have hr := bits_rng .and (v / 2 ^ L) (2 ^ C - 1)
  have h0 : 0 ≤ v / 2 ^ L % 2 ^ C := Int.emod_nonneg _ (Int.ne_of_gt (ipow_pos C))
  have h1 : v / 2 ^ L % 2 ^ C < 2 ^ C := Int.emod_lt_of_pos _ (ipow_pos C)
  have h2 := ipow_le C 62 hC
  rw [show (2 : Int) ^ 62 = 4611686018427387904 by decide] at h2
  refine tb_ext hr.1 hr.2 (by omega) (by omega) fun i hi => ?_
  rw [tb_and, tb_pow1 _ _ (by omega), tb_mod _ _ _ (by omega), Bool.and_comm]

/-- Bit i of a word into which v was laid. -/
def pbit (w v : Int) (L C : Nat) (i : Nat) : Bool := if L ≤ i ∧ i < L + C then tb v (i - L) else tb w i
theorem putField_math (w v : Int) (L C : Nat) (hw0 : 0 ≤ w) (hw1 : w ≤ 4294967295) (h1 : 1 ≤ C) (h : L + C ≤ 32) :
    Go.bits .or .i64 (Go.bits .andNot .i64 w (shl .i64 (wrap64 ((shl .i64 1 (C : Int)) - 1)) (L : Int))) (Go.bits .and .i64 (shl .i64 v (L : Int)) (shl .i64 (wrap64 ((shl .i64 1 (C : Int)) - 1)) (L : Int))) = ((ob (pbit w v L C) 32 : Nat) : Int) := by
  rw [shl1 C (by omega)]
  have e : ∀ x : Int, shl .i64 x (L : Int) = wrap64 (x * 2 ^ L) := fun x => by
    unfold shl
    rw [show min ((L : Int).toNat) (IntKind.i64.bits) = L by simp [IntKind.bits]; omega, i64w]
  rw [e, e]
  have hr := bits_rng .or (Go.bits .andNot .i64 w (wrap64 ((2 ^ C - 1) * 2 ^ L))) (Go.bits .and .i64 (wrap64 (v * 2 ^ L)) (wrap64 ((2 ^ C - 1) * 2 ^ L)))
  have ho := ob_lt (pbit w v L C) 32
  rw [show (2 : Nat) ^ 32 = 4294967296 by decide] at ho
  refine tb_ext hr.1 hr.2 (by omega) (by omega) fun i hi => ?_
  rw [tb_or, tb_andNot _ _ _ hi, tb_and, tb_wrap64, tb_wrap64, tb_mul _ _ _ hi, tb_mul _ _ _ hi, tb_pow1 _ _ (by omega), tb_ob _ _ _ (by omega)]
  have hz : 32 ≤ i → tb w i = false := fun hi2 => by
    obtain ⟨m, rfl⟩ := Int.eq_ofNat_of_zero_le hw0
    rw [tb_nat _ _ (by omega)]
    exact Nat.testBit_lt_two_pow (Nat.lt_of_lt_of_le (show m < 2 ^ 32 by rw [show (2 : Nat) ^ 32 = 4294967296 by decide]; omega) (Nat.pow_le_pow_right (by decide) hi2))
  unfold pbit
  by_cases c1 : L ≤ i
  · by_cases c2 : i < L + C
    · simp [c1, c2, show i < 32 by omega, show i - L < C by omega]
    · by_cases c3 : i < 32
      · simp [c1, c2, c3, show ¬ i - L < C by omega]
      · simp [c1, c2, c3, show ¬ i - L < C by omega, hz (by omega)]
  · by_cases c3 : i < 32
    · simp [c1, c3]
    · omega

/-- A word w with the bits u of C places laid at L, by numbers. -/
def pn (w u a b : Nat) : Nat := a * (b * (w / (a * b)) + u) + w % a
theorem pn_div (w u a b : Nat) (ha : 0 < a) : pn w u a b / a = b * (w / (a * b)) + u := by
  unfold pn
  rw [Nat.mul_add_div ha, Nat.div_eq_of_lt (Nat.mod_lt _ ha), Nat.add_zero]
theorem pn_field (w u a b : Nat) (ha : 0 < a) (hu : u < b) : pn w u a b / a % b = u := by
  rw [pn_div w u a b ha, Nat.mul_add_mod, Nat.mod_eq_of_lt hu]
theorem pn_mod (w u a b : Nat) : pn w u a b % a = w % a := by
  unfold pn
  rw [Nat.mul_add_mod, Nat.mod_mod]
theorem pn_top (w u a b : Nat) (ha : 0 < a) (hu : u < b) : pn w u a b / (a * b) = w / (a * b) := by
  rw [← Nat.div_div_eq_div_mul, pn_div w u a b ha, Nat.mul_add_div (by omega), Nat.div_eq_of_lt hu, Nat.add_zero]
theorem pn_self (w a b : Nat) : pn w (w / a % b) a b = w := by
  unfold pn
  rw [← Nat.div_div_eq_div_mul, Nat.div_add_mod, Nat.div_add_mod]
theorem pn_back (w u a b : Nat) (ha : 0 < a) (hu : u < b) : pn (pn w u a b) (w / a % b) a b = w := by
  have h : pn (pn w u a b) (w / a % b) a b = pn w (w / a % b) a b := by
    rw [pn, pn_top w u a b ha hu, pn_mod]
    rfl
  rw [h, pn_self]
theorem pn_diff (w u a b : Nat) : ((pn w u a b : Nat) : Int) - (w : Int) = ((u : Int) - ((w / a % b : Nat) : Int)) * (a : Int) := by
  have h := pn_self w a b
  have h1 : (pn w u a b : Int) - ((pn w (w / a % b) a b : Nat) : Int) = ((u : Int) - ((w / a % b : Nat) : Int)) * (a : Int) := by
    unfold pn
    generalize w / a % b = F
    generalize w / (a * b) = Q
    generalize w % a = r
    simp only [Int.natCast_add, Int.natCast_mul, Int.mul_add, Int.sub_mul]
    rw [Int.mul_comm (u : Int), Int.mul_comm (F : Int)]
    omega
  rw [h] at h1
  exact h1
theorem pbit_nat (w : Nat) (v : Int) (L C : Nat) (hw : w < 4294967296) (h : L + C ≤ 32) : ob (pbit (w : Int) v L C) 32 = pn w ((v % 18446744073709551616).toNat % 2 ^ C) (2 ^ L) (2 ^ C) := by
  refine Nat.eq_of_testBit_eq fun i => ?_
  unfold pn
  rw [ob_testBit, Nat.testBit_two_pow_mul_add _ (Nat.mod_lt _ (Nat.two_pow_pos L)), Nat.testBit_two_pow_mul_add _ (Nat.mod_lt _ (Nat.two_pow_pos C)), ← Nat.pow_add, Nat.testBit_mod_two_pow, Nat.testBit_mod_two_pow, Nat.testBit_div_two_pow]
  have hz : 32 ≤ i → w.testBit i = false := fun hi => Nat.testBit_lt_two_pow (Nat.lt_of_lt_of_le (show w < 2 ^ 32 by rw [show (2 : Nat) ^ 32 = 4294967296 by decide]; exact hw) (Nat.pow_le_pow_right (by decide) hi))
  unfold pbit
  rw [tb_nat w i (by omega)]
  have ht : (v % 18446744073709551616).toNat.testBit (i - L) = tb v (i - L) := rfl
  rw [ht]
  by_cases c1 : i < L
  · simp [c1, show i < 32 by omega, show ¬ L ≤ i by omega]
  · by_cases c2 : i - L < C
    · simp [c1, c2, show i < 32 by omega, show L ≤ i by omega, show i < L + C by omega]
    · rw [show i - L - C + (L + C) = i by omega]
      by_cases c3 : i < 32
      · simp [c1, c2, c3, show L ≤ i by omega, show ¬ i < L + C by omega]
      · simp [c1, c2, c3, hz (by omega)]

theorem impl_signOf_is (v : Int) (C : Nat) (h1 : 1 ≤ C) (h2 : C ≤ 64) : impl_signOf.f v (C : Int) = some (smod v C) := by
  unfold impl_signOf.f
  rw [w64_id (by omega) (by omega), if_pos (by omega), ← smod_shift v C h1 h2]
  unfold shr shl
  rw [show min ((64 - (C : Int)).toNat) (IntKind.i64.bits) = 64 - C by simp [IntKind.bits] <;> omega, i64w]

theorem word_is {l : List Int} (h : bytesIn l) (hl : l.length ≤ 140737488351232) (a s : Int) (ha0 : 0 ≤ a) (ha1 : a ≤ 999999000) (hs0 : 0 ≤ s) (hs1 : s < 2147483648) :
    ∃ b s', spec_l00Src_word.f l a s = some (b, a + 4, s') ∧ 0 ≤ b ∧ b ≤ 4294967295 ∧ 0 ≤ s' ∧ s' < 2147483648 := by
  unfold spec_l00Src_word.f
  obtain ⟨b1, s1, e1, p1, q1, u1, v1⟩ := byte_is h hl a s ha0 (by omega) hs0 hs1
  obtain ⟨b2, s2, e2, p2, q2, u2, v2⟩ := byte_is h hl (a + 1) s1 (by omega) (by omega) u1 v1
  obtain ⟨b3, s3, e3, p3, q3, u3, v3⟩ := byte_is h hl (a + 1 + 1) s2 (by omega) (by omega) u2 v2
  obtain ⟨b4, s4, e4, p4, q4, u4, v4⟩ := byte_is h hl (a + 1 + 1 + 1) s3 (by omega) (by omega) u3 v3
  rw [e1]
  simp only [Option.bind_some]
  rw [e2]
  simp only [Option.bind_some]
  rw [e3]
  simp only [Option.bind_some]
  rw [e4]
  simp only [Option.bind_some]
  rw [w64_id (n := 256 * b2) (by omega) (by omega), w64_id (n := b1 + 256 * b2) (by omega) (by omega), w64_id (n := 65536 * b3) (by omega) (by omega), w64_id (n := b1 + 256 * b2 + 65536 * b3) (by omega) (by omega), w64_id (n := 16777216 * b4) (by omega) (by omega), w64_id (by omega) (by omega)]
  refine ⟨b1 + 256 * b2 + 65536 * b3 + 16777216 * b4, s4, ?_, ?_, ?_, u4, v4⟩
  · rw [show a + 1 + 1 + 1 + 1 = a + 4 by omega]
  · omega
  · omega

theorem wordDrawn_is {l : List Int} (h : bytesIn l) (hl : l.length ≤ 140737488351232) : ∃ b, spec_WordDrawn.f l = some b ∧ 0 ≤ b ∧ b ≤ 4294967295 := by
  unfold spec_WordDrawn.f spec_l00Source.f
  simp only [Option.bind_some]
  obtain ⟨b, s, e, p, q, _⟩ := word_is h hl 0 ((l.length : Int) % 1000) (by omega) (by omega) (by omega) (by omega)
  rw [e]
  exact ⟨b, rfl, p, q⟩

theorem next_is {l : List Int} (h : bytesIn l) (hl : l.length ≤ 140737488351232) (a s n : Int) (ha0 : 0 ≤ a) (ha1 : a ≤ 999999000) (hs0 : 0 ≤ s) (hs1 : s < 2147483648) (hn : 1 ≤ n) :
    ∃ b a' s', spec_l00Src_next.f l a s n = some (b, a', s') ∧ 0 ≤ b ∧ b < n ∧ a ≤ a' ∧ a' ≤ a + 3 ∧ 0 ≤ s' ∧ s' < 2147483648 := by
  unfold spec_l00Src_next.f
  by_cases c : n ≤ 1
  · rw [if_pos c]
    exact ⟨0, a, s, rfl, by omega, by omega, by omega, by omega, hs0, hs1⟩
  · rw [if_neg c]
    obtain ⟨b1, s1, e1, p1, q1, u1, v1⟩ := byte_is h hl a s ha0 (by omega) hs0 hs1
    obtain ⟨b2, s2, e2, p2, q2, u2, v2⟩ := byte_is h hl (a + 1) s1 (by omega) (by omega) u1 v1
    obtain ⟨b3, s3, e3, p3, q3, u3, v3⟩ := byte_is h hl (a + 1 + 1) s2 (by omega) (by omega) u2 v2
    by_cases c2 : n ≤ 256
    · rw [if_pos c2, e1]
      simp only [Option.bind_some]
      rw [if_neg (by omega), Int.tmod_eq_emod_of_nonneg (by omega)]
      exact ⟨_, _, _, rfl, Int.emod_nonneg _ (by omega), Int.emod_lt_of_pos _ (by omega), by omega, by omega, u1, v1⟩
    · rw [if_neg c2, e1]
      simp only [Option.bind_some]
      rw [e2]
      simp only [Option.bind_some]
      rw [e3]
      simp only [Option.bind_some]
      rw [if_neg (by omega), w64_id (n := b1 * 65536) (by omega) (by omega), w64_id (n := b2 * 256) (by omega) (by omega), w64_id (n := b1 * 65536 + b2 * 256) (by omega) (by omega), w64_id (by omega) (by omega), Int.tmod_eq_emod_of_nonneg (by omega)]
      exact ⟨_, _, _, rfl, Int.emod_nonneg _ (by omega), Int.emod_lt_of_pos _ (by omega), by omega, by omega, u3, v3⟩
theorem shl64_rng (x y : Int) : -9223372036854775808 ≤ shl .i64 x y ∧ shl .i64 x y ≤ 9223372036854775807 := by
  unfold shl
  rw [i64w]
  exact w64_rng _
theorem odd_list : ∀ i ∈ List.range 14, -9223372036854775808 ≤ rd ([0, (-1), 1, 2, 63, 64, 65, 4096, 8192, 16384, 4097, 9223372036854775807, (-9223372036854775808), 30] : List Int) (i : Int) ∧ rd ([0, (-1), 1, 2, 63, 64, 65, 4096, 8192, 16384, 4097, 9223372036854775807, (-9223372036854775808), 30] : List Int) (i : Int) ≤ 9223372036854775807 := by decide +kernel
theorem wide_some {l : List Int} (h : bytesIn l) (hl : l.length ≤ 140737488351232) (a s : Int) (ha0 : 0 ≤ a) (ha1 : a ≤ 999998000) (hs0 : 0 ≤ s) (hs1 : s < 2147483648) :
    ∃ b a' s', spec_l00Src_wide.f l a s = some (b, a', s') ∧ -9223372036854775808 ≤ b ∧ b ≤ 9223372036854775807 := by
  unfold spec_l00Src_wide.f
  obtain ⟨n1, a1, s1, e1, p1, q1, x1, y1, u1, v1⟩ := next_is h hl a s 7 ha0 (by omega) hs0 hs1 (by omega)
  rw [e1]
  simp only [Option.bind_some]
  by_cases c0 : n1 = 0
  · rw [if_pos c0]
    obtain ⟨b2, s2, e2, p2, q2, u2, v2⟩ := word_is h hl a1 s1 (by omega) (by omega) u1 v1
    obtain ⟨b3, s3, e3, p3, q3, u3, v3⟩ := word_is h hl (a1 + 4) s2 (by omega) (by omega) u2 v2
    rw [e2]
    simp only [Option.bind_some]
    rw [e3]
    have hr := bits_rng .or (wrap64 (b2 * 4294967296)) b3
    exact ⟨_, _, _, rfl, hr.1, hr.2⟩
  · rw [if_neg c0]
    by_cases c1 : n1 = 1
    · rw [if_pos c1]
      unfold spec_l00Src_odd.f
      obtain ⟨n2, a2, s2, e2, p2, q2, x2, y2, u2, v2⟩ := next_is h hl a1 s1 14 (by omega) (by omega) u1 v1 (by omega)
      rw [e2]
      simp only [Option.bind_some]
      obtain ⟨i, rfl⟩ := Int.eq_ofNat_of_zero_le p2
      have ho := odd_list i (by rw [List.mem_range]; omega)
      rw [if_pos p2, if_pos (by simpa using q2)]
      exact ⟨_, _, _, rfl, ho.1, ho.2⟩
    · rw [if_neg c1]
      by_cases c2 : n1 = 2
      · rw [if_pos c2]
        obtain ⟨n2, a2, s2, e2, p2, q2, x2, y2, u2, v2⟩ := next_is h hl a1 s1 300 (by omega) (by omega) u1 v1 (by omega)
        rw [e2]
        have hr := w64_rng (-n2)
        exact ⟨_, _, _, rfl, hr.1, hr.2⟩
      · rw [if_neg c2]
        by_cases c3 : n1 = 3
        · rw [if_pos c3]
          obtain ⟨b2, s2, e2, p2, q2, u2, v2⟩ := word_is h hl a1 s1 (by omega) (by omega) u1 v1
          rw [e2]
          have hr := w64_rng (b2 - 2147483648)
          exact ⟨_, _, _, rfl, hr.1, hr.2⟩
        · rw [if_neg c3]
          by_cases c4 : n1 = 4
          · rw [if_pos c4]
            obtain ⟨n2, a2, s2, e2, p2, q2, x2, y2, u2, v2⟩ := next_is h hl a1 s1 64 (by omega) (by omega) u1 v1 (by omega)
            rw [e2]
            simp only [Option.bind_some]
            rw [if_pos (by rw [u64w]; omega)]
            have hr := shl64_rng 1 (IntKind.u64.wrap n2)
            exact ⟨_, _, _, rfl, hr.1, hr.2⟩
          · rw [if_neg c4]
            obtain ⟨n2, a2, s2, e2, p2, q2, x2, y2, u2, v2⟩ := next_is h hl a1 s1 300 (by omega) (by omega) u1 v1 (by omega)
            rw [e2]
            exact ⟨_, _, _, rfl, by omega, by omega⟩
theorem numberOf_is {l : List Int} (h : bytesIn l) (hl : l.length ≤ 140737488351232) : ∃ b, spec_NumberOf.f l = some b ∧ -9223372036854775808 ≤ b ∧ b ≤ 9223372036854775807 := by
  unfold spec_NumberOf.f spec_l00Source.f
  simp only [Option.bind_some]
  obtain ⟨b, a, s, e, p, q⟩ := wide_some h hl 0 ((l.length : Int) % 1000) (by omega) (by omega) (by omega) (by omega)
  rw [e]
  exact ⟨b, rfl, p, q⟩

theorem toNat_mod (v : Int) (C : Nat) (hC : C ≤ 64) : (((v % 18446744073709551616).toNat % 2 ^ C : Nat) : Int) = v % 2 ^ C := by
  have hd : ((2 : Int) ^ C) ∣ 18446744073709551616 := by
    refine ⟨2 ^ (64 - C), ?_⟩
    rw [← Int.pow_add, show C + (64 - C) = 64 by omega]; rfl
  obtain ⟨m, hm⟩ : ∃ m : Nat, v % 18446744073709551616 = m := ⟨(v % 18446744073709551616).toNat, by omega⟩
  rw [← Int.emod_emod_of_dvd v hd, hm, Int.toNat_natCast]
  simp
theorem fieldN (w L C : Nat) (hw : w < 4294967296) (h1 : 1 ≤ C) (h : L + C ≤ 32) : impl_FieldOf.f (w : Int) (L : Int) (C : Int) = some (((w / 2 ^ L % 2 ^ C : Nat) : Int), 0) := by
  unfold impl_FieldOf.f impl_isField.f impl_isWord.f impl_within.f
  rw [w64_id (n := 32 - (L : Int)) (by omega) (by omega), bitsOf_is (w : Int) L C (by omega) (by omega) (by omega) (by omega)]
  simp [show (w : Int) ≤ 4294967295 by omega, show (L : Int) ≤ 31 by omega, show (1 : Int) ≤ C by omega, show (C : Int) ≤ 32 - L by omega, show (0 : Int) ≤ w by omega, show (0 : Int) ≤ L by omega]
theorem putN (w L C : Nat) (v : Int) (hw : w < 4294967296) (h1 : 1 ≤ C) (h : L + C ≤ 32) : impl_PutField.f (w : Int) (L : Int) (C : Int) v = some (((pn w ((v % 18446744073709551616).toNat % 2 ^ C) (2 ^ L) (2 ^ C) : Nat) : Int), 0) := by
  unfold impl_PutField.f impl_isField.f impl_isWord.f impl_within.f
  rw [w64_id (n := 32 - (L : Int)) (by omega) (by omega), putField_math (w : Int) v L C (by omega) (by omega) h1 h, pbit_nat w v L C hw h]
  simp [show (w : Int) ≤ 4294967295 by omega, show (L : Int) ≤ 31 by omega, show (1 : Int) ≤ C by omega, show (C : Int) ≤ 32 - L by omega, show (0 : Int) ≤ w by omega, show (0 : Int) ≤ L by omega, show (0 : Int) ≤ C by omega]
theorem signN (v : Int) (C : Nat) (h1 : 1 ≤ C) (h : C ≤ 64) : impl_SignOf.f v (C : Int) = some (smod v C, 0) := by
  unfold impl_SignOf.f impl_within.f
  rw [if_pos (by omega), impl_signOf_is v C h1 h]
  simp [show (C : Int) ≤ 64 by omega]
theorem shl_one (C : Nat) (h : C ≤ 62) : shl .i64 1 (C : Int) = 2 ^ C := by
  have h2 := ipow_le C 62 h
  rw [show (2 : Int) ^ 62 = 4611686018427387904 by decide] at h2
  have h3 := ipow_pos C
  unfold shl
  rw [i64w, show min ((C : Int).toNat) (IntKind.i64.bits) = C by simp [IntKind.bits]; omega, Int.one_mul, w64_id (by omega) (by omega)]
theorem shl_is (x : Int) (L : Nat) (h : L ≤ 62) : shl .i64 x (L : Int) = wrap64 (x * 2 ^ L) := by
  unfold shl
  rw [show min ((L : Int).toNat) (IntKind.i64.bits) = L by simp [IntKind.bits]; omega, i64w]
theorem shr_is (w L : Nat) (h : L ≤ 62) : shr .i64 (w : Int) (L : Int) = ((w / 2 ^ L : Nat) : Int) := by
  unfold shr
  rw [show min ((L : Int).toNat) (IntKind.i64.bits) = L by simp [IntKind.bits]; omega]
  simp
theorem smod_of_mod (v : Int) (C : Nat) : smod (v % 2 ^ C) C = smod v C := by
  unfold smod
  rw [Int.add_emod (v % 2 ^ C), Int.emod_emod_of_dvd v (Int.dvd_refl _), ← Int.add_emod]
theorem smod_diff (v : Int) (C : Nat) (h1 : 1 ≤ C) (h : C ≤ 64) : Int.tmod (wrap64 (smod v C - v)) (2 ^ (C - 1)) = 0 := by
  refine Int.tmod_eq_zero_of_dvd ?_
  have hs := ipow_split C h1
  have hd : ((2 : Int) ^ (C - 1)) ∣ 18446744073709551616 := by
    refine ⟨2 ^ (65 - C), ?_⟩
    rw [← Int.pow_add, show C - 1 + (65 - C) = 64 by omega]; rfl
  have h2 : ((2 : Int) ^ (C - 1)) ∣ smod v C - v := by
    unfold smod
    have h3 := Int.emod_add_mul_ediv (v + 2 ^ (C - 1)) (2 ^ C)
    refine ⟨-(2 * ((v + 2 ^ (C - 1)) / 2 ^ C)), ?_⟩
    have h4 : (v + 2 ^ (C - 1)) % 2 ^ C - 2 ^ (C - 1) - v = -(2 ^ C * ((v + 2 ^ (C - 1)) / 2 ^ C)) := by omega
    rw [h4]
    generalize (v + 2 ^ (C - 1)) / 2 ^ C = q
    rw [hs]
    grind
  obtain ⟨e, he⟩ := hd
  obtain ⟨d, hd⟩ := h2
  obtain ⟨q, hq⟩ : ∃ q, wrap64 (smod v C - v) = (smod v C - v) + 18446744073709551616 * q := by
    unfold wrap64
    exact ⟨-((smod v C - v + 9223372036854775808) / 18446744073709551616), by omega⟩
  rw [hq, hd, he]
  exact ⟨d + e * q, by grind⟩
theorem pow32 (C : Nat) (h : C ≤ 32) : 2 ^ C ≤ 4294967296 := by
  have := Nat.pow_le_pow_right (show 0 < 2 by decide) h
  rw [show (2 : Nat) ^ 32 = 4294967296 by decide] at this
  exact this
theorem pn_lt (w : Nat) (v : Int) (L C : Nat) (hw : w < 4294967296) (h : L + C ≤ 32) : pn w ((v % 18446744073709551616).toNat % 2 ^ C) (2 ^ L) (2 ^ C) < 4294967296 := by
  rw [← pbit_nat w v L C hw h]
  exact ob_lt _ 32
theorem tail (w L C : Nat) (v : Int) (hw : w < 4294967296) (h1 : 1 ≤ C) (h : L + C ≤ 32) (P F G : Nat) (hP : P = pn w G (2 ^ L) (2 ^ C)) (hF : F = w / 2 ^ L % 2 ^ C) (hG : G < 2 ^ C) (hPl : P < 4294967296) :
    (wrap64 ((P : Int) - (w : Int))) = (shl .i64 (wrap64 ((G : Int) - (F : Int))) (L : Int)) := by
  have hc := pow32 C (by omega)
  have hFl : F < 2 ^ C := by rw [hF]; exact Nat.mod_lt _ (Nat.two_pow_pos C)
  rw [shl_is _ L (by omega), w64_id (n := (G : Int) - (F : Int)) (by omega) (by omega)]
  have hd := pn_diff w G (2 ^ L) (2 ^ C)
  rw [← hP, ← hF] at hd
  rw [hd]
  simp
theorem FnFields : laws_FnFields.Pure := by
  intro l0 l1 m0 z0 w0 m1 z1 w1
  have b0 := bytesIn_wf w0
  have b1 := bytesIn_wf w1
  refine ⟨1, ?_⟩
  unfold laws_FnFields.f
  by_cases c0 : (l0.length : Int) > 1048576
  · rw [if_pos c0, laws_FnFields.j0, if_pos rfl]
  · rw [if_neg c0, laws_FnFields.j0]
    by_cases c1 : (l1.length : Int) > 1048576
    · rw [if_pos (by simpa using c1)]
    · rw [if_neg (by simpa using c1)]
      obtain ⟨w, hw, hw0, hw1⟩ := wordDrawn_is b0 (by omega)
      rw [hw]
      simp only [Option.bind_some]
      obtain ⟨v, hv, v0, v1⟩ := numberOf_is b1 (by omega)
      rw [hv]
      simp only [Option.bind_some]
      obtain ⟨L, hL, L0, L1⟩ := at_is b1 (by omega) 0 32 (by omega) (by omega) (by omega) (by omega)
      rw [hL]
      simp only [Option.bind_some]
      rw [w64_id (n := 32 - L) (by omega) (by omega)]
      obtain ⟨z, hz, z0, z1⟩ := at_is b1 (by omega) 1 (32 - L) (by omega) (by omega) (by omega) (by omega)
      rw [hz]
      simp only [Option.bind_some]
      rw [w64_id (n := 1 + z) (by omega) (by omega)]
      obtain ⟨w, rfl⟩ := Int.eq_ofNat_of_zero_le hw0
      obtain ⟨L, rfl⟩ := Int.eq_ofNat_of_zero_le L0
      obtain ⟨C, hC⟩ := Int.eq_ofNat_of_zero_le (show 0 ≤ 1 + z by omega)
      rw [hC]
      have hC1 : 1 ≤ C := by omega
      have hLC : L + C ≤ 32 := by omega
      have hwl : w < 4294967296 := by omega
      have hF : w / 2 ^ L % 2 ^ C < 2 ^ C := Nat.mod_lt _ (Nat.two_pow_pos C)
      have hp := pow32 C (by omega)
      have hP := pn_lt w v L C hwl hLC
      have hG : (v % 18446744073709551616).toNat % 2 ^ C < 2 ^ C := Nat.mod_lt _ (Nat.two_pow_pos C)
      have t1 := tail w L C v hwl hC1 hLC _ _ _ rfl rfl hG hP
      have p1 := fieldN w L C hwl hC1 hLC
      have p2 := putN w L C v hwl hC1 hLC
      have p3 := fieldN _ L C hP hC1 hLC
      rw [pn_field w _ (2 ^ L) (2 ^ C) (Nat.two_pow_pos L) hG] at p3
      have p4 := putN _ L C ((w / 2 ^ L % 2 ^ C : Nat) : Int) hP hC1 hLC
      have e4 : ((((w / 2 ^ L % 2 ^ C : Nat) : Int) % 18446744073709551616).toNat % 2 ^ C) = w / 2 ^ L % 2 ^ C := by
        generalize w / 2 ^ L % 2 ^ C = F at *
        rw [show ((F : Int) % 18446744073709551616).toNat = F by omega]
        exact Nat.mod_eq_of_lt hF
      rw [e4, pn_back w _ (2 ^ L) (2 ^ C) (Nat.two_pow_pos L) hG] at p4
      have p5 := signN v C hC1 (by omega)
      have p6 := signN (((v % 18446744073709551616).toNat % 2 ^ C : Nat) : Int) C hC1 (by omega)
      rw [toNat_mod v C (by omega), smod_of_mod] at p6
      rw [toNat_mod v C (by omega)] at p3
      rw [toNat_mod v C (by omega)] at t1
      have d1 := shr_is w L (by omega)
      have d2 := shl_one C (by omega)
      have d3 := shl_one (C - 1) (by omega)
      have d4 := smod_diff v C hC1 (by omega)
      have d5 : Int.tmod ((w / 2 ^ L : Nat) : Int) (2 ^ C) = ((w / 2 ^ L % 2 ^ C : Nat) : Int) := by
        rw [Int.tmod_eq_emod_of_nonneg (Int.natCast_nonneg _)]
        simp
      have u1 : IntKind.u64.wrap (L : Int) = L := u64_id (by omega) (by omega)
      have u2 : IntKind.u64.wrap (C : Int) = C := u64_id (by omega) (by omega)
      have u3 : wrap64 ((C : Int) - 1) = ((C - 1 : Nat) : Int) := by rw [w64_id (by omega) (by omega)]; omega
      have u4 : IntKind.u64.wrap ((C - 1 : Nat) : Int) = ((C - 1 : Nat) : Int) := u64_id (by omega) (by omega)
      rw [p1]
      simp only [Option.bind_some]
      rw [p2]
      simp only [Option.bind_some]
      rw [p3]
      simp only [Option.bind_some]
      rw [p4]
      simp only [Option.bind_some]
      rw [p5]
      simp only [Option.bind_some]
      rw [p6]
      simp only [Option.bind_some]
      rw [u1, u2, u3, u4, d1, d2, d3, d5, t1]
      have q1 := ipow_pos C
      have q2 := ipow_pos (C - 1)
      generalize (2 : Int) ^ C = A at *
      generalize (2 : Int) ^ (C - 1) = B at *
      simp only [if_true]
      rw [if_pos (Int.natCast_nonneg L), if_pos (Int.natCast_nonneg C), if_neg (Int.ne_of_gt q1), if_pos (Int.natCast_nonneg _), if_neg (Int.ne_of_gt q2), if_pos d4]
      simp

end Go.Proofs.Ytbbaggpmhiickaa.Pure
