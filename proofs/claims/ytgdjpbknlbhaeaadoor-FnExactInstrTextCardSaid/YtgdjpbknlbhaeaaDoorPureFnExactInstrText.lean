/- InstrText of the program is InstrText of the reference, for all instructions. -/
import Derived.Test.YtgdjpbknlbhaeaaDoorPFnExactInstrTextx8
import Derived.Laws.BitsLemmas
set_option linter.unusedVariables false
set_option linter.unusedSimpArgs false
namespace Go.Proofs.YtgdjpbknlbhaeaaDoor.Pure
open Go.RowKit Go.Proofs.YtgdjpbknlbhaeaaDoor.PFnExactInstrText Go.Proofs.YtgdjpbknlbhaeaaDoorW.PrintWords Go.Proofs.YtgdjpbknlbhaeaaDoorW.PrintLast Go.Proofs.YtgdjpbknlbhaeaaDoorW.PrintMore

theorem w64_id {n : Int} (h0 : -9223372036854775808 ≤ n) (h1 : n ≤ 9223372036854775807) : wrap64 n = n := by unfold wrap64; omega
/-- Bit i of a number's two's complement. -/
def tb (v : Int) (i : Nat) : Bool := (v % 18446744073709551616).toNat.testBit i
/-- What the shapes of the operations have in common. -/
def okS (F c f3 f7 : Int) : Bool := decide (1 ≤ F ∧ F ≤ 9 ∧ 0 ≤ c ∧ c ≤ 127 ∧ 0 ≤ f3 ∧ f3 ≤ 7 ∧ 0 ≤ f7 ∧ f7 ≤ 63 ∧ (F = 6 → f7 = 0 ∨ f7 = 32) ∧ (F = 1 ∨ F = 2 ∨ F = 9 → f3 = 0) ∧ (F ≤ 5 → f7 = 0))
def okO (x : Option (Int × Int × Int × Int)) : Bool := x.any fun s => okS s.1 s.2.1 s.2.2.1 s.2.2.2
theorem shape_all2 : ∀ i ∈ List.range' 1 64, (spec_l02Shape.f (i : Int) = impl_shapeOf.f (i : Int) ∧ okO (spec_l02Shape.f (i : Int)) = true) := by decide +kernel
theorem shape_is (op : Int) (h1 : 1 ≤ op) (h2 : op ≤ 64) : ∃ F c f3 f7, spec_l02Shape.f op = some (F, c, f3, f7) ∧ impl_shapeOf.f op = some (F, c, f3, f7) ∧ okS F c f3 f7 = true := by
  obtain ⟨i, rfl⟩ := Int.eq_ofNat_of_zero_le (show 0 ≤ op by omega)
  obtain ⟨e, o⟩ := shape_all2 i (by rw [List.mem_range'_1]; omega)
  rw [← e]
  match hx : spec_l02Shape.f (i : Int), o with
  | some (F, c, f3, f7), o => exact ⟨F, c, f3, f7, rfl, rfl, o⟩

theorem sin_is (a lo hi : Int) : spec_l01In.f a lo hi = some (decide (lo ≤ a) && decide (a ≤ hi)) := by
  unfold spec_l01In.f
  by_cases h : lo ≤ a <;> simp [h]
theorem win_is (a lo hi : Int) : impl_within.f a lo hi = some (decide (lo ≤ a) && decide (a ≤ hi)) := by
  unfold impl_within.f
  by_cases h : lo ≤ a <;> simp [h]
theorem ite_and (p q : Bool) : (if p = true then some q else some false) = some (p && q) := by cases p <;> rfl
def inB (a lo hi : Int) : Bool := decide (lo ≤ a) && decide (a ≤ hi)
/-- The numbers that a form allows. -/
def immB (F i : Int) : Bool :=
  if F = 1 then inB i (-2147483648) 2147479552 && (Int.tmod i 4096 == 0) else if F = 2 then inB i (-1048576) 1048574 && (Int.tmod i 2 == 0) else
  if F = 3 ∨ F = 5 then inB i (-2048) 2047 else if F = 4 then inB i (-4096) 4094 && (Int.tmod i 2 == 0) else if F = 6 then inB i 0 63 else if F = 7 then inB i 0 31 else (i == 0)
def dB (F : Int) : Bool := !(F == 4 || F == 5 || F == 9)
def aB (F : Int) : Bool := !(F == 1 || F == 2 || F == 9)
def bB (F : Int) : Bool := F == 4 || F == 5 || F == 8
def rightB (F d a b i : Int) : Bool := inB d 0 31 && inB a 0 31 && inB b 0 31 && (dB F || d == 0) && (aB F || a == 0) && (bB F || b == 0) && immB F i
theorem forms (F : Int) (h : 1 ≤ F ∧ F ≤ 9) : F = 1 ∨ F = 2 ∨ F = 3 ∨ F = 4 ∨ F = 5 ∨ F = 6 ∨ F = 7 ∨ F = 8 ∨ F = 9 := by omega
theorem j4_is (k : Nat) (F i o d a b : Int) (h : 3 ≤ F ∧ F ≤ 9) : spec_l02Right.j4 (k + 1) F (F == 3 || F == 5) o d a b i = some (immB F i) := by
  rw [spec_l02Right.j4]
  simp only [sin_is, Option.bind_some, ite_and]
  have : F = 3 ∨ F = 4 ∨ F = 5 ∨ F = 6 ∨ F = 7 ∨ F = 8 ∨ F = 9 := by omega
  rcases this with rfl | rfl | rfl | rfl | rfl | rfl | rfl <;> simp [immB, inB]
theorem j3_is (k : Nat) (F i o d a b : Int) (x : Bool) (h : 1 ≤ F ∧ F ≤ 9) : spec_l02Right.j3 (k + 2) F x o d a b i = some (!x && immB F i) := by
  rw [spec_l02Right.j3]
  cases x
  · simp only [Bool.false_eq_true, if_false, sin_is, Option.bind_some, ite_and, Bool.not_false, Bool.true_and]
    by_cases h3 : 3 ≤ F
    · have h4 := j4_is k F i o d a b ⟨h3, h.2⟩
      rw [if_neg (by omega), if_neg (by omega)]
      by_cases c : F = 3
      · rw [if_pos c]
        rw [c] at h4 ⊢
        exact h4
      · rw [if_neg c]
        rw [show (F == 3) = false by simpa using c, Bool.false_or] at h4
        exact h4
    · have : F = 1 ∨ F = 2 := by omega
      rcases this with rfl | rfl <;> simp [immB, inB]
  · simp
theorem j2_is (k : Nat) (F i o d a b : Int) (x : Bool) (h : 1 ≤ F ∧ F ≤ 9) : spec_l02Right.j2 (k + 3) F x o d a b i = some (!x && (bB F || b == 0) && immB F i) := by
  rw [spec_l02Right.j2]
  simp only [j3_is k F i o d a b _ h]
  cases x
  · have he : (b != 0) = !(b == 0) := rfl
    rcases forms F h with rfl | rfl | rfl | rfl | rfl | rfl | rfl | rfl | rfl <;> simp [bB, he]
  · simp
theorem j1_is (k : Nat) (F i o d a b : Int) (x : Bool) (h : 1 ≤ F ∧ F ≤ 9) : spec_l02Right.j1 (k + 4) F x o d a b i = some (!x && (aB F || a == 0) && (bB F || b == 0) && immB F i) := by
  rw [spec_l02Right.j1]
  simp only [j2_is k F i o d a b _ h]
  cases x
  · have he : (a != 0) = !(a == 0) := rfl
    rcases forms F h with rfl | rfl | rfl | rfl | rfl | rfl | rfl | rfl | rfl <;> simp [aB, he]
  · simp
theorem sright_is (k : Nat) (op F c f3 f7 d a b i : Int) (h1 : 1 ≤ op) (h2 : op ≤ 64) (hs : spec_l02Shape.f op = some (F, c, f3, f7)) (h : 1 ≤ F ∧ F ≤ 9) : spec_l02Right.f (k + 5) op d a b i = some (rightB F d a b i) := by
  have hj : ∀ x : Bool, spec_l02Right.j0 (k + 5) x op d a b i = some (!x && (dB F || d == 0) && (aB F || a == 0) && (bB F || b == 0) && immB F i) := by
    intro x
    rw [spec_l02Right.j0]
    simp only [hs, Option.bind_some, j1_is k F i op d a b _ h]
    cases x
    · have he : (d != 0) = !(d == 0) := rfl
      rcases forms F h with rfl | rfl | rfl | rfl | rfl | rfl | rfl | rfl | rfl <;> simp [dB, he]
    · simp
  unfold spec_l02Right.f spec_l02Op.f spec_l02Reg.f
  simp only [sin_is, Option.bind_some, hj]
  rw [show decide (1 ≤ op) = true by simpa using h1, show decide (op ≤ 64) = true by simpa using h2]
  unfold rightB inB
  cases decide (0 ≤ d) && decide (d ≤ 31) <;> cases decide (0 ≤ a) && decide (a ≤ 31) <;> cases decide (0 ≤ b) && decide (b ≤ 31) <;> simp
theorem sright_no (k : Nat) (op d a b i : Int) (h : ¬ (1 ≤ op ∧ op ≤ 64)) : spec_l02Right.f (k + 1) op d a b i = some false := by
  unfold spec_l02Right.f spec_l02Op.f
  simp only [sin_is, Option.bind_some]
  rw [show (decide (1 ≤ op) && decide (op ≤ 64)) = false by simp; omega, spec_l02Right.j0]
  simp
theorem immOK_is (k : Nat) (F i : Int) (h : 1 ≤ F ∧ F ≤ 9) : impl_immOK.f (k + 1) F i = some (immB F i) := by
  unfold impl_immOK.f
  simp only [impl_immOK.j0, win_is, Option.bind_some, ite_and]
  rcases forms F h with rfl | rfl | rfl | rfl | rfl | rfl | rfl | rfl | rfl <;> simp [immB, inB]
theorem fields_is (k : Nat) (F : Int) (h : 1 ≤ F ∧ F ≤ 9) : impl_fields.f (k + 3) F = some (dB F, aB F, bB F) := by
  unfold impl_fields.f
  simp only [impl_fields.j0, impl_fields.j1, impl_fields.j2]
  rcases forms F h with rfl | rfl | rfl | rfl | rfl | rfl | rfl | rfl | rfl <;> simp [dB, aB, bB]
theorem iright_is (k : Nat) (op F c f3 f7 d a b i : Int) (h1 : 1 ≤ op) (h2 : op ≤ 64) (hs : impl_shapeOf.f op = some (F, c, f3, f7)) (h : 1 ≤ F ∧ F ≤ 9) : impl_InstrOK.f (k + 3) op d a b i = some (rightB F d a b i) := by
  unfold impl_InstrOK.f impl_isOp.f impl_isReg.f
  simp only [win_is, Option.bind_some, hs, fields_is k F h, immOK_is (k + 2) F i h]
  rw [show decide (1 ≤ op) = true by simpa using h1, show decide (op ≤ 64) = true by simpa using h2]
  unfold rightB inB
  generalize immB F i = I
  generalize (decide (0 ≤ d) && decide (d ≤ 31)) = D
  generalize (decide (0 ≤ a) && decide (a ≤ 31)) = A
  generalize (decide (0 ≤ b) && decide (b ≤ 31)) = B
  cases D <;> cases A <;> cases B <;> (try (simp; done))
  by_cases hd : d = 0 <;> by_cases ha : a = 0 <;> by_cases hb : b = 0 <;> cases dB F <;> cases aB F <;> cases bB F <;> simp [hd, ha, hb]
theorem iright_no (k : Nat) (op d a b i : Int) (h : ¬ (1 ≤ op ∧ op ≤ 64)) : impl_InstrOK.f k op d a b i = some false := by
  unfold impl_InstrOK.f impl_isOp.f
  simp only [win_is, Option.bind_some]
  rw [show (decide (1 ≤ op) && decide (op ≤ 64)) = false by simp; omega]
  simp

theorem ops_is : impl_ops.f = some impl_ops.tab := rfl
theorem ops_len : impl_ops.tab.length = 65 := rfl
theorem rdop (i : Nat) : rd_T59 impl_ops.tab (i : Int) = impl_ops.tab.getD i z59 := rfl

def onames : List ByteArray := (spec_l02Names.f).getD []
theorem onames_is : spec_l02Names.f = some onames := rfl
theorem onames_len : onames.length = 64 := rfl
theorem op_name (i : Nat) (h0 : 1 ≤ i) (h1 : i ≤ 64) : (rd_T59 impl_ops.tab (i : Int)).f0 = rdOf ByteArray.empty onames ((i : Int) - 1) := by
  have e : impl_ops.tab.map (fun x => x.f0) = ⟨#[]⟩ :: onames := rfl
  have hl := ops_len
  have hn := onames_len
  rw [rdop]
  unfold rdOf
  rw [show ((i : Int) - 1).toNat = i - 1 by omega, List.getD_eq_getElem?_getD, List.getD_eq_getElem?_getD]
  have h2 : (impl_ops.tab.map (fun x => x.f0))[i]? = (⟨#[]⟩ :: onames : List ByteArray)[i]? := by rw [e]
  obtain ⟨j, rfl⟩ : ∃ j, i = j + 1 := ⟨i - 1, by omega⟩
  rw [List.getElem?_cons_succ, List.getElem?_map, List.getElem?_eq_getElem (show j + 1 < impl_ops.tab.length by omega)] at h2
  rw [List.getElem?_eq_getElem (show j + 1 < impl_ops.tab.length by omega), show j + 1 - 1 = j by omega, ← h2]
  rfl

theorem cat_mk (a b : List UInt8) : (⟨a.toArray⟩ : ByteArray) ++ ⟨b.toArray⟩ = ⟨(a ++ b).toArray⟩ := by
  apply ByteArray.ext
  simp
/-- The digits as a text. -/
def dgt (u : Nat) : ByteArray := ⟨(Go.Lib.decDigits u).toArray⟩
theorem son_one (u : Nat) (h : u < 10) : strOfNums [(wrap64 (48 + (u : Int))) % 256] = ⟨[UInt8.ofNat (48 + u)].toArray⟩ := by
  have e : (wrap64 (48 + (u : Int))) % 256 = ((48 + u : Nat) : Int) := by
    rw [w64_id (by omega) (by omega)]
    omega
  rw [e]
  unfold strOfNums
  simp only [List.map_cons, List.map_nil, Int.toNat_natCast]
theorem digits_is : ∀ (n u k : Nat), u < 10 ^ (n + 1) → n ≤ 15 → n < k → spec_l00Digits.f k (u : Int) = some (dgt u) ∧ (Go.Lib.decDigits u).length ≤ n + 1
  | n, u, k, hu, hn, hk => by
    obtain ⟨k, rfl⟩ : ∃ m, k = m + 1 := ⟨k - 1, by omega⟩
    have hb : u < 10 ^ 16 := Nat.lt_of_lt_of_le hu (Nat.pow_le_pow_right (by decide) (by omega))
    by_cases h : u < 10
    · rw [spec_l00Digits.f, if_neg (by omega), if_neg (by omega), if_pos (by omega), son_one u h]
      unfold dgt
      rw [Go.Lib.decDigits_one h]
      exact ⟨rfl, by simp⟩
    · cases n with
      | zero => exact absurd hu (by omega)
      | succ n =>
        have h1 : u / 10 < 10 ^ (n + 1) := by
          rw [Nat.pow_succ] at hu
          omega
        obtain ⟨ih, il⟩ := digits_is n (u / 10) k h1 (by omega) (by omega)
        have e1 : wrap64 (Int.tdiv (u : Int) 10) = ((u / 10 : Nat) : Int) := by
          rw [Int.tdiv_eq_ediv_of_nonneg (by omega), w64_id (by omega) (by omega)]
          omega
        have e2 : Int.tmod (u : Int) 10 = ((u % 10 : Nat) : Int) := by
          rw [Int.tmod_eq_emod_of_nonneg (by omega)]
          omega
        have e3 : Go.Lib.decDigits u = Go.Lib.decDigits (u / 10) ++ [UInt8.ofNat (48 + u % 10)] := by
          rw [Go.Lib.decDigits, dif_neg h]
        have s1 : (dgt (u / 10)).size ≤ n + 1 := by
          unfold dgt
          simpa [ByteArray.size] using il
        refine ⟨?_, by rw [e3, List.length_append]; simp; omega⟩
        rw [spec_l00Digits.f, if_neg (by omega), if_neg (by omega), if_neg (by omega), e1, e2, ih, Option.bind_some, Option.bind_some, son_one _ (by omega)]
        have s2 : (⟨[UInt8.ofNat (48 + u % 10)].toArray⟩ : ByteArray).size = 1 := rfl
        rw [if_pos (by omega)]
        unfold dgt
        rw [cat_mk, e3]
/-- A number as its text. -/
def itx (i : Int) : ByteArray := ⟨(Go.Lib.itoa i).toArray⟩
theorem num_is (i : Int) (k : Nat) (h0 : -9999999999 ≤ i) (h1 : i ≤ 9999999999) (hk : 12 < k) : spec_l00Digits.f k i = some (itx i) ∧ impl_intText.f i = some (itx i) ∧ (itx i).size ≤ 20 := by
  have hi : impl_intText.f i = some (itx i) := by
    unfold impl_intText.f itx
    rw [if_pos (by omega), if_pos (by omega)]
  by_cases h : i < 0
  · obtain ⟨k, rfl⟩ : ∃ m, k = m + 1 := ⟨k - 1, by omega⟩
    obtain ⟨hd, hl⟩ := digits_is 10 i.natAbs k (by have : (10 : Nat) ^ (10 + 1) = 100000000000 := rfl; omega) (by omega) (by omega)
    have e : wrap64 (-i) = (i.natAbs : Int) := by
      rw [w64_id (by omega) (by omega)]
      omega
    have s : (dgt i.natAbs).size ≤ 11 := by
      unfold dgt
      simpa [ByteArray.size] using hl
    have ei : itx i = (⟨#[45]⟩ : ByteArray) ++ dgt i.natAbs := by
      unfold itx dgt Go.Lib.itoa
      rw [if_pos h, show (⟨#[45]⟩ : ByteArray) = ⟨[45].toArray⟩ from rfl, cat_mk]
      rfl
    refine ⟨?_, hi, ?_⟩
    · rw [spec_l00Digits.f, if_neg (by omega), if_pos h, e, hd, Option.bind_some, if_pos (by omega), ei]
    · rw [ei, ByteArray.size_append]
      have : (⟨#[45]⟩ : ByteArray).size = 1 := rfl
      omega
  · obtain ⟨u, rfl⟩ := Int.eq_ofNat_of_zero_le (show 0 ≤ i by omega)
    obtain ⟨hd, hl⟩ := digits_is 10 u k (by have : (10 : Nat) ^ (10 + 1) = 100000000000 := rfl; omega) (by omega) (by omega)
    have ei : itx (u : Int) = dgt u := by
      unfold itx dgt Go.Lib.itoa
      rw [if_neg h]
      rfl
    refine ⟨by rw [hd, ei], hi, ?_⟩
    rw [ei]
    have s : (dgt u).size ≤ 11 := by
      unfold dgt
      simpa [ByteArray.size] using hl
    omega
theorem reg_is (i : Int) (k : Nat) (h0 : 0 ≤ i) (h1 : i ≤ 31) (hk : 12 < k) : ∃ t, spec_l02R.f k i = some t ∧ impl_instrText_1.f i = some t ∧ t.size ≤ 40 := by
  obtain ⟨a, b, s⟩ := num_is i k (by omega) (by omega) hk
  refine ⟨(⟨#[32, 120]⟩ : ByteArray) ++ itx i, ?_, ?_, ?_⟩
  · unfold spec_l02R.f
    rw [a, Option.bind_some, if_pos (by omega)]
  · unfold impl_instrText_1.f
    rw [b, Option.bind_some, if_pos (by omega)]
  · rw [ByteArray.size_append]
    have : (⟨#[32, 120]⟩ : ByteArray).size = 2 := rfl
    omega
theorem both {α : Type} {E : Option α} (h : ∃ t, E = some t) : ∃ t, E = some t ∧ E = some t := by
  obtain ⟨t, ht⟩ := h
  exact ⟨t, ht, ht⟩
theorem text_j1 (k : Nat) (nm im td ta tb : ByteArray) (F o d a b i : Int) (x : Bool) (hd : spec_l02R.f k d = some td) (hd' : impl_instrText_1.f d = some td) (ha : spec_l02R.f k a = some ta) (ha' : impl_instrText_1.f a = some ta) (hb : spec_l02R.f k b = some tb) (hb' : impl_instrText_1.f b = some tb)
    (sn : nm.size ≤ 40) (si : im.size ≤ 40) (sd : td.size ≤ 40) (sa : ta.size ≤ 40) (sb : tb.size ≤ 40) :
    ∃ t, spec_l02Text.j1 (k + 1) nm im F x o d a b i = some t ∧ impl_instrText.j1 (k + 1) nm im F x o d a b i = some t := by
  rw [spec_l02Text.j1, impl_instrText.j1]
  simp only [hd, hd', ha, ha', hb, hb', Option.bind_some]
  refine both ?_
  repeat' (first | rw [if_pos (by (try simp only [ByteArray.size_append]); omega)] | split)
  all_goals exact ⟨_, rfl⟩
theorem text_j0 (k : Nat) (nm im td ta tb : ByteArray) (F o d a b i : Int) (x : Bool) (hd : ∀ q, 12 < q → spec_l02R.f q d = some td) (hd' : impl_instrText_1.f d = some td) (ha : ∀ q, 12 < q → spec_l02R.f q a = some ta) (ha' : impl_instrText_1.f a = some ta) (hb : ∀ q, 12 < q → spec_l02R.f q b = some tb) (hb' : impl_instrText_1.f b = some tb)
    (sn : nm.size ≤ 40) (si : im.size ≤ 40) (sd : td.size ≤ 40) (sa : ta.size ≤ 40) (sb : tb.size ≤ 40) (hk : 12 < k) :
    ∃ t, spec_l02Text.j0 (k + 2) nm im F x o d a b i = some t ∧ impl_instrText.j0 (k + 2) nm im F x o d a b i = some t := by
  rw [spec_l02Text.j0, impl_instrText.j0]
  have hj := fun y => text_j1 k nm im td ta tb F o d a b i y (hd k hk) hd' (ha k hk) ha' (hb k hk) hb' sn si sd sa sb
  cases x
  · simp only [Bool.false_eq_true, if_false]
    split
    · exact hj _
    · split
      · exact hj _
      · exact hj _
  · rw [if_pos rfl, if_pos rfl, hd (k + 1) (by omega), hd', Option.bind_some]
    refine both ?_
    repeat' (first | rw [if_pos (by (try simp only [ByteArray.size_append]); omega)])
    exact ⟨_, rfl⟩
theorem onames_short : onames.all (fun x => decide (x.size ≤ 10)) = true := rfl
theorem name_short (i : Int) : (rdOf ByteArray.empty onames i).size ≤ 40 := by
  unfold rdOf
  rw [List.getD_eq_getElem?_getD]
  cases h : onames[i.toNat]? with
  | none => exact Nat.zero_le _
  | some x =>
    have := List.all_eq_true.mp onames_short x (List.mem_of_getElem? h)
    have := of_decide_eq_true this
    show x.size ≤ 40
    omega
theorem imm_small (F i : Int) (h : immB F i = true) : -2147483648 ≤ i ∧ i ≤ 2147483647 := by
  unfold immB inB at h
  repeat' split at h
  all_goals simp at h
  all_goals omega
theorem text_is (op F c f3 f7 d a b i : Int) (k : Nat) (h1 : 1 ≤ op) (h2 : op ≤ 64) (hs : spec_l02Shape.f op = some (F, c, f3, f7)) (hi : impl_shapeOf.f op = some (F, c, f3, f7)) (hr : rightB F d a b i = true) (hk : 12 < k) :
    ∃ t, spec_l02Text.f (k + 2) op d a b i = some t ∧ impl_instrText.f (k + 2) op d a b i = some t := by
  unfold rightB at hr
  simp only [Bool.and_eq_true] at hr
  obtain ⟨⟨⟨⟨⟨⟨rd, ra⟩, rb⟩, _⟩, _⟩, _⟩, ri⟩ := hr
  unfold inB at rd ra rb
  simp only [Bool.and_eq_true, decide_eq_true_eq] at rd ra rb
  obtain ⟨i0, i1⟩ := imm_small F i ri
  obtain ⟨td, dS, dI, sd⟩ := reg_is d 13 rd.1 rd.2 (by omega)
  obtain ⟨ta, aS, aI, sa⟩ := reg_is a 13 ra.1 ra.2 (by omega)
  obtain ⟨tb, bS, bI, sb⟩ := reg_is b 13 rb.1 rb.2 (by omega)
  have up : ∀ (r : Int) (t : ByteArray), 0 ≤ r → r ≤ 31 → impl_instrText_1.f r = some t → ∀ q, 12 < q → spec_l02R.f q r = some t := fun r t r0 r1 hI q hq => by
    obtain ⟨t', x, y, _⟩ := reg_is r q r0 r1 hq
    rw [x, ← y, hI]
  obtain ⟨nS, nI, ns⟩ := num_is i (k + 2) (by omega) (by omega) (by omega)
  obtain ⟨n, rfl⟩ := Int.eq_ofNat_of_zero_le (show 0 ≤ op by omega)
  have en := op_name n (by omega) (by omega)
  have hl := ops_len
  have hn := onames_len
  have s1 : (⟨#[32]⟩ : ByteArray).size = 1 := rfl
  have sI : ((⟨#[32]⟩ : ByteArray) ++ itx i).size ≤ 40 := by
    rw [ByteArray.size_append]
    omega
  have hj := fun x => text_j0 k (rdOf ByteArray.empty onames ((n : Int) - 1)) ((⟨#[32]⟩ : ByteArray) ++ itx i) td ta tb F n d a b i x (up d td rd.1 rd.2 dI) dI (up a ta ra.1 ra.2 aI) aI (up b tb rb.1 rb.2 bI) bI (name_short _) sI sd sa sb hk
  unfold spec_l02Text.f impl_instrText.f
  rw [onames_is, ops_is, Option.bind_some, Option.bind_some, w64_id (n := (n : Int) - 1) (by omega) (by omega), if_pos (by omega), if_pos (by omega), if_pos (by omega), if_pos (by omega), nS, nI, Option.bind_some, Option.bind_some, if_pos (by omega), if_pos (by omega), hs, hi, Option.bind_some, Option.bind_some, en]
  dsimp only
  split
  · exact hj _
  · exact hj _
theorem FnExactInstrText : laws_FnExactInstrText.Pure := by
  intro op d a b i _ _ _ _ _
  refine ⟨20, ?_⟩
  unfold laws_FnExactInstrText.f laws_toInstr.f spec_InstrText.f impl_InstrText.f
  simp only [Option.bind_some]
  by_cases h : 1 ≤ op ∧ op ≤ 64
  · obtain ⟨F, c, f3, f7, hs, hi, ho⟩ := shape_is op h.1 h.2
    have hF : 1 ≤ F ∧ F ≤ 9 := by unfold okS at ho; simp at ho; omega
    rw [sright_is 15 op F c f3 f7 d a b i h.1 h.2 hs hF, iright_is 17 op F c f3 f7 d a b i h.1 h.2 hi hF, Option.bind_some, Option.bind_some]
    cases hr : rightB F d a b i with
    | false => simp
    | true =>
      obtain ⟨t, tS, tI⟩ := text_is op F c f3 f7 d a b i 18 h.1 h.2 hs hi hr (by omega)
      rw [if_pos rfl, if_pos rfl, tS, tI]
      simp
  · rw [sright_no 19 op d a b i h, iright_no 20 op d a b i h]
    simp

end Go.Proofs.YtgdjpbknlbhaeaaDoor.Pure
