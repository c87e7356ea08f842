/- InstrOK of the program is InstrOK of the reference, for all instructions. -/
import Derived.Test.YtbbaggpmhiickaaPFnExactInstrOKx4
import Derived.Laws.BitsLemmas
set_option linter.unusedVariables false
set_option linter.unusedSimpArgs false
namespace Go.Proofs.Ytbbaggpmhiickaa.Pure
open Go.RowKit Go.Proofs.Ytbbaggpmhiickaa.PFnExactInstrOK Go.Proofs.YtbbaggpmhiickaaW.PrintWords Go.Proofs.YtbbaggpmhiickaaW.PrintLast Go.Proofs.YtbbaggpmhiickaaW.PrintMore

/-- What the shapes of the operations have in common. -/
def okS (F c f3 f7 : Int) : Bool := decide (1 ≤ F ∧ F ≤ 9 ∧ 0 ≤ c ∧ c ≤ 127 ∧ 0 ≤ f3 ∧ f3 ≤ 7 ∧ 0 ≤ f7 ∧ f7 ≤ 63 ∧ (F = 6 → f7 = 0 ∨ f7 = 32) ∧ (F = 1 ∨ F = 2 ∨ F = 9 → f3 = 0) ∧ (F ≤ 5 → f7 = 0))
def okO (x : Option (Int × Int × Int × Int)) : Bool := x.any fun s => okS s.1 s.2.1 s.2.2.1 s.2.2.2
theorem shape_all2 : ∀ i ∈ List.range' 1 64, (spec_l02Shape.f (i : Int) = impl_shapeOf.f (i : Int) ∧ okO (spec_l02Shape.f (i : Int)) = true) := by decide +kernel
theorem shape_is (op : Int) (h1 : 1 ≤ op) (h2 : op ≤ 64) : ∃ F c f3 f7, spec_l02Shape.f op = some (F, c, f3, f7) ∧ impl_shapeOf.f op = some (F, c, f3, f7) ∧ okS F c f3 f7 = true := by
  obtain ⟨i, rfl⟩ := Int.eq_ofNat_of_zero_le (show 0 ≤ op by omega)
  obtain ⟨e, o⟩ := shape_all2 i (by rw [List.mem_range'_1]; omega)
  rw [← e]
  match hx : spec_l02Shape.f (i : Int), o with
  | some (F, c, f3, f7), o => exact ⟨F, c, f3, f7, rfl, rfl, o⟩

theorem sin_is (a lo hi : Int) : spec_l01In.f a lo hi = some (decide (lo ≤ a) && decide (a ≤ hi)) := by
  unfold spec_l01In.f
  by_cases h : lo ≤ a <;> simp [h]
theorem win_is (a lo hi : Int) : impl_within.f a lo hi = some (decide (lo ≤ a) && decide (a ≤ hi)) := by
  unfold impl_within.f
  by_cases h : lo ≤ a <;> simp [h]
theorem ite_and (p q : Bool) : (if p = true then some q else some false) = some (p && q) := by cases p <;> rfl
def inB (a lo hi : Int) : Bool := decide (lo ≤ a) && decide (a ≤ hi)
/-- The numbers that a form allows. -/
def immB (F i : Int) : Bool :=
  if F = 1 then inB i (-2147483648) 2147479552 && (Int.tmod i 4096 == 0) else if F = 2 then inB i (-1048576) 1048574 && (Int.tmod i 2 == 0) else
  if F = 3 ∨ F = 5 then inB i (-2048) 2047 else if F = 4 then inB i (-4096) 4094 && (Int.tmod i 2 == 0) else if F = 6 then inB i 0 63 else if F = 7 then inB i 0 31 else (i == 0)
def dB (F : Int) : Bool := !(F == 4 || F == 5 || F == 9)
def aB (F : Int) : Bool := !(F == 1 || F == 2 || F == 9)
def bB (F : Int) : Bool := F == 4 || F == 5 || F == 8
def rightB (F d a b i : Int) : Bool := inB d 0 31 && inB a 0 31 && inB b 0 31 && (dB F || d == 0) && (aB F || a == 0) && (bB F || b == 0) && immB F i
theorem forms (F : Int) (h : 1 ≤ F ∧ F ≤ 9) : F = 1 ∨ F = 2 ∨ F = 3 ∨ F = 4 ∨ F = 5 ∨ F = 6 ∨ F = 7 ∨ F = 8 ∨ F = 9 := by omega
theorem j4_is (k : Nat) (F i o d a b : Int) (h : 3 ≤ F ∧ F ≤ 9) : spec_l02Right.j4 (k + 1) F (F == 3 || F == 5) o d a b i = some (immB F i) := by
  rw [spec_l02Right.j4]
  simp only [sin_is, Option.bind_some, ite_and]
  have : F = 3 ∨ F = 4 ∨ F = 5 ∨ F = 6 ∨ F = 7 ∨ F = 8 ∨ F = 9 := by omega
  rcases this with rfl | rfl | rfl | rfl | rfl | rfl | rfl <;> simp [immB, inB]
theorem j3_is (k : Nat) (F i o d a b : Int) (x : Bool) (h : 1 ≤ F ∧ F ≤ 9) : spec_l02Right.j3 (k + 2) F x o d a b i = some (!x && immB F i) := by
  rw [spec_l02Right.j3]
  cases x
  · simp only [Bool.false_eq_true, if_false, sin_is, Option.bind_some, ite_and, Bool.not_false, Bool.true_and]
    by_cases h3 : 3 ≤ F
    · have h4 := j4_is k F i o d a b ⟨h3, h.2⟩
      rw [if_neg (by omega), if_neg (by omega)]
      by_cases c : F = 3
      · rw [if_pos c]
        rw [c] at h4 ⊢
        exact h4
      · rw [if_neg c]
        rw [show (F == 3) = false by simpa using c, Bool.false_or] at h4
        exact h4
    · have : F = 1 ∨ F = 2 := by omega
      rcases this with rfl | rfl <;> simp [immB, inB]
  · simp
theorem j2_is (k : Nat) (F i o d a b : Int) (x : Bool) (h : 1 ≤ F ∧ F ≤ 9) : spec_l02Right.j2 (k + 3) F x o d a b i = some (!x && (bB F || b == 0) && immB F i) := by
  rw [spec_l02Right.j2]
  simp only [j3_is k F i o d a b _ h]
  cases x
  · have he : (b != 0) = !(b == 0) := rfl
    rcases forms F h with rfl | rfl | rfl | rfl | rfl | rfl | rfl | rfl | rfl <;> simp [bB, he]
  · simp
theorem j1_is (k : Nat) (F i o d a b : Int) (x : Bool) (h : 1 ≤ F ∧ F ≤ 9) : spec_l02Right.j1 (k + 4) F x o d a b i = some (!x && (aB F || a == 0) && (bB F || b == 0) && immB F i) := by
  rw [spec_l02Right.j1]
  simp only [j2_is k F i o d a b _ h]
  cases x
  · have he : (a != 0) = !(a == 0) := rfl
    rcases forms F h with rfl | rfl | rfl | rfl | rfl | rfl | rfl | rfl | rfl <;> simp [aB, he]
  · simp
theorem sright_is (k : Nat) (op F c f3 f7 d a b i : Int) (h1 : 1 ≤ op) (h2 : op ≤ 64) (hs : spec_l02Shape.f op = some (F, c, f3, f7)) (h : 1 ≤ F ∧ F ≤ 9) : spec_l02Right.f (k + 5) op d a b i = some (rightB F d a b i) := by
  have hj : ∀ x : Bool, spec_l02Right.j0 (k + 5) x op d a b i = some (!x && (dB F || d == 0) && (aB F || a == 0) && (bB F || b == 0) && immB F i) := by
    intro x
    rw [spec_l02Right.j0]
    simp only [hs, Option.bind_some, j1_is k F i op d a b _ h]
    cases x
    · have he : (d != 0) = !(d == 0) := rfl
      rcases forms F h with rfl | rfl | rfl | rfl | rfl | rfl | rfl | rfl | rfl <;> simp [dB, he]
    · simp
  unfold spec_l02Right.f spec_l02Op.f spec_l02Reg.f
  simp only [sin_is, Option.bind_some, hj]
  rw [show decide (1 ≤ op) = true by simpa using h1, show decide (op ≤ 64) = true by simpa using h2]
  unfold rightB inB
  cases decide (0 ≤ d) && decide (d ≤ 31) <;> cases decide (0 ≤ a) && decide (a ≤ 31) <;> cases decide (0 ≤ b) && decide (b ≤ 31) <;> simp
theorem sright_no (k : Nat) (op d a b i : Int) (h : ¬ (1 ≤ op ∧ op ≤ 64)) : spec_l02Right.f (k + 1) op d a b i = some false := by
  unfold spec_l02Right.f spec_l02Op.f
  simp only [sin_is, Option.bind_some]
  rw [show (decide (1 ≤ op) && decide (op ≤ 64)) = false by simp; omega, spec_l02Right.j0]
  simp
theorem immOK_is (k : Nat) (F i : Int) (h : 1 ≤ F ∧ F ≤ 9) : impl_immOK.f (k + 1) F i = some (immB F i) := by
  unfold impl_immOK.f
  simp only [impl_immOK.j0, win_is, Option.bind_some, ite_and]
  rcases forms F h with rfl | rfl | rfl | rfl | rfl | rfl | rfl | rfl | rfl <;> simp [immB, inB]
theorem fields_is (k : Nat) (F : Int) (h : 1 ≤ F ∧ F ≤ 9) : impl_fields.f (k + 3) F = some (dB F, aB F, bB F) := by
  unfold impl_fields.f
  simp only [impl_fields.j0, impl_fields.j1, impl_fields.j2]
  rcases forms F h with rfl | rfl | rfl | rfl | rfl | rfl | rfl | rfl | rfl <;> simp [dB, aB, bB]
theorem iright_is (k : Nat) (op F c f3 f7 d a b i : Int) (h1 : 1 ≤ op) (h2 : op ≤ 64) (hs : impl_shapeOf.f op = some (F, c, f3, f7)) (h : 1 ≤ F ∧ F ≤ 9) : impl_InstrOK.f (k + 3) op d a b i = some (rightB F d a b i) := by
  unfold impl_InstrOK.f impl_isOp.f impl_isReg.f
  simp only [win_is, Option.bind_some, hs, fields_is k F h, immOK_is (k + 2) F i h]
  rw [show decide (1 ≤ op) = true by simpa using h1, show decide (op ≤ 64) = true by simpa using h2]
  unfold rightB inB
  generalize immB F i = I
  generalize (decide (0 ≤ d) && decide (d ≤ 31)) = D
  generalize (decide (0 ≤ a) && decide (a ≤ 31)) = A
  generalize (decide (0 ≤ b) && decide (b ≤ 31)) = B
  cases D <;> cases A <;> cases B <;> (try (simp; done))
  by_cases hd : d = 0 <;> by_cases ha : a = 0 <;> by_cases hb : b = 0 <;> cases dB F <;> cases aB F <;> cases bB F <;> simp [hd, ha, hb]
theorem iright_no (k : Nat) (op d a b i : Int) (h : ¬ (1 ≤ op ∧ op ≤ 64)) : impl_InstrOK.f k op d a b i = some false := by
  unfold impl_InstrOK.f impl_isOp.f
  simp only [win_is, Option.bind_some]
  rw [show (decide (1 ≤ op) && decide (op ≤ 64)) = false by simp; omega]
  simp

theorem fin_b (r : Bool) : ((some r).bind fun t => (some r).bind fun u => if (u != t) = true then some false else some true) = some true := by simp
theorem FnExactInstrOK : laws_FnExactInstrOK.Pure := by
  intro op d a b i _ _ _ _ _
  refine ⟨5, ?_⟩
  unfold laws_FnExactInstrOK.f laws_toInstr.f spec_InstrOK.f
  simp only [Option.bind_some]
  by_cases h : 1 ≤ op ∧ op ≤ 64
  · obtain ⟨F, c, f3, f7, hs, hi, ho⟩ := shape_is op h.1 h.2
    have hF : 1 ≤ F ∧ F ≤ 9 := by unfold okS at ho; simp at ho; omega
    rw [sright_is 0 op F c f3 f7 d a b i h.1 h.2 hs hF, iright_is 2 op F c f3 f7 d a b i h.1 h.2 hi hF]
    exact fin_b _
  · rw [sright_no 4 op d a b i h, iright_no 5 op d a b i h]
    exact fin_b _

end Go.Proofs.Ytbbaggpmhiickaa.Pure
