/- OpOf of the program is OpOf of the reference, for all texts. -/
import Derived.Test.YtbhempnfbginoaaPFnExactOpOfx1
import Derived.Laws.BitsLemmas
set_option linter.unusedVariables false
set_option linter.unusedSimpArgs false
namespace Go.Proofs.Ytbhempnfbginoaa.Pure
open Go.RowKit Go.Proofs.Ytbhempnfbginoaa.PFnExactOpOf Go.Proofs.YtbhempnfbginoaaW.PrintWords Go.Proofs.YtbhempnfbginoaaW.PrintLast Go.Proofs.YtbhempnfbginoaaW.PrintMore

theorem w64_id {n : Int} (h0 : -9223372036854775808 ≤ n) (h1 : n ≤ 9223372036854775807) : wrap64 n = n := by unfold wrap64; omega
/-- The place of the first text that is a, counted from i, or d. -/
def ixD (d : Int) (a : ByteArray) : List ByteArray → Int → Int
  | [], _ => d
  | x :: r, i => if x.toList = a.toList then i else ixD d a r (i + 1)
theorem rdOf_at (l : List ByteArray) (i : Nat) (h : i < l.length) : rdOf ByteArray.empty l (i : Int) = l[i] := by
  unfold rdOf
  simp [List.getD_eq_getElem?_getD, List.getElem?_eq_getElem h]
theorem ixD_far (d : Int) (a : ByteArray) : ∀ (l : List ByteArray) (i : Int), (∀ x ∈ l, x.size ≠ a.size) → ixD d a l i = d
  | [], _, _ => rfl
  | x :: r, i, h => by
    rw [ixD, if_neg, ixD_far d a r (i + 1) (fun y hy => h y (List.mem_cons_of_mem _ hy))]
    intro e
    have h1 := h x List.mem_cons_self
    rw [Go.ByteArray.toList_eq, Go.ByteArray.toList_eq] at e
    have h2 := congrArg List.length e
    simp at h2
    exact h1 h2

theorem ops_is : impl_ops.f = some impl_ops.tab := rfl
def onames : List ByteArray := (spec_l02Names.f).getD []
theorem onames_is : spec_l02Names.f = some onames := rfl
theorem onames_len : onames.length = 64 := rfl
theorem opIndex_l (l : List ByteArray) (a : ByteArray) (hl : l.length ≤ 1000000) (d : Nat) : ∀ (i k : Nat), i + d = l.length → d < k →
    spec_l02OpOf.l0 k a l (i : Int) = some (ixD 0 a (l.drop i) ((i : Int) + 1)) := by
  induction d with
  | zero =>
    intro i k hi hk
    obtain ⟨k, rfl⟩ : ∃ m, k = m + 1 := ⟨k - 1, by omega⟩
    simp only [spec_l02OpOf.l0]
    rw [if_neg (by omega), List.drop_eq_nil_of_le (by omega)]
    rfl
  | succ d ih =>
    intro i k hi hk
    obtain ⟨k, rfl⟩ : ∃ m, k = m + 1 := ⟨k - 1, by omega⟩
    simp only [spec_l02OpOf.l0]
    rw [if_pos (by omega), if_pos (by omega), rdOf_at l i (by omega), List.drop_eq_getElem_cons (show i < l.length by omega), ixD]
    rw [w64_id (by omega) (by omega)]
    have e : ((i : Int) + 1) = ((i + 1 : Nat) : Int) := by omega
    rw [e, ih (i + 1) k (by omega) (by omega)]
    split <;> rfl
theorem opOf_spec (k : Nat) (a : ByteArray) (hk : 70 < k) : spec_l02OpOf.f k a = some (ixD 0 a onames 1) := by
  unfold spec_l02OpOf.f
  have hn := onames_len
  rw [onames_is, Option.bind_some]
  exact opIndex_l onames a (by omega) 64 0 k (by omega) (by omega)
theorem opAt_l (a : ByteArray) (ha : a.toList.isEmpty = false) : ∀ (l : List S72) (i : Nat), (if 0 < impl_OpOf.at_ a l (i + 1) then impl_OpOf.at_ a l (i + 1) else 0) = ixD 0 a (l.map fun x => x.f0) ((i : Int) + 1)
  | [], i => rfl
  | x :: r, i => by
    rw [List.map_cons, ixD]
    unfold impl_OpOf.at_ impl_OpOf.has
    by_cases c : x.f0.toList = a.toList
    · rw [if_pos c, if_pos (show (decide (x.f0.toList = a.toList) && !a.toList.isEmpty) = true by rw [decide_eq_true c, ha]; rfl), if_pos (by omega)]
      omega
    · rw [if_neg c, if_neg (show ¬ (decide (x.f0.toList = a.toList) && !a.toList.isEmpty) = true by rw [decide_eq_false c, Bool.false_and]; decide)]
      exact opAt_l a ha r (i + 1)
theorem onames_size : ∀ x ∈ onames, 0 < x.size ∧ x.size ≤ 16 := by decide +kernel
theorem opOf_impl (a : ByteArray) : impl_OpOf.f a = some (ixD 0 a onames 1) := by
  unfold impl_OpOf.f
  rw [ops_is, Option.bind_some]
  congr 1
  have e : impl_ops.tab.map (fun x => x.f0) = ⟨#[]⟩ :: onames := rfl
  generalize impl_ops.tab = t at e
  cases ha : a.toList.isEmpty
  · match t, e with
    | x :: r, e =>
      rw [List.map_cons, List.cons.injEq] at e
      obtain ⟨e1, e2⟩ := e
      have h := opAt_l a ha r 0
      rw [e2] at h
      have hx : impl_OpOf.has a x = false := by
        unfold impl_OpOf.has
        rw [decide_eq_false (fun c => ?_)]
        · rfl
        · rw [← c, e1, Go.ByteArray.toList_eq] at ha
          cases ha
      unfold impl_OpOf.at_
      rw [hx]
      simp only [if_neg (show ¬ (false = true) by decide)]
      exact h
  · have hz : ∀ (x : S72), impl_OpOf.has a x = false := fun x => by
      unfold impl_OpOf.has
      rw [ha]
      simp
    rw [impl_OpOf.at_none a t 0 (fun q hq => hz _), if_neg (by decide), ixD_far 0 a onames 1 (fun x hx => ?_)]
    have := (onames_size x hx).1
    rw [Go.ByteArray.toList_eq] at ha
    have h2 : a.data.toList = [] := List.isEmpty_iff.1 ha
    have h3 : a.size = 0 := by
      have := congrArg List.length h2
      simpa using this
    omega

theorem FnExactOpOf : laws_FnExactOpOf.Pure := by
  intro s hs
  refine ⟨80, ?_⟩
  unfold laws_FnExactOpOf.f
  by_cases h : (s.size : Int) > 1048576
  · rw [if_pos h]
  · rw [if_neg h]
    unfold spec_OpOf.f
    by_cases h2 : (s.size : Int) > 65536
    · rw [if_pos h2, opOf_impl, ixD_far 0 s onames 1 (fun x hx => by have := (onames_size x hx).2; omega)]
      simp
    · rw [if_neg h2, opOf_spec 80 s (by decide), opOf_impl]
      simp

end Go.Proofs.Ytbhempnfbginoaa.Pure
