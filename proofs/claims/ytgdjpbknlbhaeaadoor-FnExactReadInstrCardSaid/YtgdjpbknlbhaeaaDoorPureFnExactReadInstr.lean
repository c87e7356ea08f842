/- ReadInstr of the program is ReadInstr of the reference, for all texts of at most 1048576 bytes: both end in the same test of the text. -/
import Derived.Test.YtgdjpbknlbhaeaaDoorPFnExactReadInstrx36
import Derived.Laws.BitsLemmas
set_option linter.unusedVariables false
set_option linter.unusedSimpArgs false
namespace Go.Proofs.YtgdjpbknlbhaeaaDoor.Pure
open Go.RowKit Go.Proofs.YtgdjpbknlbhaeaaDoor.PFnExactInstrText Go.Proofs.YtgdjpbknlbhaeaaDoorW.PrintWords Go.Proofs.YtgdjpbknlbhaeaaDoorW.PrintLast Go.Proofs.YtgdjpbknlbhaeaaDoorW.PrintMore

theorem w64_id {n : Int} (h0 : -9223372036854775808 ≤ n) (h1 : n ≤ 9223372036854775807) : wrap64 n = n := by unfold wrap64; omega
/-- Bit i of a number's two's complement. -/
def tb (v : Int) (i : Nat) : Bool := (v % 18446744073709551616).toNat.testBit i
/-- The place of the first text that is a, counted from i, or d. -/
def ixD (d : Int) (a : ByteArray) : List ByteArray → Int → Int
  | [], _ => d
  | x :: r, i => if x.toList = a.toList then i else ixD d a r (i + 1)
theorem rdOf_at (l : List ByteArray) (i : Nat) (h : i < l.length) : rdOf ByteArray.empty l (i : Int) = l[i] := by
  unfold rdOf
  simp [List.getD_eq_getElem?_getD, List.getElem?_eq_getElem h]
theorem ixD_far (d : Int) (a : ByteArray) : ∀ (l : List ByteArray) (i : Int), (∀ x ∈ l, x.size ≠ a.size) → ixD d a l i = d
  | [], _, _ => rfl
  | x :: r, i, h => by
    rw [ixD, if_neg, ixD_far d a r (i + 1) (fun y hy => h y (List.mem_cons_of_mem _ hy))]
    intro e
    have h1 := h x List.mem_cons_self
    rw [Go.ByteArray.toList_eq, Go.ByteArray.toList_eq] at e
    have h2 := congrArg List.length e
    simp at h2
    exact h1 h2

theorem ops_is : impl_ops.f = some impl_ops.tab := rfl
theorem ops_len : impl_ops.tab.length = 65 := rfl
theorem rdop (i : Nat) : rd_T59 impl_ops.tab (i : Int) = impl_ops.tab.getD i z59 := rfl

def onames : List ByteArray := (spec_l02Names.f).getD []
theorem onames_is : spec_l02Names.f = some onames := rfl
theorem onames_len : onames.length = 64 := rfl
theorem op_name (i : Nat) (h0 : 1 ≤ i) (h1 : i ≤ 64) : (rd_T59 impl_ops.tab (i : Int)).f0 = rdOf ByteArray.empty onames ((i : Int) - 1) := by
  have e : impl_ops.tab.map (fun x => x.f0) = ⟨#[]⟩ :: onames := rfl
  have hl := ops_len
  have hn := onames_len
  rw [rdop]
  unfold rdOf
  rw [show ((i : Int) - 1).toNat = i - 1 by omega, List.getD_eq_getElem?_getD, List.getD_eq_getElem?_getD]
  have h2 : (impl_ops.tab.map (fun x => x.f0))[i]? = (⟨#[]⟩ :: onames : List ByteArray)[i]? := by rw [e]
  obtain ⟨j, rfl⟩ : ∃ j, i = j + 1 := ⟨i - 1, by omega⟩
  rw [List.getElem?_cons_succ, List.getElem?_map, List.getElem?_eq_getElem (show j + 1 < impl_ops.tab.length by omega)] at h2
  rw [List.getElem?_eq_getElem (show j + 1 < impl_ops.tab.length by omega), show j + 1 - 1 = j by omega, ← h2]
  rfl

theorem opIndex_l (l : List ByteArray) (a : ByteArray) (hl : l.length ≤ 1000000) (d : Nat) : ∀ (i k : Nat), i + d = l.length → d < k →
    spec_l02OpOf.l0 k a l (i : Int) = some (ixD 0 a (l.drop i) ((i : Int) + 1)) := by
  induction d with
  | zero =>
    intro i k hi hk
    obtain ⟨k, rfl⟩ : ∃ m, k = m + 1 := ⟨k - 1, by omega⟩
    simp only [spec_l02OpOf.l0]
    rw [if_neg (by omega), List.drop_eq_nil_of_le (by omega)]
    rfl
  | succ d ih =>
    intro i k hi hk
    obtain ⟨k, rfl⟩ : ∃ m, k = m + 1 := ⟨k - 1, by omega⟩
    simp only [spec_l02OpOf.l0]
    rw [if_pos (by omega), if_pos (by omega), rdOf_at l i (by omega), List.drop_eq_getElem_cons (show i < l.length by omega), ixD]
    rw [w64_id (by omega) (by omega)]
    have e : ((i : Int) + 1) = ((i + 1 : Nat) : Int) := by omega
    rw [e, ih (i + 1) k (by omega) (by omega)]
    split <;> rfl
theorem opOf_spec (k : Nat) (a : ByteArray) (hk : 70 < k) : spec_l02OpOf.f k a = some (ixD 0 a onames 1) := by
  unfold spec_l02OpOf.f
  have hn := onames_len
  rw [onames_is, Option.bind_some]
  exact opIndex_l onames a (by omega) 64 0 k (by omega) (by omega)
theorem opAt_l (a : ByteArray) (ha : a.toList.isEmpty = false) : ∀ (l : List S59) (i : Nat), (if 0 < impl_OpOf.at_ a l (i + 1) then impl_OpOf.at_ a l (i + 1) else 0) = ixD 0 a (l.map fun x => x.f0) ((i : Int) + 1)
  | [], i => rfl
  | x :: r, i => by
    rw [List.map_cons, ixD]
    unfold impl_OpOf.at_ impl_OpOf.has
    by_cases c : x.f0.toList = a.toList
    · rw [if_pos c, if_pos (show (decide (x.f0.toList = a.toList) && !a.toList.isEmpty) = true by rw [decide_eq_true c, ha]; rfl), if_pos (by omega)]
      omega
    · rw [if_neg c, if_neg (show ¬ (decide (x.f0.toList = a.toList) && !a.toList.isEmpty) = true by rw [decide_eq_false c, Bool.false_and]; decide)]
      exact opAt_l a ha r (i + 1)
theorem onames_size : ∀ x ∈ onames, 0 < x.size ∧ x.size ≤ 16 := by decide +kernel
theorem opOf_impl (a : ByteArray) : impl_OpOf.f a = some (ixD 0 a onames 1) := by
  unfold impl_OpOf.f
  rw [ops_is, Option.bind_some]
  congr 1
  have e : impl_ops.tab.map (fun x => x.f0) = ⟨#[]⟩ :: onames := rfl
  generalize impl_ops.tab = t at e
  cases ha : a.toList.isEmpty
  · match t, e with
    | x :: r, e =>
      rw [List.map_cons, List.cons.injEq] at e
      obtain ⟨e1, e2⟩ := e
      have h := opAt_l a ha r 0
      rw [e2] at h
      have hx : impl_OpOf.has a x = false := by
        unfold impl_OpOf.has
        rw [decide_eq_false (fun c => ?_)]
        · rfl
        · rw [← c, e1, Go.ByteArray.toList_eq] at ha
          cases ha
      unfold impl_OpOf.at_
      rw [hx]
      simp only [if_neg (show ¬ (false = true) by decide)]
      exact h
  · have hz : ∀ (x : S59), impl_OpOf.has a x = false := fun x => by
      unfold impl_OpOf.has
      rw [ha]
      simp
    rw [impl_OpOf.at_none a t 0 (fun q hq => hz _), if_neg (by decide), ixD_far 0 a onames 1 (fun x hx => ?_)]
    have := (onames_size x hx).1
    rw [Go.ByteArray.toList_eq] at ha
    have h2 : a.data.toList = [] := List.isEmpty_iff.1 ha
    have h3 : a.size = 0 := by
      have := congrArg List.length h2
      simpa using this
    omega

/-- The words of a text: what lies between blanks. -/
def wds (cur : List UInt8) : List UInt8 → List (List UInt8)
  | [] => if cur = [] then [] else [cur]
  | b :: r => if b = 32 then (if cur = [] then wds [] r else cur :: wds [] r) else wds (cur ++ [b]) r
def mkb (l : List UInt8) : ByteArray := ⟨l.toArray⟩
theorem mkb_ext (s : ByteArray) (i j : Nat) (h : j ≤ s.size) : s.extract i j = mkb ((s.data.toList.drop i).take (j - i)) := by
  unfold mkb
  apply ByteArray.ext
  apply Array.ext'
  simp [ByteArray.data_extract, List.drop_take]
theorem bt_list (s : ByteArray) (i : Nat) (h : i < s.size) : bt s (i : Int) = ((s.data.toList[i]'(by simpa using h)).toNat : Int) := by
  unfold bt
  simp [ByteArray.get!, h]
  rfl
theorem words_l (s : ByteArray) (hs : s.size ≤ 100000) : ∀ (d i fr : Nat) (acc : List ByteArray) (k : Nat), i + d = s.size → fr ≤ i → acc.length + d ≤ 200000 → 2 * d + 3 < k →
    spec_l00Words.l0 k s acc (fr : Int) (i : Int) = some (acc ++ (wds ((s.data.toList.drop fr).take (i - fr)) (s.data.toList.drop i)).map mkb) := by
  intro d
  induction d with
  | zero =>
    intro i fr acc k hi hf ha hk
    obtain ⟨k, rfl⟩ : ∃ m, k = m + 3 := ⟨k - 3, by omega⟩
    have hl : s.data.toList.length = s.size := by simp
    rw [spec_l00Words.l0, if_pos (by omega), if_pos (by omega), spec_l00Words.j1, if_pos rfl, List.drop_eq_nil_of_le (show s.data.toList.length ≤ i by omega), wds, w64_id (by omega) (by omega)]
    by_cases c : fr < i
    · have hne : ¬ (s.data.toList.drop fr).take (i - fr) = [] := by
        intro e
        have := congrArg List.length e
        simp at this
        omega
      rw [if_pos (by omega), if_pos (by omega), if_pos (by omega), if_pos (by omega), if_pos (by omega), if_neg hne, spec_l00Words.l0, if_neg (by omega), mkb_ext s _ _ (by omega)]
      simp
    · have hne : (s.data.toList.drop fr).take (i - fr) = [] := by
        rw [show i - fr = 0 by omega]
        rfl
      rw [if_neg (by omega), if_pos hne, spec_l00Words.l0, if_neg (by omega)]
      simp
  | succ d ih =>
    intro i fr acc k hi hf ha hk
    obtain ⟨k, rfl⟩ : ∃ m, k = m + 2 := ⟨k - 2, by omega⟩
    have hl : s.data.toList.length = s.size := by simp
    have hd : s.data.toList.drop i = s.data.toList[i]'(by omega) :: s.data.toList.drop (i + 1) := List.drop_eq_getElem_cons (by omega)
    have e1 : wrap64 ((i : Int) + 1) = ((i + 1 : Nat) : Int) := by rw [w64_id (by omega) (by omega)]; omega
    rw [spec_l00Words.l0, if_pos (by omega), if_neg (by omega), if_pos (by omega), if_pos (by omega), spec_l00Words.j1, hd, wds, bt_list s i (by omega), e1]
    generalize hb : s.data.toList[i]'(by omega) = b
    by_cases c32 : b = 32
    · subst c32
      rw [if_pos (by decide), if_pos rfl]
      have e0 : ((s.data.toList.drop (i + 1)).take (i + 1 - (i + 1))) = [] := by rw [Nat.sub_self]; rfl
      by_cases c : fr < i
      · have hne : ¬ (s.data.toList.drop fr).take (i - fr) = [] := by
          intro e
          have := congrArg List.length e
          simp at this
          omega
        rw [if_pos (by omega), if_pos (by omega), if_pos (by omega), if_pos (by omega), if_pos (by omega), if_neg hne, ih (i + 1) (i + 1) _ k (by omega) (Nat.le_refl _) (by simp; omega) (by omega), e0, mkb_ext s _ _ (by omega)]
        simp
      · have hne : (s.data.toList.drop fr).take (i - fr) = [] := by
          rw [show i - fr = 0 by omega]
          rfl
        rw [if_neg (by omega), if_pos hne, ih (i + 1) (i + 1) _ k (by omega) (Nat.le_refl _) (by omega) (by omega), e0]
    · have hn : ¬ ((b.toNat : Int) == 32) = true := by
        intro e
        apply c32
        have : (b.toNat : Int) = 32 := by simpa using e
        have h2 : b.toNat = 32 := by omega
        exact UInt8.toNat_inj.mp h2
      rw [if_neg hn, if_neg c32, ih (i + 1) fr acc k (by omega) (by omega) (by omega) (by omega)]
      have e2 : (s.data.toList.drop fr).take (i + 1 - fr) = (s.data.toList.drop fr).take (i - fr) ++ [b] := by
        rw [show i + 1 - fr = (i - fr) + 1 by omega, List.take_add_one]
        congr 1
        rw [List.getElem?_drop, show fr + (i - fr) = i by omega, List.getElem?_eq_getElem (by omega), hb]
        rfl
      rw [e2]
theorem words_is (s : ByteArray) (hs : s.size ≤ 100000) (k : Nat) (hk : 2 * s.size + 3 < k) : spec_l00Words.f k s = some ((wds [] s.data.toList).map mkb) := by
  unfold spec_l00Words.f
  have := words_l s hs s.size 0 0 [] k (by omega) (Nat.le_refl _) (by simp; omega) hk
  simpa using this
/-- Good words: not empty, no blank. -/
def goodW (w : List UInt8) : Prop := w ≠ [] ∧ ∀ b ∈ w, b ≠ 32
theorem wds_good : ∀ (l cur : List UInt8), (∀ b ∈ cur, b ≠ 32) → ∀ w ∈ wds cur l, goodW w
  | [], cur, hc, w, hw => by
    unfold wds at hw
    split at hw
    · cases hw
    · rename_i h
      obtain rfl := List.mem_singleton.mp hw
      exact ⟨h, hc⟩
  | b :: r, cur, hc, w, hw => by
    unfold wds at hw
    split at hw
    · split at hw
      · exact wds_good r [] (by simp) w hw
      · rename_i h
        rcases List.mem_cons.mp hw with rfl | hw
        · exact ⟨h, hc⟩
        · exact wds_good r [] (by simp) w hw
    · rename_i h
      refine wds_good r (cur ++ [b]) (fun x hx => ?_) w hw
      rcases List.mem_append.mp hx with hx | hx
      · exact hc x hx
      · obtain rfl := List.mem_singleton.mp hx
        exact h
theorem wds_run : ∀ (w cur r : List UInt8), (∀ b ∈ w, b ≠ 32) → wds cur (w ++ r) = wds (cur ++ w) r
  | [], cur, r, _ => by simp
  | b :: w, cur, r, h => by
    rw [List.cons_append, wds, if_neg (h b (by simp)), wds_run w (cur ++ [b]) r (fun x hx => h x (by simp [hx]))]
    simp
theorem wds_join : ∀ (ws : List (List UInt8)), (∀ w ∈ ws, goodW w) → wds [] (Go.Lib.join ws [32]) = ws
  | [], _ => rfl
  | [w], h => by
    have g := h w (by simp)
    have := wds_run w [] [] g.2
    rw [Go.Lib.join_one]
    simp at this
    rw [this, wds, if_neg g.1]
  | w :: v :: r, h => by
    have g := h w (by simp)
    have e : Go.Lib.join (w :: v :: r) [32] = w ++ 32 :: Go.Lib.join (v :: r) [32] := by
      rw [Go.Lib.join_cons, Go.Lib.join_cons]
      simp [Go.Lib.joinTail]
    rw [e, wds_run w [] _ g.2, List.nil_append, wds, if_pos rfl, if_neg g.1, wds_join (v :: r) (fun x hx => h x (by simp [hx]))]

/-- What the shapes of the operations have in common. -/
def okS (F c f3 f7 : Int) : Bool := decide (1 ≤ F ∧ F ≤ 9 ∧ 0 ≤ c ∧ c ≤ 127 ∧ 0 ≤ f3 ∧ f3 ≤ 7 ∧ 0 ≤ f7 ∧ f7 ≤ 63 ∧ (F = 6 → f7 = 0 ∨ f7 = 32) ∧ (F = 1 ∨ F = 2 ∨ F = 9 → f3 = 0) ∧ (F ≤ 5 → f7 = 0))
def okO (x : Option (Int × Int × Int × Int)) : Bool := x.any fun s => okS s.1 s.2.1 s.2.2.1 s.2.2.2
theorem shape_all2 : ∀ i ∈ List.range' 1 64, (spec_l02Shape.f (i : Int) = impl_shapeOf.f (i : Int) ∧ okO (spec_l02Shape.f (i : Int)) = true) := by decide +kernel
theorem shape_is (op : Int) (h1 : 1 ≤ op) (h2 : op ≤ 64) : ∃ F c f3 f7, spec_l02Shape.f op = some (F, c, f3, f7) ∧ impl_shapeOf.f op = some (F, c, f3, f7) ∧ okS F c f3 f7 = true := by
  obtain ⟨i, rfl⟩ := Int.eq_ofNat_of_zero_le (show 0 ≤ op by omega)
  obtain ⟨e, o⟩ := shape_all2 i (by rw [List.mem_range'_1]; omega)
  rw [← e]
  match hx : spec_l02Shape.f (i : Int), o with
  | some (F, c, f3, f7), o => exact ⟨F, c, f3, f7, rfl, rfl, o⟩

theorem sin_is (a lo hi : Int) : spec_l01In.f a lo hi = some (decide (lo ≤ a) && decide (a ≤ hi)) := by
  unfold spec_l01In.f
  by_cases h : lo ≤ a <;> simp [h]
theorem win_is (a lo hi : Int) : impl_within.f a lo hi = some (decide (lo ≤ a) && decide (a ≤ hi)) := by
  unfold impl_within.f
  by_cases h : lo ≤ a <;> simp [h]
theorem ite_and (p q : Bool) : (if p = true then some q else some false) = some (p && q) := by cases p <;> rfl
def inB (a lo hi : Int) : Bool := decide (lo ≤ a) && decide (a ≤ hi)
/-- The numbers that a form allows. -/
def immB (F i : Int) : Bool :=
  if F = 1 then inB i (-2147483648) 2147479552 && (Int.tmod i 4096 == 0) else if F = 2 then inB i (-1048576) 1048574 && (Int.tmod i 2 == 0) else
  if F = 3 ∨ F = 5 then inB i (-2048) 2047 else if F = 4 then inB i (-4096) 4094 && (Int.tmod i 2 == 0) else if F = 6 then inB i 0 63 else if F = 7 then inB i 0 31 else (i == 0)
def dB (F : Int) : Bool := !(F == 4 || F == 5 || F == 9)
def aB (F : Int) : Bool := !(F == 1 || F == 2 || F == 9)
def bB (F : Int) : Bool := F == 4 || F == 5 || F == 8
def rightB (F d a b i : Int) : Bool := inB d 0 31 && inB a 0 31 && inB b 0 31 && (dB F || d == 0) && (aB F || a == 0) && (bB F || b == 0) && immB F i
theorem forms (F : Int) (h : 1 ≤ F ∧ F ≤ 9) : F = 1 ∨ F = 2 ∨ F = 3 ∨ F = 4 ∨ F = 5 ∨ F = 6 ∨ F = 7 ∨ F = 8 ∨ F = 9 := by omega
theorem j4_is (k : Nat) (F i o d a b : Int) (h : 3 ≤ F ∧ F ≤ 9) : spec_l02Right.j4 (k + 1) F (F == 3 || F == 5) o d a b i = some (immB F i) := by
  rw [spec_l02Right.j4]
  simp only [sin_is, Option.bind_some, ite_and]
  have : F = 3 ∨ F = 4 ∨ F = 5 ∨ F = 6 ∨ F = 7 ∨ F = 8 ∨ F = 9 := by omega
  rcases this with rfl | rfl | rfl | rfl | rfl | rfl | rfl <;> simp [immB, inB]
theorem j3_is (k : Nat) (F i o d a b : Int) (x : Bool) (h : 1 ≤ F ∧ F ≤ 9) : spec_l02Right.j3 (k + 2) F x o d a b i = some (!x && immB F i) := by
  rw [spec_l02Right.j3]
  cases x
  · simp only [Bool.false_eq_true, if_false, sin_is, Option.bind_some, ite_and, Bool.not_false, Bool.true_and]
    by_cases h3 : 3 ≤ F
    · have h4 := j4_is k F i o d a b ⟨h3, h.2⟩
      rw [if_neg (by omega), if_neg (by omega)]
      by_cases c : F = 3
      · rw [if_pos c]
        rw [c] at h4 ⊢
        exact h4
      · rw [if_neg c]
        rw [show (F == 3) = false by simpa using c, Bool.false_or] at h4
        exact h4
    · have : F = 1 ∨ F = 2 := by omega
      rcases this with rfl | rfl <;> simp [immB, inB]
  · simp
theorem j2_is (k : Nat) (F i o d a b : Int) (x : Bool) (h : 1 ≤ F ∧ F ≤ 9) : spec_l02Right.j2 (k + 3) F x o d a b i = some (!x && (bB F || b == 0) && immB F i) := by
  rw [spec_l02Right.j2]
  simp only [j3_is k F i o d a b _ h]
  cases x
  · have he : (b != 0) = !(b == 0) := rfl
    rcases forms F h with rfl | rfl | rfl | rfl | rfl | rfl | rfl | rfl | rfl <;> simp [bB, he]
  · simp
theorem j1_is (k : Nat) (F i o d a b : Int) (x : Bool) (h : 1 ≤ F ∧ F ≤ 9) : spec_l02Right.j1 (k + 4) F x o d a b i = some (!x && (aB F || a == 0) && (bB F || b == 0) && immB F i) := by
  rw [spec_l02Right.j1]
  simp only [j2_is k F i o d a b _ h]
  cases x
  · have he : (a != 0) = !(a == 0) := rfl
    rcases forms F h with rfl | rfl | rfl | rfl | rfl | rfl | rfl | rfl | rfl <;> simp [aB, he]
  · simp
theorem sright_is (k : Nat) (op F c f3 f7 d a b i : Int) (h1 : 1 ≤ op) (h2 : op ≤ 64) (hs : spec_l02Shape.f op = some (F, c, f3, f7)) (h : 1 ≤ F ∧ F ≤ 9) : spec_l02Right.f (k + 5) op d a b i = some (rightB F d a b i) := by
  have hj : ∀ x : Bool, spec_l02Right.j0 (k + 5) x op d a b i = some (!x && (dB F || d == 0) && (aB F || a == 0) && (bB F || b == 0) && immB F i) := by
    intro x
    rw [spec_l02Right.j0]
    simp only [hs, Option.bind_some, j1_is k F i op d a b _ h]
    cases x
    · have he : (d != 0) = !(d == 0) := rfl
      rcases forms F h with rfl | rfl | rfl | rfl | rfl | rfl | rfl | rfl | rfl <;> simp [dB, he]
    · simp
  unfold spec_l02Right.f spec_l02Op.f spec_l02Reg.f
  simp only [sin_is, Option.bind_some, hj]
  rw [show decide (1 ≤ op) = true by simpa using h1, show decide (op ≤ 64) = true by simpa using h2]
  unfold rightB inB
  cases decide (0 ≤ d) && decide (d ≤ 31) <;> cases decide (0 ≤ a) && decide (a ≤ 31) <;> cases decide (0 ≤ b) && decide (b ≤ 31) <;> simp
theorem immOK_is (k : Nat) (F i : Int) (h : 1 ≤ F ∧ F ≤ 9) : impl_immOK.f (k + 1) F i = some (immB F i) := by
  unfold impl_immOK.f
  simp only [impl_immOK.j0, win_is, Option.bind_some, ite_and]
  rcases forms F h with rfl | rfl | rfl | rfl | rfl | rfl | rfl | rfl | rfl <;> simp [immB, inB]
theorem fields_is (k : Nat) (F : Int) (h : 1 ≤ F ∧ F ≤ 9) : impl_fields.f (k + 3) F = some (dB F, aB F, bB F) := by
  unfold impl_fields.f
  simp only [impl_fields.j0, impl_fields.j1, impl_fields.j2]
  rcases forms F h with rfl | rfl | rfl | rfl | rfl | rfl | rfl | rfl | rfl <;> simp [dB, aB, bB]
theorem iright_is (k : Nat) (op F c f3 f7 d a b i : Int) (h1 : 1 ≤ op) (h2 : op ≤ 64) (hs : impl_shapeOf.f op = some (F, c, f3, f7)) (h : 1 ≤ F ∧ F ≤ 9) : impl_InstrOK.f (k + 3) op d a b i = some (rightB F d a b i) := by
  unfold impl_InstrOK.f impl_isOp.f impl_isReg.f
  simp only [win_is, Option.bind_some, hs, fields_is k F h, immOK_is (k + 2) F i h]
  rw [show decide (1 ≤ op) = true by simpa using h1, show decide (op ≤ 64) = true by simpa using h2]
  unfold rightB inB
  generalize immB F i = I
  generalize (decide (0 ≤ d) && decide (d ≤ 31)) = D
  generalize (decide (0 ≤ a) && decide (a ≤ 31)) = A
  generalize (decide (0 ≤ b) && decide (b ≤ 31)) = B
  cases D <;> cases A <;> cases B <;> (try (simp; done))
  by_cases hd : d = 0 <;> by_cases ha : a = 0 <;> by_cases hb : b = 0 <;> cases dB F <;> cases aB F <;> cases bB F <;> simp [hd, ha, hb]
theorem cat_mk (a b : List UInt8) : (⟨a.toArray⟩ : ByteArray) ++ ⟨b.toArray⟩ = ⟨(a ++ b).toArray⟩ := by
  apply ByteArray.ext
  simp
/-- The digits as a text. -/
def dgt (u : Nat) : ByteArray := ⟨(Go.Lib.decDigits u).toArray⟩
theorem son_one (u : Nat) (h : u < 10) : strOfNums [(wrap64 (48 + (u : Int))) % 256] = ⟨[UInt8.ofNat (48 + u)].toArray⟩ := by
  have e : (wrap64 (48 + (u : Int))) % 256 = ((48 + u : Nat) : Int) := by
    rw [w64_id (by omega) (by omega)]
    omega
  rw [e]
  unfold strOfNums
  simp only [List.map_cons, List.map_nil, Int.toNat_natCast]
theorem digits_is : ∀ (n u k : Nat), u < 10 ^ (n + 1) → n ≤ 15 → n < k → spec_l00Digits.f k (u : Int) = some (dgt u) ∧ (Go.Lib.decDigits u).length ≤ n + 1
  | n, u, k, hu, hn, hk => by
    obtain ⟨k, rfl⟩ : ∃ m, k = m + 1 := ⟨k - 1, by omega⟩
    have hb : u < 10 ^ 16 := Nat.lt_of_lt_of_le hu (Nat.pow_le_pow_right (by decide) (by omega))
    by_cases h : u < 10
    · rw [spec_l00Digits.f, if_neg (by omega), if_neg (by omega), if_pos (by omega), son_one u h]
      unfold dgt
      rw [Go.Lib.decDigits_one h]
      exact ⟨rfl, by simp⟩
    · cases n with
      | zero => exact absurd hu (by omega)
      | succ n =>
        have h1 : u / 10 < 10 ^ (n + 1) := by
          rw [Nat.pow_succ] at hu
          omega
        obtain ⟨ih, il⟩ := digits_is n (u / 10) k h1 (by omega) (by omega)
        have e1 : wrap64 (Int.tdiv (u : Int) 10) = ((u / 10 : Nat) : Int) := by
          rw [Int.tdiv_eq_ediv_of_nonneg (by omega), w64_id (by omega) (by omega)]
          omega
        have e2 : Int.tmod (u : Int) 10 = ((u % 10 : Nat) : Int) := by
          rw [Int.tmod_eq_emod_of_nonneg (by omega)]
          omega
        have e3 : Go.Lib.decDigits u = Go.Lib.decDigits (u / 10) ++ [UInt8.ofNat (48 + u % 10)] := by
          rw [Go.Lib.decDigits, dif_neg h]
        have s1 : (dgt (u / 10)).size ≤ n + 1 := by
          unfold dgt
          simpa [ByteArray.size] using il
        refine ⟨?_, by rw [e3, List.length_append]; simp; omega⟩
        rw [spec_l00Digits.f, if_neg (by omega), if_neg (by omega), if_neg (by omega), e1, e2, ih, Option.bind_some, Option.bind_some, son_one _ (by omega)]
        have s2 : (⟨[UInt8.ofNat (48 + u % 10)].toArray⟩ : ByteArray).size = 1 := rfl
        rw [if_pos (by omega)]
        unfold dgt
        rw [cat_mk, e3]
/-- A number as its text. -/
def itx (i : Int) : ByteArray := ⟨(Go.Lib.itoa i).toArray⟩
theorem num_is (i : Int) (k : Nat) (h0 : -9999999999 ≤ i) (h1 : i ≤ 9999999999) (hk : 12 < k) : spec_l00Digits.f k i = some (itx i) ∧ impl_intText.f i = some (itx i) ∧ (itx i).size ≤ 20 := by
  have hi : impl_intText.f i = some (itx i) := by
    unfold impl_intText.f itx
    rw [if_pos (by omega), if_pos (by omega)]
  by_cases h : i < 0
  · obtain ⟨k, rfl⟩ : ∃ m, k = m + 1 := ⟨k - 1, by omega⟩
    obtain ⟨hd, hl⟩ := digits_is 10 i.natAbs k (by have : (10 : Nat) ^ (10 + 1) = 100000000000 := rfl; omega) (by omega) (by omega)
    have e : wrap64 (-i) = (i.natAbs : Int) := by
      rw [w64_id (by omega) (by omega)]
      omega
    have s : (dgt i.natAbs).size ≤ 11 := by
      unfold dgt
      simpa [ByteArray.size] using hl
    have ei : itx i = (⟨#[45]⟩ : ByteArray) ++ dgt i.natAbs := by
      unfold itx dgt Go.Lib.itoa
      rw [if_pos h, show (⟨#[45]⟩ : ByteArray) = ⟨[45].toArray⟩ from rfl, cat_mk]
      rfl
    refine ⟨?_, hi, ?_⟩
    · rw [spec_l00Digits.f, if_neg (by omega), if_pos h, e, hd, Option.bind_some, if_pos (by omega), ei]
    · rw [ei, ByteArray.size_append]
      have : (⟨#[45]⟩ : ByteArray).size = 1 := rfl
      omega
  · obtain ⟨u, rfl⟩ := Int.eq_ofNat_of_zero_le (show 0 ≤ i by omega)
    obtain ⟨hd, hl⟩ := digits_is 10 u k (by have : (10 : Nat) ^ (10 + 1) = 100000000000 := rfl; omega) (by omega) (by omega)
    have ei : itx (u : Int) = dgt u := by
      unfold itx dgt Go.Lib.itoa
      rw [if_neg h]
      rfl
    refine ⟨by rw [hd, ei], hi, ?_⟩
    rw [ei]
    have s : (dgt u).size ≤ 11 := by
      unfold dgt
      simpa [ByteArray.size] using hl
    omega

theorem text_j1v (k : Nat) (nm im td ta tb : ByteArray) (F o d a b i : Int) (x : Bool) (hd : spec_l02R.f k d = some td) (hd' : impl_instrText_1.f d = some td) (ha : spec_l02R.f k a = some ta) (ha' : impl_instrText_1.f a = some ta) (hb : spec_l02R.f k b = some tb) (hb' : impl_instrText_1.f b = some tb)
    (sn : nm.size ≤ 40) (si : im.size ≤ 40) (sd : td.size ≤ 40) (sa : ta.size ≤ 40) (sb : tb.size ≤ 40) :
    spec_l02Text.j1 (k + 1) nm im F x o d a b i = some (if x = true then nm ++ td ++ ta ++ im else if F = 4 then nm ++ ta ++ tb ++ im else if F = 5 then nm ++ tb ++ ta ++ im else if F = 8 then nm ++ td ++ ta ++ tb else nm) ∧
    impl_instrText.j1 (k + 1) nm im F x o d a b i = some (if x = true then nm ++ td ++ ta ++ im else if F = 4 then nm ++ ta ++ tb ++ im else if F = 5 then nm ++ tb ++ ta ++ im else if F = 8 then nm ++ td ++ ta ++ tb else nm) := by
  rw [spec_l02Text.j1, impl_instrText.j1]
  simp only [hd, hd', ha, ha', hb, hb', Option.bind_some]
  refine (fun h => ⟨h, h⟩ : ∀ {p : Prop}, p → p ∧ p) ?_
  by_cases hx : x = true
  · rw [if_pos hx, if_pos hx]
    repeat rw [if_pos (by (try simp only [ByteArray.size_append]); omega)]
  · rw [if_neg hx, if_neg hx]
    by_cases h4 : F = 4
    · rw [if_pos h4, if_pos h4]
      repeat rw [if_pos (by (try simp only [ByteArray.size_append]); omega)]
    · rw [if_neg h4, if_neg h4]
      by_cases h5 : F = 5
      · rw [if_pos h5, if_pos h5]
        repeat rw [if_pos (by (try simp only [ByteArray.size_append]); omega)]
      · rw [if_neg h5, if_neg h5]
        by_cases h8 : F = 8
        · rw [if_pos h8, if_pos h8]
          repeat rw [if_pos (by (try simp only [ByteArray.size_append]); omega)]
        · rw [if_neg h8, if_neg h8]
/-- An instruction's text, by its form. -/
def textV (F : Int) (nm im td ta tb : ByteArray) : ByteArray :=
  if F = 1 ∨ F = 2 then nm ++ td ++ im else if F = 3 ∨ F = 6 ∨ F = 7 then nm ++ td ++ ta ++ im else if F = 4 then nm ++ ta ++ tb ++ im else if F = 5 then nm ++ tb ++ ta ++ im else if F = 8 then nm ++ td ++ ta ++ tb else nm
theorem text_j0v (k : Nat) (nm im td ta tb : ByteArray) (F o d a b i : Int) (x : Bool) (hx : x = (F == 1) ∧ F = 1 ∨ x = (F == 2) ∧ F ≠ 1) (hd : ∀ q, 12 < q → spec_l02R.f q d = some td) (hd' : impl_instrText_1.f d = some td) (ha : ∀ q, 12 < q → spec_l02R.f q a = some ta) (ha' : impl_instrText_1.f a = some ta) (hb : ∀ q, 12 < q → spec_l02R.f q b = some tb) (hb' : impl_instrText_1.f b = some tb)
    (sn : nm.size ≤ 40) (si : im.size ≤ 40) (sd : td.size ≤ 40) (sa : ta.size ≤ 40) (sb : tb.size ≤ 40) (hk : 12 < k) :
    spec_l02Text.j0 (k + 2) nm im F x o d a b i = some (textV F nm im td ta tb) ∧ impl_instrText.j0 (k + 2) nm im F x o d a b i = some (textV F nm im td ta tb) := by
  have hj := fun y => text_j1v k nm im td ta tb F o d a b i y (hd k hk) hd' (ha k hk) ha' (hb k hk) hb' sn si sd sa sb
  rw [spec_l02Text.j0, impl_instrText.j0]
  unfold textV
  by_cases h12 : F = 1 ∨ F = 2
  · have hxt : x = true := by
      rcases hx with ⟨e, f⟩ | ⟨e, f⟩
      · simp [e, f]
      · have : F = 2 := by omega
        simp [e, this]
    subst hxt
    rw [if_pos rfl, if_pos rfl, hd (k + 1) (by omega), hd', Option.bind_some, if_pos h12]
    refine (fun h => ⟨h, h⟩ : ∀ {p : Prop}, p → p ∧ p) ?_
    repeat rw [if_pos (by (try simp only [ByteArray.size_append]); omega)]
  · have hxf : x = false := by
      rcases hx with ⟨e, f⟩ | ⟨e, f⟩
      · omega
      · rw [e]
        simp
        omega
    subst hxf
    rw [if_neg h12]
    simp only [Bool.false_eq_true, if_false]
    by_cases h3 : F = 3
    · rw [if_pos h3, if_pos h3, if_pos (Or.inl h3), (hj _).1, (hj _).2, if_pos (by simp [h3])]
      exact ⟨rfl, rfl⟩
    · rw [if_neg h3, if_neg h3]
      by_cases h6 : F = 6
      · rw [if_pos h6, if_pos h6, if_pos (Or.inr (Or.inl h6)), (hj _).1, (hj _).2, if_pos (by simp [h6])]
        exact ⟨rfl, rfl⟩
      · rw [if_neg h6, if_neg h6, (hj _).1, (hj _).2]
        by_cases h7 : F = 7
        · rw [if_pos (Or.inr (Or.inr h7)), if_pos (by simp [h7])]
          exact ⟨rfl, rfl⟩
        · rw [if_neg (show ¬ (F = 3 ∨ F = 6 ∨ F = 7) by omega), if_neg (by simp [h7])]
          exact ⟨rfl, rfl⟩

/-- A blank, then a register's text. -/
def rtd (r : Int) : ByteArray := (⟨#[32, 120]⟩ : ByteArray) ++ itx r
theorem onames_short : onames.all (fun x => decide (x.size ≤ 10)) = true := rfl
theorem name_short (i : Int) : (rdOf ByteArray.empty onames i).size ≤ 40 := by
  unfold rdOf
  rw [List.getD_eq_getElem?_getD]
  cases h : onames[i.toNat]? with
  | none => exact Nat.zero_le _
  | some x =>
    have := List.all_eq_true.mp onames_short x (List.mem_of_getElem? h)
    have := of_decide_eq_true this
    show x.size ≤ 40
    omega
theorem imm_small (F i : Int) (h : immB F i = true) : -2147483648 ≤ i ∧ i ≤ 2147483647 := by
  unfold immB inB at h
  repeat' split at h
  all_goals simp at h
  all_goals omega
theorem reg_isv (i : Int) (h0 : 0 ≤ i) (h1 : i ≤ 31) : (∀ k, 12 < k → spec_l02R.f k i = some (rtd i)) ∧ impl_instrText_1.f i = some (rtd i) ∧ (rtd i).size ≤ 40 := by
  have s2 : (⟨#[32, 120]⟩ : ByteArray).size = 2 := rfl
  refine ⟨fun k hk => ?_, ?_, ?_⟩
  · obtain ⟨a, b, s⟩ := num_is i k (by omega) (by omega) hk
    unfold spec_l02R.f rtd
    rw [a, Option.bind_some, if_pos (by omega)]
  · obtain ⟨a, b, s⟩ := num_is i 13 (by omega) (by omega) (by omega)
    unfold impl_instrText_1.f rtd
    rw [b, Option.bind_some, if_pos (by omega)]
  · obtain ⟨a, b, s⟩ := num_is i 13 (by omega) (by omega) (by omega)
    unfold rtd
    rw [ByteArray.size_append]
    omega
theorem text_isv (op F c f3 f7 d a b i : Int) (k : Nat) (h1 : 1 ≤ op) (h2 : op ≤ 64) (hs : spec_l02Shape.f op = some (F, c, f3, f7)) (hi : impl_shapeOf.f op = some (F, c, f3, f7)) (hr : rightB F d a b i = true) (hk : 12 < k) :
    spec_l02Text.f (k + 2) op d a b i = some (textV F (rdOf ByteArray.empty onames (op - 1)) ((⟨#[32]⟩ : ByteArray) ++ itx i) (rtd d) (rtd a) (rtd b)) ∧ impl_instrText.f (k + 2) op d a b i = some (textV F (rdOf ByteArray.empty onames (op - 1)) ((⟨#[32]⟩ : ByteArray) ++ itx i) (rtd d) (rtd a) (rtd b)) := by
  unfold rightB at hr
  simp only [Bool.and_eq_true] at hr
  obtain ⟨⟨⟨⟨⟨⟨rd, ra⟩, rb⟩, _⟩, _⟩, _⟩, ri⟩ := hr
  unfold inB at rd ra rb
  simp only [Bool.and_eq_true, decide_eq_true_eq] at rd ra rb
  obtain ⟨i0, i1⟩ := imm_small F i ri
  obtain ⟨dS, dI, sd⟩ := reg_isv d rd.1 rd.2
  obtain ⟨aS, aI, sa⟩ := reg_isv a ra.1 ra.2
  obtain ⟨bS, bI, sb⟩ := reg_isv b rb.1 rb.2
  obtain ⟨nS, nI, ns⟩ := num_is i (k + 2) (by omega) (by omega) (by omega)
  obtain ⟨n, rfl⟩ := Int.eq_ofNat_of_zero_le (show 0 ≤ op by omega)
  have en := op_name n (by omega) (by omega)
  have hl := ops_len
  have hn := onames_len
  have s1 : (⟨#[32]⟩ : ByteArray).size = 1 := rfl
  have sI : ((⟨#[32]⟩ : ByteArray) ++ itx i).size ≤ 40 := by
    rw [ByteArray.size_append]
    omega
  have hj := fun x hx => text_j0v k (rdOf ByteArray.empty onames ((n : Int) - 1)) ((⟨#[32]⟩ : ByteArray) ++ itx i) (rtd d) (rtd a) (rtd b) F n d a b i x hx dS dI aS aI bS bI (name_short _) sI sd sa sb hk
  unfold spec_l02Text.f impl_instrText.f
  rw [onames_is, ops_is, Option.bind_some, Option.bind_some, w64_id (n := (n : Int) - 1) (by omega) (by omega), if_pos (by omega), if_pos (by omega), if_pos (by omega), if_pos (by omega), nS, nI, Option.bind_some, Option.bind_some, if_pos (by omega), if_pos (by omega), hs, hi, Option.bind_some, Option.bind_some, en]
  dsimp only
  by_cases h : F = 1
  · rw [if_pos h, if_pos h]
    exact hj _ (Or.inl ⟨rfl, h⟩)
  · rw [if_neg h, if_neg h]
    exact hj _ (Or.inr ⟨rfl, h⟩)

/-- The words of an instruction's text. -/
def pcs (F : Int) (N : List UInt8) (d a b i : Int) : List (List UInt8) :=
  if F = 1 ∨ F = 2 then [N, 120 :: Go.Lib.itoa d, Go.Lib.itoa i] else if F = 3 ∨ F = 6 ∨ F = 7 then [N, 120 :: Go.Lib.itoa d, 120 :: Go.Lib.itoa a, Go.Lib.itoa i] else if F = 4 then [N, 120 :: Go.Lib.itoa a, 120 :: Go.Lib.itoa b, Go.Lib.itoa i] else if F = 5 then [N, 120 :: Go.Lib.itoa b, 120 :: Go.Lib.itoa a, Go.Lib.itoa i] else if F = 8 then [N, 120 :: Go.Lib.itoa d, 120 :: Go.Lib.itoa a, 120 :: Go.Lib.itoa b] else [N]
theorem textV_data (F : Int) (nm : ByteArray) (d a b i : Int) : (textV F nm ((⟨#[32]⟩ : ByteArray) ++ itx i) (rtd d) (rtd a) (rtd b)).data.toList = Go.Lib.join (pcs F nm.data.toList d a b i) [32] := by
  unfold textV pcs
  repeat' split
  all_goals simp [Go.Lib.join_cons, Go.Lib.joinTail, rtd, itx]
theorem dec_ge (u : Nat) : ∀ b ∈ Go.Lib.decDigits u, b ≠ 32 := by
  induction u using Nat.strongRecOn with
  | _ u ih =>
    have hd : ∀ v, v < 10 → UInt8.ofNat (48 + v) ≠ 32 := fun v hv e => by
      have := congrArg UInt8.toNat e
      rw [UInt8.toNat_ofNat'] at this
      have h2 : (32 : UInt8).toNat = 32 := rfl
      omega
    by_cases h : u < 10
    · rw [Go.Lib.decDigits_one h]
      intro b hb
      obtain rfl := List.mem_singleton.mp hb
      exact hd u h
    · rw [Go.Lib.decDigits, dif_neg h]
      intro b hb
      rcases List.mem_append.mp hb with hb | hb
      · exact ih (u / 10) (by omega) b hb
      · obtain rfl := List.mem_singleton.mp hb
        exact hd _ (by omega)
theorem itoa_good (n : Int) : goodW (Go.Lib.itoa n) := by
  unfold Go.Lib.itoa
  split
  · refine ⟨by simp, fun b hb => ?_⟩
    rcases List.mem_cons.mp hb with rfl | hb
    · decide
    · exact dec_ge _ b hb
  · refine ⟨fun e => ?_, dec_ge _⟩
    have := congrArg List.length e
    rw [Go.Lib.decDigits_length] at this
    have := Go.Lib.nDigits_pos n.toNat
    simp at *
    omega

theorem onames_good : onames.all (fun x => !x.data.toList.isEmpty && x.data.toList.all (fun b => b != 32)) = true := by decide +kernel
theorem name_good (i : Int) (h0 : 0 ≤ i) (h1 : i < 64) : goodW (rdOf ByteArray.empty onames i).data.toList := by
  have hn := onames_len
  have hl : i.toNat < onames.length := by omega
  have e : rdOf ByteArray.empty onames i = onames[i.toNat] := by
    unfold rdOf
    rw [List.getD_eq_getElem?_getD, List.getElem?_eq_getElem hl]
    rfl
  have := List.all_eq_true.mp onames_good _ (List.getElem_mem hl)
  rw [Bool.and_eq_true] at this
  rw [e]
  refine ⟨fun z => ?_, fun b hb => ?_⟩
  · rw [z] at this
    simp at this
  · have h2 := List.all_eq_true.mp this.2 b hb
    exact bne_iff_ne.mp h2
theorem reg_good (r : Int) : goodW (120 :: Go.Lib.itoa r) := ⟨by simp, fun b hb => by
  rcases List.mem_cons.mp hb with rfl | hb
  · decide
  · exact (itoa_good r).2 b hb⟩
theorem pcs_good (F : Int) (N : List UInt8) (d a b i : Int) (h : goodW N) : ∀ w ∈ pcs F N d a b i, goodW w := by
  have r1 := reg_good d
  have r2 := reg_good a
  have r3 := reg_good b
  have r4 := itoa_good i
  unfold pcs
  repeat' split
  all_goals
    intro w hw
    simp only [List.mem_cons, List.mem_nil_iff, or_false] at hw
    rcases hw with rfl | rfl | rfl | rfl | rfl <;> assumption

theorem num_tot (s : ByteArray) (x4 : Int) (hs : s.size ≤ 100000) : ∀ (d i : Nat) (acc : Int), i + d = s.size → ∃ r, ∀ k, d < k → spec_l00Number.l0 k s x4 acc (i : Int) = some r := by
  intro d
  induction d with
  | zero =>
    intro i acc hi
    refine ⟨(wrap64 (x4 * acc), true), fun k hk => ?_⟩
    obtain ⟨k, rfl⟩ : ∃ m, k = m + 1 := ⟨k - 1, by omega⟩
    rw [spec_l00Number.l0, if_neg (by omega)]
  | succ d ih =>
    intro i acc hi
    have e1 : wrap64 ((i : Int) + 1) = ((i + 1 : Nat) : Int) := by rw [w64_id (by omega) (by omega)]; omega
    have n1 : (i : Int) < (s.size : Int) := by omega
    have n2 : (0 : Int) ≤ (i : Int) := by omega
    by_cases c1 : bt s (i : Int) < 48
    · refine ⟨(0, false), fun k hk => ?_⟩
      obtain ⟨k, rfl⟩ : ∃ m, k = m + 1 := ⟨k - 1, by clear c1; omega⟩
      rw [spec_l00Number.l0, if_pos n1, if_pos n2, if_pos c1]
    · by_cases c2 : bt s (i : Int) > 57
      · refine ⟨(0, false), fun k hk => ?_⟩
        obtain ⟨k, rfl⟩ : ∃ m, k = m + 1 := ⟨k - 1, by clear c1 c2; omega⟩
        rw [spec_l00Number.l0, if_pos n1, if_pos n2, if_neg c1, if_pos c2]
      · obtain ⟨r, h⟩ := ih (i + 1) (wrap64 (wrap64 (wrap64 (acc * 10) + wrap64 (bt s (i : Int))) - 48)) (by clear c1 c2; omega)
        refine ⟨r, fun k hk => ?_⟩
        obtain ⟨k, rfl⟩ : ∃ m, k = m + 1 := ⟨k - 1, by clear c1 c2; omega⟩
        rw [spec_l00Number.l0, if_pos n1, if_pos n2, if_neg c1, if_neg c2, e1]
        exact h k (by clear c1 c2; omega)
theorem j2_tot (s : ByteArray) (x4 : Int) (x : Bool) (hs : s.size ≤ 100000) : ∃ r, ∀ k, s.size + 1 < k → spec_l00Number.j2 k s x4 x = some r := by
  cases x with
  | true => exact ⟨(0, false), fun k hk => by obtain ⟨k, rfl⟩ : ∃ m, k = m + 1 := ⟨k - 1, by omega⟩; rw [spec_l00Number.j2, if_pos rfl]⟩
  | false =>
    obtain ⟨r, h⟩ := num_tot s x4 hs s.size 0 0 (by omega)
    exact ⟨r, fun k hk => by obtain ⟨k, rfl⟩ : ∃ m, k = m + 1 := ⟨k - 1, by omega⟩; rw [spec_l00Number.j2, if_neg (by decide)]; exact h k (by omega)⟩
theorem j1_tot (s : ByteArray) (x4 : Int) (hs : s.size ≤ 100000) : ∃ r, ∀ k, s.size + 2 < k → spec_l00Number.j1 k s x4 = some r := by
  obtain ⟨r1, h1⟩ := j2_tot s x4 true hs
  obtain ⟨r2, h2⟩ := j2_tot s x4 (decide (x4 < 0)) hs
  obtain ⟨r3, h3⟩ := j2_tot s x4 false hs
  by_cases c0 : (s.size : Int) = 0
  · exact ⟨r1, fun k hk => by obtain ⟨k, rfl⟩ : ∃ m, k = m + 1 := ⟨k - 1, by omega⟩; rw [spec_l00Number.j1, if_pos c0]; exact h1 k (by omega)⟩
  by_cases c1 : (s.size : Int) > 18
  · exact ⟨r1, fun k hk => by obtain ⟨k, rfl⟩ : ∃ m, k = m + 1 := ⟨k - 1, by omega⟩; rw [spec_l00Number.j1, if_neg c0, if_pos c1]; exact h1 k (by omega)⟩
  have c2 : 0 < (s.size : Int) := by omega
  by_cases c3 : bt s 0 = 48
  · have H3 := Aside0.mk c3
    clear c3
    by_cases c4 : (s.size : Int) > 1
    · exact ⟨r1, fun k hk => by obtain ⟨k, rfl⟩ : ∃ m, k = m + 1 := ⟨k - 1, by omega⟩; rw [spec_l00Number.j1, if_neg c0, if_neg c1, if_pos c2, if_pos H3.out, if_pos c4]; exact h1 k (by omega)⟩
    · exact ⟨r2, fun k hk => by obtain ⟨k, rfl⟩ : ∃ m, k = m + 1 := ⟨k - 1, by omega⟩; rw [spec_l00Number.j1, if_neg c0, if_neg c1, if_pos c2, if_pos H3.out, if_neg c4]; exact h2 k (by omega)⟩
  · have H3 := Aside0.mk c3
    clear c3
    exact ⟨r3, fun k hk => by obtain ⟨k, rfl⟩ : ∃ m, k = m + 1 := ⟨k - 1, by omega⟩; rw [spec_l00Number.j1, if_neg c0, if_neg c1, if_pos c2, if_neg H3.out]; exact h3 k (by omega)⟩
theorem j0_tot (s : ByteArray) (x : Bool) (hs : s.size ≤ 100000) (hx : x = true → 1 ≤ (s.size : Int)) : ∃ r, ∀ k, s.size + 3 < k → spec_l00Number.j0 k s 1 x = some r := by
  cases x with
  | true =>
    have h1 := hx rfl
    have hz : (s.extract 1 s.size).size = s.size - 1 := by rw [ByteArray.size_extract]; omega
    obtain ⟨r, h⟩ := j1_tot (s.extract 1 s.size) (-1) (by omega)
    exact ⟨r, fun k hk => by obtain ⟨k, rfl⟩ : ∃ m, k = m + 1 := ⟨k - 1, by omega⟩; rw [spec_l00Number.j0, if_pos rfl, if_pos h1]; exact h k (by omega)⟩
  | false =>
    obtain ⟨r, h⟩ := j1_tot s 1 hs
    exact ⟨r, fun k hk => by obtain ⟨k, rfl⟩ : ∃ m, k = m + 1 := ⟨k - 1, by omega⟩; rw [spec_l00Number.j0, if_neg (by decide)]; exact h k (by omega)⟩
theorem number_tot (s : ByteArray) (hs : s.size ≤ 100000) : ∃ r, ∀ k, s.size + 3 < k → spec_l00Number.f k s = some r := by
  by_cases c : (s.size : Int) > 0
  · obtain ⟨r, h⟩ := j0_tot s (bt s 0 == 45) hs (fun _ => by omega)
    exact ⟨r, fun k hk => by unfold spec_l00Number.f; rw [if_pos c, if_pos c]; exact h k hk⟩
  · obtain ⟨r, h⟩ := j0_tot s false hs (fun e => by cases e)
    exact ⟨r, fun k hk => by unfold spec_l00Number.f; rw [if_neg c]; exact h k hk⟩
theorem reg_some (n : Int) : ∃ b, spec_l02Reg.f n = some b := by
  unfold spec_l02Reg.f spec_l01In.f
  by_cases h : 0 ≤ n
  · exact ⟨decide (n ≤ 31), by rw [if_pos h]; rfl⟩
  · exact ⟨false, by rw [if_neg h]; rfl⟩
theorem sreg_j0 (s : ByteArray) (x : Bool) (hs : s.size ≤ 100000) (hx : x = false → 1 ≤ (s.size : Int)) : ∃ r, ∀ k, s.size + 4 < k → spec_l02ReadReg.j0 k s x = some r := by
  cases x with
  | true => exact ⟨-1, fun k hk => by obtain ⟨k, rfl⟩ : ∃ m, k = m + 1 := ⟨k - 1, by omega⟩; rw [spec_l02ReadReg.j0, if_pos rfl]⟩
  | false =>
    have h1 := hx rfl
    have hz : (s.extract 1 s.size).size = s.size - 1 := by rw [ByteArray.size_extract]; omega
    obtain ⟨⟨n, b⟩, h⟩ := number_tot (s.extract 1 s.size) (by omega)
    obtain ⟨q, hq⟩ := reg_some n
    refine ⟨if b = true then (if q = true then n else -1) else -1, fun k hk => ?_⟩
    obtain ⟨k, rfl⟩ : ∃ m, k = m + 1 := ⟨k - 1, by omega⟩
    rw [spec_l02ReadReg.j0, if_neg (by decide), if_pos h1, h k (by omega), Option.bind_some]
    dsimp only
    cases b
    · rfl
    · rw [if_pos rfl, if_pos rfl, hq, Option.bind_some]
      cases q <;> rfl
theorem sreg_tot (s : ByteArray) (hs : s.size ≤ 100000) : ∃ r, ∀ k, s.size + 4 < k → spec_l02ReadReg.f k s = some r := by
  by_cases c : (s.size : Int) < 2
  · obtain ⟨r, h⟩ := sreg_j0 s true hs (fun e => by cases e)
    exact ⟨r, fun k hk => by unfold spec_l02ReadReg.f; rw [if_pos c]; exact h k hk⟩
  · have c2 : 0 < (s.size : Int) := by omega
    obtain ⟨r, h⟩ := sreg_j0 s (bt s 0 != 120) hs (fun _ => by omega)
    exact ⟨r, fun k hk => by unfold spec_l02ReadReg.f; rw [if_neg c, if_pos c2]; exact h k hk⟩

theorem decFrom_app : ∀ (l r : List UInt8) (a : Nat), Go.Lib.decFrom a (l ++ r) = (Go.Lib.decFrom a l).bind fun b => Go.Lib.decFrom b r
  | [], r, a => rfl
  | b :: l, r, a => by
    rw [List.cons_append, Go.Lib.decFrom, Go.Lib.decFrom]
    cases Go.Lib.digitVal b with
    | none => rfl
    | some d => exact decFrom_app l r _
theorem digitVal_of (d : Nat) (h : d < 10) : Go.Lib.digitVal (UInt8.ofNat (48 + d)) = some d := by
  have e : (UInt8.ofNat (48 + d)).toNat = 48 + d := by
    rw [UInt8.toNat_ofNat']
    omega
  unfold Go.Lib.digitVal
  rw [e, if_pos (by omega)]
  congr 1
  omega
theorem decFrom_digits (u : Nat) : Go.Lib.decFrom 0 (Go.Lib.decDigits u) = some u := by
  induction u using Nat.strongRecOn with
  | _ u ih =>
    by_cases h : u < 10
    · rw [Go.Lib.decDigits_one h, Go.Lib.decFrom, digitVal_of u h]
      simp [Go.Lib.decFrom]
    · rw [Go.Lib.decDigits, dif_neg h, decFrom_app, ih (u / 10) (by omega), Option.bind_some, Go.Lib.decFrom, digitVal_of _ (by omega)]
      simp only [Go.Lib.decFrom]
      congr 1
      omega
theorem decFrom_le : ∀ (l : List UInt8) (a v : Nat), Go.Lib.decFrom a l = some v → a ≤ v
  | [], a, v, h => by
    obtain rfl := Option.some.inj h
    exact Nat.le_refl _
  | b :: l, a, v, h => by
    rw [Go.Lib.decFrom] at h
    cases hd : Go.Lib.digitVal b with
    | none =>
      rw [hd] at h
      cases h
    | some d =>
      rw [hd] at h
      have := decFrom_le l _ v h
      omega
theorem head_digit (u : Nat) (h : 1 ≤ u) : ∃ b r, Go.Lib.decDigits u = b :: r ∧ 49 ≤ b.toNat ∧ b.toNat ≤ 57 := by
  induction u using Nat.strongRecOn with
  | _ u ih =>
    by_cases hu : u < 10
    · refine ⟨UInt8.ofNat (48 + u), [], Go.Lib.decDigits_one hu, ?_⟩
      rw [UInt8.toNat_ofNat']
      omega
    · obtain ⟨b, r, e, h1, h2⟩ := ih (u / 10) (by omega) (by omega)
      refine ⟨b, r ++ [UInt8.ofNat (48 + u % 10)], ?_, h1, h2⟩
      rw [Go.Lib.decDigits, dif_neg hu, e]
      rfl
theorem step_w (a b : Nat) (ha : a ≤ 1000000000000) (h1 : 48 ≤ b) (h2 : b ≤ 57) : wrap64 (wrap64 (wrap64 ((a : Int) * 10) + wrap64 (b : Int)) - 48) = ((a * 10 + (b - 48) : Nat) : Int) := by
  have e1 : wrap64 ((a : Int) * 10) = (a : Int) * 10 := w64_id (by omega) (by omega)
  have e2 : wrap64 (b : Int) = (b : Int) := w64_id (by omega) (by omega)
  rw [e1, e2]
  have e3 : wrap64 ((a : Int) * 10 + (b : Int)) = (a : Int) * 10 + (b : Int) := w64_id (by omega) (by omega)
  rw [e3]
  have e4 : wrap64 ((a : Int) * 10 + (b : Int) - 48) = (a : Int) * 10 + (b : Int) - 48 := w64_id (by omega) (by omega)
  rw [e4]
  omega
theorem num_l (s : ByteArray) (x4 : Int) (hs : s.size ≤ 100) : ∀ (d i acc k v : Nat), i + d = s.size → Go.Lib.decFrom acc (s.data.toList.drop i) = some v → v ≤ 1000000000000 → d < k →
    spec_l00Number.l0 k s x4 (acc : Int) (i : Int) = some (wrap64 (x4 * (v : Int)), true) := by
  intro d
  induction d with
  | zero =>
    intro i acc k v hi hd hv hk
    obtain ⟨k, rfl⟩ : ∃ m, k = m + 1 := ⟨k - 1, by omega⟩
    have hl : s.data.toList.length = s.size := by simp
    rw [List.drop_eq_nil_of_le (by omega)] at hd
    obtain rfl := Option.some.inj hd
    rw [spec_l00Number.l0, if_neg (by omega)]
  | succ d ih =>
    intro i acc k v hi hd hv hk
    obtain ⟨k, rfl⟩ : ∃ m, k = m + 1 := ⟨k - 1, by omega⟩
    have hl : s.data.toList.length = s.size := by simp
    have hdr : s.data.toList.drop i = s.data.toList[i]'(by omega) :: s.data.toList.drop (i + 1) := List.drop_eq_getElem_cons (by omega)
    have hb := bt_list s i (by omega)
    rw [hdr] at hd
    generalize s.data.toList[i]'(by omega) = b at hd hb
    rw [Go.Lib.decFrom] at hd
    unfold Go.Lib.digitVal at hd
    split at hd
    · rename_i x hx
      split at hx
      · rename_i hr
        obtain rfl := Option.some.inj hx
        have hle := decFrom_le _ _ _ hd
        have hI := ih (i + 1) (acc * 10 + (b.toNat - 48)) k v (by clear hd hdr hb; omega) hd hv (by clear hd hdr hb; omega)
        clear ih hd hdr hx
        obtain ⟨hr1, hr2⟩ := hr
        generalize b.toNat = c at *
        have HBt := Aside0.mk hb
        clear hb
        have e1 : wrap64 ((i : Int) + 1) = ((i + 1 : Nat) : Int) := by rw [w64_id (by omega) (by omega)]; omega
        have e2 := step_w acc c (by omega) hr1 hr2
        have n1 : ¬ ((c : Int) < 48) := by omega
        have n2 : ¬ ((c : Int) > 57) := by omega
        have n3 : (i : Int) < (s.size : Int) := by omega
        have n4 : (0 : Int) ≤ (i : Int) := by omega
        have key : spec_l00Number.l0 (k + 1) s x4 (acc : Int) (i : Int) = spec_l00Number.l0 k s x4 (wrap64 (wrap64 (wrap64 ((acc : Int) * 10) + wrap64 (c : Int)) - 48)) (wrap64 ((i : Int) + 1)) := by
          rw [spec_l00Number.l0, if_pos n3, if_pos n4, HBt.out, if_neg n1, if_neg n2]
        exact key.trans ((congr (congrArg (fun z => spec_l00Number.l0 k s x4 z) e2) e1).trans hI)
      · cases hx
    · cases hd
/-- The digits of a number from 1 on, or 0, with a sign ahead of them read. -/
theorem num_j1 (u : Nat) (x4 : Int) (k : Nat) (hu : u ≤ 1000000000000) (hl : (Go.Lib.decDigits u).length ≤ 18) (h0 : u = 0 → ¬ x4 < 0) (hk : 30 < k) : spec_l00Number.j1 k (dgt u) x4 = some (wrap64 (x4 * (u : Int)), true) := by
  obtain ⟨k, rfl⟩ : ∃ m, k = m + 2 := ⟨k - 2, by omega⟩
  have hd : (dgt u).data.toList = Go.Lib.decDigits u := by simp [dgt]
  have hsz : (dgt u).size = (Go.Lib.decDigits u).length := by simp [dgt, ByteArray.size]
  have hL := num_l (dgt u) x4 (by omega) (dgt u).size 0 0 k u (by omega) (by rw [List.drop_zero, hd]; exact decFrom_digits u) hu (by omega)
  have hL : spec_l00Number.l0 k (dgt u) x4 0 0 = some (wrap64 (x4 * (u : Int)), true) := by simpa using hL
  by_cases hz : u = 0
  · subst hz
    have e : (dgt 0).size = 1 := by rw [hsz, Go.Lib.decDigits_one (by decide)]; rfl
    have hb : bt (dgt 0) ((0 : Nat) : Int) = 48 := by
      rw [bt_list _ _ (by omega)]
      simp [hd, Go.Lib.decDigits_one]
    have hb : bt (dgt 0) 0 = 48 := by simpa using hb
    rw [spec_l00Number.j1, if_neg (by omega), if_neg (by omega), if_pos (by omega), if_pos hb, if_neg (by omega), spec_l00Number.j2, if_neg (by simpa using h0 rfl), hL]
  · obtain ⟨b, r, e, h1, h2⟩ := head_digit u (by omega)
    have hp : 0 < (dgt u).size := by rw [hsz, e]; simp
    have hb : bt (dgt u) ((0 : Nat) : Int) = (b.toNat : Int) := by
      rw [bt_list _ _ hp]
      simp [hd, e]
    have hb : bt (dgt u) 0 = (b.toNat : Int) := by simpa using hb
    rw [spec_l00Number.j1, if_neg (by omega), if_neg (by omega), if_pos (by omega), if_neg (by omega), spec_l00Number.j2, if_neg (by decide), hL]

theorem digits_short (u : Nat) (h : u ≤ 9999999999) : (Go.Lib.decDigits u).length ≤ 11 := (digits_is 10 u 20 (by have : (10 : Nat) ^ (10 + 1) = 100000000000 := rfl; omega) (by omega) (by omega)).2
theorem number_is (n : Int) (k : Nat) (h0 : -9999999999 ≤ n) (h1 : n ≤ 9999999999) (hk : 40 < k) : spec_l00Number.f k (itx n) = some (n, true) := by
  by_cases h : n < 0
  · obtain ⟨k, rfl⟩ : ∃ m, k = m + 1 := ⟨k - 1, by omega⟩
    have ei : itx n = mkb (45 :: Go.Lib.decDigits n.natAbs) := by
      unfold itx mkb Go.Lib.itoa
      rw [if_pos h]
    have hsz : (itx n).size = (Go.Lib.decDigits n.natAbs).length + 1 := by rw [ei]; simp [mkb, ByteArray.size]
    have hb : bt (itx n) ((0 : Nat) : Int) = 45 := by
      rw [bt_list _ _ (by omega)]
      simp [ei, mkb]
    have hb : bt (itx n) 0 = 45 := by simpa using hb
    have hx : (itx n).extract 1 (itx n).size = dgt n.natAbs := by
      rw [mkb_ext _ _ _ (Nat.le_refl _), ei]
      unfold mkb dgt
      congr 2
      simp [ByteArray.size]
    have hj := num_j1 n.natAbs (-1) k (by omega) (by have := digits_short n.natAbs (by omega); omega) (fun e => by omega) (by omega)
    have HBt := Aside0.mk hb
    clear hb ei
    have g1 : ((itx n).size : Int) > 0 := by omega
    have g2 : (0 : Int) < ((itx n).size : Int) := by omega
    have g3 : (1 : Int) ≤ ((itx n).size : Int) := by omega
    have e : wrap64 (-1 * (n.natAbs : Int)) = n := by rw [w64_id (by omega) (by omega)]; omega
    unfold spec_l00Number.f
    rw [if_pos g1, if_pos g2, HBt.out, spec_l00Number.j0, if_pos (by decide), if_pos g3, hx, hj, e]
  · obtain ⟨u, rfl⟩ := Int.eq_ofNat_of_zero_le (show 0 ≤ n by omega)
    obtain ⟨k, rfl⟩ : ∃ m, k = m + 1 := ⟨k - 1, by omega⟩
    have ei : itx (u : Int) = dgt u := by
      unfold itx dgt Go.Lib.itoa
      rw [if_neg h]
      rfl
    have hj := num_j1 u 1 k (by omega) (by have := digits_short u (by omega); omega) (fun e => by omega) (by omega)
    have hne : ∃ b r, Go.Lib.decDigits u = b :: r ∧ b.toNat ≠ 45 := by
      by_cases hz : u = 0
      · subst hz
        exact ⟨48, [], by rw [Go.Lib.decDigits_one (by decide)]; rfl, by decide⟩
      · obtain ⟨b, r, e, h3, h4⟩ := head_digit u (by omega)
        exact ⟨b, r, e, by omega⟩
    obtain ⟨b, r, e, hb5⟩ := hne
    have hsz : (dgt u).size = r.length + 1 := by simp [dgt, ByteArray.size, e]
    have hb : bt (dgt u) ((0 : Nat) : Int) = (b.toNat : Int) := by
      rw [bt_list _ _ (by omega)]
      simp [dgt, e]
    have hb : bt (dgt u) 0 = (b.toNat : Int) := by simpa using hb
    have HBt := Aside0.mk hb
    clear hb
    have g1 : ((dgt u).size : Int) > 0 := by omega
    have g2 : (0 : Int) < ((dgt u).size : Int) := by omega
    have g4 : ¬ ((b.toNat : Int) == 45) = true := by
      intro q
      have q2 : (b.toNat : Int) = 45 := by simpa using q
      omega
    have ew : wrap64 (1 * (u : Int)) = (u : Int) := by rw [w64_id (by omega) (by omega)]; omega
    unfold spec_l00Number.f
    rw [ei, if_pos g1, if_pos g2, HBt.out, spec_l00Number.j0, if_neg g4, hj, ew]

theorem atoi_is (n : Int) (h0 : -9999999999 ≤ n) (h1 : n ≤ 9999999999) : Go.Lib.atoiAll (Go.Lib.itoa n) = .ok n := by
  have hnat : ∀ u : Nat, Go.Lib.decNat (Go.Lib.decDigits u) = some u := fun u => by
    unfold Go.Lib.decNat
    rw [decFrom_digits]
    by_cases hz : u = 0
    · subst hz
      rw [Go.Lib.decDigits_one (by decide)]
      rfl
    · obtain ⟨b, r, e, _, _⟩ := head_digit u (by omega)
      rw [e]
      rfl
  by_cases h : n < 0
  · have e : Go.Lib.itoa n = 45 :: Go.Lib.decDigits n.natAbs := by unfold Go.Lib.itoa; rw [if_pos h]
    have hl := digits_short n.natAbs (by omega)
    rw [e, Go.Lib.atoiAll_short _ (by simp; omega), Go.Lib.atoi]
    rw [if_pos (by decide), hnat]
    show Go.Lib.NumEnd.ok (-(n.natAbs : Int)) = _
    congr 1
    omega
  · obtain ⟨u, rfl⟩ := Int.eq_ofNat_of_zero_le (show 0 ≤ n by omega)
    have hl := digits_short u (by omega)
    rw [Go.Lib.itoa_nonneg, Go.Lib.atoiAll_short _ (by omega)]
    have hh := hnat u
    have hne : ∃ b r, Go.Lib.decDigits u = b :: r ∧ b.toNat ≠ 45 ∧ b.toNat ≠ 43 := by
      by_cases hz : u = 0
      · subst hz
        exact ⟨48, [], by rw [Go.Lib.decDigits_one (by decide)]; rfl, by decide, by decide⟩
      · obtain ⟨b, r, e, h3, h4⟩ := head_digit u (by omega)
        exact ⟨b, r, e, by omega, by omega⟩
    obtain ⟨b, r, e, n1, n2⟩ := hne
    rw [e] at hh ⊢
    rw [Go.Lib.atoi, if_neg (by simp; rintro rfl; exact n1 rfl), if_neg (by simp; rintro rfl; exact n2 rfl), hh]
    rfl

theorem trim_off (a p : ByteArray) (h : p.size ≤ a.size) (e : (a.extract 0 p.size).toList = p.toList) : strings_TrimPrefix.f a p = some (a.extract p.size a.size) := by
  unfold strings_TrimPrefix.f stringslite_TrimPrefix.f stringslite_HasPrefix.f
  rw [if_pos (by omega), if_pos (by omega), if_pos (by omega)]
  simp only [Int.toNat_natCast, e, beq_self_eq_true, Option.bind_some, if_true]
  rw [if_pos (by omega), if_pos (by omega)]
  rfl
theorem trim_not (a p : ByteArray) (h : p.size ≤ a.size) (e : ¬ (a.extract 0 p.size).toList = p.toList) : strings_TrimPrefix.f a p = some a := by
  unfold strings_TrimPrefix.f stringslite_TrimPrefix.f stringslite_HasPrefix.f
  rw [if_pos (by omega), if_pos (by omega), if_pos (by omega)]
  simp only [Int.toNat_natCast, Option.bind_some]
  rw [if_neg (by simpa using e)]
  rfl
theorem readInt_is (n : Int) (h0 : -9999999999 ≤ n) (h1 : n ≤ 9999999999) : impl_readInt.f (itx n) = some (n, true) := by
  have hd : ∃ d : ByteArray, strings_TrimPrefix.f (itx n) ⟨#[45]⟩ = some d ∧ 1 ≤ d.size ∧ d.size ≤ 18 := by
    have s1 : (⟨#[45]⟩ : ByteArray).size = 1 := rfl
    have hlen : ∀ u : Nat, u ≤ 9999999999 → 1 ≤ (Go.Lib.decDigits u).length ∧ (Go.Lib.decDigits u).length ≤ 11 := fun u hu => ⟨by
      rw [Go.Lib.decDigits_length]
      exact Go.Lib.nDigits_pos u, digits_short u hu⟩
    have hz : (itx n).size = (Go.Lib.itoa n).length := by simp [itx, ByteArray.size]
    by_cases h : n < 0
    · have e : Go.Lib.itoa n = 45 :: Go.Lib.decDigits n.natAbs := by unfold Go.Lib.itoa; rw [if_pos h]
      obtain ⟨l1, l2⟩ := hlen n.natAbs (by omega)
      have hz2 : (itx n).size = (Go.Lib.decDigits n.natAbs).length + 1 := by rw [hz, e]; rfl
      refine ⟨_, trim_off (itx n) ⟨#[45]⟩ (by omega) ?_, ?_, ?_⟩
      · rw [s1, mkb_ext _ _ _ (by omega)]
        simp [mkb, itx, e, ByteArray.toList_eq]
      · rw [ByteArray.size_extract, s1]
        omega
      · rw [ByteArray.size_extract, s1]
        omega
    · obtain ⟨u, rfl⟩ := Int.eq_ofNat_of_zero_le (show 0 ≤ n by omega)
      obtain ⟨l1, l2⟩ := hlen u (by omega)
      have hz2 : (itx (u : Int)).size = (Go.Lib.decDigits u).length := by rw [hz, Go.Lib.itoa_nonneg]
      by_cases q : ((itx (u : Int)).extract 0 (⟨#[45]⟩ : ByteArray).size).toList = (⟨#[45]⟩ : ByteArray).toList
      · exfalso
        have hne : ∃ b r, Go.Lib.decDigits u = b :: r ∧ b.toNat ≠ 45 := by
          by_cases hz : u = 0
          · subst hz
            exact ⟨48, [], by rw [Go.Lib.decDigits_one (by decide)]; rfl, by decide⟩
          · obtain ⟨b, r, e, h3, h4⟩ := head_digit u (by omega)
            exact ⟨b, r, e, by omega⟩
        obtain ⟨b, r, e, nb⟩ := hne
        rw [s1, mkb_ext _ _ _ (by omega)] at q
        simp [mkb, itx, Go.Lib.itoa_nonneg, e, ByteArray.toList_eq] at q
        exact nb (by rw [q]; rfl)
      · exact ⟨_, trim_not _ _ (by omega) q, by omega, by omega⟩
  obtain ⟨d, e1, e2, e3⟩ := hd
  have hA : Go.Lib.atoiAll (itx n).data.toList = .ok n := by
    have : (itx n).data.toList = Go.Lib.itoa n := by simp [itx]
    rw [this, atoi_is n h0 h1]
  have hT : (itx n).toList = Go.Lib.itoa n := by simp [itx, ByteArray.toList_eq]
  unfold impl_readInt.f impl_within.f
  rw [e1, Option.bind_some, if_pos (by omega), Option.bind_some, if_pos (by simp; omega), hA]
  simp [hT]

/-- A register's text. -/
def rtx (r : Int) : ByteArray := (⟨#[120]⟩ : ByteArray) ++ itx r
theorem rtx_data (r : Int) : (rtx r).data.toList = 120 :: (itx r).data.toList := by
  unfold rtx
  simp
theorem rtx_size (r : Int) : (rtx r).size = (itx r).size + 1 := by
  unfold rtx
  rw [ByteArray.size_append]
  have : (⟨#[120]⟩ : ByteArray).size = 1 := rfl
  omega
theorem rtx_tail (r : Int) : (rtx r).extract 1 (rtx r).size = itx r := by
  rw [mkb_ext _ _ _ (Nat.le_refl _), rtx_data, rtx_size]
  simp [mkb, itx, ByteArray.size]
theorem sreg_is (r : Int) (k : Nat) (h0 : 0 ≤ r) (h1 : r ≤ 31) (hk : 50 < k) : spec_l02ReadReg.f k (rtx r) = some r := by
  obtain ⟨k, rfl⟩ : ∃ m, k = m + 1 := ⟨k - 1, by omega⟩
  have hn := number_is r k (by omega) (by omega) (by omega)
  have hs := rtx_size r
  have hz : 1 ≤ (itx r).size := by
    have : (itx r).size = (Go.Lib.itoa r).length := by simp [itx, ByteArray.size]
    obtain ⟨u, rfl⟩ := Int.eq_ofNat_of_zero_le h0
    rw [this, Go.Lib.itoa_nonneg, Go.Lib.decDigits_length]
    exact Go.Lib.nDigits_pos u
  have hb : bt (rtx r) ((0 : Nat) : Int) = 120 := by
    rw [bt_list _ _ (by omega)]
    simp [rtx_data]
  have hb : bt (rtx r) 0 = 120 := by simpa using hb
  have HBt := Aside0.mk hb
  clear hb
  have g1 : ¬ ((rtx r).size : Int) < 2 := by omega
  have g2 : (0 : Int) < ((rtx r).size : Int) := by omega
  have g3 : (1 : Int) ≤ ((rtx r).size : Int) := by omega
  have hr : spec_l02Reg.f r = some true := by
    unfold spec_l02Reg.f spec_l01In.f
    simp [h0, h1]
  unfold spec_l02ReadReg.f
  rw [if_neg g1, if_pos g2, HBt.out, spec_l02ReadReg.j0, if_neg (by decide), if_pos g3, rtx_tail, hn, Option.bind_some]
  dsimp only
  rw [if_pos rfl, hr, Option.bind_some, if_pos rfl]
theorem ireg_is (r : Int) (h0 : 0 ≤ r) (h1 : r ≤ 31) : impl_readReg.f (rtx r) = some r := by
  have s1 : (⟨#[120]⟩ : ByteArray).size = 1 := rfl
  have hs := rtx_size r
  have ht := trim_off (rtx r) ⟨#[120]⟩ (by omega) (by
    rw [s1, mkb_ext _ _ _ (by omega), rtx_data]
    simp [mkb, ByteArray.toList_eq])
  rw [s1, rtx_tail] at ht
  unfold impl_readReg.f
  rw [ht, Option.bind_some, readInt_is r (by omega) (by omega), Option.bind_some]
  rfl

theorem no32 (l : List UInt8) (h : ∀ k : Nat, l[k]? ≠ some 32) : ∀ b ∈ l, b ≠ 32 := fun b hb e => by
  obtain ⟨k, hk⟩ := List.mem_iff_getElem?.mp hb
  exact h k (hk.trans (by rw [e]))
theorem wds_none (l : List UInt8) (h : ∀ b ∈ l, b ≠ 32) : wds [] l = if l = [] then [] else [l] := by
  have := wds_run l [] [] h
  simp at this
  rw [this, wds]
theorem wds_cut (A R L : List UInt8) (e : L = A ++ 32 :: R) (hA : ∀ b ∈ A, b ≠ 32) : wds [] L = if A = [] then wds [] R else A :: wds [] R := by
  subst e
  rw [wds_run _ [] _ hA, List.nil_append, wds, if_pos rfl]
theorem split_wds : ∀ (k : Nat) (s : ByteArray), Go.Lib.countB s ⟨#[32]⟩ = k → ((Go.Lib.splitB ⟨#[32]⟩ 0 k s).filter fun x => !x.toList.isEmpty) = (wds [] s.data.toList).map mkb := by
  intro k
  induction k with
  | zero =>
    intro s hc
    rcases Go.Lib.indexB_cases s ⟨#[32]⟩ with h | ⟨i, h, hi⟩
    · have hn : ∀ b ∈ s.data.toList, b ≠ 32 := no32 _ (Go.Lib.indexByte_none (by rw [← Go.Lib.index_one]; exact h))
      rw [Go.Lib.splitB_zero, wds_none _ hn]
      by_cases e : s.data.toList = []
      · have e2 : s.data = #[] := by simpa using e
        rw [if_pos e]
        simp [ByteArray.toList_eq, e2]
      · have e2 : ¬ s.data = #[] := fun z => e (by rw [z])
        rw [if_neg e]
        simp [ByteArray.toList_eq, e2, mkb]
    · rw [Go.Lib.countB_hit s _ i (by decide) h] at hc
      omega
  | succ k ih =>
    intro s hc
    rcases Go.Lib.indexB_cases s ⟨#[32]⟩ with h | ⟨i, h, hi⟩
    · rw [Go.Lib.countB_miss s _ h] at hc
      omega
    · rw [Go.Lib.countB_hit s _ i (by decide) h] at hc
      have s1 : (⟨#[32]⟩ : ByteArray).size = 1 := rfl
      rw [s1] at hc hi
      have hr := ih (s.extract (i + 1) s.size) (by omega)
      obtain ⟨q1, q2⟩ := Go.Lib.indexByte_some (l := s.data.toList) (c := 32) (o := i) (by rw [← Go.Lib.index_one]; exact h)
      have hl : s.data.toList.length = s.size := by simp
      have hA : ∀ b ∈ s.data.toList.take i, b ≠ 32 := no32 _ (fun j => by
        rw [List.getElem?_take]
        split
        · exact q2 j (by assumption)
        · simp)
      have hsp : s.data.toList = s.data.toList.take i ++ 32 :: s.data.toList.drop (i + 1) := by
        have hd : s.data.toList.drop i = s.data.toList[i]'(by omega) :: s.data.toList.drop (i + 1) := List.drop_eq_getElem_cons (by omega)
        have hg : s.data.toList[i]'(by omega) = 32 := by
          rw [List.getElem?_eq_getElem (by omega)] at q1
          exact Option.some.inj q1
        rw [← hg, ← hd, List.take_append_drop]
      have hw := wds_cut _ _ _ hsp hA
      have hx : (s.extract (i + 1) s.size).data.toList = s.data.toList.drop (i + 1) := by
        rw [mkb_ext s _ _ (Nat.le_refl _)]
        unfold mkb
        rw [List.take_of_length_le (by simp)]
      have hy : s.extract 0 (i + 0) = mkb (s.data.toList.take i) := by
        rw [mkb_ext s _ _ (by omega)]
        simp
      rw [Go.Lib.splitB_hit _ _ _ _ i h, List.filter_cons, s1, hr, hx, hw, hy]
      by_cases e : s.data.toList.take i = []
      · rw [if_neg (by simp [e, mkb, ByteArray.toList_eq]), if_pos e]
      · rw [if_pos (by simp [mkb, ByteArray.toList_eq, e]), if_neg e]
        rfl
theorem wordsOf_is (s : ByteArray) (hs : s.size ≤ 100000) : impl_wordsOf.f s = some ((wds [] s.data.toList).map mkb) := by
  unfold impl_wordsOf.f impl_wordsOf.ws
  rw [if_pos (by omega), split_wds _ s rfl]

/-- The words' measure. -/
def tot (ws : List (List UInt8)) : Nat := (ws.map fun w => w.length + 1).sum
theorem tot_cons (w : List UInt8) (r : List (List UInt8)) : tot (w :: r) = w.length + 1 + tot r := by
  unfold tot
  simp
theorem wds_tot : ∀ (l cur : List UInt8), tot (wds cur l) ≤ cur.length + l.length + 1
  | [], cur => by
    unfold wds
    split
    · exact Nat.zero_le _
    · rw [tot_cons]
      have : tot [] = 0 := rfl
      simp
      omega
  | b :: r, cur => by
    have h1 := wds_tot r []
    have h2 := wds_tot r (cur ++ [b])
    simp only [List.length_nil, List.length_append, List.length_cons] at h1 h2 ⊢
    unfold wds
    split
    · split
      · omega
      · rw [tot_cons]
        omega
    · omega
theorem tot_len : ∀ (ws : List (List UInt8)), ws.length ≤ tot ws
  | [] => Nat.zero_le _
  | w :: r => by
    have := tot_len r
    rw [tot_cons, List.length_cons]
    omega
theorem tot_mem : ∀ (ws : List (List UInt8)) (w : List UInt8), w ∈ ws → w.length + 1 ≤ tot ws
  | [], _, h => by cases h
  | v :: r, w, h => by
    rw [tot_cons]
    rcases List.mem_cons.mp h with rfl | h
    · omega
    · have := tot_mem r w h
      omega
theorem tot_join : ∀ (ws : List (List UInt8)), (Go.Lib.join ws [32]).length ≤ tot ws
  | [] => Nat.zero_le _
  | [w] => by
    rw [Go.Lib.join_one, tot_cons]
    omega
  | w :: v :: r => by
    have e : Go.Lib.join (w :: v :: r) [32] = w ++ 32 :: Go.Lib.join (v :: r) [32] := by
      rw [Go.Lib.join_cons, Go.Lib.join_cons]
      simp [Go.Lib.joinTail]
    have := tot_join (v :: r)
    rw [e, tot_cons, List.length_append, List.length_cons]
    omega
theorem mkb_data (l : List UInt8) : (mkb l).data.toList = l := by simp [mkb]
theorem mkb_map {a b : List (List UInt8)} (h : a.map mkb = b.map mkb) : a = b := by
  have := congrArg (List.map fun x : ByteArray => x.data.toList) h
  simpa [Function.comp_def, mkb_data] using this
theorem mkb_back (a : List (List UInt8)) : (a.map mkb).map (fun x => x.data.toList) = a := by simp [Function.comp_def, mkb_data]
theorem toL_inj {a b : ByteArray} (h : a.toList = b.toList) : a = b := by
  rw [ByteArray.toList_eq, ByteArray.toList_eq] at h
  exact ByteArray.ext (Array.ext' h)
theorem same_l (x y : List ByteArray) (hl : x.length = y.length) (hs : x.length ≤ 1000000) : ∀ (d i k : Nat), i + d = x.length → d < k →
    spec_l00SameTexts.l0 k x y (i : Int) = some (decide (x.drop i = y.drop i)) := by
  intro d
  induction d with
  | zero =>
    intro i k hi hk
    obtain ⟨k, rfl⟩ : ∃ m, k = m + 1 := ⟨k - 1, by omega⟩
    simp only [spec_l00SameTexts.l0]
    rw [if_neg (by omega), List.drop_eq_nil_of_le (by omega), List.drop_eq_nil_of_le (by omega)]
    simp
  | succ d ih =>
    intro i k hi hk
    obtain ⟨k, rfl⟩ : ∃ m, k = m + 1 := ⟨k - 1, by omega⟩
    simp only [spec_l00SameTexts.l0]
    have h1 : i < x.length := by omega
    have h2 : i < y.length := by omega
    rw [if_pos (by omega), if_pos (by omega), if_pos (by omega), rdOf_at x i h1, rdOf_at y i h2, List.drop_eq_getElem_cons h1, List.drop_eq_getElem_cons h2, w64_id (by omega) (by omega)]
    have e : ((i : Int) + 1) = ((i + 1 : Nat) : Int) := by omega
    rw [e, ih (i + 1) k (by omega) (by omega)]
    by_cases c : x[i].toList = y[i].toList
    · rw [if_pos c]
      have c' := toL_inj c
      exact congrArg some (decide_eq_decide.mpr ⟨fun h => by rw [c', h], fun h => (List.cons.inj h).2⟩)
    · rw [if_neg c]
      exact congrArg some (Eq.symm (decide_eq_false fun h => c (by rw [(List.cons.inj h).1])))
theorem same_is (x y : List ByteArray) (hs : x.length ≤ 1000000) (k : Nat) (hk : x.length < k) : spec_l00SameTexts.f k x y = some (decide (x = y)) := by
  unfold spec_l00SameTexts.f
  by_cases h : x.length = y.length
  · rw [if_pos (by omega)]
    have := same_l x y h hs x.length 0 k (by omega) hk
    simpa using this
  · rw [if_neg (by omega)]
    have : ¬ x = y := fun e => h (by rw [e])
    simp [this]
/-- What the reference's readers tell of a text. -/
def rgS (s : ByteArray) : Int := (spec_l02ReadReg.f (s.size + 5) s).getD 0
def nmS (s : ByteArray) : Int × Bool := (spec_l00Number.f (s.size + 4) s).getD (0, false)
theorem rgS_is (s : ByteArray) (hs : s.size ≤ 100000) (k : Nat) (hk : s.size + 4 < k) : spec_l02ReadReg.f k s = some (rgS s) := by
  obtain ⟨r, h⟩ := sreg_tot s hs
  have e := h (s.size + 5) (by omega)
  have : rgS s = r := by unfold rgS; rw [e]; rfl
  rw [h k hk, this]
theorem nmS_is (s : ByteArray) (hs : s.size ≤ 100000) (k : Nat) (hk : s.size + 3 < k) : spec_l00Number.f k s = some (nmS s) := by
  obtain ⟨r, h⟩ := number_tot s hs
  have e := h (s.size + 4) (by omega)
  have : nmS s = r := by unfold nmS; rw [e]; rfl
  rw [h k hk, this]
theorem rgS_at (r : Int) (h0 : 0 ≤ r) (h1 : r ≤ 31) (hs : (rtx r).size ≤ 100000) : rgS (rtx r) = r := by
  have h := rgS_is (rtx r) hs (100000 + 51) (by omega)
  rw [sreg_is r _ h0 h1 (by omega)] at h
  exact (Option.some.inj h).symm
theorem nmS_at (n : Int) (h0 : -9999999999 ≤ n) (h1 : n ≤ 9999999999) (hs : (itx n).size ≤ 100000) : nmS (itx n) = (n, true) := by
  have h := nmS_is (itx n) hs (100000 + 51) (by omega)
  rw [number_is n _ h0 h1 (by omega)] at h
  exact (Option.some.inj h).symm

/-- The name of an op. -/
def nmO (o : Int) : ByteArray := rdOf ByteArray.empty onames (o - 1)
/-- What the reference tells, the fields read. -/
def sEnd (l : List ByteArray) (o F d a b i : Int) (nb : Bool) : Int × Int × Int × Int × Int × Bool :=
  if nb = true ∧ rightB F d a b i = true ∧ (pcs F (nmO o).data.toList d a b i).map mkb = l then (o, d, a, b, i, true) else (0, 0, 0, 0, 0, false)
theorem pcs_len (F : Int) (N : List UInt8) (d a b i : Int) : (pcs F N d a b i).length ≤ 4 := by
  unfold pcs
  repeat' split
  all_goals simp
theorem right_un {F d a b i : Int} (h : rightB F d a b i = true) : (0 ≤ d ∧ d ≤ 31) ∧ (0 ≤ a ∧ a ≤ 31) ∧ (0 ≤ b ∧ b ≤ 31) ∧ (dB F = false → d = 0) ∧ (aB F = false → a = 0) ∧ (bB F = false → b = 0) ∧ immB F i = true := by
  unfold rightB inB at h
  simp only [Bool.and_eq_true, Bool.or_eq_true, decide_eq_true_eq, beq_iff_eq] at h
  obtain ⟨⟨⟨⟨⟨⟨rd, ra⟩, rb⟩, h1⟩, h2⟩, h3⟩, ri⟩ := h
  refine ⟨rd, ra, rb, fun e => ?_, fun e => ?_, fun e => ?_, ri⟩
  · rcases h1 with h | h
    · rw [e] at h
      cases h
    · exact h
  · rcases h2 with h | h
    · rw [e] at h
      cases h
    · exact h
  · rcases h3 with h | h
    · rw [e] at h
      cases h
    · exact h
theorem text_short (F o d a b i : Int) (hr : rightB F d a b i = true) : (textV F (rdOf ByteArray.empty onames (o - 1)) ((⟨#[32]⟩ : ByteArray) ++ itx i) (rtd d) (rtd a) (rtd b)).size ≤ 200 := by
  obtain ⟨rd, ra, rb, _, _, _, ri⟩ := right_un hr
  obtain ⟨i0, i1⟩ := imm_small F i ri
  have sn := name_short (o - 1)
  have s1 := (reg_isv d rd.1 rd.2).2.2
  have s2 := (reg_isv a ra.1 ra.2).2.2
  have s3 := (reg_isv b rb.1 rb.2).2.2
  have s4 := (num_is i 13 (by omega) (by omega) (by omega)).2.2
  have s5 : (⟨#[32]⟩ : ByteArray).size = 1 := rfl
  clear hr ri
  unfold textV
  repeat' split
  all_goals (try simp only [ByteArray.size_append]); omega
theorem j5_is (l : List ByteArray) (k : Nat) (nb : Bool) (o F c f3 f7 d a b i : Int) (h1 : 1 ≤ o) (h2 : o ≤ 64) (hs : spec_l02Shape.f o = some (F, c, f3, f7)) (hi : impl_shapeOf.f o = some (F, c, f3, f7)) (hF : 1 ≤ F ∧ F ≤ 9) (hk : 1000 < k) :
    spec_l02Read.j5 k l nb o d a b i = some (sEnd l o F d a b i nb) := by
  obtain ⟨k, rfl⟩ : ∃ m, k = m + 6 := ⟨k - 6, by omega⟩
  rw [spec_l02Read.j5]
  unfold sEnd
  cases nb with
  | false => simp
  | true =>
    rw [if_pos rfl, sright_is k o F c f3 f7 d a b i h1 h2 hs hF, Option.bind_some]
    cases hr : rightB F d a b i with
    | false => simp
    | true =>
      have hz := text_short F o d a b i hr
      have hg := pcs_good F (nmO o).data.toList d a b i (name_good (o - 1) (by omega) (by omega))
      have hl := pcs_len F (nmO o).data.toList d a b i
      have hm : ((pcs F (nmO o).data.toList d a b i).map mkb).length ≤ 4 := by rw [List.length_map]; exact hl
      rw [if_pos rfl, (text_isv o F c f3 f7 d a b i (k + 3) h1 h2 hs hi hr (by omega)).1, Option.bind_some, words_is _ (by omega) (k + 5) (by omega), Option.bind_some, textV_data]
      have hj := wds_join _ hg
      unfold nmO at hj hm ⊢
      rw [hj, same_is _ _ (by omega) (k + 5) (by omega), Option.bind_some]
      by_cases e : (pcs F (rdOf ByteArray.empty onames (o - 1)).data.toList d a b i).map mkb = l
      · simp [e]
      · simp [e]
theorem l1_end (l : List ByteArray) (k : Nat) (r1 r2 r3 : Int) (o F c f3 f7 : Int) (h1 : 1 ≤ o) (h2 : o ≤ 64) (hs : spec_l02Shape.f o = some (F, c, f3, f7)) (hi : impl_shapeOf.f o = some (F, c, f3, f7)) (hF : 1 ≤ F ∧ F ≤ 9) (hl : 0 < l.length) (hll : l.length ≤ 100000) (hz : (rdOf ByteArray.empty l ((l.length : Int) - 1)).size ≤ 65536) (hk : 100000 < k) :
    spec_l02Read.l1 k l [r1, r2, r3] o 0 0 0 0 = some (sEnd l o F (impl_readInstr.d F r1) (impl_readInstr.a F r1 r2) (impl_readInstr.b F r1 r2 r3) (if F = 8 ∨ F = 9 then 0 else (nmS (rdOf ByteArray.empty l ((l.length : Int) - 1))).1) ((nmS (rdOf ByteArray.empty l ((l.length : Int) - 1))).2 || F == 8 || F == 9)) := by
  obtain ⟨k, rfl⟩ : ∃ m, k = m + 4 := ⟨k - 4, by omega⟩
  have hj : ∀ (q : Nat) (nb : Bool) (d a b i : Int), 1000 < q → spec_l02Read.j5 q l nb o d a b i = some (sEnd l o F d a b i nb) := fun q nb d a b i hq => j5_is l q nb o F c f3 f7 d a b i h1 h2 hs hi hF hq
  have j1 := fun nb d a b i => hj (k + 1) nb d a b i (by omega)
  have j2 := fun nb d a b i => hj (k + 2) nb d a b i (by omega)
  rw [spec_l02Read.l1, if_neg (by simp), w64_id (by omega) (by omega), if_pos (by omega), if_pos (by omega), nmS_is _ (by omega) (k + 3) (by omega), Option.bind_some, hs, Option.bind_some]
  clear hj hs hi
  dsimp only
  rcases forms F hF with rfl | rfl | rfl | rfl | rfl | rfl | rfl | rfl | rfl <;> simp [spec_l02Read.j3, spec_l02Read.j4, rd, impl_readInstr.d, impl_readInstr.a, impl_readInstr.b, j1, j2]
theorem l0_go (l : List ByteArray) (x6 : List Int) (i k : Nat) (o : Int) (h : i < l.length) (h4 : i < 4) (hx : x6.length < 100) (hs : (l[i]).size ≤ 65536) (hk : 100000 < k) :
    spec_l02Read.l0 (k + 1) l x6 (i : Int) o 0 0 0 0 = spec_l02Read.l0 k l (x6 ++ [rgS l[i]]) ((i + 1 : Nat) : Int) o 0 0 0 0 := by
  rw [spec_l02Read.l0, if_pos (by omega), if_pos (by omega), if_pos (by omega), rdOf_at l i h, rgS_is _ (by omega) k (by omega), Option.bind_some, if_pos (by omega), w64_id (by omega) (by omega)]
  rfl
theorem l0_end (l : List ByteArray) (x6 : List Int) (i k : Nat) (o : Int) (h : ¬ (i < l.length ∧ i < 4)) :
    spec_l02Read.l0 (k + 2) l x6 (i : Int) o 0 0 0 0 = spec_l02Read.l1 k l x6 o 0 0 0 0 := by
  rw [spec_l02Read.l0]
  by_cases h1 : i < l.length
  · rw [if_pos (by omega), if_neg (by omega), spec_l02Read.j1]
  · rw [if_neg (by omega), spec_l02Read.j1]
theorem l1_pad (l : List ByteArray) (x6 : List Int) (k : Nat) (o : Int) (h : x6.length < 3) :
    spec_l02Read.l1 (k + 1) l x6 o 0 0 0 0 = spec_l02Read.l1 k l (x6 ++ [0]) o 0 0 0 0 := by
  rw [spec_l02Read.l1, if_pos (by omega), if_pos (by omega)]
/-- The register that word j tells, 0 beyond the words. -/
def rgA (l : List ByteArray) (j : Nat) : Int := if h : j < l.length then rgS l[j] else 0
def nmA (l : List ByteArray) : Int × Bool := nmS (rdOf ByteArray.empty l ((l.length : Int) - 1))
/-- What the reference tells of words whose op is o, of form F. -/
def specX (l : List ByteArray) (o F : Int) : Int × Int × Int × Int × Int × Bool :=
  sEnd l o F (impl_readInstr.d F (rgA l 1)) (impl_readInstr.a F (rgA l 1) (rgA l 2)) (impl_readInstr.b F (rgA l 1) (rgA l 2) (rgA l 3)) (if F = 8 ∨ F = 9 then 0 else (nmA l).1) ((nmA l).2 || F == 8 || F == 9)
theorem sread_is (l : List ByteArray) (k : Nat) (o F c f3 f7 : Int) (h1 : 1 ≤ o) (h2 : o ≤ 64) (hs : spec_l02Shape.f o = some (F, c, f3, f7)) (hi : impl_shapeOf.f o = some (F, c, f3, f7)) (hF : 1 ≤ F ∧ F ≤ 9) (hl : 0 < l.length) (hll : l.length ≤ 100000) (hz : ∀ x ∈ l, x.size ≤ 65536) (hk : 200000 < k) :
    spec_l02Read.l0 k l [] 1 o 0 0 0 0 = some (specX l o F) := by
  have hlast : (rdOf ByteArray.empty l ((l.length : Int) - 1)).size ≤ 65536 := by
    have e : ((l.length : Int) - 1) = ((l.length - 1 : Nat) : Int) := by omega
    rw [e, rdOf_at l (l.length - 1) (by omega)]
    exact hz _ (List.getElem_mem _)
  have he := fun q r1 r2 r3 hq => l1_end l q r1 r2 r3 o F c f3 f7 h1 h2 hs hi hF hl hll hlast hq
  clear hs hi
  obtain ⟨k, rfl⟩ : ∃ m, k = m + 10 := ⟨k - 10, by omega⟩
  unfold specX nmA
  show spec_l02Read.l0 (k + 10) l [] ((1 : Nat) : Int) o 0 0 0 0 = _
  by_cases c1 : 1 < l.length
  · have e1 : rgA l 1 = rgS l[1] := by unfold rgA; rw [dif_pos c1]
    rw [l0_go l [] 1 (k + 9) o c1 (by omega) (by simp) (hz _ (List.getElem_mem _)) (by omega)]
    by_cases c2 : 2 < l.length
    · have e2 : rgA l 2 = rgS l[2] := by unfold rgA; rw [dif_pos c2]
      rw [l0_go l _ 2 (k + 8) o c2 (by omega) (by simp) (hz _ (List.getElem_mem _)) (by omega)]
      by_cases c3 : 3 < l.length
      · have e3 : rgA l 3 = rgS l[3] := by unfold rgA; rw [dif_pos c3]
        rw [l0_go l _ 3 (k + 7) o c3 (by omega) (by simp) (hz _ (List.getElem_mem _)) (by omega), l0_end l _ 4 (k + 5) o (by omega), e1, e2, e3]
        exact he _ _ _ _ (by omega)
      · have e3 : rgA l 3 = 0 := by unfold rgA; rw [dif_neg c3]
        rw [l0_end l _ 3 (k + 6) o (by omega), l1_pad l _ (k + 5) o (by simp), e1, e2, e3]
        exact he _ _ _ _ (by omega)
    · have e2 : rgA l 2 = 0 := by unfold rgA; rw [dif_neg c2]
      have e3 : rgA l 3 = 0 := by unfold rgA; rw [dif_neg (by omega)]
      rw [l0_end l _ 2 (k + 7) o (by omega), l1_pad l _ (k + 6) o (by simp), l1_pad l _ (k + 5) o (by simp), e1, e2, e3]
      exact he _ _ _ _ (by omega)
  · have e1 : rgA l 1 = 0 := by unfold rgA; rw [dif_neg c1]
    have e2 : rgA l 2 = 0 := by unfold rgA; rw [dif_neg (by omega)]
    have e3 : rgA l 3 = 0 := by unfold rgA; rw [dif_neg (by omega)]
    rw [l0_end l _ 1 (k + 8) o (by omega), l1_pad l _ (k + 7) o (by simp), l1_pad l _ (k + 6) o (by simp), l1_pad l _ (k + 5) o (by simp), e1, e2, e3]
    exact he _ _ _ _ (by omega)

theorem mkb_reg (r : Int) : mkb (120 :: Go.Lib.itoa r) = rtx r := by
  apply ByteArray.ext
  apply Array.ext'
  rw [rtx_data]
  simp [mkb, itx]
theorem mkb_num (i : Int) : mkb (Go.Lib.itoa i) = itx i := rfl
theorem itx_short (i : Int) (h0 : -9999999999 ≤ i) (h1 : i ≤ 9999999999) : (itx i).size ≤ 20 := (num_is i 13 h0 h1 (by omega)).2.2
theorem specX_of (l : List ByteArray) (o F d a b i : Int) (hd : impl_readInstr.d F (rgA l 1) = d) (ha : impl_readInstr.a F (rgA l 1) (rgA l 2) = a) (hb : impl_readInstr.b F (rgA l 1) (rgA l 2) (rgA l 3) = b) (hi : (if F = 8 ∨ F = 9 then 0 else (nmA l).1) = i) (hn : ((nmA l).2 || F == 8 || F == 9) = true) (hr : rightB F d a b i = true) (hl : (pcs F (nmO o).data.toList d a b i).map mkb = l) :
    specX l o F = (o, d, a, b, i, true) := by
  unfold specX sEnd
  rw [hd, ha, hb, hi, hn, if_pos ⟨rfl, hr, hl⟩]
theorem spec_at (o F d a b i : Int) (hF : 1 ≤ F ∧ F ≤ 9) (hr : rightB F d a b i = true) : specX ((pcs F (nmO o).data.toList d a b i).map mkb) o F = (o, d, a, b, i, true) := by
  obtain ⟨rd, ra, rb, zd, za, zb, ri⟩ := right_un hr
  obtain ⟨i0, i1⟩ := imm_small F i ri
  have sh := fun r : Int => fun (h0 : 0 ≤ r) (h1 : r ≤ 31) => show (rtx r).size ≤ 100000 by
    have := itx_short r (by omega) (by omega)
    rw [rtx_size]
    omega
  have gd := rgS_at d rd.1 rd.2 (sh d rd.1 rd.2)
  have ga := rgS_at a ra.1 ra.2 (sh a ra.1 ra.2)
  have gb := rgS_at b rb.1 rb.2 (sh b rb.1 rb.2)
  have gi := nmS_at i (by omega) (by omega) (by have := itx_short i (by omega) (by omega); omega)
  have hz : F = 8 ∨ F = 9 → i = 0 := fun h => by
    rcases h with rfl | rfl <;> simpa [immB] using ri
  refine specX_of _ o F d a b i ?_ ?_ ?_ ?_ ?_ hr rfl
  all_goals
    clear hr ri i0 i1 sh rd ra rb
    rcases forms F hF with rfl | rfl | rfl | rfl | rfl | rfl | rfl | rfl | rfl <;>
    simp [dB, aB, bB] at zd za zb hz <;>
    simp [pcs, rgA, nmA, rdOf, impl_readInstr.d, impl_readInstr.a, impl_readInstr.b, mkb_reg, mkb_num, gd, ga, gb, gi, zd, za, zb, hz]

theorem trim_tot (a p : ByteArray) : ∃ d, strings_TrimPrefix.f a p = some d := by
  by_cases h : p.size ≤ a.size
  · by_cases e : (a.extract 0 p.size).toList = p.toList
    · exact ⟨_, trim_off a p h e⟩
    · exact ⟨_, trim_not a p h e⟩
  · refine ⟨a, ?_⟩
    unfold strings_TrimPrefix.f stringslite_TrimPrefix.f stringslite_HasPrefix.f
    rw [if_neg (by omega)]
    rfl
theorem rint_tot (s : ByteArray) : ∃ r, impl_readInt.f s = some r := by
  obtain ⟨d, hd⟩ := trim_tot s ⟨#[45]⟩
  unfold impl_readInt.f
  rw [hd, Option.bind_some, win_is, Option.bind_some]
  split
  · split
    · exact ⟨_, rfl⟩
    · exact ⟨_, rfl⟩
    · exact ⟨_, rfl⟩
  · exact ⟨_, rfl⟩
theorem rreg_tot (s : ByteArray) : ∃ r, impl_readReg.f s = some r := by
  obtain ⟨d, hd⟩ := trim_tot s ⟨#[120]⟩
  obtain ⟨r, hr⟩ := rint_tot d
  unfold impl_readReg.f
  rw [hd, Option.bind_some, hr, Option.bind_some]
  split
  · exact ⟨_, rfl⟩
  · exact ⟨_, rfl⟩
/-- What the program's readers tell of a text. -/
def rgI (s : ByteArray) : Int := (impl_readReg.f s).getD 0
def nmI (s : ByteArray) : Int × Bool := (impl_readInt.f s).getD (0, false)
theorem rgI_is (s : ByteArray) : impl_readReg.f s = some (rgI s) := by
  obtain ⟨r, h⟩ := rreg_tot s
  unfold rgI
  rw [h]
  rfl
theorem nmI_is (s : ByteArray) : impl_readInt.f s = some (nmI s) := by
  obtain ⟨r, h⟩ := rint_tot s
  unfold nmI
  rw [h]
  rfl
theorem rgI_at (r : Int) (h0 : 0 ≤ r) (h1 : r ≤ 31) : rgI (rtx r) = r := by
  unfold rgI
  rw [ireg_is r h0 h1]
  rfl
theorem nmI_at (n : Int) (h0 : -9999999999 ≤ n) (h1 : n ≤ 9999999999) : nmI (itx n) = (n, true) := by
  unfold nmI
  rw [readInt_is n h0 h1]
  rfl
/-- The fields that the program reads. -/
def iD (l : List ByteArray) (F : Int) : Int := impl_readInstr.d F (rgI (impl_readInstr.wd l 1))
def iA (l : List ByteArray) (F : Int) : Int := impl_readInstr.a F (rgI (impl_readInstr.wd l 1)) (rgI (impl_readInstr.wd l 2))
def iB (l : List ByteArray) (F : Int) : Int := impl_readInstr.b F (rgI (impl_readInstr.wd l 1)) (rgI (impl_readInstr.wd l 2)) (rgI (impl_readInstr.wd l 3))
def iI (l : List ByteArray) (F : Int) : Int := impl_readInstr.i F (nmI (impl_readInstr.wd l 2)).1 (nmI (impl_readInstr.wd l 3)).1
theorem iread_is (ws : List (List UInt8)) (k : Nat) (o F c f3 f7 : Int) (h1 : 1 ≤ o) (h2 : o ≤ 64) (hs : spec_l02Shape.f o = some (F, c, f3, f7)) (hi : impl_shapeOf.f o = some (F, c, f3, f7)) (hF : 1 ≤ F ∧ F ≤ 9) (hg : ∀ w ∈ ws, goodW w) (h0 : 0 < ws.length) (ht : tot ws ≤ 100000) (hop : impl_OpOf.f (rdOf ByteArray.empty (ws.map mkb) 0) = some o) (hk : 100 < k) :
    impl_readInstr.f k (ws.map mkb) = some (o, iD (ws.map mkb) F, iA (ws.map mkb) F, iB (ws.map mkb) F, iI (ws.map mkb) F, decide (rightB F (iD (ws.map mkb) F) (iA (ws.map mkb) F) (iB (ws.map mkb) F) (iI (ws.map mkb) F) = true ∧ (pcs F (nmO o).data.toList (iD (ws.map mkb) F) (iA (ws.map mkb) F) (iB (ws.map mkb) F) (iI (ws.map mkb) F)).map mkb = ws.map mkb)) := by
  obtain ⟨k, rfl⟩ : ∃ m, k = m + 3 := ⟨k - 3, by omega⟩
  have hn : ¬ (ws.map mkb).length = 0 := by rw [List.length_map]; omega
  have t1 := tot_len ws
  have t2 := tot_join ws
  have hl : (ws.map mkb).length ≤ 140737488355328 ∧ (Go.Lib.join ((ws.map mkb).map (·.data.toList)) [32]).length ≤ 140737488355328 := by
    rw [mkb_back, List.length_map]
    omega
  unfold impl_readInstr.f
  rw [if_neg hn, hop, Option.bind_some, if_neg (by omega), hi, Option.bind_some]
  simp only [rgI_is, nmI_is, Option.bind_some]
  rw [← iD, ← iA, ← iB, ← iI, iright_is k o F c f3 f7 _ _ _ _ h1 h2 hi hF, Option.bind_some]
  generalize iD (ws.map mkb) F = d
  generalize iA (ws.map mkb) F = a
  generalize iB (ws.map mkb) F = b
  generalize iI (ws.map mkb) F = i
  cases hr : rightB F d a b i with
  | false => simp
  | true =>
    rw [if_pos rfl, (text_isv o F c f3 f7 d a b i (k + 1) h1 h2 hs hi hr (by omega)).2, Option.bind_some, if_pos hl, mkb_back]
    have hp := pcs_good F (nmO o).data.toList d a b i (name_good (o - 1) (by omega) (by omega))
    have e : (textV F (rdOf ByteArray.empty onames (o - 1)) ((⟨#[32]⟩ : ByteArray) ++ itx i) (rtd d) (rtd a) (rtd b)).toList = Go.Lib.join (pcs F (nmO o).data.toList d a b i) [32] := by
      rw [ByteArray.toList_eq, textV_data]
      rfl
    rw [e]
    have hq : (Go.Lib.join (pcs F (nmO o).data.toList d a b i) [32] = Go.Lib.join ws [32]) ↔ (true = true ∧ (pcs F (nmO o).data.toList d a b i).map mkb = ws.map mkb) := by
      refine ⟨fun h => ⟨rfl, ?_⟩, fun h => ?_⟩
      · have h' := congrArg (wds []) h
        rw [wds_join _ hp, wds_join _ hg] at h'
        rw [h']
      · rw [mkb_map h.2]
    rw [decide_eq_decide.mpr hq]
theorem impl_at (o F d a b i : Int) (hF : 1 ≤ F ∧ F ≤ 9) (hr : rightB F d a b i = true) : iD ((pcs F (nmO o).data.toList d a b i).map mkb) F = d ∧ iA ((pcs F (nmO o).data.toList d a b i).map mkb) F = a ∧ iB ((pcs F (nmO o).data.toList d a b i).map mkb) F = b ∧ iI ((pcs F (nmO o).data.toList d a b i).map mkb) F = i := by
  obtain ⟨rd, ra, rb, zd, za, zb, ri⟩ := right_un hr
  obtain ⟨i0, i1⟩ := imm_small F i ri
  have gd := rgI_at d rd.1 rd.2
  have ga := rgI_at a ra.1 ra.2
  have gb := rgI_at b rb.1 rb.2
  have gi := nmI_at i (by omega) (by omega)
  have hz : F = 8 ∨ F = 9 → i = 0 := fun h => by
    rcases h with rfl | rfl <;> simpa [immB] using ri
  refine ⟨?_, ?_, ?_, ?_⟩
  all_goals
    clear hr ri i0 i1 rd ra rb
    rcases forms F hF with rfl | rfl | rfl | rfl | rfl | rfl | rfl | rfl | rfl <;>
    simp [dB, aB, bB] at zd za zb hz <;>
    simp [pcs, iD, iA, iB, iI, rdOf, impl_readInstr.wd, impl_readInstr.d, impl_readInstr.a, impl_readInstr.b, impl_readInstr.i, mkb_reg, mkb_num, gd, ga, gb, gi, zd, za, zb, hz]

theorem ixD_in (a : ByteArray) : ∀ (l : List ByteArray) (i : Int), ixD 0 a l i = 0 ∨ (i ≤ ixD 0 a l i ∧ ixD 0 a l i < i + (l.length : Int))
  | [], _ => Or.inl rfl
  | x :: r, i => by
    rw [ixD, List.length_cons]
    split
    · exact Or.inr ⟨Int.le_refl _, by omega⟩
    · rcases ixD_in a r (i + 1) with h | h
      · exact Or.inl h
      · exact Or.inr ⟨by omega, by omega⟩
/-- The answer, 3 where the text is none. -/
def fin6 (r : Int × Int × Int × Int × Int × Bool) : Int × Int × Int × Int × Int × Int :=
  if r.2.2.2.2.2 = true then (r.1, r.2.1, r.2.2.1, r.2.2.2.1, r.2.2.2.2.1, 0) else (0, 0, 0, 0, 0, 3)
theorem both_read (s : ByteArray) (hs : s.size ≤ 65536) (k : Nat) (hk : 300000 < k) :
    ∃ x y, spec_l02Read.f k s = some x ∧ impl_readInstr.f k ((wds [] s.data.toList).map mkb) = some y ∧ fin6 x = fin6 y := by
  have hg := wds_good s.data.toList [] (by simp)
  have ht := wds_tot s.data.toList []
  have hsz : s.data.toList.length = s.size := by simp
  rw [hsz, List.length_nil] at ht
  have hw := words_is s (by omega) k (by omega)
  generalize wds [] s.data.toList = ws at hg ht hw
  have t1 := tot_len ws
  have t3 := tot_mem ws
  unfold spec_l02Read.f
  rw [hw, Option.bind_some]
  by_cases h0 : ws.length = 0
  · obtain rfl := List.length_eq_zero_iff.mp h0
    exact ⟨_, _, if_pos rfl, by unfold impl_readInstr.f; exact if_pos rfl, rfl⟩
  have hl0 : ¬ ((ws.map mkb).length : Int) = 0 := by rw [List.length_map]; omega
  have hl1 : 0 < ((ws.map mkb).length : Int) := by omega
  rw [if_neg hl0, if_pos hl1, opOf_spec k _ (by omega), Option.bind_some]
  have hop := opOf_impl (rdOf ByteArray.empty (ws.map mkb) 0)
  have hb := ixD_in (rdOf ByteArray.empty (ws.map mkb) 0) onames 1
  rw [onames_len] at hb
  generalize ixD 0 (rdOf ByteArray.empty (ws.map mkb) 0) onames 1 = o at hop hb
  by_cases hz : o = 0
  · refine ⟨_, (0, 0, 0, 0, 0, false), if_pos hz, ?_, rfl⟩
    unfold impl_readInstr.f
    rw [if_neg (by omega), hop, Option.bind_some, if_pos hz]
  · have h1 : 1 ≤ o := by omega
    have h2 : o ≤ 64 := by omega
    obtain ⟨F, c, f3, f7, hS, hI, ho⟩ := shape_is o h1 h2
    have hF : 1 ≤ F ∧ F ≤ 9 := by
      unfold okS at ho
      simp at ho
      omega
    have hm : ∀ x ∈ ws.map mkb, x.size ≤ 65536 := fun x hx => by
      obtain ⟨w, hw, rfl⟩ := List.mem_map.mp hx
      have := t3 w hw
      simp [mkb, ByteArray.size]
      omega
    refine ⟨_, _, (if_neg hz).trans (sread_is (ws.map mkb) k o F c f3 f7 h1 h2 hS hI hF (by omega) (by rw [List.length_map]; omega) ?_ (by omega)), iread_is ws k o F c f3 f7 h1 h2 hS hI hF hg (by omega) (by omega) hop (by omega), ?_⟩
    · exact hm
    · by_cases hi : rightB F (iD (ws.map mkb) F) (iA (ws.map mkb) F) (iB (ws.map mkb) F) (iI (ws.map mkb) F) = true ∧ (pcs F (nmO o).data.toList (iD (ws.map mkb) F) (iA (ws.map mkb) F) (iB (ws.map mkb) F) (iI (ws.map mkb) F)).map mkb = ws.map mkb
      · rw [decide_eq_true hi]
        have := spec_at o F _ _ _ _ hF hi.1
        rw [hi.2] at this
        rw [this]
      · rw [decide_eq_false hi]
        have hx : (specX (ws.map mkb) o F).2.2.2.2.2 = false := by
          unfold specX sEnd
          by_cases q : ((nmA (ws.map mkb)).2 || F == 8 || F == 9) = true ∧ rightB F (impl_readInstr.d F (rgA (ws.map mkb) 1)) (impl_readInstr.a F (rgA (ws.map mkb) 1) (rgA (ws.map mkb) 2)) (impl_readInstr.b F (rgA (ws.map mkb) 1) (rgA (ws.map mkb) 2) (rgA (ws.map mkb) 3)) (if F = 8 ∨ F = 9 then 0 else (nmA (ws.map mkb)).1) = true ∧ (pcs F (nmO o).data.toList (impl_readInstr.d F (rgA (ws.map mkb) 1)) (impl_readInstr.a F (rgA (ws.map mkb) 1) (rgA (ws.map mkb) 2)) (impl_readInstr.b F (rgA (ws.map mkb) 1) (rgA (ws.map mkb) 2) (rgA (ws.map mkb) 3)) (if F = 8 ∨ F = 9 then 0 else (nmA (ws.map mkb)).1)).map mkb = ws.map mkb
          · exfalso
            obtain ⟨_, q1, q2⟩ := q
            obtain ⟨e1, e2, e3, e4⟩ := impl_at o F _ _ _ _ hF q1
            rw [q2] at e1 e2 e3 e4
            apply hi
            rw [e1, e2, e3, e4]
            exact ⟨q1, q2⟩
          · rw [if_neg q]
        unfold fin6
        rw [hx]
        rfl
theorem FnExactReadInstr : laws_FnExactReadInstr.Pure := by
  intro s _
  refine ⟨400000, ?_⟩
  unfold laws_FnExactReadInstr.f
  by_cases big : (s.size : Int) > 1048576
  · rw [if_pos big]
  rw [if_neg big]
  by_cases long : (s.size : Int) > 65536
  · unfold spec_ReadInstr.f impl_ReadInstr.f impl_isLong.f
    rw [Option.bind_some, if_pos long, decide_eq_true long]
    rfl
  · obtain ⟨x, y, hx, hy, e⟩ := both_read s (by omega) 400000 (by omega)
    have ex : spec_ReadInstr.f 400000 s = some (fin6 x) := by
      unfold spec_ReadInstr.f fin6
      rw [if_neg long, hx, Option.bind_some]
      split <;> rfl
    have ey : impl_ReadInstr.f 400000 s = some (fin6 y) := by
      unfold impl_ReadInstr.f impl_isLong.f fin6
      rw [Option.bind_some, decide_eq_false long, if_neg Bool.false_ne_true, wordsOf_is s (by omega), Option.bind_some, hy, Option.bind_some]
      split <;> rfl
    rw [ex, ey, Option.bind_some, Option.bind_some, e]
    unfold laws_eqInstr.f
    simp

end Go.Proofs.YtgdjpbknlbhaeaaDoor.Pure
