-- Written by a program for this claim.
import Derived.Test.YthepmdlpjdlajaaPFnExactLintImagex0
import Derived.Test.YthepmdlpjdlajaaPFnExactLintImagex16
namespace Go.Proofs.Ythepmdlpjdlajaa.PFnExactLintImage
open Go.RowKit Go.Proofs.YthepmdlpjdlajaaW.PrintWords Go.Proofs.YthepmdlpjdlajaaW.PrintLast Go.Proofs.YthepmdlpjdlajaaW.PrintMore
attribute [local go_sem] max2_int min2_int max_two min_two max_three min_three max_four min_four   -- for this text's walks alone
set_option linter.unusedVariables false
set_option linter.unusedSimpArgs false
def impl_isLetter.f (a0:Int):Option (Bool):=if a0≥97 then (if a0≤122 then (some true) else (if a0≥65 then (if a0≤90 then (some true) else (some (a0==95))) else (some (a0==95)))) else (if a0≥65 then (if a0≤90 then (some true) else (some (a0==95))) else (some (a0==95)))
set_option maxHeartbeats 8000000 in
set_option maxRecDepth 100000 in
theorem impl_isLetter.calls (a0:Int) (r:Bool) (w:World) (h:impl_isLetter.f a0=some r) :
    Calls Try.prog 103 #[.int .u8 a0] w fun e w'=>e=.returned (.bool r)∧Drawn0 w w':=by
 have H:(if a0≥97 then (if a0≤122 then (some true) else (if a0≥65 then (if a0≤90 then (some true) else (some (a0==95))) else (some (a0==95)))) else (if a0≥65 then (if a0≤90 then (some true) else (some (a0==95))) else (some (a0==95))))=some r:=h
 clear h
 by_cases c2:a0≥97
 ·rw [if_pos c2] at H
  have c2b0:decide (97≤a0)=true:=decide_eq_true c2
  clear c2
  by_cases c3:a0≤122
  ·rw [if_pos c3] at H
   have c3b0:decide (a0≤122)=true:=decide_eq_true c3
   clear c3
   obtain rfl:=Option.some.inj H
   go_enter Try.func103,Try.ntmps103
   go_wp2
   go_ret
   exact ⟨rs,dr⟩
  rw [if_neg c3] at H
  have c3b0:decide (a0≤122)=false:=decide_eq_false c3
  clear c3
  by_cases c4:a0≥65
  ·rw [if_pos c4] at H
   have c4b0:decide (65≤a0)=true:=decide_eq_true c4
   clear c4
   by_cases c5:a0≤90
   ·rw [if_pos c5] at H
    have c5b0:decide (a0≤90)=true:=decide_eq_true c5
    clear c5
    obtain rfl:=Option.some.inj H
    go_enter Try.func103,Try.ntmps103
    go_wp2
    go_ret
    exact ⟨rs,dr⟩
   rw [if_neg c5] at H
   have c5b0:decide (a0≤90)=false:=decide_eq_false c5
   clear c5
   obtain rfl:=Option.some.inj H
   go_enter Try.func103,Try.ntmps103
   go_wp2
   go_ret
   exact ⟨rs,dr⟩
  rw [if_neg c4] at H
  have c4b0:decide (65≤a0)=false:=decide_eq_false c4
  clear c4
  obtain rfl:=Option.some.inj H
  go_enter Try.func103,Try.ntmps103
  go_wp2
  go_ret
  exact ⟨rs,dr⟩
 rw [if_neg c2] at H
 have c2b0:decide (97≤a0)=false:=decide_eq_false c2
 clear c2
 by_cases c6:a0≥65
 ·rw [if_pos c6] at H
  have c6b0:decide (65≤a0)=true:=decide_eq_true c6
  clear c6
  by_cases c7:a0≤90
  ·rw [if_pos c7] at H
   have c7b0:decide (a0≤90)=true:=decide_eq_true c7
   clear c7
   obtain rfl:=Option.some.inj H
   go_enter Try.func103,Try.ntmps103
   go_wp2
   go_ret
   exact ⟨rs,dr⟩
  rw [if_neg c7] at H
  have c7b0:decide (a0≤90)=false:=decide_eq_false c7
  clear c7
  obtain rfl:=Option.some.inj H
  go_enter Try.func103,Try.ntmps103
  go_wp2
  go_ret
  exact ⟨rs,dr⟩
 rw [if_neg c6] at H
 have c6b0:decide (65≤a0)=false:=decide_eq_false c6
 clear c6
 obtain rfl:=Option.some.inj H
 go_enter Try.func103,Try.ntmps103
 go_wp2
 go_ret
 exact ⟨rs,dr⟩
def impl_isDigit.f (a0:Int):Option (Bool):=if a0≥48 then (some (decide (a0≤57))) else (some false)
set_option maxHeartbeats 8000000 in
set_option maxRecDepth 100000 in
theorem impl_isDigit.calls (a0:Int) (r:Bool) (w:World) (h:impl_isDigit.f a0=some r) :
    Calls Try.prog 104 #[.int .u8 a0] w fun e w'=>e=.returned (.bool r)∧Drawn0 w w':=by
 have H:(if a0≥48 then (some (decide (a0≤57))) else (some false))=some r:=h
 clear h
 by_cases c2:a0≥48
 ·rw [if_pos c2] at H
  have c2b0:decide (48≤a0)=true:=decide_eq_true c2
  clear c2
  obtain rfl:=Option.some.inj H
  go_enter Try.func104,Try.ntmps104
  go_wp2
  go_ret
  exact ⟨rs,dr⟩
 rw [if_neg c2] at H
 have c2b0:decide (48≤a0)=false:=decide_eq_false c2
 clear c2
 obtain rfl:=Option.some.inj H
 go_enter Try.func104,Try.ntmps104
 go_wp2
 go_ret
 exact ⟨rs,dr⟩
mutual
def impl_NameOK.j0:Nat→ByteArray→Bool→Option (Bool)
  | 0,_,_=>none
  | k+1,x0,x13=>if x13=true then (some false) else (impl_NameOK.l0 k x0 1)
def impl_NameOK.l0:Nat→ByteArray→Int→Option (Bool)
  | 0,_,_=>none
  | k+1,x0,x3=>if x3 < (x0.size:Int) then (if 0≤x3 then ((impl_isLetter.f (bt x0 x3)).bind fun t469=>(if t469=true then (impl_NameOK.l0 k x0 (wrap64 (x3+1))) else ((impl_isDigit.f (bt x0 x3)).bind fun t470=>(if t470=true then (impl_NameOK.l0 k x0 (wrap64 (x3+1))) else (some false))))) else (none)) else (some true)
end
def impl_NameOK.f (k:Nat) (a0:ByteArray):Option (Bool):=(impl_within.f (a0.size:Int) 1 20).bind fun t467=>(if t467=true then (if 0 < (a0.size:Int) then ((impl_isLetter.f (bt a0 0)).bind fun t468=>(impl_NameOK.j0 k a0 (!t468))) else (none)) else (impl_NameOK.j0 k a0 true))
theorem impl_NameOK.mono_l : ∀ k,(∀ y0 y1,LeO (impl_NameOK.j0 k y0 y1) (impl_NameOK.j0 (k+1) y0 y1))∧(∀ y0 y1,LeO (impl_NameOK.l0 k y0 y1) (impl_NameOK.l0 (k+1) y0 y1))
  | 0=>⟨fun _ _ r h=>by simp [impl_NameOK.j0] at h,fun _ _ r h=>by simp [impl_NameOK.l0] at h⟩
  | k+1=>by
    obtain ⟨ih0,ih1⟩:=impl_NameOK.mono_l k
    refine ⟨?_,?_⟩<;>intros<;>(first|unfold impl_NameOK.j0|unfold impl_NameOK.l0)<;>repeat' (with_reducible first|apply ih0|apply ih1|apply LeO.refl|apply LeO.none|apply LeO.ite|refine LeO.bind ?_ (fun _=>?_))
theorem impl_NameOK.mono : ∀ a0 k,LeO (impl_NameOK.f k a0) (impl_NameOK.f (k+1) a0):=by
 intro a0 k
 obtain ⟨ih0,ih1⟩:=impl_NameOK.mono_l k
 unfold impl_NameOK.f
 repeat' (with_reducible first|apply ih0|apply ih1|apply LeO.refl|apply LeO.none|apply LeO.ite|refine LeO.bind ?_ (fun _=>?_))
set_option maxHeartbeats 8000000 in
set_option maxRecDepth 100000 in
theorem impl_NameOK.calls (k:Nat) (a0:ByteArray) (r:Bool) (w:World) (h:impl_NameOK.f k a0=some r) :
    Calls Try.prog 84 #[.string a0] w fun e w'=>e=.returned (.bool r)∧Drawn0 w w':=by
 have H:((impl_within.f (a0.size:Int) 1 20).bind fun t467=>(if t467=true then (if 0 < (a0.size:Int) then ((impl_isLetter.f (bt a0 0)).bind fun t468=>(impl_NameOK.j0 k a0 (!t468))) else (none)) else (impl_NameOK.j0 k a0 true)))=some r:=h
 clear h
 have HC2:=Aside0.mk H
 clear H
 go_enter Try.func84,Try.ntmps84
 go_upto_region 1 with (fail)
 go_cut [13] (fun v13 wc=>∃ (kq:Nat) (x13_1:Bool),v13=.bool x13_1∧Aside0 (impl_NameOK.j0 kq a0 x13_1=some r)∧Aside0 (kq≤k)∧Drawn0 w wc)
 case first=>
  have H:=HC2.out
  clear HC2
  obtain ⟨t467,A3,H⟩:=bindA H
  by_cases c4:t467=true
  ·subst c4
   rw [if_pos rfl] at H
   by_cases c5:0 < (a0.size:Int)
   ·rw [if_pos c5] at H
    have c5b0:decide (0 < (a0.size:Int))=true:=decide_eq_true c5
    have c5b1:decide (0 < a0.size)=true:=decide_eq_true (by omega)
    clear c5
    (first|rw [c5b0]|(simp only [i64_w,i32_w];rw [c5b0])|skip)
    obtain ⟨t468,A7,H⟩:=bindA H
    have H':=Aside0.mk H
    clear H
    go_wp2_with (first|(refine gd 56 6 Try.func56 #[.int .i64 (a0.size:Int),.int .i64 1,.int .i64 20] (impl_within.calls (a0.size:Int) 1 20 true _ A3.out) ?_;intro nd;have p6:0≤(0:Int):=(by omega);have q6:0 < a0.size:=(by have:(0:Int) < (a0.size:Int):=od;omega);have hx6 : ∀ h:0 < a0.size,((a0[0]'h).toNat:Int)=bt a0 0:=bt_at a0 0;clear p6;have qi6:(0 < (a0.size:Int))=True:=eq_true (od);replace q6:=eq_true q6)|(go_at_call 103;(with_reducible refine (impl_isLetter.calls (bt a0 0) t468 _ A7.out).mono ?_);rintro e w' ⟨rfl,⟨nd,rfl⟩⟩))
    go_meet
    case rel=>exact ⟨_,(!t468),rs,H',⟨by first|omega|exact Nat.le_refl _⟩,dr⟩
   rw [if_neg c5] at H
   exact absurd H (by simp)
  replace c4:=Bool.eq_false_iff.mpr c4
  subst c4
  rw [if_neg (show ¬ (false=true) by decide)] at H
  have H':=Aside0.mk H
  clear H
  go_wp2_with (first|(refine gd 56 6 Try.func56 #[.int .i64 (a0.size:Int),.int .i64 1,.int .i64 20] (impl_within.calls (a0.size:Int) 1 20 false _ A3.out) ?_;intro nd))
  go_meet
  case rel=>exact ⟨_,(true),rs,H',⟨by first|omega|exact Nat.le_refl _⟩,dr⟩
 clear HC2
 obtain ⟨kq,x13_1,rfl,HA,HJ1,⟨mc1,rfl⟩⟩:=hcut
 cases kq with
 | zero=>exact absurd HA.out (by simp [impl_NameOK.j0])
 | succ kj1 =>
  have H:=HA.out
  clear HA
  simp only [impl_NameOK.j0] at H
  by_cases c8:x13_1=true
  ·subst c8
   rw [if_pos rfl] at H
   obtain rfl:=Option.some.inj H
   go_wp2
   go_ret
   exact ⟨rs,dr⟩
  replace c8:=Bool.eq_false_iff.mpr c8
  subst c8
  rw [if_neg (show ¬ (false=true) by decide)] at H
  have H':=Aside0.mk H
  clear H
  go_wp2
  go_loopg [3] kj1 (fun kq v3 w'=>∃ (x3_2:Int),v3=.int .i64 x3_2∧Aside0 (impl_NameOK.l0 kq a0 x3_2=some r)∧Aside0 (kq≤kj1)∧Drawn0 w w')
  case atStart=>exact ⟨(1),rs,H',⟨Nat.le_refl _⟩,dr⟩
  clear H'
  try clear c8
  obtain ⟨x3_2,rfl,HA,HK2,⟨m2,rfl⟩⟩:=hrel
  cases gk with
  | zero=>exact absurd HA.out (by simp [impl_NameOK.l0])
  | succ k2 =>
   have H:=HA.out
   clear HA
   simp only [impl_NameOK.l0] at H
   by_cases c9:x3_2 < (a0.size:Int)
   ·rw [if_pos c9] at H
    have c9b0:decide (x3_2 < (a0.size:Int))=true:=decide_eq_true c9
    clear c9
    by_cases c10:0≤x3_2
    ·rw [if_pos c10] at H
     have c10b0:decide (0≤x3_2)=true:=decide_eq_true c10
     clear c10
     obtain ⟨t469,A12,H⟩:=bindA H
     by_cases c13:t469=true
     ·subst c13
      rw [if_pos rfl] at H
      have H':=Aside0.mk H
      clear H
      have p11:0≤(x3_2:Int):=od
      have q11:x3_2 < (a0.size:Int):=od
      have hx11:=bt_at a0 x3_2
      replace p11:=eq_true p11
      replace q11:=eq_true q11
      go_wp2_with (first|(refine gd 103 23 Try.func103 #[.int .u8 (bt a0 x3_2)] (impl_isLetter.calls (bt a0 x3_2) true _ A12.out) ?_;intro nd))
      go_roundg k2
      case measure=>have:=HJ1.out;have:=HK2.out;omega
      case rel=>exact ⟨(wrap64 (x3_2+1)),rs,H',⟨by have:=HJ1.out;have:=HK2.out;omega⟩,dr⟩
     replace c13:=Bool.eq_false_iff.mpr c13
     subst c13
     rw [if_neg (show ¬ (false=true) by decide)] at H
     obtain ⟨t470,A15,H⟩:=bindA H
     by_cases c16:t470=true
     ·subst c16
      rw [if_pos rfl] at H
      have H':=Aside0.mk H
      clear H
      have p11:0≤(x3_2:Int):=od
      have q11:x3_2 < (a0.size:Int):=od
      have hx11:=bt_at a0 x3_2
      replace p11:=eq_true p11
      replace q11:=eq_true q11
      go_wp2_with (first|(refine gd 103 23 Try.func103 #[.int .u8 (bt a0 x3_2)] (impl_isLetter.calls (bt a0 x3_2) false _ A12.out) ?_;intro nd;have p14:0≤(x3_2:Int):=od;have q14:x3_2 < (a0.size:Int):=od;have hx14:=bt_at a0 x3_2;replace p14:=eq_true p14;replace q14:=eq_true q14)|(go_at_call 104;(with_reducible refine (impl_isDigit.calls (bt a0 x3_2) true _ A15.out).mono ?_);rintro e w' ⟨rfl,⟨nd,rfl⟩⟩))
      go_roundg k2
      case measure=>have:=HJ1.out;have:=HK2.out;omega
      case rel=>exact ⟨(wrap64 (x3_2+1)),rs,H',⟨by have:=HJ1.out;have:=HK2.out;omega⟩,dr⟩
     replace c16:=Bool.eq_false_iff.mpr c16
     subst c16
     rw [if_neg (show ¬ (false=true) by decide)] at H
     obtain rfl:=Option.some.inj H
     have p11:0≤(x3_2:Int):=od
     have q11:x3_2 < (a0.size:Int):=od
     have hx11:=bt_at a0 x3_2
     replace p11:=eq_true p11
     replace q11:=eq_true q11
     go_wp2_with (first|(refine gd 103 23 Try.func103 #[.int .u8 (bt a0 x3_2)] (impl_isLetter.calls (bt a0 x3_2) false _ A12.out) ?_;intro nd;have p14:0≤(x3_2:Int):=od;have q14:x3_2 < (a0.size:Int):=od;have hx14:=bt_at a0 x3_2;replace p14:=eq_true p14;replace q14:=eq_true q14)|(go_at_call 104;(with_reducible refine (impl_isDigit.calls (bt a0 x3_2) false _ A15.out).mono ?_);rintro e w' ⟨rfl,⟨nd,rfl⟩⟩))
     go_ret
     exact ⟨rs,dr⟩
    rw [if_neg c10] at H
    exact absurd H (by simp)
   rw [if_neg c9] at H
   have c9b0:decide (x3_2 < (a0.size:Int))=false:=decide_eq_false c9
   clear c9
   obtain rfl:=Option.some.inj H
   go_wp2
   go_ret
   exact ⟨rs,dr⟩
theorem impl_Image_lintSymbol.win (a b c : Int) : impl_within.f a b c = some (decide (b ≤ a) && decide (a ≤ c)) := by
  unfold impl_within.f
  by_cases h : b ≤ a
  · simp [h]
  · simp [h]
theorem impl_Image_lintSymbol.low {A B : Nat} {w w' : World} (h : Below B w w') (hA : A ≤ B) : Below A w w' := ⟨h.os, h.tape, h.output, h.size, fun k hk => h.block k (Nat.lt_of_lt_of_le hk hA)⟩
theorem impl_Image_lintSymbol.bset {w W : World} {g j : Nat} {v : Value} (h : Below g w W) : Below g w (W.setCell ⟨g, j, none⟩ v) := h.setCell (Nat.le_refl g) v
theorem impl_Image_lintSymbol.under {w w1 w2 : World} {g : Nat} (h : Below w.heap.size w w1) (hg : w.heap.size ≤ g) (h2 : Below g w1 w2) : Below w.heap.size w w2 := h.trans (impl_Image_lintSymbol.low h2 hg)
def impl_Image_lintSymbol.code (kc kd_ : Int) (x1 x2 x3 x4 c d : Int) (w1 w2 w3 : Bool) : Int × Int × Int :=
  if (x1 == 1) = true then (if (!(x2 == c) || !w1) = true then (4, c, d) else (0, wrap64 (x2 + x3), d))
  else if (x1 == 2) = true then (if (!w2 || (!(Int.tmod x2 8 == 0) || (!(Int.tmod x3 8 == 0) || !w3))) = true then (4, c, d) else if (x4 == 0) = true then (0, c, wrap64 (x2 + x3)) else (17, c, wrap64 (x2 + x3)))
  else (26, c, d)
def impl_Image_lintSymbol.clash (l : List S54) (i : Int) : Bool := (l.take i.toNat).any fun o => decide (o.f0 = (rd_T54 l i).f0)
def impl_Image_lintSymbol.f (k : Nat) (a0_0 a0_1 : ByteArray) (l0_2 : List S54) (a1 c d : Int) : Option (Int × Int × Int) :=
  if 0 ≤ a1 then (if a1 < (l0_2.length : Int) then ((impl_NameOK.f k (rd_T54 l0_2 a1).f0).bind fun b => some (if b = true then (if impl_Image_lintSymbol.clash l0_2 a1 = true then (24, c, d) else
    impl_Image_lintSymbol.code 0 0 (rd_T54 l0_2 a1).f1 (rd_T54 l0_2 a1).f2 (rd_T54 l0_2 a1).f3 (rd_T54 l0_2 a1).f4 c d
      (decide (1 ≤ (rd_T54 l0_2 a1).f3) && decide ((rd_T54 l0_2 a1).f3 ≤ wrap64 ((a0_0.size : Int) - (rd_T54 l0_2 a1).f2)))
      (decide (d ≤ (rd_T54 l0_2 a1).f2) && decide ((rd_T54 l0_2 a1).f2 ≤ (a0_1.size : Int)))
      (decide (1 ≤ (rd_T54 l0_2 a1).f3) && decide ((rd_T54 l0_2 a1).f3 ≤ wrap64 ((a0_1.size : Int) - (rd_T54 l0_2 a1).f2)))) else (3, c, d))) else none) else none
theorem impl_Image_lintSymbol.mono : ∀ a0_0 a0_1 l0_2 a1 c d k, LeO (impl_Image_lintSymbol.f k a0_0 a0_1 l0_2 a1 c d) (impl_Image_lintSymbol.f (k + 1) a0_0 a0_1 l0_2 a1 c d) := by
  intro a0_0 a0_1 l0_2 a1 c d k
  unfold impl_Image_lintSymbol.f
  repeat' first
    | exact impl_NameOK.mono _ _
    | exact LeO.refl _
    | refine LeO.ite ?_ ?_
    | refine LeO.bind ?_ (fun _ => ?_)
theorem impl_Image_lintSymbol.clash_yes (l : List S54) (n k : Nat) (hn : n ≤ l.length) (hk : k < n) (h : (l[k]'(by omega)).f0 = (rd_T54 l (n : Int)).f0) : impl_Image_lintSymbol.clash l (n : Int) = true := by
  unfold impl_Image_lintSymbol.clash
  rw [Int.toNat_natCast, List.any_eq_true]
  exact ⟨l[k]'(by omega), List.mem_take_iff_getElem.mpr ⟨k, by omega, rfl⟩, decide_eq_true h⟩
theorem impl_Image_lintSymbol.clash_no (l : List S54) (n : Nat) (hn : n ≤ l.length) (h : ∀ j (hj : j < l.length), j < n → ¬ l[j].f0 = (rd_T54 l (n : Int)).f0) : impl_Image_lintSymbol.clash l (n : Int) = false := by
  unfold impl_Image_lintSymbol.clash
  rw [Int.toNat_natCast, List.any_eq_false]
  intro x hx
  obtain ⟨j, hj, rfl⟩ := List.mem_take_iff_getElem.mp hx
  rw [decide_eq_false (h j (by omega) (by omega))]
  decide
theorem impl_Image_lintSymbol.ways (k1 b1 w1 k2 w2 m2 m3 w3 z : Bool) : (k1 = true ∧ b1 = false) ∨ (k1 = true ∧ b1 = true ∧ w1 = false) ∨ (k1 = true ∧ b1 = true ∧ w1 = true) ∨ (k1 = false ∧ k2 = true ∧ w2 = false) ∨ (k1 = false ∧ k2 = true ∧ w2 = true ∧ m2 = false) ∨ (k1 = false ∧ k2 = true ∧ w2 = true ∧ m2 = true ∧ m3 = false) ∨ (k1 = false ∧ k2 = true ∧ w2 = true ∧ m2 = true ∧ m3 = true ∧ w3 = false) ∨ (k1 = false ∧ k2 = true ∧ w2 = true ∧ m2 = true ∧ m3 = true ∧ w3 = true ∧ z = true) ∨ (k1 = false ∧ k2 = true ∧ w2 = true ∧ m2 = true ∧ m3 = true ∧ w3 = true ∧ z = false) ∨ (k1 = false ∧ k2 = false) := by
  cases k1 <;> cases b1 <;> cases w1 <;> cases k2 <;> cases w2 <;> cases m2 <;> cases m3 <;> cases w3 <;> cases z <;> simp
set_option maxHeartbeats 8000000 in
set_option maxRecDepth 100000 in
theorem impl_Image_lintSymbol.walk (k : Nat) (a0_0 a0_1 : ByteArray) (A : Option Addr) (cp : Nat) (l : List S54) (n g : Nat) (c d : Int) (b : Bool) (w : World) (hL : w.heap[g]? = some (.cells #[.int .i64 c, .int .i64 d] 71 (0, 0))) (hr : Kd.C k54 w A l.length l) (hc : l.length ≤ cp) (hn : n < l.length)
    (hN : impl_NameOK.f k (rd_T54 l (n : Int)).f0 = some b) (r1 r2 r3 : Int) (h : (if b = true then (if impl_Image_lintSymbol.clash l (n : Int) = true then (24, c, d) else
    impl_Image_lintSymbol.code 0 0 (rd_T54 l (n : Int)).f1 (rd_T54 l (n : Int)).f2 (rd_T54 l (n : Int)).f3 (rd_T54 l (n : Int)).f4 c d
      (decide (1 ≤ (rd_T54 l (n : Int)).f3) && decide ((rd_T54 l (n : Int)).f3 ≤ wrap64 ((a0_0.size : Int) - (rd_T54 l (n : Int)).f2)))
      (decide (d ≤ (rd_T54 l (n : Int)).f2) && decide ((rd_T54 l (n : Int)).f2 ≤ (a0_1.size : Int)))
      (decide (1 ≤ (rd_T54 l (n : Int)).f3) && decide ((rd_T54 l (n : Int)).f3 ≤ wrap64 ((a0_1.size : Int) - (rd_T54 l (n : Int)).f2)))) else (3, c, d)) = (r1, r2, r3)) :
    Calls Try.prog 52 #[.agg #[.string a0_0, .string a0_1, .slice A l.length cp], .int .i64 (n : Int), .pointer (some ⟨g, 0, none⟩)] w fun e w' => e = .returned (.int .i64 r1) ∧ w'.heap[g]? = some (.cells #[.int .i64 r2, .int .i64 r3] 71 (0, 0)) ∧ Below g w w' ∧ KeepBut w w' g none := by
  have hu := Try.underlying54
  have hu2 := Try.underlying30
  have hu3 := Try.underlying71
  have hbig : l.length ≤ 9223372036854775807 := hr.2.1
  have hnz : (n : Int) < (l.length : Int) := by omega
  have hn0 : (0 : Int) ≤ (n : Int) := by omega
  obtain ⟨ad, rfl, q0, q1, q2, q3, q4⟩ := at_T54 hr (n : Int) hn0 hnz
  have HR := Aside0.mk hr
  have HC := Aside0.mk hc
  have HL := Aside0.mk hL
  have HN := Aside0.mk hN
  have HH := Aside0.mk h
  have HNN := Aside0.mk hn
  have hgl : g < w.heap.size := blk_lt hL
  have HGL := Aside0.mk hgl
  have p0 := eq_true hn0
  have p1 := eq_true hnz
  obtain ⟨i0, hi0, _, hsz, _⟩ := info_parts info54
  have hcut := cut_to (P := Try.prog) 28 54 .i64 Try.underlying28 hi0 (some ad) l.length cp (n : Int) hn0 (by omega) hc
  rw [Int.toNat_natCast] at hcut
  clear hr hc hL hN h hn hn0 hnz hi0 hsz hgl
  obtain ⟨nm, hnm⟩ : ∃ x, (rd_T54 l (n : Int)).f0 = x := ⟨_, rfl⟩
  rw [hnm] at q0 HN
  have HNM := Aside0.mk hnm
  clear hnm
  obtain ⟨x1, hx1⟩ : ∃ x, (rd_T54 l (n : Int)).f1 = x := ⟨_, rfl⟩
  obtain ⟨x2, hx2⟩ : ∃ x, (rd_T54 l (n : Int)).f2 = x := ⟨_, rfl⟩
  obtain ⟨x3, hx3⟩ : ∃ x, (rd_T54 l (n : Int)).f3 = x := ⟨_, rfl⟩
  obtain ⟨x4, hx4⟩ : ∃ x, (rd_T54 l (n : Int)).f4 = x := ⟨_, rfl⟩
  rw [hx1, hx2, hx3, hx4] at HH
  rw [hx1] at q1
  rw [hx2] at q2
  rw [hx3] at q3
  rw [hx4] at q4
  clear hx1 hx2 hx3 hx4
  simp only [Int.toNat_natCast] at q0 q1 q2 q3 q4
  have y0 := fun o => (World.cell?_alloc_some w _ o (by rw [q0]; rfl)).trans q0
  have y1 := fun o => (World.cell?_alloc_some w _ o (by rw [q1]; rfl)).trans q1
  have y2 := fun o => (World.cell?_alloc_some w _ o (by rw [q2]; rfl)).trans q2
  have y3 := fun o => (World.cell?_alloc_some w _ o (by rw [q3]; rfl)).trans q3
  have y4 := fun o => (World.cell?_alloc_some w _ o (by rw [q4]; rfl)).trans q4
  have key : ∀ W, Below w.heap.size w W → W.heap[g]? = some (.cells #[.int .i64 c, .int .i64 d] 71 (0, 0)) ∧ Below g w W ∧ KeepBut w W g none := fun W hb => ⟨blk_below HL.out hb, impl_Image_lintSymbol.low hb (Nat.le_of_lt HGL.out), KeepBut.of_grown (grown_of_below hb none) g⟩
  cases b with
  | false =>
    have hh := HH.out
    simp only [Bool.false_eq_true, if_false, Prod.mk.injEq] at hh
    obtain ⟨rfl, rfl, rfl⟩ := hh
    go_enter Try.func52, Try.ntmps52
    go_wp2_with (first | (go_at_call 84; (with_reducible refine (impl_NameOK.calls k _ _ _ HN.out).mono ?_); rintro e w' ⟨rfl, ⟨nd, rfl⟩⟩))
    go_ret
    exact ⟨rfl, key _ (by repeat (first | exact Below.refl _ _ | apply below_alloc | apply pw_below_drewN | apply below_drew1))⟩
  | true =>
    go_enter Try.func52, Try.ntmps52
    go_wp2_with (first | (go_at_call 84; (with_reducible refine (impl_NameOK.calls k _ _ _ HN.out).mono ?_); rintro e w' ⟨rfl, ⟨nd, rfl⟩⟩))
    go_loopg [24] n (fun gg s24 wr => ∃ kk : Nat, kk ≤ n ∧ n - kk ≤ gg ∧ s24 = .int .i64 kk ∧ Aside0 (Below w.heap.size w wr) ∧ Aside0 (wr.heap[w.heap.size]? = some (.cells #[.string a0_0, .string a0_1, .slice (some ad) l.length cp] 30 (0, 0))) ∧ Aside0 (wr.heap[w.heap.size + 1]? = some (.cells #[.string nm, .int .i64 x1, .int .i64 x2, .int .i64 x3, .int .i64 x4] 54 (0, 0))) ∧ Aside0 (∀ j (hj : j < l.length), j < kk → ¬ l[j].f0 = nm))
    case atStart =>
      exact ⟨0, Nat.zero_le _, by omega, rfl, ⟨by repeat (first | exact Below.refl _ _ | apply below_alloc | apply pw_below_drewN | apply below_drew1)⟩, ⟨blk_drewN (blk_alloc (blk_new w _) _) _⟩, ⟨blk_drewN (by have := blk_new (w.alloc (.cells #[.string a0_0, .string a0_1, .slice (some ad) l.length cp] 30 (0, 0))) (.cells #[.string nm, .int .i64 x1, .int .i64 x2, .int .i64 x3, .int .i64 x4] 54 (0, 0)); rw [World.size_alloc] at this; exact this) _⟩, ⟨fun j _ hj => absurd hj (Nat.not_lt_zero _)⟩⟩
    case round =>
      obtain ⟨kk, hkk, hgk, rfl, BW, IM, SY, AA⟩ := hrel
      clear q0 q1 q2 q3 q4 y0 y1 y2 y3 y4 hcut
      have s0 : wr.cell? ⟨w.heap.size + 1, 0, none⟩ = some (.string nm) := (blk_cell SY.out 0).trans rfl
      have s1 : wr.cell? ⟨w.heap.size + 1, 1, none⟩ = some (.int .i64 x1) := (blk_cell SY.out 1).trans rfl
      have s2 : wr.cell? ⟨w.heap.size + 1, 2, none⟩ = some (.int .i64 x2) := (blk_cell SY.out 2).trans rfl
      have s3 : wr.cell? ⟨w.heap.size + 1, 3, none⟩ = some (.int .i64 x3) := (blk_cell SY.out 3).trans rfl
      have s4 : wr.cell? ⟨w.heap.size + 1, 4, none⟩ = some (.int .i64 x4) := (blk_cell SY.out 4).trans rfl
      have i0 : wr.cell? ⟨w.heap.size, 0, none⟩ = some (.string a0_0) := (blk_cell IM.out 0).trans rfl
      have i1 : wr.cell? ⟨w.heap.size, 1, none⟩ = some (.string a0_1) := (blk_cell IM.out 1).trans rfl
      have lt1 : w.heap.size + 1 < wr.heap.size := blk_lt SY.out
      have lt0 : w.heap.size < wr.heap.size := blk_lt IM.out
      by_cases hlt : kk < n
      · have hkz : (kk : Int) < (l.length : Int) := by have := HNN.out; omega
        have hltz : (kk : Int) < (n : Int) := by omega
        have hk0 : (0 : Int) ≤ (kk : Int) := by omega
        obtain ⟨ad2, e2, r0, r1, r2, r3, r4⟩ := at_T54 (Kd.C_below HR.out BW.out) (kk : Int) hk0 hkz
        obtain rfl : ad = ad2 := by injection e2
        have hx : rd_T54 l (kk : Int) = l[kk]'(by omega) := by
          unfold rd_T54
          simp [List.getD_eq_getElem?_getD, List.getElem?_eq_getElem (show kk < l.length by omega)]
        simp only [Int.toNat_natCast] at r0 r1 r2 r3 r4
        have HX := Aside0.mk hx
        clear hx
        rw [HX.out] at r0
        have HQ : Aside0 ((l[kk]'(by omega)).f0 = (l[kk]'(by omega)).f0) := ⟨rfl⟩
        have HL2 : Aside0 (kk < l.length) := ⟨by omega⟩
        by_cases hq : (l[kk]'(by omega)).f0 = nm
        · have hcl : impl_Image_lintSymbol.clash l (n : Int) = true := impl_Image_lintSymbol.clash_yes l n kk (by have := HNN.out; omega) hlt (by rw [HNM.out]; exact hq)
          have hh := HH.out
          simp only [hcl, if_true, Prod.mk.injEq] at hh
          obtain ⟨rfl, rfl, rfl⟩ := hh
          rw [hq] at r0
          clear hcl HQ hq
          generalize (rd_T54 l (kk : Int)).f1 = z1 at r1
          generalize (rd_T54 l (kk : Int)).f2 = z2 at r2
          generalize (rd_T54 l (kk : Int)).f3 = z3 at r3
          generalize (rd_T54 l (kk : Int)).f4 = z4 at r4
          go_wp2
          go_ret
          exact ⟨rfl, key _ (by repeat (first | exact BW.out | apply below_alloc | apply pw_below_drewN | apply below_drew1))⟩
        · have HX2 : Aside0 (∀ j (hj : j < l.length), j < kk + 1 → ¬ l[j].f0 = nm) := ⟨fun j hj hjk => by
            by_cases e : j = kk
            · subst e
              exact hq
            · exact AA.out j hj (by omega)⟩
          generalize (l[kk]'(by omega)).f0 = nk at r0 hq
          have hqn : ¬ nk.toList = nm.toList := fun e => hq (ByteArray.ext (Array.ext' (by simpa [ByteArray.toList_eq] using e)))
          obtain ⟨hqb0, hqb1⟩ : (nk.toList == nm.toList) = false ∧ (nk.toList != nm.toList) = true := ⟨beq_eq_false_iff_ne.mpr hqn, bne_iff_ne.mpr hqn⟩
          clear hqn
          generalize (rd_T54 l (kk : Int)).f1 = z1 at r1
          generalize (rd_T54 l (kk : Int)).f2 = z2 at r2
          generalize (rd_T54 l (kk : Int)).f3 = z3 at r3
          generalize (rd_T54 l (kk : Int)).f4 = z4 at r4
          go_wp2
          go_roundg (n - (kk + 1))
          case measure => omega
          case rel => exact ⟨kk + 1, by omega, by omega, by go_num, ⟨by repeat (first | exact BW.out | apply below_alloc | apply pw_below_drewN | apply below_drew1)⟩, ⟨by (with_reducible repeat (first | refine blk_drewN ?_ _ | refine blk_drew ?_ | refine blk_alloc ?_ _)); exact IM.out⟩, ⟨by (with_reducible repeat (first | refine blk_drewN ?_ _ | refine blk_drew ?_ | refine blk_alloc ?_ _)); exact SY.out⟩, HX2⟩
      · obtain rfl : kk = n := by omega
        have hcl : impl_Image_lintSymbol.clash l (kk : Int) = false := impl_Image_lintSymbol.clash_no l kk (by have := HNN.out; omega) (fun j hj hjk => by rw [HNM.out]; exact AA.out j hj hjk)
        have hh := HH.out
        simp only [hcl, if_true, Bool.false_eq_true, if_false] at hh
        clear HH hcl AA
        have HLr : wr.heap[g]? = some (.cells #[.int .i64 c, .int .i64 d] 71 (0, 0)) := blk_below HL.out BW.out
        have e0 : wr.cell? ⟨g, 0, none⟩ = some (.int .i64 c) := (blk_cell HLr 0).trans rfl
        have e1 : wr.cell? ⟨g, 1, none⟩ = some (.int .i64 d) := (blk_cell HLr 1).trans rfl
        have z0 : wr.frozen? ⟨g, 0, none⟩ = false := blk_frozen HLr 0
        have z1 : wr.frozen? ⟨g, 1, none⟩ = false := blk_frozen HLr 1
        have ne1 : w.heap.size + 1 ≠ g := by have := HGL.out; omega
        have ne0 : w.heap.size ≠ g := by have := HGL.out; omega
        have ng1 : g ≠ w.heap.size + 1 := Ne.symm ne1
        have ng0 : g ≠ w.heap.size := Ne.symm ne0
        have HLR := Aside0.mk HLr
        clear HLr
        obtain ⟨k1, f1⟩ : ∃ b, (x1 == 1) = b := ⟨_, rfl⟩
        obtain ⟨b1, f2⟩ : ∃ b, (x2 == c) = b := ⟨_, rfl⟩
        obtain ⟨k2, f3⟩ : ∃ b, (x1 == 2) = b := ⟨_, rfl⟩
        obtain ⟨m2, f4⟩ : ∃ b, (Int.tmod x2 8 == 0) = b := ⟨_, rfl⟩
        obtain ⟨m3, f5⟩ : ∃ b, (Int.tmod x3 8 == 0) = b := ⟨_, rfl⟩
        obtain ⟨z, f6⟩ : ∃ b, (x4 == 0) = b := ⟨_, rfl⟩
        have f2' : (x2 != c) = !b1 := by rw [← f2]; rfl
        have f4' : (Int.tmod x2 8 != 0) = !m2 := by rw [← f4]; rfl
        have f5' : (Int.tmod x3 8 != 0) = !m3 := by rw [← f5]; rfl
        have f6' : (x4 != 0) = !z := by rw [← f6]; rfl
        obtain ⟨w1, hw1⟩ : ∃ b, (decide (1 ≤ x3) && decide (x3 ≤ wrap64 ((a0_0.size : Int) - x2))) = b := ⟨_, rfl⟩
        obtain ⟨w2, hw2⟩ : ∃ b, (decide (d ≤ x2) && decide (x2 ≤ (a0_1.size : Int))) = b := ⟨_, rfl⟩
        obtain ⟨w3, hw3⟩ : ∃ b, (decide (1 ≤ x3) && decide (x3 ≤ wrap64 ((a0_1.size : Int) - x2))) = b := ⟨_, rfl⟩
        rw [hw1, hw2, hw3] at hh
        have H1 := Aside0.mk ((impl_Image_lintSymbol.win x3 1 (wrap64 ((a0_0.size : Int) - x2))).trans (congrArg some hw1))
        have H2 := Aside0.mk ((impl_Image_lintSymbol.win x2 d (a0_1.size : Int)).trans (congrArg some hw2))
        have H3 := Aside0.mk ((impl_Image_lintSymbol.win x3 1 (wrap64 ((a0_1.size : Int) - x2))).trans (congrArg some hw3))
        clear hw1 hw2 hw3
        unfold impl_Image_lintSymbol.code at hh
        rcases impl_Image_lintSymbol.ways k1 b1 w1 k2 w2 m2 m3 w3 z with ⟨rfl, rfl⟩ | ⟨rfl, rfl, rfl⟩ | ⟨rfl, rfl, rfl⟩ | ⟨rfl, rfl, rfl⟩ | ⟨rfl, rfl, rfl, rfl⟩ | ⟨rfl, rfl, rfl, rfl, rfl⟩ | ⟨rfl, rfl, rfl, rfl, rfl, rfl⟩ | ⟨rfl, rfl, rfl, rfl, rfl, rfl, rfl⟩ | ⟨rfl, rfl, rfl, rfl, rfl, rfl, rfl⟩ | ⟨rfl, rfl⟩
        all_goals
          simp only [f1, f2, f3, f4, f5, f6, if_true, if_false, Bool.false_eq_true, Bool.not_true, Bool.not_false, Bool.or_true, Bool.or_false, Bool.true_or, Bool.false_or, Prod.mk.injEq] at hh
          obtain ⟨rfl, rfl, rfl⟩ := hh
          go_wp2_with (first | (go_at_call 56; (with_reducible refine (impl_within.calls _ _ _ _ _ H1.out).mono ?_); rintro e w' ⟨rfl, ⟨nd, rfl⟩⟩; (try first | exact ⟨rfl, _, World.drewN_drewN _ _ _⟩ | exact ⟨rfl, _, Eq.trans (World.drewN_drewN _ _ _) (congrArg (World.drewN _) (Nat.add_assoc _ _ _))⟩)) | (go_at_call 56; (with_reducible refine (impl_within.calls _ _ _ _ _ H2.out).mono ?_); rintro e w' ⟨rfl, ⟨nd, rfl⟩⟩; (try first | exact ⟨rfl, _, World.drewN_drewN _ _ _⟩ | exact ⟨rfl, _, Eq.trans (World.drewN_drewN _ _ _) (congrArg (World.drewN _) (Nat.add_assoc _ _ _))⟩)) | (go_at_call 56; (with_reducible refine (impl_within.calls _ _ _ _ _ H3.out).mono ?_); rintro e w' ⟨rfl, ⟨nd, rfl⟩⟩; (try first | exact ⟨rfl, _, World.drewN_drewN _ _ _⟩ | exact ⟨rfl, _, Eq.trans (World.drewN_drewN _ _ _) (congrArg (World.drewN _) (Nat.add_assoc _ _ _))⟩)))
          repeat (go_quiet (first | (go_at_call 56; (with_reducible refine (impl_within.calls _ _ _ _ _ H1.out).mono ?_); rintro e w' ⟨rfl, ⟨nd, rfl⟩⟩; (try first | exact ⟨rfl, _, World.drewN_drewN _ _ _⟩ | exact ⟨rfl, _, Eq.trans (World.drewN_drewN _ _ _) (congrArg (World.drewN _) (Nat.add_assoc _ _ _))⟩)) | (go_at_call 56; (with_reducible refine (impl_within.calls _ _ _ _ _ H2.out).mono ?_); rintro e w' ⟨rfl, ⟨nd, rfl⟩⟩; (try first | exact ⟨rfl, _, World.drewN_drewN _ _ _⟩ | exact ⟨rfl, _, Eq.trans (World.drewN_drewN _ _ _) (congrArg (World.drewN _) (Nat.add_assoc _ _ _))⟩)) | (go_at_call 56; (with_reducible refine (impl_within.calls _ _ _ _ _ H3.out).mono ?_); rintro e w' ⟨rfl, ⟨nd, rfl⟩⟩; (try first | exact ⟨rfl, _, World.drewN_drewN _ _ _⟩ | exact ⟨rfl, _, Eq.trans (World.drewN_drewN _ _ _) (congrArg (World.drewN _) (Nat.add_assoc _ _ _))⟩))); try go_wp2_with (first | (go_at_call 56; (with_reducible refine (impl_within.calls _ _ _ _ _ H1.out).mono ?_); rintro e w' ⟨rfl, ⟨nd, rfl⟩⟩; (try first | exact ⟨rfl, _, World.drewN_drewN _ _ _⟩ | exact ⟨rfl, _, Eq.trans (World.drewN_drewN _ _ _) (congrArg (World.drewN _) (Nat.add_assoc _ _ _))⟩)) | (go_at_call 56; (with_reducible refine (impl_within.calls _ _ _ _ _ H2.out).mono ?_); rintro e w' ⟨rfl, ⟨nd, rfl⟩⟩; (try first | exact ⟨rfl, _, World.drewN_drewN _ _ _⟩ | exact ⟨rfl, _, Eq.trans (World.drewN_drewN _ _ _) (congrArg (World.drewN _) (Nat.add_assoc _ _ _))⟩)) | (go_at_call 56; (with_reducible refine (impl_within.calls _ _ _ _ _ H3.out).mono ?_); rintro e w' ⟨rfl, ⟨nd, rfl⟩⟩; (try first | exact ⟨rfl, _, World.drewN_drewN _ _ _⟩ | exact ⟨rfl, _, Eq.trans (World.drewN_drewN _ _ _) (congrArg (World.drewN _) (Nat.add_assoc _ _ _))⟩))))
          go_ret
          first
            | exact ⟨rfl, key _ (by repeat (first | exact BW.out | apply below_alloc | apply pw_below_drewN | apply below_drew1))⟩
            | exact ⟨rfl, by
                (with_reducible repeat (first | refine blk_drewN ?_ _ | refine blk_drew ?_ | refine blk_alloc ?_ _))
                first
                  | exact blk_put (cs := #[.int .i64 _, .int .i64 _]) (by (with_reducible repeat (first | refine blk_drewN ?_ _ | refine blk_drew ?_ | refine blk_alloc ?_ _)); exact HLR.out) 0 _ rfl
                  | exact blk_put (cs := #[.int .i64 _, .int .i64 _]) (by (with_reducible repeat (first | refine blk_drewN ?_ _ | refine blk_drew ?_ | refine blk_alloc ?_ _)); exact HLR.out) 1 _ rfl,
                by repeat (first | exact impl_Image_lintSymbol.low BW.out (Nat.le_of_lt HGL.out) | apply pw_below_drewN | apply below_drew1 | apply impl_Image_lintSymbol.bset),
                by repeat (first | exact KeepBut.of_below BW.out _ _ | apply KeepBut.set_ | apply keep_drewN | apply keep_drew | apply keep_alloc)⟩
theorem impl_Image_lintSymbol.calls (k : Nat) (a0_0 a0_1 : ByteArray) (A : Option Addr) (cp : Nat) (l : List S54) (i : Int) (g : Nat) (c d r1 r2 r3 : Int) (w : World) (hL : Aside0 (w.heap[g]? = some (.cells #[.int .i64 c, .int .i64 d] 71 (0, 0)))) (hr : Kd.C k54 w A l.length l) (hc : l.length ≤ cp)
    (h : impl_Image_lintSymbol.f k a0_0 a0_1 l i c d = some (r1, r2, r3)) :
    Calls Try.prog 52 #[.agg #[.string a0_0, .string a0_1, .slice A l.length cp], .int .i64 i, .pointer (some ⟨g, 0, none⟩)] w fun e w' => e = .returned (.int .i64 r1) ∧ w'.heap[g]? = some (.cells #[.int .i64 r2, .int .i64 r3] 71 (0, 0)) ∧ Below g w w' ∧ KeepBut w w' g none := by
  unfold impl_Image_lintSymbol.f at h
  by_cases h0 : 0 ≤ i
  · rw [if_pos h0] at h
    by_cases h1 : i < (l.length : Int)
    · rw [if_pos h1] at h
      obtain ⟨b, hb, h2⟩ := Option.bind_eq_some_iff.mp h
      obtain ⟨n, rfl⟩ : ∃ n : Nat, i = (n : Int) := ⟨i.toNat, by omega⟩
      exact impl_Image_lintSymbol.walk k a0_0 a0_1 A cp l n g c d b w hL.out hr hc (by omega) hb r1 r2 r3 (Option.some.inj h2)
    · rw [if_neg h1] at h
      exact absurd h (by simp)
  · rw [if_neg h0] at h
    exact absurd h (by simp)


def impl_Symbol_address.f (a0_0:ByteArray) (a0_1:Int) (a0_2:Int) (a0_3:Int) (a0_4:Int):Option (Int):=if a0_1=1 then (some (wrap64 (4096+a0_2))) else (some (wrap64 (16384+a0_2)))
set_option maxHeartbeats 8000000 in
set_option maxRecDepth 100000 in
theorem impl_Symbol_address.calls (a0_0:ByteArray) (a0_1:Int) (a0_2:Int) (a0_3:Int) (a0_4:Int) (r:Int) (w:World) (h:impl_Symbol_address.f a0_0 a0_1 a0_2 a0_3 a0_4=some r) :
    Calls Try.prog 54 #[.agg #[.string a0_0,.int .i64 a0_1,.int .i64 a0_2,.int .i64 a0_3,.int .i64 a0_4]] w fun e w'=>e=.returned (.int .i64 r)∧Below w.heap.size w w':=by
 have hu54:=Try.underlying54
 have HB:=Aside0.mk (Below.refl w.heap.size w)
 have H:(if a0_1=1 then (some (wrap64 (4096+a0_2))) else (some (wrap64 (16384+a0_2))))=some r:=h
 clear h
 by_cases c2:a0_1=1
 ·rw [if_pos c2] at H
  obtain ⟨c2b0,c2b1⟩:=eqP c2
  clear c2
  obtain rfl:=Option.some.inj H
  go_enter Try.func54,Try.ntmps54
  go_wp2_with (first|(refine bv 1 #[.string a0_0,.int .i64 a0_1,.int .i64 a0_2,.int .i64 a0_3,.int .i64 a0_4] 54 ?_;intro gb471 hg w3 hbox hb;obtain ⟨n0_,n2_⟩:=bx0 hbx hb hg;have n1_:=Aside0.mk (hbox);clear HB;have HB:=n0_;have BK471:=n1_;have GW471:=n2_;have GE471:=n2_;clear n0_ n1_ n2_;clear hb hbox hg;obtain ⟨Z4_0,Z4_1,Z4_2,Z4_3,Z4_4,Y4_0,Y4_1,Y4_2,Y4_3,Y4_4⟩:=cel5 BK471.out))
  go_ret
  exact ⟨rf,hb1 GE471.out⟩
 rw [if_neg c2] at H
 obtain ⟨c2b0,c2b1⟩:=eqN c2
 obtain rfl:=Option.some.inj H
 go_enter Try.func54,Try.ntmps54
 go_wp2_with (first|(refine bv 1 #[.string a0_0,.int .i64 a0_1,.int .i64 a0_2,.int .i64 a0_3,.int .i64 a0_4] 54 ?_;intro gb471 hg w5 hbox hb;obtain ⟨n0_,n2_⟩:=bx0 hbx hb hg;have n1_:=Aside0.mk (hbox);clear HB;have HB:=n0_;have BK471:=n1_;have GW471:=n2_;have GE471:=n2_;clear n0_ n1_ n2_;clear hb hbox hg;obtain ⟨Z6_0,Z6_1,Z6_2,Z6_3,Z6_4,Y6_0,Y6_1,Y6_2,Y6_3,Y6_4⟩:=cel5 BK471.out))
 go_ret
 exact ⟨rf,hb1 GE471.out⟩
def impl_Image_functions.l0:Nat→List Int→List (S54)→Int→Int→Option (List Int)
  | 0,_,_,_,_=>none
  | k+1,x3,x7,x8,x9=>if x9 < x8 then (if 0≤x9 then (if x9 < (x7.length:Int) then (if ((rd_T54 x7 x9).f1)=1 then ((impl_Symbol_address.f ((rd_T54 x7 x9).f0) ((rd_T54 x7 x9).f1) ((rd_T54 x7 x9).f2) ((rd_T54 x7 x9).f3) ((rd_T54 x7 x9).f4)).bind fun t475=>(if x3.length < 17592186044416 then (impl_Image_functions.l0 k (x3 ++ [t475]) x7 x8 (wrap64 (x9+1))) else (none))) else (impl_Image_functions.l0 k x3 x7 x8 (wrap64 (x9+1)))) else (none)) else (none)) else (some x3)
def impl_Image_functions.f (k:Nat) (a0_0:ByteArray) (a0_1:ByteArray) (l0_2:List (S54)):Option (List Int):=impl_Image_functions.l0 k ([]:List Int) l0_2 (l0_2.length:Int) 0
theorem impl_Image_functions.mono_l : ∀ k,(∀ y0 y1 y2 y3,LeO (impl_Image_functions.l0 k y0 y1 y2 y3) (impl_Image_functions.l0 (k+1) y0 y1 y2 y3))
  | 0=>fun _ _ _ _ r h=>by simp [impl_Image_functions.l0] at h
  | k+1=>by
    have ih0:=impl_Image_functions.mono_l k
    · intro y0 y1 y2 y3
      unfold impl_Image_functions.l0
      repeat' (with_reducible first|apply ih0|apply LeO.refl|apply LeO.none|apply LeO.ite|refine LeO.bind ?_ (fun _=>?_))
theorem impl_Image_functions.mono : ∀ a0 a1 a2 k,LeO (impl_Image_functions.f k a0 a1 a2) (impl_Image_functions.f (k+1) a0 a1 a2):=by
 intro a0 a1 a2 k
 have ih0:=impl_Image_functions.mono_l k
 unfold impl_Image_functions.f
 repeat' (with_reducible first|apply ih0|apply LeO.refl|apply LeO.none|apply LeO.ite|refine LeO.bind ?_ (fun _=>?_))
set_option maxHeartbeats 8000000 in
set_option maxRecDepth 100000 in
theorem impl_Image_functions.calls (k:Nat) (a0_0:ByteArray) (a0_1:ByteArray) (A0_2:Option Addr) (c0_2:Nat) (l0_2:List (S54)) (r:List Int) (w:World) (hr0_2:Kd.C k54 w A0_2 l0_2.length l0_2) (hc0_2:l0_2.length≤c0_2) (h:impl_Image_functions.f k a0_0 a0_1 l0_2=some r) :
    Calls Try.prog 53 #[.agg #[.string a0_0,.string a0_1,.slice A0_2 l0_2.length c0_2]] w fun e w'=>∃ v0_:Value,e=.returned (v0_)∧Kd.R (Kd.int .i64) 3 w' w.heap.size (fun _=>True) v0_ r∧Below w.heap.size w w':=by
 have hu30:=Try.underlying30
 have hu54:=Try.underlying54
 have HR0_2:=Aside0.mk hr0_2
 have HC0_2:=Aside0.mk hc0_2
 clear hr0_2 hc0_2
 have HB:=Aside0.mk (Below.refl w.heap.size w)
 have H:(impl_Image_functions.l0 k ([]:List Int) l0_2 (l0_2.length:Int) 0)=some r:=h
 clear h
 have H':=Aside0.mk H
 clear H
 go_enter Try.func53,Try.ntmps53
 go_wp2_with (first|(refine bv 1 #[.string a0_0,.string a0_1,.slice A0_2 l0_2.length c0_2] 30 ?_;intro gb472 hg w2 hbox hb;obtain ⟨n0_,n2_⟩:=bx0 hbx hb hg;have n1_:=Aside0.mk (hbox);clear HB;have HB:=n0_;have BK472:=n1_;have GW472:=n2_;have GE472:=n2_;clear n0_ n1_ n2_;clear hb hbox hg;obtain ⟨Z3_0,Z3_1,Z3_2,Y3_0,Y3_1,Y3_2⟩:=cel3 BK472.out))
 go_loopg [3,9] k (fun kq v3 v9 w'=>∃ (x3_1:List Int) (x9_1:Int),v9=.int .i64 x9_1∧Aside0 (impl_Image_functions.l0 kq x3_1 l0_2 (l0_2.length:Int) x9_1=some r)∧Aside0 (kq≤k)∧Aside0 (Kd.R (Kd.int .i64) 3 w' w.heap.size (fun _=>True) v3 x3_1)∧Aside0 (w'.heap[gb472]?=some (.cells #[.string a0_0,.string a0_1,(.slice A0_2 l0_2.length c0_2)] 30 (0,0)))∧Aside0 (Below w.heap.size w w'))
 case atStart=>exact ⟨(([]:List Int)),(0),rs,H',⟨Nat.le_refl _⟩,⟨by first|exact Kd.R_nil _ _ _ _ _|exact Kd.N_nil _ _ _ _ _|exact Kd.V_nil _ _ _ _ _|exact Kd.Q_nil _ _ _ _ _|exact Kd.S_nil _ _ _ _ _⟩,⟨qx BK472.out⟩,⟨hb1 GE472.out⟩⟩
 clear H'
 try clear Z3_0 Z3_1 Z3_2 Y3_0 Y3_1 Y3_2
 obtain ⟨x3_1,x9_1,rfl,HA,HK1,HO_3,BK472,HB⟩:=hrel
 cases gk with
 | zero=>exact absurd HA.out (by simp [impl_Image_functions.l0])
 | succ k1 =>
  have H:=HA.out
  clear HA
  simp only [impl_Image_functions.l0] at H
  by_cases c4:x9_1 < (l0_2.length:Int)
  ·rw [if_pos c4] at H
   have c4b0:decide (x9_1 < (l0_2.length:Int))=true:=decide_eq_true c4
   clear c4
   by_cases c5:0≤x9_1
   ·rw [if_pos c5] at H
    have c5b0:decide (0≤x9_1)=true:=decide_eq_true c5
    clear c5
    by_cases c6:x9_1 < (l0_2.length:Int)
    ·rw [if_pos c6] at H
     have c6b0:decide (x9_1 < (l0_2.length:Int))=true:=decide_eq_true c6
     clear c6
     by_cases c7:((rd_T54 l0_2 x9_1).f1)=1
     ·rw [if_pos c7] at H
      obtain ⟨c7b0,c7b1⟩:=eqP c7
      clear c7
      obtain ⟨t475,A8,H⟩:=bindA H
      by_cases c9:x3_1.length < 17592186044416
      ·rw [if_pos c9] at H
       have LMc9:=Aside0.mk c9
       clear c9
       obtain ⟨y476,hy476⟩ : ∃ y_:List Int,y_=(x3_1 ++ [t475]):=⟨_,rfl⟩
       replace H:(impl_Image_functions.l0 k1 y476 l0_2 (l0_2.length:Int) (wrap64 (x9_1+1)))=some r:=by first|(rw [hy476];with_reducible exact H)|(have H2_:=(Option.bind_some _ _).symm.trans H;rw [hy476];with_reducible exact H2_)|(have H2_:=(Option.bind_some _ _).symm.trans H;with_reducible exact H2_)|with_reducible exact H|(rw [hy476];exact H)|exact H
       have Ny476:=Aside0.mk hy476
       clear hy476
       have H':=Aside0.mk H
       clear H
       have p473:0≤(x9_1:Int):=od
       have q473:x9_1 < (l0_2.length:Int):=od
       obtain ⟨ad473,e473,hx473_0,hx473_1,hx473_2,hx473_3,hx473_4⟩:=at_T54 HR0_2.out x9_1 p473 q473
       cases e473
       replace hx473_0:=cx HB.out hx473_0
       replace hx473_1:=cx HB.out hx473_1
       replace hx473_2:=cx HB.out hx473_2
       replace hx473_3:=cx HB.out hx473_3
       replace hx473_4:=cx HB.out hx473_4
       replace p473:=eq_true p473
       replace q473:=eq_true q473
       go_wp2_with (first|(refine bv 5 #[.string (⟨#[]⟩:ByteArray),.int .i64 0,.int .i64 0,.int .i64 0,.int .i64 0] 54 ?_;intro gb474 hg w10 hbox hb;obtain ⟨n2_,n4_⟩:=bx0 (hb1 GE472.out) hb hg;have n0_:=Aside0.mk (Kd.R_below (kr HO_3.out) hb);obtain ⟨n1_,n6_,n7_⟩:=bx3 (qx BK472.out) hb hg;have n3_:=Aside0.mk (hbox);clear HO_3;clear BK472;clear HB;have HO_3:=n0_;have BK472:=n1_;have HB:=n2_;have BK474:=n3_;have GW474:=n4_;have GE474:=n4_;have NB472_474:=n6_;have NB474_472:=n7_;clear n0_ n1_ n2_ n3_ n4_ n6_ n7_;clear hb hbox hg;have hnb11:=NB474_472.out;have hnc11:=NB472_474.out;obtain ⟨Z12_0,Z12_1,Z12_2,Z12_3,Z12_4,Y12_0,Y12_1,Y12_2,Y12_3,Y12_4⟩:=cel5 BK474.out)|(refine gl 54 18 Try.func54 #[.agg #[.string ((rd_T54 l0_2 x9_1).f0),.int .i64 ((rd_T54 l0_2 x9_1).f1),.int .i64 ((rd_T54 l0_2 x9_1).f2),.int .i64 ((rd_T54 l0_2 x9_1).f3),.int .i64 ((rd_T54 l0_2 x9_1).f4)]] ?_;(with_reducible refine (impl_Symbol_address.calls ((rd_T54 l0_2 x9_1).f0) ((rd_T54 l0_2 x9_1).f1) ((rd_T54 l0_2 x9_1).f2) ((rd_T54 l0_2 x9_1).f3) ((rd_T54 l0_2 x9_1).f4) t475 _ A8.out).mono ?_);rintro e w13 ⟨rfl,hb⟩;refine ⟨_,rfl,?_⟩;have n0_:=Aside0.mk (Kd.R_below (by (with_reducible repeat (first|apply Kd.R_alloc|apply Kd.R_drewN|apply Kd.R_drew));exact (Kd.R_mono (Kd.R_far (p:=⟨gb474,4,none⟩) (Kd.R_far (p:=⟨gb474,3,none⟩) (Kd.R_far (p:=⟨gb474,2,none⟩) (Kd.R_far (p:=⟨gb474,1,none⟩) (Kd.R_far (p:=⟨gb474,0,none⟩) (Kd.R_types HO_3.out BK474.out (by decide)) (fun _ hk=>hk.2) (.string ((rd_T54 l0_2 x9_1).f0))) (fun _ hk=>hk.2) (.int .i64 ((rd_T54 l0_2 x9_1).f1))) (fun _ hk=>hk.2) (.int .i64 ((rd_T54 l0_2 x9_1).f2))) (fun _ hk=>hk.2) (.int .i64 ((rd_T54 l0_2 x9_1).f3))) (fun _ hk=>hk.2) (.int .i64 ((rd_T54 l0_2 x9_1).f4))) (fun _ h_=>h_.1))) hb);have n1_:=Aside0.mk (blk_below (qg NB472_474.out BK472.out) hb);have n2_:=Aside0.mk (blk_below (g:=gb474) (o:=.cells #[.string ((rd_T54 l0_2 x9_1).f0),.int .i64 ((rd_T54 l0_2 x9_1).f1),.int .i64 ((rd_T54 l0_2 x9_1).f2),.int .i64 ((rd_T54 l0_2 x9_1).f3),.int .i64 ((rd_T54 l0_2 x9_1).f4)] 54 (0,0)) (by (with_reducible repeat first|apply Q1|apply Q2|apply Q3);refine blk_put (cs:=#[.string ((rd_T54 l0_2 x9_1).f0),.int .i64 ((rd_T54 l0_2 x9_1).f1),.int .i64 ((rd_T54 l0_2 x9_1).f2),.int .i64 ((rd_T54 l0_2 x9_1).f3),.int .i64 0]) ?_ 4 _ rfl;(with_reducible repeat first|apply Q1|apply Q2|apply Q3);refine blk_put (cs:=#[.string ((rd_T54 l0_2 x9_1).f0),.int .i64 ((rd_T54 l0_2 x9_1).f1),.int .i64 ((rd_T54 l0_2 x9_1).f2),.int .i64 0,.int .i64 0]) ?_ 3 _ rfl;(with_reducible repeat first|apply Q1|apply Q2|apply Q3);refine blk_put (cs:=#[.string ((rd_T54 l0_2 x9_1).f0),.int .i64 ((rd_T54 l0_2 x9_1).f1),.int .i64 0,.int .i64 0,.int .i64 0]) ?_ 2 _ rfl;(with_reducible repeat first|apply Q1|apply Q2|apply Q3);refine blk_put (cs:=#[.string ((rd_T54 l0_2 x9_1).f0),.int .i64 0,.int .i64 0,.int .i64 0,.int .i64 0]) ?_ 1 _ rfl;(with_reducible repeat first|apply Q1|apply Q2|apply Q3);refine blk_put (cs:=#[.string (⟨#[]⟩:ByteArray),.int .i64 0,.int .i64 0,.int .i64 0,.int .i64 0]) ?_ 0 _ rfl;(with_reducible repeat first|apply Q1|apply Q2|apply Q3);exact BK474.out) hb);replace HB:=Aside0.mk (below_step (hb2 GE472.out GE474.out) hb);clear HO_3;clear BK472;clear BK474;have HO_3:=n0_;have BK472:=n1_;have BK474:=n2_;clear n0_ n1_ n2_;(try clear hb);(try clear hb2);(try clear hk);(try clear hi))|((with_reducible refine gate_builtin (b:=.append) (xs:=#[.tmp 16,.tmp 19]) rfl ?_);at_builtin;refine Kd.R_append (Kd.int .i64) (w0:=w) w.heap.size rfl (.tmp 16) (.tmp 19) 37 3 (.int .i64 0) 8 rfl Try.underlying37 info3 rfl (by decide) (by omega) u3 x3_1 t475 [.int .i64 t475] (fun _=>True) (fun _=>False) rfl rfl ?aP (fun _ hk=>hk.elim) ?aF ?aO ?aB ?aS ?aL ?_;(case aP=>exact rfl);(case aB=>exact (hb2 GE472.out GE474.out));(case aF=>exact (fun _ _=>trivial));(case aO=>exact (kr HO_3.out));(case aS=>exact (below_size (hb2 GE472.out GE474.out)));(case aL=>have:=LMc9.out;omega);intro v477 w14 ho hb hg hat;rw [← Ny476.out] at ho;have n0_:=Aside0.mk (blk_grown (g:=gb472) (o:=.cells #[.string a0_0,.string a0_1,.slice (some ad473) l0_2.length c0_2] 30 (0,0)) (qx BK472.out) hg (Kd.R_ne HO_3.out BK472.out (by decide)));have n1_:=Aside0.mk (blk_grown (g:=gb474) (o:=.cells #[.string ((rd_T54 l0_2 x9_1).f0),.int .i64 ((rd_T54 l0_2 x9_1).f1),.int .i64 ((rd_T54 l0_2 x9_1).f2),.int .i64 ((rd_T54 l0_2 x9_1).f3),.int .i64 ((rd_T54 l0_2 x9_1).f4)] 54 (0,0)) (qx BK474.out) hg (Kd.R_ne HO_3.out BK474.out (by decide)));have n2_:=Aside0.mk (hb);have n3_:=Aside0.mk (ho);clear BK472;clear BK474;clear HB;clear HO_3;have BK472:=n0_;have BK474:=n1_;have HB:=n2_;have HO478:=n3_;clear n0_ n1_ n2_ n3_;clear ho hb hg hat))
       go_roundg k1
       case measure=>have:=HK1.out;omega
       case rel=>exact ⟨(y476),(wrap64 (x9_1+1)),rs,H',⟨by have:=HK1.out;omega⟩,⟨kr HO478.out⟩,⟨qx BK472.out⟩,⟨hb2 GE472.out GE474.out⟩⟩
      rw [if_neg c9] at H
      exact absurd H (by simp)
     rw [if_neg c7] at H
     obtain ⟨c7b0,c7b1⟩:=eqN c7
     have H':=Aside0.mk H
     clear H
     have p473:0≤(x9_1:Int):=od
     have q473:x9_1 < (l0_2.length:Int):=od
     obtain ⟨ad473,e473,hx473_0,hx473_1,hx473_2,hx473_3,hx473_4⟩:=at_T54 HR0_2.out x9_1 p473 q473
     cases e473
     replace hx473_0:=cx HB.out hx473_0
     replace hx473_1:=cx HB.out hx473_1
     replace hx473_2:=cx HB.out hx473_2
     replace hx473_3:=cx HB.out hx473_3
     replace hx473_4:=cx HB.out hx473_4
     replace p473:=eq_true p473
     replace q473:=eq_true q473
     go_wp2_with (first|(refine bv 5 #[.string (⟨#[]⟩:ByteArray),.int .i64 0,.int .i64 0,.int .i64 0,.int .i64 0] 54 ?_;intro gb474 hg w15 hbox hb;obtain ⟨n2_,n4_⟩:=bx0 (hb1 GE472.out) hb hg;have n0_:=Aside0.mk (Kd.R_below (kr HO_3.out) hb);obtain ⟨n1_,n6_,n7_⟩:=bx3 (qx BK472.out) hb hg;have n3_:=Aside0.mk (hbox);clear HO_3;clear BK472;clear HB;have HO_3:=n0_;have BK472:=n1_;have HB:=n2_;have BK474:=n3_;have GW474:=n4_;have GE474:=n4_;have NB472_474:=n6_;have NB474_472:=n7_;clear n0_ n1_ n2_ n3_ n4_ n6_ n7_;clear hb hbox hg;have hnb16:=NB474_472.out;have hnc16:=NB472_474.out;obtain ⟨Z17_0,Z17_1,Z17_2,Z17_3,Z17_4,Y17_0,Y17_1,Y17_2,Y17_3,Y17_4⟩:=cel5 BK474.out))
     go_roundg k1
     case measure=>have:=HK1.out;omega
     case rel=>exact ⟨(x3_1),(wrap64 (x9_1+1)),rs,H',⟨by have:=HK1.out;omega⟩,⟨by (with_reducible repeat (first|apply Kd.R_alloc|apply Kd.R_drewN|apply Kd.R_drew));exact Kd.R_mono (Kd.R_far (p:=⟨gb474,4,none⟩) (Kd.R_far (p:=⟨gb474,3,none⟩) (Kd.R_far (p:=⟨gb474,2,none⟩) (Kd.R_far (p:=⟨gb474,1,none⟩) (Kd.R_far (p:=⟨gb474,0,none⟩) (Kd.R_types HO_3.out BK474.out (by decide)) (fun _ hk=>hk.2) (.string ((rd_T54 l0_2 x9_1).f0))) (fun _ hk=>hk.2) (.int .i64 ((rd_T54 l0_2 x9_1).f1))) (fun _ hk=>hk.2) (.int .i64 ((rd_T54 l0_2 x9_1).f2))) (fun _ hk=>hk.2) (.int .i64 ((rd_T54 l0_2 x9_1).f3))) (fun _ hk=>hk.2) (.int .i64 ((rd_T54 l0_2 x9_1).f4))) (fun _ hk=>trivial)⟩,⟨qg NB472_474.out BK472.out⟩,⟨hb2 GE472.out GE474.out⟩⟩
    rw [if_neg c6] at H
    exact absurd H (by simp)
   rw [if_neg c5] at H
   exact absurd H (by simp)
  rw [if_neg c4] at H
  have c4b0:decide (x9_1 < (l0_2.length:Int))=false:=decide_eq_false c4
  clear c4
  obtain rfl:=Option.some.inj H
  go_wp2
  go_ret
  exact ⟨_,rf,by (with_reducible repeat (first|apply Kd.R_alloc|apply Kd.R_drewN|apply Kd.R_drew));exact HO_3.out,hb1 GE472.out⟩
end Go.Proofs.Ythepmdlpjdlajaa.PFnExactLintImage
