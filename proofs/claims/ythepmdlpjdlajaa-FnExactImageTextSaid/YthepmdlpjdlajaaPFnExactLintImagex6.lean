-- Written by a program for this claim.
import Derived.Test.YthepmdlpjdlajaaPFnExactLintImagex0
import Derived.Test.YthepmdlpjdlajaaPFnExactLintImagex3
namespace Go.Proofs.Ythepmdlpjdlajaa.PFnExactLintImage
open Go.RowKit Go.Proofs.YthepmdlpjdlajaaW.PrintWords Go.Proofs.YthepmdlpjdlajaaW.PrintLast Go.Proofs.YthepmdlpjdlajaaW.PrintMore
attribute [local go_sem] max2_int min2_int max_two min_two max_three min_three max_four min_four   -- for this text's walks alone
set_option linter.unusedVariables false
set_option linter.unusedSimpArgs false
def spec_l01Put.l0:Nat→Int→Int→Int→Int→Int→Int→Option (Int)
  | 0,_,_,_,_,_,_=>none
  | k+1,x0,x1,x2,x3,x9,x10=>if x10≥0 then ((spec_l01Bit.f x0 x10).bind fun t179=>(if x10≥x1 then (if x10 < (wrap64 (x1+x2)) then ((spec_l01Bit.f x3 (wrap64 (x10 - x1))).bind fun t180=>(spec_l01Put.l0 k x0 x1 x2 x3 (wrap64 ((wrap64 (2*x9))+t180)) (wrap64 (x10 - 1)))) else (spec_l01Put.l0 k x0 x1 x2 x3 (wrap64 ((wrap64 (2*x9))+t179)) (wrap64 (x10 - 1)))) else (spec_l01Put.l0 k x0 x1 x2 x3 (wrap64 ((wrap64 (2*x9))+t179)) (wrap64 (x10 - 1))))) else (some x9)
def spec_l01Put.f (k:Nat) (a0:Int) (a1:Int) (a2:Int) (a3:Int):Option (Int):=spec_l01Put.l0 k a0 a1 a2 a3 0 31
theorem spec_l01Put.mono_l : ∀ k,(∀ y0 y1 y2 y3 y4 y5,LeO (spec_l01Put.l0 k y0 y1 y2 y3 y4 y5) (spec_l01Put.l0 (k+1) y0 y1 y2 y3 y4 y5))
  | 0=>fun _ _ _ _ _ _ r h=>by simp [spec_l01Put.l0] at h
  | k+1=>by
    have ih0:=spec_l01Put.mono_l k
    · intro y0 y1 y2 y3 y4 y5
      unfold spec_l01Put.l0
      repeat' (with_reducible first|apply ih0|apply LeO.refl|apply LeO.none|apply LeO.ite|refine LeO.bind ?_ (fun _=>?_))
theorem spec_l01Put.mono : ∀ a0 a1 a2 a3 k,LeO (spec_l01Put.f k a0 a1 a2 a3) (spec_l01Put.f (k+1) a0 a1 a2 a3):=by
 intro a0 a1 a2 a3 k
 have ih0:=spec_l01Put.mono_l k
 unfold spec_l01Put.f
 repeat' (with_reducible first|apply ih0|apply LeO.refl|apply LeO.none|apply LeO.ite|refine LeO.bind ?_ (fun _=>?_))
set_option maxHeartbeats 8000000 in
set_option maxRecDepth 100000 in
theorem spec_l01Put.calls (k:Nat) (a0:Int) (a1:Int) (a2:Int) (a3:Int) (r:Int) (w:World) (h:spec_l01Put.f k a0 a1 a2 a3=some r) :
    Calls Try.prog 119 #[.int .i64 a0,.int .i64 a1,.int .i64 a2,.int .i64 a3] w fun e w'=>e=.returned (.int .i64 r)∧Drawn0 w w':=by
 have H:(spec_l01Put.l0 k a0 a1 a2 a3 0 31)=some r:=h
 clear h
 have H':=Aside0.mk H
 clear H
 go_enter Try.func119,Try.ntmps119
 go_wp2
 go_loopg [9,10] k (fun kq v9 v10 w'=>∃ (x9_1:Int) (x10_1:Int),v9=.int .i64 x9_1∧v10=.int .i64 x10_1∧Aside0 (spec_l01Put.l0 kq a0 a1 a2 a3 x9_1 x10_1=some r)∧Aside0 (kq≤k)∧Drawn0 w w')
 case atStart=>exact ⟨(0),(31),rs,rs,H',⟨Nat.le_refl _⟩,dr⟩
 clear H'
 obtain ⟨x9_1,x10_1,rfl,rfl,HA,HK1,⟨m1,rfl⟩⟩:=hrel
 cases gk with
 | zero=>exact absurd HA.out (by simp [spec_l01Put.l0])
 | succ k1 =>
  have H:=HA.out
  clear HA
  simp only [spec_l01Put.l0] at H
  by_cases c5:x10_1≥0
  ·rw [if_pos c5] at H
   have c5b0:decide (0≤x10_1)=true:=decide_eq_true c5
   clear c5
   obtain ⟨t179,A6,H⟩:=bindA H
   by_cases c7:x10_1≥a1
   ·rw [if_pos c7] at H
    have c7b0:decide (a1≤x10_1)=true:=decide_eq_true c7
    clear c7
    by_cases c8:x10_1 < (wrap64 (a1+a2))
    ·rw [if_pos c8] at H
     have c8b0:decide (x10_1 < (wrap64 (a1+a2)))=true:=decide_eq_true c8
     clear c8
     obtain ⟨t180,A9,H⟩:=bindA H
     have H':=Aside0.mk H
     clear H
     go_wp2_with (first|(refine gd 116 18 Try.func116 #[.int .i64 a0,.int .i64 x10_1] (spec_l01Bit.calls a0 x10_1 t179 _ A6.out) ?_;intro nd)|(refine gd 116 33 Try.func116 #[.int .i64 a3,.int .i64 (wrap64 (x10_1 - a1))] (spec_l01Bit.calls a3 (wrap64 (x10_1 - a1)) t180 _ A9.out) ?_;intro nd))
     go_roundg k1
     case measure=>have:=HK1.out;omega
     case rel=>exact ⟨(wrap64 ((wrap64 (2*x9_1))+t180)),(wrap64 (x10_1 - 1)),rs,rs,H',⟨by have:=HK1.out;omega⟩,dr⟩
    rw [if_neg c8] at H
    have c8b0:decide (x10_1 < (wrap64 (a1+a2)))=false:=decide_eq_false c8
    clear c8
    have H':=Aside0.mk H
    clear H
    go_wp2_with (first|(refine gd 116 18 Try.func116 #[.int .i64 a0,.int .i64 x10_1] (spec_l01Bit.calls a0 x10_1 t179 _ A6.out) ?_;intro nd))
    go_roundg k1
    case measure=>have:=HK1.out;omega
    case rel=>exact ⟨(wrap64 ((wrap64 (2*x9_1))+t179)),(wrap64 (x10_1 - 1)),rs,rs,H',⟨by have:=HK1.out;omega⟩,dr⟩
   rw [if_neg c7] at H
   have c7b0:decide (a1≤x10_1)=false:=decide_eq_false c7
   clear c7
   have H':=Aside0.mk H
   clear H
   go_wp2_with (first|(refine gd 116 18 Try.func116 #[.int .i64 a0,.int .i64 x10_1] (spec_l01Bit.calls a0 x10_1 t179 _ A6.out) ?_;intro nd))
   go_roundg k1
   case measure=>have:=HK1.out;omega
   case rel=>exact ⟨(wrap64 ((wrap64 (2*x9_1))+t179)),(wrap64 (x10_1 - 1)),rs,rs,H',⟨by have:=HK1.out;omega⟩,dr⟩
  rw [if_neg c5] at H
  have c5b0:decide (0≤x10_1)=false:=decide_eq_false c5
  clear c5
  obtain rfl:=Option.some.inj H
  go_wp2
  go_ret
  exact ⟨rs,dr⟩
end Go.Proofs.Ythepmdlpjdlajaa.PFnExactLintImage
