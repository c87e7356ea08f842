-- Written by a program for this claim.
import Derived.Test.YthepmdlpjdlajaaPFnExactLintImagex0
namespace Go.Proofs.Ythepmdlpjdlajaa.PFnExactLintImage
open Go.RowKit Go.Proofs.YthepmdlpjdlajaaW.PrintWords Go.Proofs.YthepmdlpjdlajaaW.PrintLast Go.Proofs.YthepmdlpjdlajaaW.PrintMore
attribute [local go_sem] max2_int min2_int max_two min_two max_three min_three max_four min_four   -- for this text's walks alone
set_option linter.unusedVariables false
set_option linter.unusedSimpArgs false
def spec_l07Place.f (a0_0:ByteArray) (a0_1:Int) (a0_2:Int) (a0_3:Int) (a0_4:Int):Option (Int):=if a0_1=1 then (some (wrap64 (4096+a0_2))) else (some (wrap64 (16384+a0_2)))
set_option maxHeartbeats 8000000 in
set_option maxRecDepth 100000 in
theorem spec_l07Place.calls (a0_0:ByteArray) (a0_1:Int) (a0_2:Int) (a0_3:Int) (a0_4:Int) (r:Int) (w:World) (h:spec_l07Place.f a0_0 a0_1 a0_2 a0_3 a0_4=some r) :
    Calls Try.prog 55 #[.agg #[.string a0_0,.int .i64 a0_1,.int .i64 a0_2,.int .i64 a0_3,.int .i64 a0_4]] w fun e w'=>e=.returned (.int .i64 r)∧Below w.heap.size w w':=by
 have hu54:=Try.underlying54
 have HB:=Aside0.mk (Below.refl w.heap.size w)
 have H:(if a0_1=1 then (some (wrap64 (4096+a0_2))) else (some (wrap64 (16384+a0_2))))=some r:=h
 clear h
 by_cases c2:a0_1=1
 ·rw [if_pos c2] at H
  obtain ⟨c2b0,c2b1⟩:=eqP c2
  clear c2
  obtain rfl:=Option.some.inj H
  go_enter Try.func55,Try.ntmps55
  go_wp2_with (first|(refine bv 1 #[.string a0_0,.int .i64 a0_1,.int .i64 a0_2,.int .i64 a0_3,.int .i64 a0_4] 54 ?_;intro gb302 hg w3 hbox hb;obtain ⟨n0_,n2_⟩:=bx0 hbx hb hg;have n1_:=Aside0.mk (hbox);clear HB;have HB:=n0_;have BK302:=n1_;have GW302:=n2_;have GE302:=n2_;clear n0_ n1_ n2_;clear hb hbox hg;obtain ⟨Z4_0,Z4_1,Z4_2,Z4_3,Z4_4,Y4_0,Y4_1,Y4_2,Y4_3,Y4_4⟩:=cel5 BK302.out))
  go_ret
  exact ⟨rf,hb1 GE302.out⟩
 rw [if_neg c2] at H
 obtain ⟨c2b0,c2b1⟩:=eqN c2
 obtain rfl:=Option.some.inj H
 go_enter Try.func55,Try.ntmps55
 go_wp2_with (first|(refine bv 1 #[.string a0_0,.int .i64 a0_1,.int .i64 a0_2,.int .i64 a0_3,.int .i64 a0_4] 54 ?_;intro gb302 hg w5 hbox hb;obtain ⟨n0_,n2_⟩:=bx0 hbx hb hg;have n1_:=Aside0.mk (hbox);clear HB;have HB:=n0_;have BK302:=n1_;have GW302:=n2_;have GE302:=n2_;clear n0_ n1_ n2_;clear hb hbox hg;obtain ⟨Z6_0,Z6_1,Z6_2,Z6_3,Z6_4,Y6_0,Y6_1,Y6_2,Y6_3,Y6_4⟩:=cel5 BK302.out))
 go_ret
 exact ⟨rf,hb1 GE302.out⟩
def spec_l00Letter.f (a0:Int):Option (Bool):=if a0≥97 then (if a0≤122 then (some true) else (if a0≥65 then (if a0≤90 then (some true) else (some (a0==95))) else (some (a0==95)))) else (if a0≥65 then (if a0≤90 then (some true) else (some (a0==95))) else (some (a0==95)))
set_option maxHeartbeats 8000000 in
set_option maxRecDepth 100000 in
theorem spec_l00Letter.calls (a0:Int) (r:Bool) (w:World) (h:spec_l00Letter.f a0=some r) :
    Calls Try.prog 131 #[.int .u8 a0] w fun e w'=>e=.returned (.bool r)∧Drawn0 w w':=by
 have H:(if a0≥97 then (if a0≤122 then (some true) else (if a0≥65 then (if a0≤90 then (some true) else (some (a0==95))) else (some (a0==95)))) else (if a0≥65 then (if a0≤90 then (some true) else (some (a0==95))) else (some (a0==95))))=some r:=h
 clear h
 by_cases c2:a0≥97
 ·rw [if_pos c2] at H
  have c2b0:decide (97≤a0)=true:=decide_eq_true c2
  clear c2
  by_cases c3:a0≤122
  ·rw [if_pos c3] at H
   have c3b0:decide (a0≤122)=true:=decide_eq_true c3
   clear c3
   obtain rfl:=Option.some.inj H
   go_enter Try.func131,Try.ntmps131
   go_wp2
   go_ret
   exact ⟨rs,dr⟩
  rw [if_neg c3] at H
  have c3b0:decide (a0≤122)=false:=decide_eq_false c3
  clear c3
  by_cases c4:a0≥65
  ·rw [if_pos c4] at H
   have c4b0:decide (65≤a0)=true:=decide_eq_true c4
   clear c4
   by_cases c5:a0≤90
   ·rw [if_pos c5] at H
    have c5b0:decide (a0≤90)=true:=decide_eq_true c5
    clear c5
    obtain rfl:=Option.some.inj H
    go_enter Try.func131,Try.ntmps131
    go_wp2
    go_ret
    exact ⟨rs,dr⟩
   rw [if_neg c5] at H
   have c5b0:decide (a0≤90)=false:=decide_eq_false c5
   clear c5
   obtain rfl:=Option.some.inj H
   go_enter Try.func131,Try.ntmps131
   go_wp2
   go_ret
   exact ⟨rs,dr⟩
  rw [if_neg c4] at H
  have c4b0:decide (65≤a0)=false:=decide_eq_false c4
  clear c4
  obtain rfl:=Option.some.inj H
  go_enter Try.func131,Try.ntmps131
  go_wp2
  go_ret
  exact ⟨rs,dr⟩
 rw [if_neg c2] at H
 have c2b0:decide (97≤a0)=false:=decide_eq_false c2
 clear c2
 by_cases c6:a0≥65
 ·rw [if_pos c6] at H
  have c6b0:decide (65≤a0)=true:=decide_eq_true c6
  clear c6
  by_cases c7:a0≤90
  ·rw [if_pos c7] at H
   have c7b0:decide (a0≤90)=true:=decide_eq_true c7
   clear c7
   obtain rfl:=Option.some.inj H
   go_enter Try.func131,Try.ntmps131
   go_wp2
   go_ret
   exact ⟨rs,dr⟩
  rw [if_neg c7] at H
  have c7b0:decide (a0≤90)=false:=decide_eq_false c7
  clear c7
  obtain rfl:=Option.some.inj H
  go_enter Try.func131,Try.ntmps131
  go_wp2
  go_ret
  exact ⟨rs,dr⟩
 rw [if_neg c6] at H
 have c6b0:decide (65≤a0)=false:=decide_eq_false c6
 clear c6
 obtain rfl:=Option.some.inj H
 go_enter Try.func131,Try.ntmps131
 go_wp2
 go_ret
 exact ⟨rs,dr⟩
def spec_l00Digit.f (a0:Int):Option (Bool):=if a0≥48 then (some (decide (a0≤57))) else (some false)
set_option maxHeartbeats 8000000 in
set_option maxRecDepth 100000 in
theorem spec_l00Digit.calls (a0:Int) (r:Bool) (w:World) (h:spec_l00Digit.f a0=some r) :
    Calls Try.prog 132 #[.int .u8 a0] w fun e w'=>e=.returned (.bool r)∧Drawn0 w w':=by
 have H:(if a0≥48 then (some (decide (a0≤57))) else (some false))=some r:=h
 clear h
 by_cases c2:a0≥48
 ·rw [if_pos c2] at H
  have c2b0:decide (48≤a0)=true:=decide_eq_true c2
  clear c2
  obtain rfl:=Option.some.inj H
  go_enter Try.func132,Try.ntmps132
  go_wp2
  go_ret
  exact ⟨rs,dr⟩
 rw [if_neg c2] at H
 have c2b0:decide (48≤a0)=false:=decide_eq_false c2
 clear c2
 obtain rfl:=Option.some.inj H
 go_enter Try.func132,Try.ntmps132
 go_wp2
 go_ret
 exact ⟨rs,dr⟩
mutual
def spec_l00Word.j0:Nat→ByteArray→Bool→Option (Bool)
  | 0,_,_=>none
  | k+1,x0,x17=>if x17=true then (some false) else (spec_l00Word.l0 k x0 1)
def spec_l00Word.l0:Nat→ByteArray→Int→Option (Bool)
  | 0,_,_=>none
  | k+1,x0,x3=>if x3 < (x0.size:Int) then (if 0≤x3 then ((spec_l00Letter.f (bt x0 x3)).bind fun t304=>(if t304=true then (spec_l00Word.l0 k x0 (wrap64 (x3+1))) else ((spec_l00Digit.f (bt x0 x3)).bind fun t305=>(if t305=true then (spec_l00Word.l0 k x0 (wrap64 (x3+1))) else (some false))))) else (none)) else (some true)
end
def spec_l00Word.f (k:Nat) (a0:ByteArray):Option (Bool):=if (a0.size:Int) < 1 then (spec_l00Word.j0 k a0 true) else (if (a0.size:Int) > 20 then (spec_l00Word.j0 k a0 true) else (if 0 < (a0.size:Int) then ((spec_l00Letter.f (bt a0 0)).bind fun t303=>(spec_l00Word.j0 k a0 (!t303))) else (none)))
theorem spec_l00Word.mono_l : ∀ k,(∀ y0 y1,LeO (spec_l00Word.j0 k y0 y1) (spec_l00Word.j0 (k+1) y0 y1))∧(∀ y0 y1,LeO (spec_l00Word.l0 k y0 y1) (spec_l00Word.l0 (k+1) y0 y1))
  | 0=>⟨fun _ _ r h=>by simp [spec_l00Word.j0] at h,fun _ _ r h=>by simp [spec_l00Word.l0] at h⟩
  | k+1=>by
    obtain ⟨ih0,ih1⟩:=spec_l00Word.mono_l k
    refine ⟨?_,?_⟩<;>intros<;>(first|unfold spec_l00Word.j0|unfold spec_l00Word.l0)<;>repeat' (with_reducible first|apply ih0|apply ih1|apply LeO.refl|apply LeO.none|apply LeO.ite|refine LeO.bind ?_ (fun _=>?_))
theorem spec_l00Word.mono : ∀ a0 k,LeO (spec_l00Word.f k a0) (spec_l00Word.f (k+1) a0):=by
 intro a0 k
 obtain ⟨ih0,ih1⟩:=spec_l00Word.mono_l k
 unfold spec_l00Word.f
 repeat' (with_reducible first|apply ih0|apply ih1|apply LeO.refl|apply LeO.none|apply LeO.ite|refine LeO.bind ?_ (fun _=>?_))
set_option maxHeartbeats 8000000 in
set_option maxRecDepth 100000 in
theorem spec_l00Word.calls (k:Nat) (a0:ByteArray) (r:Bool) (w:World) (h:spec_l00Word.f k a0=some r) :
    Calls Try.prog 102 #[.string a0] w fun e w'=>e=.returned (.bool r)∧Drawn0 w w':=by
 have H:(if (a0.size:Int) < 1 then (spec_l00Word.j0 k a0 true) else (if (a0.size:Int) > 20 then (spec_l00Word.j0 k a0 true) else (if 0 < (a0.size:Int) then ((spec_l00Letter.f (bt a0 0)).bind fun t303=>(spec_l00Word.j0 k a0 (!t303))) else (none))))=some r:=h
 clear h
 have HC2:=Aside0.mk H
 clear H
 go_enter Try.func102,Try.ntmps102
 go_upto_region 1 with (fail)
 go_cut [17] (fun v17 wc=>∃ (kq:Nat) (x17_1:Bool),v17=.bool x17_1∧Aside0 (spec_l00Word.j0 kq a0 x17_1=some r)∧Aside0 (kq≤k)∧Drawn0 w wc)
 case first=>
  have H:=HC2.out
  clear HC2
  by_cases c3:(a0.size:Int) < 1
  ·rw [if_pos c3] at H
   have c3b0:decide ((a0.size:Int) < 1)=true:=decide_eq_true c3
   have c3b1:decide (a0.size < 1)=true:=decide_eq_true (by omega)
   clear c3
   (first|rw [c3b0]|(simp only [i64_w,i32_w];rw [c3b0])|skip)
   have H':=Aside0.mk H
   clear H
   go_wp2
   go_meet
   case rel=>exact ⟨_,(true),rs,H',⟨by first|omega|exact Nat.le_refl _⟩,dr⟩
  rw [if_neg c3] at H
  have c3b0:decide ((a0.size:Int) < 1)=false:=decide_eq_false c3
  have c3b1:decide (a0.size < 1)=false:=decide_eq_false (by omega)
  clear c3
  (first|rw [c3b0]|(simp only [i64_w,i32_w];rw [c3b0])|skip)
  by_cases c4:(a0.size:Int) > 20
  ·rw [if_pos c4] at H
   have c4b0:decide (20 < (a0.size:Int))=true:=decide_eq_true c4
   have c4b1:decide (20 < a0.size)=true:=decide_eq_true (by omega)
   clear c4
   have H':=Aside0.mk H
   clear H
   go_wp2
   go_meet
   case rel=>exact ⟨_,(true),rs,H',⟨by first|omega|exact Nat.le_refl _⟩,dr⟩
  rw [if_neg c4] at H
  have c4b0:decide (20 < (a0.size:Int))=false:=decide_eq_false c4
  have c4b1:decide (20 < a0.size)=false:=decide_eq_false (by omega)
  clear c4
  by_cases c5:0 < (a0.size:Int)
  ·rw [if_pos c5] at H
   have c5b0:decide (0 < (a0.size:Int))=true:=decide_eq_true c5
   have c5b1:decide (0 < a0.size)=true:=decide_eq_true (by omega)
   clear c5
   obtain ⟨t303,A7,H⟩:=bindA H
   have H':=Aside0.mk H
   clear H
   have p6:0≤(0:Int):=(by omega)
   have q6:0 < a0.size:=(by have:(0:Int) < (a0.size:Int):=od;omega)
   have hx6 : ∀ h:0 < a0.size,((a0[0]'h).toNat:Int)=bt a0 0:=bt_at a0 0
   clear p6
   have qi6:(0 < (a0.size:Int))=True:=eq_true (od)
   replace q6:=eq_true q6
   go_wp2_with (first|(go_at_call 131;(with_reducible refine (spec_l00Letter.calls (bt a0 0) t303 _ A7.out).mono ?_);rintro e w' ⟨rfl,⟨nd,rfl⟩⟩))
   go_meet
   case rel=>exact ⟨_,(!t303),rs,H',⟨by first|omega|exact Nat.le_refl _⟩,dr⟩
  rw [if_neg c5] at H
  exact absurd H (by simp)
 clear HC2
 obtain ⟨kq,x17_1,rfl,HA,HJ1,⟨mc1,rfl⟩⟩:=hcut
 cases kq with
 | zero=>exact absurd HA.out (by simp [spec_l00Word.j0])
 | succ kj1 =>
  have H:=HA.out
  clear HA
  simp only [spec_l00Word.j0] at H
  by_cases c8:x17_1=true
  ·subst c8
   rw [if_pos rfl] at H
   obtain rfl:=Option.some.inj H
   go_wp2
   go_ret
   exact ⟨rs,dr⟩
  replace c8:=Bool.eq_false_iff.mpr c8
  subst c8
  rw [if_neg (show ¬ (false=true) by decide)] at H
  have H':=Aside0.mk H
  clear H
  go_wp2
  go_loopg [3] kj1 (fun kq v3 w'=>∃ (x3_2:Int),v3=.int .i64 x3_2∧Aside0 (spec_l00Word.l0 kq a0 x3_2=some r)∧Aside0 (kq≤kj1)∧Drawn0 w w')
  case atStart=>exact ⟨(1),rs,H',⟨Nat.le_refl _⟩,dr⟩
  clear H'
  try clear c8
  obtain ⟨x3_2,rfl,HA,HK2,⟨m2,rfl⟩⟩:=hrel
  cases gk with
  | zero=>exact absurd HA.out (by simp [spec_l00Word.l0])
  | succ k2 =>
   have H:=HA.out
   clear HA
   simp only [spec_l00Word.l0] at H
   by_cases c9:x3_2 < (a0.size:Int)
   ·rw [if_pos c9] at H
    have c9b0:decide (x3_2 < (a0.size:Int))=true:=decide_eq_true c9
    clear c9
    by_cases c10:0≤x3_2
    ·rw [if_pos c10] at H
     have c10b0:decide (0≤x3_2)=true:=decide_eq_true c10
     clear c10
     obtain ⟨t304,A12,H⟩:=bindA H
     by_cases c13:t304=true
     ·subst c13
      rw [if_pos rfl] at H
      have H':=Aside0.mk H
      clear H
      have p11:0≤(x3_2:Int):=od
      have q11:x3_2 < (a0.size:Int):=od
      have hx11:=bt_at a0 x3_2
      replace p11:=eq_true p11
      replace q11:=eq_true q11
      go_wp2_with (first|(refine gd 131 27 Try.func131 #[.int .u8 (bt a0 x3_2)] (spec_l00Letter.calls (bt a0 x3_2) true _ A12.out) ?_;intro nd))
      go_roundg k2
      case measure=>have:=HJ1.out;have:=HK2.out;omega
      case rel=>exact ⟨(wrap64 (x3_2+1)),rs,H',⟨by have:=HJ1.out;have:=HK2.out;omega⟩,dr⟩
     replace c13:=Bool.eq_false_iff.mpr c13
     subst c13
     rw [if_neg (show ¬ (false=true) by decide)] at H
     obtain ⟨t305,A15,H⟩:=bindA H
     by_cases c16:t305=true
     ·subst c16
      rw [if_pos rfl] at H
      have H':=Aside0.mk H
      clear H
      have p11:0≤(x3_2:Int):=od
      have q11:x3_2 < (a0.size:Int):=od
      have hx11:=bt_at a0 x3_2
      replace p11:=eq_true p11
      replace q11:=eq_true q11
      go_wp2_with (first|(refine gd 131 27 Try.func131 #[.int .u8 (bt a0 x3_2)] (spec_l00Letter.calls (bt a0 x3_2) false _ A12.out) ?_;intro nd;have p14:0≤(x3_2:Int):=od;have q14:x3_2 < (a0.size:Int):=od;have hx14:=bt_at a0 x3_2;replace p14:=eq_true p14;replace q14:=eq_true q14)|(go_at_call 132;(with_reducible refine (spec_l00Digit.calls (bt a0 x3_2) true _ A15.out).mono ?_);rintro e w' ⟨rfl,⟨nd,rfl⟩⟩))
      go_roundg k2
      case measure=>have:=HJ1.out;have:=HK2.out;omega
      case rel=>exact ⟨(wrap64 (x3_2+1)),rs,H',⟨by have:=HJ1.out;have:=HK2.out;omega⟩,dr⟩
     replace c16:=Bool.eq_false_iff.mpr c16
     subst c16
     rw [if_neg (show ¬ (false=true) by decide)] at H
     obtain rfl:=Option.some.inj H
     have p11:0≤(x3_2:Int):=od
     have q11:x3_2 < (a0.size:Int):=od
     have hx11:=bt_at a0 x3_2
     replace p11:=eq_true p11
     replace q11:=eq_true q11
     go_wp2_with (first|(refine gd 131 27 Try.func131 #[.int .u8 (bt a0 x3_2)] (spec_l00Letter.calls (bt a0 x3_2) false _ A12.out) ?_;intro nd;have p14:0≤(x3_2:Int):=od;have q14:x3_2 < (a0.size:Int):=od;have hx14:=bt_at a0 x3_2;replace p14:=eq_true p14;replace q14:=eq_true q14)|(go_at_call 132;(with_reducible refine (spec_l00Digit.calls (bt a0 x3_2) false _ A15.out).mono ?_);rintro e w' ⟨rfl,⟨nd,rfl⟩⟩))
     go_ret
     exact ⟨rs,dr⟩
    rw [if_neg c10] at H
    exact absurd H (by simp)
   rw [if_neg c9] at H
   have c9b0:decide (x3_2 < (a0.size:Int))=false:=decide_eq_false c9
   clear c9
   obtain rfl:=Option.some.inj H
   go_wp2
   go_ret
   exact ⟨rs,dr⟩
end Go.Proofs.Ythepmdlpjdlajaa.PFnExactLintImage
