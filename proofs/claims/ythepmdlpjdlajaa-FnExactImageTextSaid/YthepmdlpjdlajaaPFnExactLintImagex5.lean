-- Written by a program for this claim.
import Derived.Test.YthepmdlpjdlajaaPFnExactLintImagex0
import Derived.Test.YthepmdlpjdlajaaPFnExactLintImagex3
import Derived.Test.YthepmdlpjdlajaaPFnExactLintImagex4
namespace Go.Proofs.Ythepmdlpjdlajaa.PFnExactLintImage
open Go.RowKit Go.Proofs.YthepmdlpjdlajaaW.PrintWords Go.Proofs.YthepmdlpjdlajaaW.PrintLast Go.Proofs.YthepmdlpjdlajaaW.PrintMore
attribute [local go_sem] max2_int min2_int max_two min_two max_three min_three max_four min_four   -- for this text's walks alone
set_option linter.unusedVariables false
set_option linter.unusedSimpArgs false
mutual
def spec_l02Right.j0:Nat→Bool→Int→Int→Int→Int→Int→Option (Bool)
  | 0,_,_,_,_,_,_=>none
  | k+1,x25,x165000,x165001,x165002,x165003,x165004=>if x25=true then (some false) else ((spec_l02Shape.f x165000).bind fun bt169=>(if bt169.1=4 then (spec_l02Right.j1 k bt169.1 (x165001 != 0) x165000 x165001 x165002 x165003 x165004) else (if bt169.1=5 then (spec_l02Right.j1 k bt169.1 (x165001 != 0) x165000 x165001 x165002 x165003 x165004) else (if bt169.1=9 then (spec_l02Right.j1 k bt169.1 (x165001 != 0) x165000 x165001 x165002 x165003 x165004) else (spec_l02Right.j1 k bt169.1 false x165000 x165001 x165002 x165003 x165004)))))
def spec_l02Right.j1:Nat→Int→Bool→Int→Int→Int→Int→Int→Option (Bool)
  | 0,_,_,_,_,_,_,_=>none
  | k+1,x3,x44,x165000,x165001,x165002,x165003,x165004=>if x44=true then (some false) else (if x3=1 then (spec_l02Right.j2 k x3 (x165002 != 0) x165000 x165001 x165002 x165003 x165004) else (if x3=2 then (spec_l02Right.j2 k x3 (x165002 != 0) x165000 x165001 x165002 x165003 x165004) else (if x3=9 then (spec_l02Right.j2 k x3 (x165002 != 0) x165000 x165001 x165002 x165003 x165004) else (spec_l02Right.j2 k x3 false x165000 x165001 x165002 x165003 x165004))))
def spec_l02Right.j2:Nat→Int→Bool→Int→Int→Int→Int→Int→Option (Bool)
  | 0,_,_,_,_,_,_,_=>none
  | k+1,x3,x59,x165000,x165001,x165002,x165003,x165004=>if x59=true then (some false) else (if x3=4 then (spec_l02Right.j3 k x3 false x165000 x165001 x165002 x165003 x165004) else (if x3=5 then (spec_l02Right.j3 k x3 false x165000 x165001 x165002 x165003 x165004) else (if x3=8 then (spec_l02Right.j3 k x3 false x165000 x165001 x165002 x165003 x165004) else (spec_l02Right.j3 k x3 (x165003 != 0) x165000 x165001 x165002 x165003 x165004))))
def spec_l02Right.j3:Nat→Int→Bool→Int→Int→Int→Int→Int→Option (Bool)
  | 0,_,_,_,_,_,_,_=>none
  | k+1,x3,x74,x165000,x165001,x165002,x165003,x165004=>if x74=true then (some false) else (if x3=1 then ((spec_l01In.f x165004 (-2147483648) 2147479552).bind fun t173=>(if t173=true then (some ((Int.tmod x165004 4096)==0)) else (some false))) else (if x3=2 then ((spec_l01In.f x165004 (-1048576) 1048574).bind fun t174=>(if t174=true then (some ((Int.tmod x165004 2)==0)) else (some false))) else (if x3=3 then (spec_l02Right.j4 k x3 (x3==3) x165000 x165001 x165002 x165003 x165004) else (spec_l02Right.j4 k x3 (x3==5) x165000 x165001 x165002 x165003 x165004))))
def spec_l02Right.j4:Nat→Int→Bool→Int→Int→Int→Int→Int→Option (Bool)
  | 0,_,_,_,_,_,_,_=>none
  | k+1,x75,x98,x165000,x165001,x165002,x165003,x165004=>if x98=true then ((spec_l01In.f x165004 (-2048) 2047).bind fun t175=>(some t175)) else (if x75=4 then ((spec_l01In.f x165004 (-4096) 4094).bind fun t176=>(if t176=true then (some ((Int.tmod x165004 2)==0)) else (some false))) else (if x75=6 then ((spec_l01In.f x165004 0 63).bind fun t177=>(some t177)) else (if x75=7 then ((spec_l01In.f x165004 0 31).bind fun t178=>(some t178)) else (some (x165004==0)))))
end
def spec_l02Right.f (k:Nat) (a0_0:Int) (a0_1:Int) (a0_2:Int) (a0_3:Int) (a0_4:Int):Option (Bool):=(spec_l02Op.f a0_0).bind fun t165=>(if t165=true then ((spec_l02Reg.f a0_1).bind fun t166=>(if t166=true then ((spec_l02Reg.f a0_2).bind fun t167=>(if t167=true then ((spec_l02Reg.f a0_3).bind fun t168=>(spec_l02Right.j0 k (!t168) a0_0 a0_1 a0_2 a0_3 a0_4)) else (spec_l02Right.j0 k true a0_0 a0_1 a0_2 a0_3 a0_4))) else (spec_l02Right.j0 k true a0_0 a0_1 a0_2 a0_3 a0_4))) else (spec_l02Right.j0 k true a0_0 a0_1 a0_2 a0_3 a0_4))
theorem spec_l02Right.mono_l : ∀ k,(∀ y0 y1 y2 y3 y4 y5,LeO (spec_l02Right.j0 k y0 y1 y2 y3 y4 y5) (spec_l02Right.j0 (k+1) y0 y1 y2 y3 y4 y5))∧(∀ y0 y1 y2 y3 y4 y5 y6,LeO (spec_l02Right.j1 k y0 y1 y2 y3 y4 y5 y6) (spec_l02Right.j1 (k+1) y0 y1 y2 y3 y4 y5 y6))∧(∀ y0 y1 y2 y3 y4 y5 y6,LeO (spec_l02Right.j2 k y0 y1 y2 y3 y4 y5 y6) (spec_l02Right.j2 (k+1) y0 y1 y2 y3 y4 y5 y6))∧(∀ y0 y1 y2 y3 y4 y5 y6,LeO (spec_l02Right.j3 k y0 y1 y2 y3 y4 y5 y6) (spec_l02Right.j3 (k+1) y0 y1 y2 y3 y4 y5 y6))∧(∀ y0 y1 y2 y3 y4 y5 y6,LeO (spec_l02Right.j4 k y0 y1 y2 y3 y4 y5 y6) (spec_l02Right.j4 (k+1) y0 y1 y2 y3 y4 y5 y6))
  | 0=>⟨fun _ _ _ _ _ _ r h=>by simp [spec_l02Right.j0] at h,fun _ _ _ _ _ _ _ r h=>by simp [spec_l02Right.j1] at h,fun _ _ _ _ _ _ _ r h=>by simp [spec_l02Right.j2] at h,fun _ _ _ _ _ _ _ r h=>by simp [spec_l02Right.j3] at h,fun _ _ _ _ _ _ _ r h=>by simp [spec_l02Right.j4] at h⟩
  | k+1=>by
    obtain ⟨ih0,ih1,ih2,ih3,ih4⟩:=spec_l02Right.mono_l k
    refine ⟨?_,?_,?_,?_,?_⟩<;>intros<;>(first|unfold spec_l02Right.j0|unfold spec_l02Right.j1|unfold spec_l02Right.j2|unfold spec_l02Right.j3|unfold spec_l02Right.j4)<;>repeat' (with_reducible first|apply ih0|apply ih1|apply ih2|apply ih3|apply ih4|apply LeO.refl|apply LeO.none|apply LeO.ite|refine LeO.bind ?_ (fun _=>?_))
theorem spec_l02Right.mono : ∀ a0 a1 a2 a3 a4 k,LeO (spec_l02Right.f k a0 a1 a2 a3 a4) (spec_l02Right.f (k+1) a0 a1 a2 a3 a4):=by
 intro a0 a1 a2 a3 a4 k
 obtain ⟨ih0,ih1,ih2,ih3,ih4⟩:=spec_l02Right.mono_l k
 unfold spec_l02Right.f
 repeat' (with_reducible first|apply ih0|apply ih1|apply ih2|apply ih3|apply ih4|apply LeO.refl|apply LeO.none|apply LeO.ite|refine LeO.bind ?_ (fun _=>?_))
set_option maxHeartbeats 8000000 in
set_option maxRecDepth 100000 in
theorem spec_l02Right.calls (k:Nat) (a0_0:Int) (a0_1:Int) (a0_2:Int) (a0_3:Int) (a0_4:Int) (r:Bool) (w:World) (h:spec_l02Right.f k a0_0 a0_1 a0_2 a0_3 a0_4=some r) :
    Calls Try.prog 98 #[.agg #[.int .i64 a0_0,.int .i64 a0_1,.int .i64 a0_2,.int .i64 a0_3,.int .i64 a0_4]] w fun e w'=>e=.returned (.bool r)∧Below w.heap.size w w':=by
 have hu86:=Try.underlying86
 have hu109:=Try.underlying109
 have hfd109_0 : ∀ (q0_ q1_ q2_ q3_:Value) (W_:World),(Instr.field 109 (.agg #[q0_,q1_,q2_,q3_]) 0).run Try.prog W_=.ok q0_ W_:=by intros;simp [Instr.field,run_underlying Try.underlying109,run_underlying Try.underlying3,asAgg,part,isAgg,sizeOf,typeInfo]
 have HB:=Aside0.mk (Below.refl w.heap.size w)
 have H:((spec_l02Op.f a0_0).bind fun t165=>(if t165=true then ((spec_l02Reg.f a0_1).bind fun t166=>(if t166=true then ((spec_l02Reg.f a0_2).bind fun t167=>(if t167=true then ((spec_l02Reg.f a0_3).bind fun t168=>(spec_l02Right.j0 k (!t168) a0_0 a0_1 a0_2 a0_3 a0_4)) else (spec_l02Right.j0 k true a0_0 a0_1 a0_2 a0_3 a0_4))) else (spec_l02Right.j0 k true a0_0 a0_1 a0_2 a0_3 a0_4))) else (spec_l02Right.j0 k true a0_0 a0_1 a0_2 a0_3 a0_4)))=some r:=h
 clear h
 have HC2:=Aside0.mk H
 clear H
 go_enter Try.func98,Try.ntmps98
 go_upto_region 1 with (first|(refine bv 1 #[.int .i64 a0_0,.int .i64 a0_1,.int .i64 a0_2,.int .i64 a0_3,.int .i64 a0_4] 86 ?_;intro gb164 hg w3 hbox hb;obtain ⟨n0_,n2_⟩:=bx0 hbx hb hg;have n1_:=Aside0.mk (hbox);clear HB;have HB:=n0_;have BK164:=n1_;have GW164:=n2_;have GE164:=n2_;clear n0_ n1_ n2_;clear hb hbox hg))
 (try simp only [Act.put,List.setIfInBounds_toArray,List.set_cons_zero,List.set_cons_succ])
 go_cut [25] (fun v25 wc=>∃ (kq:Nat) (x25_1:Bool),v25=.bool x25_1∧Aside0 (spec_l02Right.j0 kq x25_1 a0_0 a0_1 a0_2 a0_3 a0_4=some r)∧Aside0 (kq≤k)∧Aside0 (wc.heap[gb164]?=some (.cells #[.int .i64 a0_0,.int .i64 a0_1,.int .i64 a0_2,.int .i64 a0_3,.int .i64 a0_4] 86 (0,0)))∧Aside0 (Below w.heap.size w wc))
 case first=>
  have H:=HC2.out
  clear HC2
  obtain ⟨t165,A4,H⟩:=bindA H
  by_cases c5:t165=true
  ·subst c5
   rw [if_pos rfl] at H
   obtain ⟨t166,A6,H⟩:=bindA H
   by_cases c7:t166=true
   ·subst c7
    rw [if_pos rfl] at H
    obtain ⟨t167,A8,H⟩:=bindA H
    by_cases c9:t167=true
    ·subst c9
     rw [if_pos rfl] at H
     obtain ⟨t168,A10,H⟩:=bindA H
     have H':=Aside0.mk H
     clear H
     obtain ⟨Z11_0,Z11_1,Z11_2,Z11_3,Z11_4,Y11_0,Y11_1,Y11_2,Y11_3,Y11_4⟩:=cel5 BK164.out
     go_wp2_with (first|(refine gd 117 6 Try.func117 #[.int .i64 a0_0] (spec_l02Op.calls a0_0 true _ A4.out) ?_;intro nd)|(go_at_call 118;(with_reducible refine (spec_l02Reg.calls a0_1 true _ A6.out).mono ?_);rintro e w' ⟨rfl,⟨nd,rfl⟩⟩)|(go_at_call 118;(with_reducible refine (spec_l02Reg.calls a0_2 true _ A8.out).mono ?_);rintro e w' ⟨rfl,⟨nd,rfl⟩⟩)|(go_at_call 118;(with_reducible refine (spec_l02Reg.calls a0_3 t168 _ A10.out).mono ?_);rintro e w' ⟨rfl,⟨nd,rfl⟩⟩))
     go_meet
     case rel=>exact ⟨_,(!t168),rs,H',⟨by first|omega|exact Nat.le_refl _⟩,⟨qx BK164.out⟩,⟨hb1 GE164.out⟩⟩
    replace c9:=Bool.eq_false_iff.mpr c9
    subst c9
    rw [if_neg (show ¬ (false=true) by decide)] at H
    have H':=Aside0.mk H
    clear H
    obtain ⟨Z12_0,Z12_1,Z12_2,Z12_3,Z12_4,Y12_0,Y12_1,Y12_2,Y12_3,Y12_4⟩:=cel5 BK164.out
    go_wp2_with (first|(refine gd 117 6 Try.func117 #[.int .i64 a0_0] (spec_l02Op.calls a0_0 true _ A4.out) ?_;intro nd)|(go_at_call 118;(with_reducible refine (spec_l02Reg.calls a0_1 true _ A6.out).mono ?_);rintro e w' ⟨rfl,⟨nd,rfl⟩⟩)|(go_at_call 118;(with_reducible refine (spec_l02Reg.calls a0_2 false _ A8.out).mono ?_);rintro e w' ⟨rfl,⟨nd,rfl⟩⟩))
    go_meet
    case rel=>exact ⟨_,(true),rs,H',⟨by first|omega|exact Nat.le_refl _⟩,⟨qx BK164.out⟩,⟨hb1 GE164.out⟩⟩
   replace c7:=Bool.eq_false_iff.mpr c7
   subst c7
   rw [if_neg (show ¬ (false=true) by decide)] at H
   have H':=Aside0.mk H
   clear H
   obtain ⟨Z13_0,Z13_1,Z13_2,Z13_3,Z13_4,Y13_0,Y13_1,Y13_2,Y13_3,Y13_4⟩:=cel5 BK164.out
   go_wp2_with (first|(refine gd 117 6 Try.func117 #[.int .i64 a0_0] (spec_l02Op.calls a0_0 true _ A4.out) ?_;intro nd)|(go_at_call 118;(with_reducible refine (spec_l02Reg.calls a0_1 false _ A6.out).mono ?_);rintro e w' ⟨rfl,⟨nd,rfl⟩⟩))
   go_meet
   case rel=>exact ⟨_,(true),rs,H',⟨by first|omega|exact Nat.le_refl _⟩,⟨qx BK164.out⟩,⟨hb1 GE164.out⟩⟩
  replace c5:=Bool.eq_false_iff.mpr c5
  subst c5
  rw [if_neg (show ¬ (false=true) by decide)] at H
  have H':=Aside0.mk H
  clear H
  obtain ⟨Z14_0,Z14_1,Z14_2,Z14_3,Z14_4,Y14_0,Y14_1,Y14_2,Y14_3,Y14_4⟩:=cel5 BK164.out
  go_wp2_with (first|(refine gd 117 6 Try.func117 #[.int .i64 a0_0] (spec_l02Op.calls a0_0 false _ A4.out) ?_;intro nd))
  go_meet
  case rel=>exact ⟨_,(true),rs,H',⟨by first|omega|exact Nat.le_refl _⟩,⟨qx BK164.out⟩,⟨hb1 GE164.out⟩⟩
 clear HC2
 obtain ⟨kq,x25_1,rfl,HA,HJ1,BK164,HB⟩:=hcut
 cases kq with
 | zero=>exact absurd HA.out (by simp [spec_l02Right.j0])
 | succ kj1 =>
  have H:=HA.out
  clear HA
  simp only [spec_l02Right.j0] at H
  by_cases c15:x25_1=true
  ·subst c15
   rw [if_pos rfl] at H
   obtain rfl:=Option.some.inj H
   go_wp2
   go_ret
   exact ⟨rf,hb1 GE164.out⟩
  replace c15:=Bool.eq_false_iff.mpr c15
  subst c15
  rw [if_neg (show ¬ (false=true) by decide)] at H
  obtain ⟨⟨t169,t170,t171,t172⟩,A16,H⟩:=bindA H
  try dsimp only at H
  have HC17:=Aside0.mk H
  clear H
  obtain ⟨Z18_0,Z18_1,Z18_2,Z18_3,Z18_4,Y18_0,Y18_1,Y18_2,Y18_3,Y18_4⟩:=cel5 BK164.out
  go_upto_region 4 with (first|(refine gl 88 28 Try.func88 #[.int .i64 a0_0] ?_;(with_reducible refine (spec_l02Shape.calls a0_0 t169 t170 t171 t172 _ A16.out).mono ?_);rintro e w19 ⟨rfl,hb⟩;refine ⟨_,rfl,?_⟩;have n0_:=Aside0.mk (blk_below (qx BK164.out) hb);replace HB:=Aside0.mk (below_step (hb1 GE164.out) hb);clear BK164;have BK164:=n0_;clear n0_;(try clear hb);(try clear hb2);(try clear hk);(try clear hi)))
  (try simp only [Act.put,List.setIfInBounds_toArray,List.set_cons_zero,List.set_cons_succ])
  go_cut [44] (fun v44 wc=>∃ (kq:Nat) (x44_16:Bool),v44=.bool x44_16∧Aside0 (spec_l02Right.j1 kq t169 x44_16 a0_0 a0_1 a0_2 a0_3 a0_4=some r)∧Aside0 (kq≤kj1)∧Aside0 (wc.heap[gb164]?=some (.cells #[.int .i64 a0_0,.int .i64 a0_1,.int .i64 a0_2,.int .i64 a0_3,.int .i64 a0_4] 86 (0,0)))∧Aside0 (Below w.heap.size w wc))
  case first=>
   have H:=HC17.out
   clear HC17
   by_cases c20:t169=4
   ·rw [if_pos c20] at H
    obtain ⟨c20b0,c20b1⟩:=eqP c20
    clear c20
    (first|rw [c20b0]|(simp only [i64_w,i32_w];rw [c20b0])|skip)
    have H':=Aside0.mk H
    clear H
    obtain ⟨Z21_0,Z21_1,Z21_2,Z21_3,Z21_4,Y21_0,Y21_1,Y21_2,Y21_3,Y21_4⟩:=cel5 BK164.out
    go_wp2
    go_meet
    case rel=>exact ⟨_,((a0_1 != 0)),rs,H',⟨om HJ1.out⟩,⟨qx BK164.out⟩,⟨hb1 GE164.out⟩⟩
   rw [if_neg c20] at H
   obtain ⟨c20b0,c20b1⟩:=eqN c20
   (first|rw [c20b0]|(simp only [i64_w,i32_w];rw [c20b0])|skip)
   by_cases c22:t169=5
   ·rw [if_pos c22] at H
    obtain ⟨c22b0,c22b1⟩:=eqP c22
    clear c22
    have H':=Aside0.mk H
    clear H
    obtain ⟨Z23_0,Z23_1,Z23_2,Z23_3,Z23_4,Y23_0,Y23_1,Y23_2,Y23_3,Y23_4⟩:=cel5 BK164.out
    go_wp2
    go_meet
    case rel=>exact ⟨_,((a0_1 != 0)),rs,H',⟨om HJ1.out⟩,⟨qx BK164.out⟩,⟨hb1 GE164.out⟩⟩
   rw [if_neg c22] at H
   obtain ⟨c22b0,c22b1⟩:=eqN c22
   by_cases c24:t169=9
   ·rw [if_pos c24] at H
    obtain ⟨c24b0,c24b1⟩:=eqP c24
    clear c24
    have H':=Aside0.mk H
    clear H
    obtain ⟨Z25_0,Z25_1,Z25_2,Z25_3,Z25_4,Y25_0,Y25_1,Y25_2,Y25_3,Y25_4⟩:=cel5 BK164.out
    go_wp2
    go_meet
    case rel=>exact ⟨_,((a0_1 != 0)),rs,H',⟨om HJ1.out⟩,⟨qx BK164.out⟩,⟨hb1 GE164.out⟩⟩
   rw [if_neg c24] at H
   obtain ⟨c24b0,c24b1⟩:=eqN c24
   have H':=Aside0.mk H
   clear H
   go_wp2
   go_meet
   case rel=>exact ⟨_,(false),rs,H',⟨om HJ1.out⟩,⟨qx BK164.out⟩,⟨hb1 GE164.out⟩⟩
  clear HC17
  try clear c15
  try clear Z18_0 Z18_1 Z18_2 Z18_3 Z18_4 Y18_0 Y18_1 Y18_2 Y18_3 Y18_4
  obtain ⟨kq,x44_16,rfl,HA,HJ16,BK164,HB⟩:=hcut
  cases kq with
  | zero=>exact absurd HA.out (by simp [spec_l02Right.j1])
  | succ kj16 =>
   have H:=HA.out
   clear HA
   simp only [spec_l02Right.j1] at H
   by_cases c26:x44_16=true
   ·subst c26
    rw [if_pos rfl] at H
    obtain rfl:=Option.some.inj H
    go_wp2
    go_ret
    exact ⟨rf,hb1 GE164.out⟩
   replace c26:=Bool.eq_false_iff.mpr c26
   subst c26
   rw [if_neg (show ¬ (false=true) by decide)] at H
   have HC27:=Aside0.mk H
   clear H
   go_upto_region 6 with (fail)
   go_cut [59] (fun v59 wc=>∃ (kq:Nat) (x59_26:Bool),v59=.bool x59_26∧Aside0 (spec_l02Right.j2 kq t169 x59_26 a0_0 a0_1 a0_2 a0_3 a0_4=some r)∧Aside0 (kq≤kj16)∧Aside0 (wc.heap[gb164]?=some (.cells #[.int .i64 a0_0,.int .i64 a0_1,.int .i64 a0_2,.int .i64 a0_3,.int .i64 a0_4] 86 (0,0)))∧Aside0 (Below w.heap.size w wc))
   case first=>
    have H:=HC27.out
    clear HC27
    by_cases c28:t169=1
    ·rw [if_pos c28] at H
     obtain ⟨c28b0,c28b1⟩:=eqP c28
     clear c28
     (first|rw [c28b0]|(simp only [i64_w,i32_w];rw [c28b0])|skip)
     have H':=Aside0.mk H
     clear H
     obtain ⟨Z29_0,Z29_1,Z29_2,Z29_3,Z29_4,Y29_0,Y29_1,Y29_2,Y29_3,Y29_4⟩:=cel5 BK164.out
     go_wp2
     go_meet
     case rel=>exact ⟨_,((a0_2 != 0)),rs,H',⟨by have:=HJ1.out;have:=HJ16.out;first|omega|exact Nat.le_refl _⟩,⟨qx BK164.out⟩,⟨hb1 GE164.out⟩⟩
    rw [if_neg c28] at H
    obtain ⟨c28b0,c28b1⟩:=eqN c28
    (first|rw [c28b0]|(simp only [i64_w,i32_w];rw [c28b0])|skip)
    by_cases c30:t169=2
    ·rw [if_pos c30] at H
     obtain ⟨c30b0,c30b1⟩:=eqP c30
     clear c30
     have H':=Aside0.mk H
     clear H
     obtain ⟨Z31_0,Z31_1,Z31_2,Z31_3,Z31_4,Y31_0,Y31_1,Y31_2,Y31_3,Y31_4⟩:=cel5 BK164.out
     go_wp2
     go_meet
     case rel=>exact ⟨_,((a0_2 != 0)),rs,H',⟨by have:=HJ1.out;have:=HJ16.out;first|omega|exact Nat.le_refl _⟩,⟨qx BK164.out⟩,⟨hb1 GE164.out⟩⟩
    rw [if_neg c30] at H
    obtain ⟨c30b0,c30b1⟩:=eqN c30
    by_cases c32:t169=9
    ·rw [if_pos c32] at H
     obtain ⟨c32b0,c32b1⟩:=eqP c32
     clear c32
     have H':=Aside0.mk H
     clear H
     obtain ⟨Z33_0,Z33_1,Z33_2,Z33_3,Z33_4,Y33_0,Y33_1,Y33_2,Y33_3,Y33_4⟩:=cel5 BK164.out
     go_wp2
     go_meet
     case rel=>exact ⟨_,((a0_2 != 0)),rs,H',⟨by have:=HJ1.out;have:=HJ16.out;first|omega|exact Nat.le_refl _⟩,⟨qx BK164.out⟩,⟨hb1 GE164.out⟩⟩
    rw [if_neg c32] at H
    obtain ⟨c32b0,c32b1⟩:=eqN c32
    have H':=Aside0.mk H
    clear H
    go_wp2
    go_meet
    case rel=>exact ⟨_,(false),rs,H',⟨by have:=HJ1.out;have:=HJ16.out;first|omega|exact Nat.le_refl _⟩,⟨qx BK164.out⟩,⟨hb1 GE164.out⟩⟩
   clear HC27
   try clear c26
   obtain ⟨kq,x59_26,rfl,HA,HJ26,BK164,HB⟩:=hcut
   cases kq with
   | zero=>exact absurd HA.out (by simp [spec_l02Right.j2])
   | succ kj26 =>
    have H:=HA.out
    clear HA
    simp only [spec_l02Right.j2] at H
    by_cases c34:x59_26=true
    ·subst c34
     rw [if_pos rfl] at H
     obtain rfl:=Option.some.inj H
     go_wp2
     go_ret
     exact ⟨rf,hb1 GE164.out⟩
    replace c34:=Bool.eq_false_iff.mpr c34
    subst c34
    rw [if_neg (show ¬ (false=true) by decide)] at H
    have HC35:=Aside0.mk H
    clear H
    go_upto_region 8 with (fail)
    go_cut [74] (fun v74 wc=>∃ (kq:Nat) (x74_34:Bool),v74=.bool x74_34∧Aside0 (spec_l02Right.j3 kq t169 x74_34 a0_0 a0_1 a0_2 a0_3 a0_4=some r)∧Aside0 (kq≤kj26)∧Aside0 (wc.heap[gb164]?=some (.cells #[.int .i64 a0_0,.int .i64 a0_1,.int .i64 a0_2,.int .i64 a0_3,.int .i64 a0_4] 86 (0,0)))∧Aside0 (Below w.heap.size w wc))
    case first=>
     have H:=HC35.out
     clear HC35
     by_cases c36:t169=4
     ·rw [if_pos c36] at H
      obtain ⟨c36b0,c36b1⟩:=eqP c36
      clear c36
      (first|rw [c36b0]|(simp only [i64_w,i32_w];rw [c36b0])|skip)
      have H':=Aside0.mk H
      clear H
      go_wp2
      go_meet
      case rel=>exact ⟨_,(false),rs,H',⟨by have:=HJ1.out;have:=HJ16.out;have:=HJ26.out;first|omega|exact Nat.le_refl _⟩,⟨qx BK164.out⟩,⟨hb1 GE164.out⟩⟩
     rw [if_neg c36] at H
     obtain ⟨c36b0,c36b1⟩:=eqN c36
     (first|rw [c36b0]|(simp only [i64_w,i32_w];rw [c36b0])|skip)
     by_cases c37:t169=5
     ·rw [if_pos c37] at H
      obtain ⟨c37b0,c37b1⟩:=eqP c37
      clear c37
      have H':=Aside0.mk H
      clear H
      go_wp2
      go_meet
      case rel=>exact ⟨_,(false),rs,H',⟨by have:=HJ1.out;have:=HJ16.out;have:=HJ26.out;first|omega|exact Nat.le_refl _⟩,⟨qx BK164.out⟩,⟨hb1 GE164.out⟩⟩
     rw [if_neg c37] at H
     obtain ⟨c37b0,c37b1⟩:=eqN c37
     by_cases c38:t169=8
     ·rw [if_pos c38] at H
      obtain ⟨c38b0,c38b1⟩:=eqP c38
      clear c38
      have H':=Aside0.mk H
      clear H
      go_wp2
      go_meet
      case rel=>exact ⟨_,(false),rs,H',⟨by have:=HJ1.out;have:=HJ16.out;have:=HJ26.out;first|omega|exact Nat.le_refl _⟩,⟨qx BK164.out⟩,⟨hb1 GE164.out⟩⟩
     rw [if_neg c38] at H
     obtain ⟨c38b0,c38b1⟩:=eqN c38
     have H':=Aside0.mk H
     clear H
     obtain ⟨Z39_0,Z39_1,Z39_2,Z39_3,Z39_4,Y39_0,Y39_1,Y39_2,Y39_3,Y39_4⟩:=cel5 BK164.out
     go_wp2
     go_meet
     case rel=>exact ⟨_,((a0_3 != 0)),rs,H',⟨by have:=HJ1.out;have:=HJ16.out;have:=HJ26.out;first|omega|exact Nat.le_refl _⟩,⟨qx BK164.out⟩,⟨hb1 GE164.out⟩⟩
    clear HC35
    try clear c34
    obtain ⟨kq,x74_34,rfl,HA,HJ34,BK164,HB⟩:=hcut
    cases kq with
    | zero=>exact absurd HA.out (by simp [spec_l02Right.j3])
    | succ kj34 =>
     have H:=HA.out
     clear HA
     simp only [spec_l02Right.j3] at H
     by_cases c40:x74_34=true
     ·subst c40
      rw [if_pos rfl] at H
      obtain rfl:=Option.some.inj H
      go_wp2
      go_ret
      exact ⟨rf,hb1 GE164.out⟩
     replace c40:=Bool.eq_false_iff.mpr c40
     subst c40
     rw [if_neg (show ¬ (false=true) by decide)] at H
     by_cases c41:t169=1
     ·rw [if_pos c41] at H
      obtain ⟨c41b0,c41b1⟩:=eqP c41
      clear c41
      obtain ⟨t173,A42,H⟩:=bindA H
      by_cases c43:t173=true
      ·subst c43
       rw [if_pos rfl] at H
       obtain rfl:=Option.some.inj H
       obtain ⟨Z44_0,Z44_1,Z44_2,Z44_3,Z44_4,Y44_0,Y44_1,Y44_2,Y44_3,Y44_4⟩:=cel5 BK164.out
       go_wp2_with (first|(refine gd 44 80 Try.func44 #[.int .i64 a0_4,.int .i64 (-2147483648),.int .i64 2147479552] (spec_l01In.calls a0_4 (-2147483648) 2147479552 true _ A42.out) ?_;intro nd))
       go_ret
       exact ⟨rf,hb1 GE164.out⟩
      replace c43:=Bool.eq_false_iff.mpr c43
      subst c43
      rw [if_neg (show ¬ (false=true) by decide)] at H
      obtain rfl:=Option.some.inj H
      obtain ⟨Z45_0,Z45_1,Z45_2,Z45_3,Z45_4,Y45_0,Y45_1,Y45_2,Y45_3,Y45_4⟩:=cel5 BK164.out
      go_wp2_with (first|(refine gd 44 80 Try.func44 #[.int .i64 a0_4,.int .i64 (-2147483648),.int .i64 2147479552] (spec_l01In.calls a0_4 (-2147483648) 2147479552 false _ A42.out) ?_;intro nd))
      go_ret
      exact ⟨rf,hb1 GE164.out⟩
     rw [if_neg c41] at H
     obtain ⟨c41b0,c41b1⟩:=eqN c41
     by_cases c46:t169=2
     ·rw [if_pos c46] at H
      obtain ⟨c46b0,c46b1⟩:=eqP c46
      clear c46
      obtain ⟨t174,A47,H⟩:=bindA H
      by_cases c48:t174=true
      ·subst c48
       rw [if_pos rfl] at H
       obtain rfl:=Option.some.inj H
       obtain ⟨Z49_0,Z49_1,Z49_2,Z49_3,Z49_4,Y49_0,Y49_1,Y49_2,Y49_3,Y49_4⟩:=cel5 BK164.out
       go_wp2_with (first|(refine gd 44 91 Try.func44 #[.int .i64 a0_4,.int .i64 (-1048576),.int .i64 1048574] (spec_l01In.calls a0_4 (-1048576) 1048574 true _ A47.out) ?_;intro nd))
       go_ret
       exact ⟨rf,hb1 GE164.out⟩
      replace c48:=Bool.eq_false_iff.mpr c48
      subst c48
      rw [if_neg (show ¬ (false=true) by decide)] at H
      obtain rfl:=Option.some.inj H
      obtain ⟨Z50_0,Z50_1,Z50_2,Z50_3,Z50_4,Y50_0,Y50_1,Y50_2,Y50_3,Y50_4⟩:=cel5 BK164.out
      go_wp2_with (first|(refine gd 44 91 Try.func44 #[.int .i64 a0_4,.int .i64 (-1048576),.int .i64 1048574] (spec_l01In.calls a0_4 (-1048576) 1048574 false _ A47.out) ?_;intro nd))
      go_ret
      exact ⟨rf,hb1 GE164.out⟩
     rw [if_neg c46] at H
     obtain ⟨c46b0,c46b1⟩:=eqN c46
     have HC51:=Aside0.mk H
     clear H
     go_upto_if 98 with (fail)
     go_cut [98] (fun v98 wc=>∃ (kq:Nat) (x98_50:Bool),v98=.bool x98_50∧Aside0 (spec_l02Right.j4 kq t169 x98_50 a0_0 a0_1 a0_2 a0_3 a0_4=some r)∧Aside0 (kq≤kj34)∧Aside0 (wc.heap[gb164]?=some (.cells #[.int .i64 a0_0,.int .i64 a0_1,.int .i64 a0_2,.int .i64 a0_3,.int .i64 a0_4] 86 (0,0)))∧Aside0 (Below w.heap.size w wc))
     case first=>
      have H:=HC51.out
      clear HC51
      by_cases c52:t169=3
      ·rw [if_pos c52] at H
       obtain ⟨c52b0,c52b1⟩:=eqP c52
       clear c52
       (first|rw [c52b0]|(simp only [i64_w,i32_w];rw [c52b0])|skip)
       have H':=Aside0.mk H
       clear H
       go_wp2
       go_meet
       case rel=>exact ⟨_,((t169==3)),rs,H',⟨by have:=HJ1.out;have:=HJ16.out;have:=HJ26.out;have:=HJ34.out;first|omega|exact Nat.le_refl _⟩,⟨qx BK164.out⟩,⟨hb1 GE164.out⟩⟩
      rw [if_neg c52] at H
      obtain ⟨c52b0,c52b1⟩:=eqN c52
      (first|rw [c52b0]|(simp only [i64_w,i32_w];rw [c52b0])|skip)
      have H':=Aside0.mk H
      clear H
      go_wp2
      go_meet
      case rel=>exact ⟨_,((t169==5)),rs,H',⟨by have:=HJ1.out;have:=HJ16.out;have:=HJ26.out;have:=HJ34.out;first|omega|exact Nat.le_refl _⟩,⟨qx BK164.out⟩,⟨hb1 GE164.out⟩⟩
     clear HC51
     try clear c40
     try clear c41
     try clear c41b0 c41b1
     try clear c46
     try clear c46b0 c46b1
     obtain ⟨kq,x98_50,rfl,HA,HJ50,BK164,HB⟩:=hcut
     cases kq with
     | zero=>exact absurd HA.out (by simp [spec_l02Right.j4])
     | succ kj50 =>
      have H:=HA.out
      clear HA
      simp only [spec_l02Right.j4] at H
      by_cases c53:x98_50=true
      ·subst c53
       rw [if_pos rfl] at H
       obtain ⟨t175,A54,H⟩:=bindA H
       obtain rfl:=Option.some.inj H
       obtain ⟨Z55_0,Z55_1,Z55_2,Z55_3,Z55_4,Y55_0,Y55_1,Y55_2,Y55_3,Y55_4⟩:=cel5 BK164.out
       go_wp2_with (first|(refine gd 44 103 Try.func44 #[.int .i64 a0_4,.int .i64 (-2048),.int .i64 2047] (spec_l01In.calls a0_4 (-2048) 2047 t175 _ A54.out) ?_;intro nd))
       go_ret
       exact ⟨rf,hb1 GE164.out⟩
      replace c53:=Bool.eq_false_iff.mpr c53
      subst c53
      rw [if_neg (show ¬ (false=true) by decide)] at H
      by_cases c56:t169=4
      ·rw [if_pos c56] at H
       obtain ⟨c56b0,c56b1⟩:=eqP c56
       clear c56
       obtain ⟨t176,A57,H⟩:=bindA H
       by_cases c58:t176=true
       ·subst c58
        rw [if_pos rfl] at H
        obtain rfl:=Option.some.inj H
        obtain ⟨Z59_0,Z59_1,Z59_2,Z59_3,Z59_4,Y59_0,Y59_1,Y59_2,Y59_3,Y59_4⟩:=cel5 BK164.out
        go_wp2_with (first|(refine gd 44 108 Try.func44 #[.int .i64 a0_4,.int .i64 (-4096),.int .i64 4094] (spec_l01In.calls a0_4 (-4096) 4094 true _ A57.out) ?_;intro nd))
        go_ret
        exact ⟨rf,hb1 GE164.out⟩
       replace c58:=Bool.eq_false_iff.mpr c58
       subst c58
       rw [if_neg (show ¬ (false=true) by decide)] at H
       obtain rfl:=Option.some.inj H
       obtain ⟨Z60_0,Z60_1,Z60_2,Z60_3,Z60_4,Y60_0,Y60_1,Y60_2,Y60_3,Y60_4⟩:=cel5 BK164.out
       go_wp2_with (first|(refine gd 44 108 Try.func44 #[.int .i64 a0_4,.int .i64 (-4096),.int .i64 4094] (spec_l01In.calls a0_4 (-4096) 4094 false _ A57.out) ?_;intro nd))
       go_ret
       exact ⟨rf,hb1 GE164.out⟩
      rw [if_neg c56] at H
      obtain ⟨c56b0,c56b1⟩:=eqN c56
      by_cases c61:t169=6
      ·rw [if_pos c61] at H
       obtain ⟨c61b0,c61b1⟩:=eqP c61
       clear c61
       obtain ⟨t177,A62,H⟩:=bindA H
       obtain rfl:=Option.some.inj H
       obtain ⟨Z63_0,Z63_1,Z63_2,Z63_3,Z63_4,Y63_0,Y63_1,Y63_2,Y63_3,Y63_4⟩:=cel5 BK164.out
       go_wp2_with (first|(refine gd 44 119 Try.func44 #[.int .i64 a0_4,.int .i64 0,.int .i64 63] (spec_l01In.calls a0_4 0 63 t177 _ A62.out) ?_;intro nd))
       go_ret
       exact ⟨rf,hb1 GE164.out⟩
      rw [if_neg c61] at H
      obtain ⟨c61b0,c61b1⟩:=eqN c61
      by_cases c64:t169=7
      ·rw [if_pos c64] at H
       obtain ⟨c64b0,c64b1⟩:=eqP c64
       clear c64
       obtain ⟨t178,A65,H⟩:=bindA H
       obtain rfl:=Option.some.inj H
       obtain ⟨Z66_0,Z66_1,Z66_2,Z66_3,Z66_4,Y66_0,Y66_1,Y66_2,Y66_3,Y66_4⟩:=cel5 BK164.out
       go_wp2_with (first|(refine gd 44 124 Try.func44 #[.int .i64 a0_4,.int .i64 0,.int .i64 31] (spec_l01In.calls a0_4 0 31 t178 _ A65.out) ?_;intro nd))
       go_ret
       exact ⟨rf,hb1 GE164.out⟩
      rw [if_neg c64] at H
      obtain ⟨c64b0,c64b1⟩:=eqN c64
      obtain rfl:=Option.some.inj H
      obtain ⟨Z67_0,Z67_1,Z67_2,Z67_3,Z67_4,Y67_0,Y67_1,Y67_2,Y67_3,Y67_4⟩:=cel5 BK164.out
      go_wp2
      go_ret
      exact ⟨rf,hb1 GE164.out⟩
end Go.Proofs.Ythepmdlpjdlajaa.PFnExactLintImage
