-- Written by a program for this claim.
import Derived.Test.YthepmdlpjdlajaaPFnExactLintImagex0
import Derived.Test.YthepmdlpjdlajaaPFnExactLintImagex3
import Derived.Test.YthepmdlpjdlajaaPFnExactLintImagex8
import Derived.Test.YthepmdlpjdlajaaPFnExactLintImagex9
namespace Go.Proofs.Ythepmdlpjdlajaa.PFnExactLintImage
open Go.RowKit Go.Proofs.YthepmdlpjdlajaaW.PrintWords Go.Proofs.YthepmdlpjdlajaaW.PrintLast Go.Proofs.YthepmdlpjdlajaaW.PrintMore
attribute [local go_sem] max2_int min2_int max_two min_two max_three min_three max_four min_four   -- for this text's walks alone
set_option linter.unusedVariables false
set_option linter.unusedSimpArgs false
mutual
def spec_l06Rule.j0:Nat→List (S86)→Int→Int→Int→List Int→Int→Bool→Int→Int→Int→Int→Int→Option (Int)
  | 0,_,_,_,_,_,_,_,_,_,_,_,_=>none
  | k+1,x0,x1,x2,x3,x4,x12,x34,x272000,x272001,x272002,x272003,x272004=>if x34=true then ((spec_l06HasInt.f k x4 (wrap64 ((wrap64 (x2+(wrap64 (4*x1))))+x272004))).bind fun t275=>(if t275=true then (some 0) else (some 20))) else (if x272000=3 then (if x272001=0 then ((spec_l06Goes.f x0 x1 x272004 x3).bind fun t276=>(if t276=true then (some 0) else (some 19))) else (some 19)) else ((spec_l02Shape.f x272000).bind fun bt277=>(if bt277.1=4 then ((spec_l06Goes.f x0 x1 x272004 x3).bind fun t281=>(if t281=true then (some 0) else (some 19))) else (if x272001=1 then ((spec_l06Ends.f x0 x1 x3).bind fun t282=>(if t282=true then (if x272001=2 then ((spec_l06Ends.f x0 (wrap64 (x1 - 1)) x3).bind fun t283=>(spec_l06Rule.j1 k x0 x1 x3 x12 (!t283) x272000 x272001 x272002 x272003 x272004)) else (spec_l06Rule.j1 k x0 x1 x3 x12 false x272000 x272001 x272002 x272003 x272004)) else (spec_l06Rule.j1 k x0 x1 x3 x12 true x272000 x272001 x272002 x272003 x272004))) else (if x272001=2 then ((spec_l06Ends.f x0 (wrap64 (x1 - 1)) x3).bind fun t284=>(spec_l06Rule.j1 k x0 x1 x3 x12 (!t284) x272000 x272001 x272002 x272003 x272004)) else (spec_l06Rule.j1 k x0 x1 x3 x12 false x272000 x272001 x272002 x272003 x272004))))))
def spec_l06Rule.j1:Nat→List (S86)→Int→Int→Int→Bool→Int→Int→Int→Int→Int→Option (Int)
  | 0,_,_,_,_,_,_,_,_,_,_=>none
  | k+1,x0,x1,x3,x12,x104,x272000,x272001,x272002,x272003,x272004=>if x104=true then (some 21) else (if x12 > 0 then (if x272002=2 then ((spec_l06Ends.f x0 x1 x3).bind fun t285=>(if t285=true then (some 0) else (if x272004 < 0 then (some 17) else (if x272004 > (wrap64 ((wrap64 (x3 - 8)) - x12)) then (some 17) else (if x12=0 then (none) else (if (Int.tmod x272004 x12)=0 then (some 0) else (some 17))))))) else (some 0)) else (some 0))
end
def spec_l06Rule.f (k:Nat) (l0:List (S86)) (a1:Int) (a2:Int) (a3:Int) (l4:List Int):Option (Int):=if 0≤a1 then (if a1 < (l0.length:Int) then ((spec_l03Width.f k ((rd_T86 l0 a1).f0)).bind fun bt272=>(if ((rd_T86 l0 a1).f0)=4 then ((spec_l06Ends.f l0 (wrap64 (a1 - 2)) a3).bind fun t274=>(if t274=true then (some 0) else (some 18))) else (if ((rd_T86 l0 a1).f0)=3 then (spec_l06Rule.j0 k l0 a1 a2 a3 l4 bt272.1 (((rd_T86 l0 a1).f1)==1) ((rd_T86 l0 a1).f0) ((rd_T86 l0 a1).f1) ((rd_T86 l0 a1).f2) ((rd_T86 l0 a1).f3) ((rd_T86 l0 a1).f4)) else (spec_l06Rule.j0 k l0 a1 a2 a3 l4 bt272.1 false ((rd_T86 l0 a1).f0) ((rd_T86 l0 a1).f1) ((rd_T86 l0 a1).f2) ((rd_T86 l0 a1).f3) ((rd_T86 l0 a1).f4))))) else (none)) else (none)
theorem spec_l06Rule.mono_l : ∀ k,(∀ y0 y1 y2 y3 y4 y5 y6 y7 y8 y9 y10 y11,LeO (spec_l06Rule.j0 k y0 y1 y2 y3 y4 y5 y6 y7 y8 y9 y10 y11) (spec_l06Rule.j0 (k+1) y0 y1 y2 y3 y4 y5 y6 y7 y8 y9 y10 y11))∧(∀ y0 y1 y2 y3 y4 y5 y6 y7 y8 y9,LeO (spec_l06Rule.j1 k y0 y1 y2 y3 y4 y5 y6 y7 y8 y9) (spec_l06Rule.j1 (k+1) y0 y1 y2 y3 y4 y5 y6 y7 y8 y9))
  | 0=>⟨fun _ _ _ _ _ _ _ _ _ _ _ _ r h=>by simp [spec_l06Rule.j0] at h,fun _ _ _ _ _ _ _ _ _ _ r h=>by simp [spec_l06Rule.j1] at h⟩
  | k+1=>by
    obtain ⟨ih0,ih1⟩:=spec_l06Rule.mono_l k
    refine ⟨?_,?_⟩<;>intros<;>(first|unfold spec_l06Rule.j0|unfold spec_l06Rule.j1)<;>repeat' (with_reducible first|apply ih0|apply ih1|apply spec_l03Width.mono|apply spec_l06HasInt.mono|apply LeO.refl|apply LeO.none|apply LeO.ite|refine LeO.bind ?_ (fun _=>?_))
theorem spec_l06Rule.mono : ∀ a0 a1 a2 a3 a4 k,LeO (spec_l06Rule.f k a0 a1 a2 a3 a4) (spec_l06Rule.f (k+1) a0 a1 a2 a3 a4):=by
 intro a0 a1 a2 a3 a4 k
 obtain ⟨ih0,ih1⟩:=spec_l06Rule.mono_l k
 unfold spec_l06Rule.f
 repeat' (with_reducible first|apply ih0|apply ih1|apply spec_l03Width.mono|apply spec_l06HasInt.mono|apply LeO.refl|apply LeO.none|apply LeO.ite|refine LeO.bind ?_ (fun _=>?_))
set_option maxHeartbeats 8000000 in
set_option maxRecDepth 100000 in
theorem spec_l06Rule.calls (k:Nat) (A0:Option Addr) (c0:Nat) (l0:List (S86)) (a1:Int) (a2:Int) (a3:Int) (A4:Option Addr) (c4:Nat) (l4:List Int) (r:Int) (w:World) (hr0:Kd.C k86 w A0 l0.length l0) (hc0:l0.length≤c0) (hr4:Kd.C (Kd.int .i64) w A4 l4.length l4) (hc4:l4.length≤c4) (h:spec_l06Rule.f k l0 a1 a2 a3 l4=some r) :
    Calls Try.prog 68 #[.slice A0 l0.length c0,.int .i64 a1,.int .i64 a2,.int .i64 a3,.slice A4 l4.length c4] w fun e w'=>e=.returned (.int .i64 r)∧Below w.heap.size w w':=by
 have hu86:=Try.underlying86
 have hu109:=Try.underlying109
 have hfd109_0 : ∀ (q0_ q1_ q2_ q3_:Value) (W_:World),(Instr.field 109 (.agg #[q0_,q1_,q2_,q3_]) 0).run Try.prog W_=.ok q0_ W_:=by intros;simp [Instr.field,run_underlying Try.underlying109,run_underlying Try.underlying3,asAgg,part,isAgg,sizeOf,typeInfo]
 have HR0:=Aside0.mk hr0
 have HC0:=Aside0.mk hc0
 clear hr0 hc0
 have HR4:=Aside0.mk hr4
 have HC4:=Aside0.mk hc4
 clear hr4 hc4
 have HB:=Aside0.mk (Below.refl w.heap.size w)
 have H:(if 0≤a1 then (if a1 < (l0.length:Int) then ((spec_l03Width.f k ((rd_T86 l0 a1).f0)).bind fun bt272=>(if ((rd_T86 l0 a1).f0)=4 then ((spec_l06Ends.f l0 (wrap64 (a1 - 2)) a3).bind fun t274=>(if t274=true then (some 0) else (some 18))) else (if ((rd_T86 l0 a1).f0)=3 then (spec_l06Rule.j0 k l0 a1 a2 a3 l4 bt272.1 (((rd_T86 l0 a1).f1)==1) ((rd_T86 l0 a1).f0) ((rd_T86 l0 a1).f1) ((rd_T86 l0 a1).f2) ((rd_T86 l0 a1).f3) ((rd_T86 l0 a1).f4)) else (spec_l06Rule.j0 k l0 a1 a2 a3 l4 bt272.1 false ((rd_T86 l0 a1).f0) ((rd_T86 l0 a1).f1) ((rd_T86 l0 a1).f2) ((rd_T86 l0 a1).f3) ((rd_T86 l0 a1).f4))))) else (none)) else (none))=some r:=h
 clear h
 by_cases c6:0≤a1
 ·rw [if_pos c6] at H
  have c6b0:decide (0≤a1)=true:=decide_eq_true c6
  clear c6
  by_cases c7:a1 < (l0.length:Int)
  ·rw [if_pos c7] at H
   have c7b0:decide (a1 < (l0.length:Int))=true:=decide_eq_true c7
   clear c7
   obtain ⟨⟨t272,t273⟩,A8,H⟩:=bindA H
   try dsimp only at H
   by_cases c9:((rd_T86 l0 a1).f0)=4
   ·rw [if_pos c9] at H
    obtain ⟨c9b0,c9b1⟩:=eqP c9
    clear c9
    obtain ⟨t274,A10,H⟩:=bindA H
    by_cases c11:t274=true
    ·subst c11
     rw [if_pos rfl] at H
     obtain rfl:=Option.some.inj H
     have p270:0≤(a1:Int):=od
     have q270:a1 < (l0.length:Int):=od
     obtain ⟨ad270,e270,hx270_0,hx270_1,hx270_2,hx270_3,hx270_4⟩:=at_T86 HR0.out a1 p270 q270
     cases e270
     replace p270:=eq_true p270
     replace q270:=eq_true q270
     go_enter Try.func68,Try.ntmps68
     go_wp2_with (first|(refine bv 11 #[.int .i64 0,.int .i64 0,.int .i64 0,.int .i64 0,.int .i64 0] 86 ?_;intro gb271 hg w12 hbox hb;obtain ⟨n0_,n2_⟩:=bx0 hbx hb hg;have n1_:=Aside0.mk (hbox);clear HB;have HB:=n0_;have BK271:=n1_;have GW271:=n2_;have GE271:=n2_;clear n0_ n1_ n2_;clear hb hbox hg;obtain ⟨Z13_0,Z13_1,Z13_2,Z13_3,Z13_4,Y13_0,Y13_1,Y13_2,Y13_3,Y13_4⟩:=cel5 BK271.out)|(refine gd 85 21 Try.func85 #[.int .i64 ((rd_T86 l0 a1).f0)] (spec_l03Width.calls k ((rd_T86 l0 a1).f0) t272 t273 _ A8.out) ?_;intro nd)|(refine gl 86 32 Try.func86 #[.slice (some ad270) l0.length c0,.int .i64 (wrap64 (a1 - 2)),.int .i64 a3] ?_;(with_reducible refine (spec_l06Ends.calls _ _ l0 (wrap64 (a1 - 2)) a3 true _ ?side1 ?side2 A10.out).mono ?_);(case side1=>exact Kd.C_below HR0.out (hb1 GE271.out));(case side2=>exact HC0.out);rintro e w14 ⟨rfl,hb⟩;refine ⟨_,rfl,?_⟩;have n0_:=Aside0.mk (blk_below (qp BK271.out) hb);replace HB:=Aside0.mk (below_step (hb1 GE271.out) hb);clear BK271;have BK271:=n0_;clear n0_;(try clear hb);(try clear hb2);(try clear hk);(try clear hi)))
     go_ret
     exact ⟨rf,hb1 GE271.out⟩
    replace c11:=Bool.eq_false_iff.mpr c11
    subst c11
    rw [if_neg (show ¬ (false=true) by decide)] at H
    obtain rfl:=Option.some.inj H
    have p270:0≤(a1:Int):=od
    have q270:a1 < (l0.length:Int):=od
    obtain ⟨ad270,e270,hx270_0,hx270_1,hx270_2,hx270_3,hx270_4⟩:=at_T86 HR0.out a1 p270 q270
    cases e270
    replace p270:=eq_true p270
    replace q270:=eq_true q270
    go_enter Try.func68,Try.ntmps68
    go_wp2_with (first|(refine bv 11 #[.int .i64 0,.int .i64 0,.int .i64 0,.int .i64 0,.int .i64 0] 86 ?_;intro gb271 hg w15 hbox hb;obtain ⟨n0_,n2_⟩:=bx0 hbx hb hg;have n1_:=Aside0.mk (hbox);clear HB;have HB:=n0_;have BK271:=n1_;have GW271:=n2_;have GE271:=n2_;clear n0_ n1_ n2_;clear hb hbox hg;obtain ⟨Z16_0,Z16_1,Z16_2,Z16_3,Z16_4,Y16_0,Y16_1,Y16_2,Y16_3,Y16_4⟩:=cel5 BK271.out)|(refine gd 85 21 Try.func85 #[.int .i64 ((rd_T86 l0 a1).f0)] (spec_l03Width.calls k ((rd_T86 l0 a1).f0) t272 t273 _ A8.out) ?_;intro nd)|(refine gl 86 32 Try.func86 #[.slice (some ad270) l0.length c0,.int .i64 (wrap64 (a1 - 2)),.int .i64 a3] ?_;(with_reducible refine (spec_l06Ends.calls _ _ l0 (wrap64 (a1 - 2)) a3 false _ ?side1 ?side2 A10.out).mono ?_);(case side1=>exact Kd.C_below HR0.out (hb1 GE271.out));(case side2=>exact HC0.out);rintro e w17 ⟨rfl,hb⟩;refine ⟨_,rfl,?_⟩;have n0_:=Aside0.mk (blk_below (qp BK271.out) hb);replace HB:=Aside0.mk (below_step (hb1 GE271.out) hb);clear BK271;have BK271:=n0_;clear n0_;(try clear hb);(try clear hb2);(try clear hk);(try clear hi)))
    go_ret
    exact ⟨rf,hb1 GE271.out⟩
   rw [if_neg c9] at H
   obtain ⟨c9b0,c9b1⟩:=eqN c9
   have HC18:=Aside0.mk H
   clear H
   have p270:0≤(a1:Int):=od
   have q270:a1 < (l0.length:Int):=od
   obtain ⟨ad270,e270,hx270_0,hx270_1,hx270_2,hx270_3,hx270_4⟩:=at_T86 HR0.out a1 p270 q270
   cases e270
   replace p270:=eq_true p270
   replace q270:=eq_true q270
   go_enter Try.func68,Try.ntmps68
   go_upto_region 7 with (first|(refine bv 11 #[.int .i64 0,.int .i64 0,.int .i64 0,.int .i64 0,.int .i64 0] 86 ?_;intro gb271 hg w19 hbox hb;obtain ⟨n0_,n2_⟩:=bx0 hbx hb hg;have n1_:=Aside0.mk (hbox);clear HB;have HB:=n0_;have BK271:=n1_;have GW271:=n2_;have GE271:=n2_;clear n0_ n1_ n2_;clear hb hbox hg;obtain ⟨Z20_0,Z20_1,Z20_2,Z20_3,Z20_4,Y20_0,Y20_1,Y20_2,Y20_3,Y20_4⟩:=cel5 BK271.out)|((with_reducible refine gate_callee (f:=85) rfl ?_);refine gd 85 21 Try.func85 #[.int .i64 ((rd_T86 l0 a1).f0)] (spec_l03Width.calls k ((rd_T86 l0 a1).f0) t272 t273 _ A8.out) ?_;intro nd))
   (try simp only [Act.put,List.setIfInBounds_toArray,List.set_cons_zero,List.set_cons_succ])
   go_cut [34] (fun v34 wc=>∃ (kq:Nat) (x34_17:Bool),v34=.bool x34_17∧Aside0 (spec_l06Rule.j0 kq l0 a1 a2 a3 l4 t272 x34_17 ((rd_T86 l0 a1).f0) ((rd_T86 l0 a1).f1) ((rd_T86 l0 a1).f2) ((rd_T86 l0 a1).f3) ((rd_T86 l0 a1).f4)=some r)∧Aside0 (kq≤k)∧Aside0 (wc.heap[gb271]?=some (.cells #[.int .i64 ((rd_T86 l0 a1).f0),.int .i64 ((rd_T86 l0 a1).f1),.int .i64 ((rd_T86 l0 a1).f2),.int .i64 ((rd_T86 l0 a1).f3),.int .i64 ((rd_T86 l0 a1).f4)] 86 (0,0)))∧Aside0 (Below w.heap.size w wc))
   case first=>
    have H:=HC18.out
    clear HC18
    by_cases c21:((rd_T86 l0 a1).f0)=3
    ·rw [if_pos c21] at H
     obtain ⟨c21b0,c21b1⟩:=eqP c21
     clear c21
     (first|rw [c21b0]|(simp only [i64_w,i32_w];rw [c21b0])|skip)
     have H':=Aside0.mk H
     clear H
     obtain ⟨Z22_0,Z22_1,Z22_2,Z22_3,Z22_4,Y22_0,Y22_1,Y22_2,Y22_3,Y22_4⟩:=cel5 BK271.out
     go_wp2
     go_meet
     case rel=>exact ⟨_,((((rd_T86 l0 a1).f1)==1)),rs,H',⟨by first|omega|exact Nat.le_refl _⟩,⟨qp BK271.out⟩,⟨hb1 GE271.out⟩⟩
    rw [if_neg c21] at H
    obtain ⟨c21b0,c21b1⟩:=eqN c21
    (first|rw [c21b0]|(simp only [i64_w,i32_w];rw [c21b0])|skip)
    have H':=Aside0.mk H
    clear H
    obtain ⟨Z23_0,Z23_1,Z23_2,Z23_3,Z23_4,Y23_0,Y23_1,Y23_2,Y23_3,Y23_4⟩:=cel5 BK271.out
    go_wp2
    go_meet
    case rel=>exact ⟨_,(false),rs,H',⟨by first|omega|exact Nat.le_refl _⟩,⟨qp BK271.out⟩,⟨hb1 GE271.out⟩⟩
   clear HC18
   try clear c6b0
   try clear c7b0
   try clear c9
   try clear c9b0 c9b1
   try clear Z20_0 Z20_1 Z20_2 Z20_3 Z20_4 Y20_0 Y20_1 Y20_2 Y20_3 Y20_4
   try clear hx270_0 hx270_1 hx270_2 hx270_3 hx270_4
   try clear p270
   try clear q270
   obtain ⟨kq,x34_17,rfl,HA,HJ17,BK271,HB⟩:=hcut
   cases kq with
   | zero=>exact absurd HA.out (by simp [spec_l06Rule.j0])
   | succ kj17 =>
    have H:=HA.out
    clear HA
    simp only [spec_l06Rule.j0] at H
    by_cases c24:x34_17=true
    ·subst c24
     rw [if_pos rfl] at H
     obtain ⟨t275,A25,H⟩:=bindA H
     by_cases c26:t275=true
     ·subst c26
      rw [if_pos rfl] at H
      obtain rfl:=Option.some.inj H
      obtain ⟨Z27_0,Z27_1,Z27_2,Z27_3,Z27_4,Y27_0,Y27_1,Y27_2,Y27_3,Y27_4⟩:=cel5 BK271.out
      go_wp2_with (first|(refine gl 78 51 Try.func78 #[.slice A4 l4.length c4,.int .i64 (wrap64 ((wrap64 (a2+(wrap64 (4*a1))))+((rd_T86 l0 a1).f4)))] ?_;(with_reducible refine (spec_l06HasInt.calls kj17 _ _ l4 (wrap64 ((wrap64 (a2+(wrap64 (4*a1))))+((rd_T86 l0 a1).f4))) true _ ?side1 ?side2 A25.out).mono ?_);(case side1=>exact kc HR4.out);(case side2=>exact HC4.out);rintro e w' ⟨rfl,⟨nd,rfl⟩⟩;refine ⟨_,rfl,?_⟩))
      go_ret
      exact ⟨rf,hb1 GE271.out⟩
     replace c26:=Bool.eq_false_iff.mpr c26
     subst c26
     rw [if_neg (show ¬ (false=true) by decide)] at H
     obtain rfl:=Option.some.inj H
     obtain ⟨Z28_0,Z28_1,Z28_2,Z28_3,Z28_4,Y28_0,Y28_1,Y28_2,Y28_3,Y28_4⟩:=cel5 BK271.out
     go_wp2_with (first|(refine gl 78 51 Try.func78 #[.slice A4 l4.length c4,.int .i64 (wrap64 ((wrap64 (a2+(wrap64 (4*a1))))+((rd_T86 l0 a1).f4)))] ?_;(with_reducible refine (spec_l06HasInt.calls kj17 _ _ l4 (wrap64 ((wrap64 (a2+(wrap64 (4*a1))))+((rd_T86 l0 a1).f4))) false _ ?side1 ?side2 A25.out).mono ?_);(case side1=>exact kc HR4.out);(case side2=>exact HC4.out);rintro e w' ⟨rfl,⟨nd,rfl⟩⟩;refine ⟨_,rfl,?_⟩))
     go_ret
     exact ⟨rf,hb1 GE271.out⟩
    replace c24:=Bool.eq_false_iff.mpr c24
    subst c24
    rw [if_neg (show ¬ (false=true) by decide)] at H
    by_cases c29:((rd_T86 l0 a1).f0)=3
    ·rw [if_pos c29] at H
     obtain ⟨c29b0,c29b1⟩:=eqP c29
     clear c29
     by_cases c30:((rd_T86 l0 a1).f1)=0
     ·rw [if_pos c30] at H
      obtain ⟨c30b0,c30b1⟩:=eqP c30
      clear c30
      obtain ⟨t276,A31,H⟩:=bindA H
      by_cases c32:t276=true
      ·subst c32
       rw [if_pos rfl] at H
       obtain rfl:=Option.some.inj H
       obtain ⟨Z33_0,Z33_1,Z33_2,Z33_3,Z33_4,Y33_0,Y33_1,Y33_2,Y33_3,Y33_4⟩:=cel5 BK271.out
       go_wp2_with (first|(go_at_call 87;(with_reducible refine (spec_l06Goes.calls _ _ l0 a1 ((rd_T86 l0 a1).f4) a3 true _ ?side1 ?side2 A31.out).mono ?_);(case side1=>exact kc HR0.out);(case side2=>exact HC0.out);rintro e w34 ⟨rfl,hb⟩;have n0_:=Aside0.mk (blk_below (qx BK271.out) hb);replace HB:=Aside0.mk (below_step (hb1 GE271.out) hb);clear BK271;have BK271:=n0_;clear n0_;(try clear hb);(try clear hb2);(try clear hk);(try clear hi)))
       go_ret
       exact ⟨rf,hb1 GE271.out⟩
      replace c32:=Bool.eq_false_iff.mpr c32
      subst c32
      rw [if_neg (show ¬ (false=true) by decide)] at H
      obtain rfl:=Option.some.inj H
      obtain ⟨Z35_0,Z35_1,Z35_2,Z35_3,Z35_4,Y35_0,Y35_1,Y35_2,Y35_3,Y35_4⟩:=cel5 BK271.out
      go_wp2_with (first|(go_at_call 87;(with_reducible refine (spec_l06Goes.calls _ _ l0 a1 ((rd_T86 l0 a1).f4) a3 false _ ?side1 ?side2 A31.out).mono ?_);(case side1=>exact kc HR0.out);(case side2=>exact HC0.out);rintro e w36 ⟨rfl,hb⟩;have n0_:=Aside0.mk (blk_below (qx BK271.out) hb);replace HB:=Aside0.mk (below_step (hb1 GE271.out) hb);clear BK271;have BK271:=n0_;clear n0_;(try clear hb);(try clear hb2);(try clear hk);(try clear hi)))
      go_ret
      exact ⟨rf,hb1 GE271.out⟩
     rw [if_neg c30] at H
     obtain ⟨c30b0,c30b1⟩:=eqN c30
     obtain rfl:=Option.some.inj H
     obtain ⟨Z37_0,Z37_1,Z37_2,Z37_3,Z37_4,Y37_0,Y37_1,Y37_2,Y37_3,Y37_4⟩:=cel5 BK271.out
     go_wp2
     go_ret
     exact ⟨rf,hb1 GE271.out⟩
    rw [if_neg c29] at H
    obtain ⟨c29b0,c29b1⟩:=eqN c29
    obtain ⟨⟨t277,t278,t279,t280⟩,A38,H⟩:=bindA H
    try dsimp only at H
    by_cases c39:t277=4
    ·rw [if_pos c39] at H
     obtain ⟨c39b0,c39b1⟩:=eqP c39
     clear c39
     obtain ⟨t281,A40,H⟩:=bindA H
     by_cases c41:t281=true
     ·subst c41
      rw [if_pos rfl] at H
      obtain rfl:=Option.some.inj H
      obtain ⟨Z42_0,Z42_1,Z42_2,Z42_3,Z42_4,Y42_0,Y42_1,Y42_2,Y42_3,Y42_4⟩:=cel5 BK271.out
      go_wp2_with (first|(refine gl 88 72 Try.func88 #[.int .i64 ((rd_T86 l0 a1).f0)] ?_;(with_reducible refine (spec_l02Shape.calls ((rd_T86 l0 a1).f0) t277 t278 t279 t280 _ A38.out).mono ?_);rintro e w43 ⟨rfl,hb⟩;refine ⟨_,rfl,?_⟩;have n0_:=Aside0.mk (blk_below (qx BK271.out) hb);replace HB:=Aside0.mk (below_step (hb1 GE271.out) hb);clear BK271;have BK271:=n0_;clear n0_;(try clear hb);(try clear hb2);(try clear hk);(try clear hi);obtain ⟨Z44_0,Z44_1,Z44_2,Z44_3,Z44_4,Y44_0,Y44_1,Y44_2,Y44_3,Y44_4⟩:=cel5 BK271.out)|(refine gl 87 80 Try.func87 #[.slice (some ad270) l0.length c0,.int .i64 a1,.int .i64 ((rd_T86 l0 a1).f4),.int .i64 a3] ?_;(with_reducible refine (spec_l06Goes.calls _ _ l0 a1 ((rd_T86 l0 a1).f4) a3 true _ ?side1 ?side2 A40.out).mono ?_);(case side1=>exact kc HR0.out);(case side2=>exact HC0.out);rintro e w45 ⟨rfl,hb⟩;refine ⟨_,rfl,?_⟩;have n0_:=Aside0.mk (blk_below (qx BK271.out) hb);replace HB:=Aside0.mk (below_step (hb1 GE271.out) hb);clear BK271;have BK271:=n0_;clear n0_;(try clear hb);(try clear hb2);(try clear hk);(try clear hi)))
      go_ret
      exact ⟨rf,hb1 GE271.out⟩
     replace c41:=Bool.eq_false_iff.mpr c41
     subst c41
     rw [if_neg (show ¬ (false=true) by decide)] at H
     obtain rfl:=Option.some.inj H
     obtain ⟨Z46_0,Z46_1,Z46_2,Z46_3,Z46_4,Y46_0,Y46_1,Y46_2,Y46_3,Y46_4⟩:=cel5 BK271.out
     go_wp2_with (first|(refine gl 88 72 Try.func88 #[.int .i64 ((rd_T86 l0 a1).f0)] ?_;(with_reducible refine (spec_l02Shape.calls ((rd_T86 l0 a1).f0) t277 t278 t279 t280 _ A38.out).mono ?_);rintro e w47 ⟨rfl,hb⟩;refine ⟨_,rfl,?_⟩;have n0_:=Aside0.mk (blk_below (qx BK271.out) hb);replace HB:=Aside0.mk (below_step (hb1 GE271.out) hb);clear BK271;have BK271:=n0_;clear n0_;(try clear hb);(try clear hb2);(try clear hk);(try clear hi);obtain ⟨Z48_0,Z48_1,Z48_2,Z48_3,Z48_4,Y48_0,Y48_1,Y48_2,Y48_3,Y48_4⟩:=cel5 BK271.out)|(refine gl 87 80 Try.func87 #[.slice (some ad270) l0.length c0,.int .i64 a1,.int .i64 ((rd_T86 l0 a1).f4),.int .i64 a3] ?_;(with_reducible refine (spec_l06Goes.calls _ _ l0 a1 ((rd_T86 l0 a1).f4) a3 false _ ?side1 ?side2 A40.out).mono ?_);(case side1=>exact kc HR0.out);(case side2=>exact HC0.out);rintro e w49 ⟨rfl,hb⟩;refine ⟨_,rfl,?_⟩;have n0_:=Aside0.mk (blk_below (qx BK271.out) hb);replace HB:=Aside0.mk (below_step (hb1 GE271.out) hb);clear BK271;have BK271:=n0_;clear n0_;(try clear hb);(try clear hb2);(try clear hk);(try clear hi)))
     go_ret
     exact ⟨rf,hb1 GE271.out⟩
    rw [if_neg c39] at H
    obtain ⟨c39b0,c39b1⟩:=eqN c39
    have HC50:=Aside0.mk H
    clear H
    obtain ⟨Z51_0,Z51_1,Z51_2,Z51_3,Z51_4,Y51_0,Y51_1,Y51_2,Y51_3,Y51_4⟩:=cel5 BK271.out
    go_upto_region 19 with (first|((with_reducible refine gate_callee (f:=88) rfl ?_);refine gl 88 72 Try.func88 #[.int .i64 ((rd_T86 l0 a1).f0)] ?_;(with_reducible refine (spec_l02Shape.calls ((rd_T86 l0 a1).f0) t277 t278 t279 t280 _ A38.out).mono ?_);rintro e w52 ⟨rfl,hb⟩;refine ⟨_,rfl,?_⟩;have n0_:=Aside0.mk (blk_below (qx BK271.out) hb);replace HB:=Aside0.mk (below_step (hb1 GE271.out) hb);clear BK271;have BK271:=n0_;clear n0_;(try clear hb);(try clear hb2);(try clear hk);(try clear hi)))
    (try simp only [Act.put,List.setIfInBounds_toArray,List.set_cons_zero,List.set_cons_succ])
    go_cut [104] (fun v104 wc=>∃ (kq:Nat) (x104_49:Bool),v104=.bool x104_49∧Aside0 (spec_l06Rule.j1 kq l0 a1 a3 t272 x104_49 ((rd_T86 l0 a1).f0) ((rd_T86 l0 a1).f1) ((rd_T86 l0 a1).f2) ((rd_T86 l0 a1).f3) ((rd_T86 l0 a1).f4)=some r)∧Aside0 (kq≤kj17)∧Aside0 (wc.heap[gb271]?=some (.cells #[.int .i64 ((rd_T86 l0 a1).f0),.int .i64 ((rd_T86 l0 a1).f1),.int .i64 ((rd_T86 l0 a1).f2),.int .i64 ((rd_T86 l0 a1).f3),.int .i64 ((rd_T86 l0 a1).f4)] 86 (0,0)))∧Aside0 (Below w.heap.size w wc))
    case first=>
     have H:=HC50.out
     clear HC50
     by_cases c53:((rd_T86 l0 a1).f1)=1
     ·rw [if_pos c53] at H
      obtain ⟨c53b0,c53b1⟩:=eqP c53
      clear c53
      (first|rw [c53b0]|(simp only [i64_w,i32_w];rw [c53b0])|skip)
      obtain ⟨t282,A54,H⟩:=bindA H
      by_cases c55:t282=true
      ·subst c55
       rw [if_pos rfl] at H
       by_cases c56:((rd_T86 l0 a1).f1)=2
       ·rw [if_pos c56] at H
        obtain ⟨c56b0,c56b1⟩:=eqP c56
        clear c56
        obtain ⟨t283,A57,H⟩:=bindA H
        have H':=Aside0.mk H
        clear H
        obtain ⟨Z58_0,Z58_1,Z58_2,Z58_3,Z58_4,Y58_0,Y58_1,Y58_2,Y58_3,Y58_4⟩:=cel5 BK271.out
        go_wp2_with (first|(go_at_call 86;(with_reducible refine (spec_l06Ends.calls _ _ l0 a1 a3 true _ ?side1 ?side2 A54.out).mono ?_);(case side1=>exact kc HR0.out);(case side2=>exact HC0.out);rintro e w59 ⟨rfl,hb⟩;have n0_:=Aside0.mk (blk_below (qx BK271.out) hb);replace HB:=Aside0.mk (below_step (hb1 GE271.out) hb);clear BK271;have BK271:=n0_;clear n0_;(try clear hb);(try clear hb2);(try clear hk);(try clear hi);obtain ⟨Z60_0,Z60_1,Z60_2,Z60_3,Z60_4,Y60_0,Y60_1,Y60_2,Y60_3,Y60_4⟩:=cel5 BK271.out)|(go_at_call 86;(with_reducible refine (spec_l06Ends.calls _ _ l0 (wrap64 (a1 - 1)) a3 t283 _ ?side1 ?side2 A57.out).mono ?_);(case side1=>exact kc HR0.out);(case side2=>exact HC0.out);rintro e w61 ⟨rfl,hb⟩;have n0_:=Aside0.mk (blk_below (qx BK271.out) hb);replace HB:=Aside0.mk (below_step (hb1 GE271.out) hb);clear BK271;have BK271:=n0_;clear n0_;(try clear hb);(try clear hb2);(try clear hk);(try clear hi)))
        go_meet
        case rel=>exact ⟨_,(!t283),rs,H',⟨om HJ17.out⟩,⟨qx BK271.out⟩,⟨hb1 GE271.out⟩⟩
       rw [if_neg c56] at H
       obtain ⟨c56b0,c56b1⟩:=eqN c56
       have H':=Aside0.mk H
       clear H
       obtain ⟨Z62_0,Z62_1,Z62_2,Z62_3,Z62_4,Y62_0,Y62_1,Y62_2,Y62_3,Y62_4⟩:=cel5 BK271.out
       go_wp2_with (first|(go_at_call 86;(with_reducible refine (spec_l06Ends.calls _ _ l0 a1 a3 true _ ?side1 ?side2 A54.out).mono ?_);(case side1=>exact kc HR0.out);(case side2=>exact HC0.out);rintro e w63 ⟨rfl,hb⟩;have n0_:=Aside0.mk (blk_below (qx BK271.out) hb);replace HB:=Aside0.mk (below_step (hb1 GE271.out) hb);clear BK271;have BK271:=n0_;clear n0_;(try clear hb);(try clear hb2);(try clear hk);(try clear hi);obtain ⟨Z64_0,Z64_1,Z64_2,Z64_3,Z64_4,Y64_0,Y64_1,Y64_2,Y64_3,Y64_4⟩:=cel5 BK271.out))
       go_meet
       case rel=>exact ⟨_,(false),rs,H',⟨om HJ17.out⟩,⟨qx BK271.out⟩,⟨hb1 GE271.out⟩⟩
      replace c55:=Bool.eq_false_iff.mpr c55
      subst c55
      rw [if_neg (show ¬ (false=true) by decide)] at H
      have H':=Aside0.mk H
      clear H
      obtain ⟨Z65_0,Z65_1,Z65_2,Z65_3,Z65_4,Y65_0,Y65_1,Y65_2,Y65_3,Y65_4⟩:=cel5 BK271.out
      go_wp2_with (first|(go_at_call 86;(with_reducible refine (spec_l06Ends.calls _ _ l0 a1 a3 false _ ?side1 ?side2 A54.out).mono ?_);(case side1=>exact kc HR0.out);(case side2=>exact HC0.out);rintro e w66 ⟨rfl,hb⟩;have n0_:=Aside0.mk (blk_below (qx BK271.out) hb);replace HB:=Aside0.mk (below_step (hb1 GE271.out) hb);clear BK271;have BK271:=n0_;clear n0_;(try clear hb);(try clear hb2);(try clear hk);(try clear hi)))
      go_meet
      case rel=>exact ⟨_,(true),rs,H',⟨om HJ17.out⟩,⟨qx BK271.out⟩,⟨hb1 GE271.out⟩⟩
     rw [if_neg c53] at H
     obtain ⟨c53b0,c53b1⟩:=eqN c53
     (first|rw [c53b0]|(simp only [i64_w,i32_w];rw [c53b0])|skip)
     by_cases c67:((rd_T86 l0 a1).f1)=2
     ·rw [if_pos c67] at H
      obtain ⟨c67b0,c67b1⟩:=eqP c67
      clear c67
      obtain ⟨t284,A68,H⟩:=bindA H
      have H':=Aside0.mk H
      clear H
      obtain ⟨Z69_0,Z69_1,Z69_2,Z69_3,Z69_4,Y69_0,Y69_1,Y69_2,Y69_3,Y69_4⟩:=cel5 BK271.out
      go_wp2_with (first|(go_at_call 86;(with_reducible refine (spec_l06Ends.calls _ _ l0 (wrap64 (a1 - 1)) a3 t284 _ ?side1 ?side2 A68.out).mono ?_);(case side1=>exact kc HR0.out);(case side2=>exact HC0.out);rintro e w70 ⟨rfl,hb⟩;have n0_:=Aside0.mk (blk_below (qx BK271.out) hb);replace HB:=Aside0.mk (below_step (hb1 GE271.out) hb);clear BK271;have BK271:=n0_;clear n0_;(try clear hb);(try clear hb2);(try clear hk);(try clear hi)))
      go_meet
      case rel=>exact ⟨_,(!t284),rs,H',⟨om HJ17.out⟩,⟨qx BK271.out⟩,⟨hb1 GE271.out⟩⟩
     rw [if_neg c67] at H
     obtain ⟨c67b0,c67b1⟩:=eqN c67
     have H':=Aside0.mk H
     clear H
     obtain ⟨Z71_0,Z71_1,Z71_2,Z71_3,Z71_4,Y71_0,Y71_1,Y71_2,Y71_3,Y71_4⟩:=cel5 BK271.out
     go_wp2
     go_meet
     case rel=>exact ⟨_,(false),rs,H',⟨om HJ17.out⟩,⟨qx BK271.out⟩,⟨hb1 GE271.out⟩⟩
    clear HC50
    try clear c24
    try clear c29
    try clear c29b0 c29b1
    try clear c39
    try clear c39b0 c39b1
    try clear Z51_0 Z51_1 Z51_2 Z51_3 Z51_4 Y51_0 Y51_1 Y51_2 Y51_3 Y51_4
    obtain ⟨kq,x104_49,rfl,HA,HJ49,BK271,HB⟩:=hcut
    cases kq with
    | zero=>exact absurd HA.out (by simp [spec_l06Rule.j1])
    | succ kj49 =>
     have H:=HA.out
     clear HA
     simp only [spec_l06Rule.j1] at H
     by_cases c72:x104_49=true
     ·subst c72
      rw [if_pos rfl] at H
      obtain rfl:=Option.some.inj H
      go_wp2
      go_ret
      exact ⟨rf,hb1 GE271.out⟩
     replace c72:=Bool.eq_false_iff.mpr c72
     subst c72
     rw [if_neg (show ¬ (false=true) by decide)] at H
     by_cases c73:t272 > 0
     ·rw [if_pos c73] at H
      have c73b0:decide (0 < t272)=true:=decide_eq_true c73
      clear c73
      by_cases c74:((rd_T86 l0 a1).f2)=2
      ·rw [if_pos c74] at H
       obtain ⟨c74b0,c74b1⟩:=eqP c74
       clear c74
       obtain ⟨t285,A75,H⟩:=bindA H
       by_cases c76:t285=true
       ·subst c76
        rw [if_pos rfl] at H
        obtain rfl:=Option.some.inj H
        obtain ⟨Z77_0,Z77_1,Z77_2,Z77_3,Z77_4,Y77_0,Y77_1,Y77_2,Y77_3,Y77_4⟩:=cel5 BK271.out
        go_wp2_with (first|(go_at_call 86;(with_reducible refine (spec_l06Ends.calls _ _ l0 a1 a3 true _ ?side1 ?side2 A75.out).mono ?_);(case side1=>exact kc HR0.out);(case side2=>exact HC0.out);rintro e w78 ⟨rfl,hb⟩;have n0_:=Aside0.mk (blk_below (qx BK271.out) hb);replace HB:=Aside0.mk (below_step (hb1 GE271.out) hb);clear BK271;have BK271:=n0_;clear n0_;(try clear hb);(try clear hb2);(try clear hk);(try clear hi)))
        go_ret
        exact ⟨rf,hb1 GE271.out⟩
       replace c76:=Bool.eq_false_iff.mpr c76
       subst c76
       rw [if_neg (show ¬ (false=true) by decide)] at H
       by_cases c79:((rd_T86 l0 a1).f4) < 0
       ·rw [if_pos c79] at H
        have c79b0:decide (((rd_T86 l0 a1).f4) < 0)=true:=decide_eq_true c79
        clear c79
        obtain rfl:=Option.some.inj H
        obtain ⟨Z80_0,Z80_1,Z80_2,Z80_3,Z80_4,Y80_0,Y80_1,Y80_2,Y80_3,Y80_4⟩:=cel5 BK271.out
        go_wp2_with (first|(go_at_call 86;(with_reducible refine (spec_l06Ends.calls _ _ l0 a1 a3 false _ ?side1 ?side2 A75.out).mono ?_);(case side1=>exact kc HR0.out);(case side2=>exact HC0.out);rintro e w81 ⟨rfl,hb⟩;have n0_:=Aside0.mk (blk_below (qx BK271.out) hb);replace HB:=Aside0.mk (below_step (hb1 GE271.out) hb);clear BK271;have BK271:=n0_;clear n0_;(try clear hb);(try clear hb2);(try clear hk);(try clear hi);obtain ⟨Z82_0,Z82_1,Z82_2,Z82_3,Z82_4,Y82_0,Y82_1,Y82_2,Y82_3,Y82_4⟩:=cel5 BK271.out))
        go_ret
        exact ⟨rf,hb1 GE271.out⟩
       rw [if_neg c79] at H
       have c79b0:decide (((rd_T86 l0 a1).f4) < 0)=false:=decide_eq_false c79
       clear c79
       by_cases c83:((rd_T86 l0 a1).f4) > (wrap64 ((wrap64 (a3 - 8)) - t272))
       ·rw [if_pos c83] at H
        have c83b0:decide ((wrap64 ((wrap64 (a3 - 8)) - t272)) < ((rd_T86 l0 a1).f4))=true:=decide_eq_true c83
        clear c83
        obtain rfl:=Option.some.inj H
        obtain ⟨Z84_0,Z84_1,Z84_2,Z84_3,Z84_4,Y84_0,Y84_1,Y84_2,Y84_3,Y84_4⟩:=cel5 BK271.out
        go_wp2_with (first|(go_at_call 86;(with_reducible refine (spec_l06Ends.calls _ _ l0 a1 a3 false _ ?side1 ?side2 A75.out).mono ?_);(case side1=>exact kc HR0.out);(case side2=>exact HC0.out);rintro e w85 ⟨rfl,hb⟩;have n0_:=Aside0.mk (blk_below (qx BK271.out) hb);replace HB:=Aside0.mk (below_step (hb1 GE271.out) hb);clear BK271;have BK271:=n0_;clear n0_;(try clear hb);(try clear hb2);(try clear hk);(try clear hi);obtain ⟨Z86_0,Z86_1,Z86_2,Z86_3,Z86_4,Y86_0,Y86_1,Y86_2,Y86_3,Y86_4⟩:=cel5 BK271.out))
        go_ret
        exact ⟨rf,hb1 GE271.out⟩
       rw [if_neg c83] at H
       have c83b0:decide ((wrap64 ((wrap64 (a3 - 8)) - t272)) < ((rd_T86 l0 a1).f4))=false:=decide_eq_false c83
       clear c83
       by_cases c87:t272=0
       ·rw [if_pos c87] at H
        exact absurd H (by simp)
       rw [if_neg c87] at H
       obtain ⟨c87b0,c87b1⟩:=eqN c87
       by_cases c88:(Int.tmod ((rd_T86 l0 a1).f4) t272)=0
       ·rw [if_pos c88] at H
        obtain ⟨c88b0,c88b1⟩:=eqP c88
        clear c88
        obtain rfl:=Option.some.inj H
        obtain ⟨Z89_0,Z89_1,Z89_2,Z89_3,Z89_4,Y89_0,Y89_1,Y89_2,Y89_3,Y89_4⟩:=cel5 BK271.out
        go_wp2_with (first|(go_at_call 86;(with_reducible refine (spec_l06Ends.calls _ _ l0 a1 a3 false _ ?side1 ?side2 A75.out).mono ?_);(case side1=>exact kc HR0.out);(case side2=>exact HC0.out);rintro e w90 ⟨rfl,hb⟩;have n0_:=Aside0.mk (blk_below (qx BK271.out) hb);replace HB:=Aside0.mk (below_step (hb1 GE271.out) hb);clear BK271;have BK271:=n0_;clear n0_;(try clear hb);(try clear hb2);(try clear hk);(try clear hi);obtain ⟨Z91_0,Z91_1,Z91_2,Z91_3,Z91_4,Y91_0,Y91_1,Y91_2,Y91_3,Y91_4⟩:=cel5 BK271.out))
        go_ret
        exact ⟨rf,hb1 GE271.out⟩
       rw [if_neg c88] at H
       obtain ⟨c88b0,c88b1⟩:=eqN c88
       obtain rfl:=Option.some.inj H
       obtain ⟨Z92_0,Z92_1,Z92_2,Z92_3,Z92_4,Y92_0,Y92_1,Y92_2,Y92_3,Y92_4⟩:=cel5 BK271.out
       go_wp2_with (first|(go_at_call 86;(with_reducible refine (spec_l06Ends.calls _ _ l0 a1 a3 false _ ?side1 ?side2 A75.out).mono ?_);(case side1=>exact kc HR0.out);(case side2=>exact HC0.out);rintro e w93 ⟨rfl,hb⟩;have n0_:=Aside0.mk (blk_below (qx BK271.out) hb);replace HB:=Aside0.mk (below_step (hb1 GE271.out) hb);clear BK271;have BK271:=n0_;clear n0_;(try clear hb);(try clear hb2);(try clear hk);(try clear hi);obtain ⟨Z94_0,Z94_1,Z94_2,Z94_3,Z94_4,Y94_0,Y94_1,Y94_2,Y94_3,Y94_4⟩:=cel5 BK271.out))
       go_ret
       exact ⟨rf,hb1 GE271.out⟩
      rw [if_neg c74] at H
      obtain ⟨c74b0,c74b1⟩:=eqN c74
      obtain rfl:=Option.some.inj H
      obtain ⟨Z95_0,Z95_1,Z95_2,Z95_3,Z95_4,Y95_0,Y95_1,Y95_2,Y95_3,Y95_4⟩:=cel5 BK271.out
      go_wp2
      go_ret
      exact ⟨rf,hb1 GE271.out⟩
     rw [if_neg c73] at H
     have c73b0:decide (0 < t272)=false:=decide_eq_false c73
     clear c73
     obtain rfl:=Option.some.inj H
     go_wp2
     go_ret
     exact ⟨rf,hb1 GE271.out⟩
  rw [if_neg c7] at H
  exact absurd H (by simp)
 rw [if_neg c6] at H
 exact absurd H (by simp)
end Go.Proofs.Ythepmdlpjdlajaa.PFnExactLintImage
