/- The walk of FnExactCallsOf: each Go function that the law reaches as a plain Lean function, with the proof that a call does what it says; no conditions. Written by a program for this claim. -/
import Derived.Test.YthepmdlpjdlajaaPFnExactCallsOfx0
import Derived.Test.YthepmdlpjdlajaaPFnExactCallsOfx1
import Derived.Test.YthepmdlpjdlajaaPFnExactCallsOfx3
namespace Go.Proofs.Ythepmdlpjdlajaa.PFnExactCallsOf
open Go.RowKit Go.Proofs.YthepmdlpjdlajaaW.PrintWords Go.Proofs.YthepmdlpjdlajaaW.PrintLast Go.Proofs.YthepmdlpjdlajaaW.PrintMore
attribute [local go_sem] max2_int min2_int max_two min_two max_three min_three max_four min_four   -- for this text's walks alone
set_option linter.unusedVariables false
set_option linter.unusedSimpArgs false
mutual
def spec_l02Encode.l0:Nat→Int→Int→Int→Int→Int→Int→Int→Option (Int)
  | 0,_,_,_,_,_,_,_=>none
  | k+1,x4,x5,x152000,x152001,x152002,x152003,x152004=>if x5 < 21 then (if x5 > 10 then (spec_l02Encode.j1 k x4 x5 (wrap64 (9+x5)) x152000 x152001 x152002 x152003 x152004) else (spec_l02Encode.j1 k x4 x5 (wrap64 (20+x5)) x152000 x152001 x152002 x152003 x152004)) else (some x4)
def spec_l02Encode.j1:Nat→Int→Int→Int→Int→Int→Int→Int→Int→Option (Int)
  | 0,_,_,_,_,_,_,_,_=>none
  | k+1,x4,x5,x6,x152000,x152001,x152002,x152003,x152004=>if x5 > 11 then (spec_l02Encode.j2 k x4 x5 x5 x152000 x152001 x152002 x152003 x152004) else (spec_l02Encode.j2 k x4 x5 x6 x152000 x152001 x152002 x152003 x152004)
def spec_l02Encode.j2:Nat→Int→Int→Int→Int→Int→Int→Int→Int→Option (Int)
  | 0,_,_,_,_,_,_,_,_=>none
  | k+1,x4,x5,x6,x152000,x152001,x152002,x152003,x152004=>if x5=20 then ((spec_l01Bit.f x152004 x5).bind fun t160=>((spec_l01Put.f k x4 31 1 t160).bind fun t161=>(spec_l02Encode.l0 k t161 (wrap64 (x5+1)) x152000 x152001 x152002 x152003 x152004))) else ((spec_l01Bit.f x152004 x5).bind fun t162=>((spec_l01Put.f k x4 x6 1 t162).bind fun t163=>(spec_l02Encode.l0 k t163 (wrap64 (x5+1)) x152000 x152001 x152002 x152003 x152004)))
def spec_l02Encode.l1:Nat→Int→Int→Int→Int→Int→Int→Int→Option (Int)
  | 0,_,_,_,_,_,_,_=>none
  | k+1,x4,x7,x152000,x152001,x152002,x152003,x152004=>if x7 < 13 then (if x7 > 4 then (spec_l02Encode.j4 k x4 x7 (wrap64 (20+x7)) x152000 x152001 x152002 x152003 x152004) else (spec_l02Encode.j4 k x4 x7 (wrap64 (7+x7)) x152000 x152001 x152002 x152003 x152004)) else (some x4)
def spec_l02Encode.j4:Nat→Int→Int→Int→Int→Int→Int→Int→Int→Option (Int)
  | 0,_,_,_,_,_,_,_,_=>none
  | k+1,x4,x7,x8,x152000,x152001,x152002,x152003,x152004=>if x7=11 then (spec_l02Encode.j5 k x4 x7 7 x152000 x152001 x152002 x152003 x152004) else (spec_l02Encode.j5 k x4 x7 x8 x152000 x152001 x152002 x152003 x152004)
def spec_l02Encode.j5:Nat→Int→Int→Int→Int→Int→Int→Int→Int→Option (Int)
  | 0,_,_,_,_,_,_,_,_=>none
  | k+1,x4,x7,x8,x152000,x152001,x152002,x152003,x152004=>if x7=12 then ((spec_l01Bit.f x152004 x7).bind fun t171=>((spec_l01Put.f k x4 31 1 t171).bind fun t172=>(spec_l02Encode.l1 k t172 (wrap64 (x7+1)) x152000 x152001 x152002 x152003 x152004))) else ((spec_l01Bit.f x152004 x7).bind fun t173=>((spec_l01Put.f k x4 x8 1 t173).bind fun t174=>(spec_l02Encode.l1 k t174 (wrap64 (x7+1)) x152000 x152001 x152002 x152003 x152004)))
def spec_l02Encode.l2:Nat→Int→Int→Int→Int→Int→Int→Int→Option (Int)
  | 0,_,_,_,_,_,_,_=>none
  | k+1,x4,x9,x152000,x152001,x152002,x152003,x152004=>if x9 < 12 then ((spec_l01Bit.f x152004 x9).bind fun t179=>((spec_l01Put.f k x4 (wrap64 (20+x9)) 1 t179).bind fun t180=>(spec_l02Encode.l2 k t180 (wrap64 (x9+1)) x152000 x152001 x152002 x152003 x152004))) else (some x4)
def spec_l02Encode.j7:Nat→Int→Int→Bool→Int→Int→Int→Int→Int→Int→Int→Int→Int→Option (Int)
  | 0,_,_,_,_,_,_,_,_,_,_,_,_=>none
  | k+1,x4,x16,x139,x152000,x152001,x152002,x152003,x152004,x157000,x157001,x157002,x157003=>if x139=true then ((spec_l01Put.f k x4 7 5 x152001).bind fun t181=>((spec_l01Put.f k t181 12 3 x157002).bind fun t182=>((spec_l01Put.f k t182 15 5 x152002).bind fun t183=>((spec_l01Put.f k t183 25 7 x157003).bind fun t184=>(if x157000=6 then ((spec_l01Put.f k t184 20 6 x152004).bind fun t185=>(some t185)) else (if x157000=7 then ((spec_l01Put.f k t184 20 5 x152004).bind fun t186=>(some t186)) else ((spec_l01Put.f k t184 20 5 x152003).bind fun t187=>(some t187)))))))) else (if x16=9 then ((spec_l01Put.f k x4 20 12 x157003).bind fun t188=>(some t188)) else (some x4))
end
def spec_l02Encode.f (k:Nat) (a0_0:Int) (a0_1:Int) (a0_2:Int) (a0_3:Int) (a0_4:Int):Option (Int):=(spec_l02Shape.f a0_0).bind fun bt152=>(if bt152.1=1 then ((spec_l01Put.f k bt152.2.1 7 5 a0_1).bind fun t157=>((spec_l01Put.f k t157 12 20 (wrap64 (Int.tdiv a0_4 4096))).bind fun t158=>(some t158))) else (if bt152.1=2 then ((spec_l01Put.f k bt152.2.1 7 5 a0_1).bind fun t159=>(spec_l02Encode.l0 k t159 1 a0_0 a0_1 a0_2 a0_3 a0_4)) else (if bt152.1=3 then ((spec_l01Put.f k bt152.2.1 7 5 a0_1).bind fun t164=>((spec_l01Put.f k t164 12 3 bt152.2.2.1).bind fun t165=>((spec_l01Put.f k t165 15 5 a0_2).bind fun t166=>((spec_l01Put.f k t166 20 12 a0_4).bind fun t167=>(some t167))))) else (if bt152.1=4 then ((spec_l01Put.f k bt152.2.1 12 3 bt152.2.2.1).bind fun t168=>((spec_l01Put.f k t168 15 5 a0_2).bind fun t169=>((spec_l01Put.f k t169 20 5 a0_3).bind fun t170=>(spec_l02Encode.l1 k t170 1 a0_0 a0_1 a0_2 a0_3 a0_4)))) else (if bt152.1=5 then ((spec_l01Put.f k bt152.2.1 7 5 a0_4).bind fun t175=>((spec_l01Put.f k t175 12 3 bt152.2.2.1).bind fun t176=>((spec_l01Put.f k t176 15 5 a0_2).bind fun t177=>((spec_l01Put.f k t177 20 5 a0_3).bind fun t178=>(spec_l02Encode.l2 k t178 5 a0_0 a0_1 a0_2 a0_3 a0_4))))) else (if bt152.1=6 then (spec_l02Encode.j7 k bt152.2.1 bt152.1 (bt152.1==6) a0_0 a0_1 a0_2 a0_3 a0_4 bt152.1 bt152.2.1 bt152.2.2.1 bt152.2.2.2) else (if bt152.1=7 then (spec_l02Encode.j7 k bt152.2.1 bt152.1 (bt152.1==7) a0_0 a0_1 a0_2 a0_3 a0_4 bt152.1 bt152.2.1 bt152.2.2.1 bt152.2.2.2) else (spec_l02Encode.j7 k bt152.2.1 bt152.1 (bt152.1==8) a0_0 a0_1 a0_2 a0_3 a0_4 bt152.1 bt152.2.1 bt152.2.2.1 bt152.2.2.2))))))))
theorem spec_l02Encode.mono_l : ∀ k,(∀ y0 y1 y2 y3 y4 y5 y6,LeO (spec_l02Encode.l0 k y0 y1 y2 y3 y4 y5 y6) (spec_l02Encode.l0 (k+1) y0 y1 y2 y3 y4 y5 y6))∧(∀ y0 y1 y2 y3 y4 y5 y6 y7,LeO (spec_l02Encode.j1 k y0 y1 y2 y3 y4 y5 y6 y7) (spec_l02Encode.j1 (k+1) y0 y1 y2 y3 y4 y5 y6 y7))∧(∀ y0 y1 y2 y3 y4 y5 y6 y7,LeO (spec_l02Encode.j2 k y0 y1 y2 y3 y4 y5 y6 y7) (spec_l02Encode.j2 (k+1) y0 y1 y2 y3 y4 y5 y6 y7))∧(∀ y0 y1 y2 y3 y4 y5 y6,LeO (spec_l02Encode.l1 k y0 y1 y2 y3 y4 y5 y6) (spec_l02Encode.l1 (k+1) y0 y1 y2 y3 y4 y5 y6))∧(∀ y0 y1 y2 y3 y4 y5 y6 y7,LeO (spec_l02Encode.j4 k y0 y1 y2 y3 y4 y5 y6 y7) (spec_l02Encode.j4 (k+1) y0 y1 y2 y3 y4 y5 y6 y7))∧(∀ y0 y1 y2 y3 y4 y5 y6 y7,LeO (spec_l02Encode.j5 k y0 y1 y2 y3 y4 y5 y6 y7) (spec_l02Encode.j5 (k+1) y0 y1 y2 y3 y4 y5 y6 y7))∧(∀ y0 y1 y2 y3 y4 y5 y6,LeO (spec_l02Encode.l2 k y0 y1 y2 y3 y4 y5 y6) (spec_l02Encode.l2 (k+1) y0 y1 y2 y3 y4 y5 y6))∧(∀ y0 y1 y2 y3 y4 y5 y6 y7 y8 y9 y10 y11,LeO (spec_l02Encode.j7 k y0 y1 y2 y3 y4 y5 y6 y7 y8 y9 y10 y11) (spec_l02Encode.j7 (k+1) y0 y1 y2 y3 y4 y5 y6 y7 y8 y9 y10 y11))
  | 0=>⟨fun _ _ _ _ _ _ _ r h=>by simp [spec_l02Encode.l0] at h,fun _ _ _ _ _ _ _ _ r h=>by simp [spec_l02Encode.j1] at h,fun _ _ _ _ _ _ _ _ r h=>by simp [spec_l02Encode.j2] at h,fun _ _ _ _ _ _ _ r h=>by simp [spec_l02Encode.l1] at h,fun _ _ _ _ _ _ _ _ r h=>by simp [spec_l02Encode.j4] at h,fun _ _ _ _ _ _ _ _ r h=>by simp [spec_l02Encode.j5] at h,fun _ _ _ _ _ _ _ r h=>by simp [spec_l02Encode.l2] at h,fun _ _ _ _ _ _ _ _ _ _ _ _ r h=>by simp [spec_l02Encode.j7] at h⟩
  | k+1=>by
    obtain ⟨ih0,ih1,ih2,ih3,ih4,ih5,ih6,ih7⟩:=spec_l02Encode.mono_l k
    refine ⟨?_,?_,?_,?_,?_,?_,?_,?_⟩<;>intros<;>(first|unfold spec_l02Encode.l0|unfold spec_l02Encode.j1|unfold spec_l02Encode.j2|unfold spec_l02Encode.l1|unfold spec_l02Encode.j4|unfold spec_l02Encode.j5|unfold spec_l02Encode.l2|unfold spec_l02Encode.j7)<;>repeat' (with_reducible first|apply ih0|apply ih1|apply ih2|apply ih3|apply ih4|apply ih5|apply ih6|apply ih7|apply spec_l01Put.mono|apply LeO.refl|apply LeO.none|apply LeO.ite|refine LeO.bind ?_ (fun _=>?_))
theorem spec_l02Encode.mono : ∀ a0 a1 a2 a3 a4 k,LeO (spec_l02Encode.f k a0 a1 a2 a3 a4) (spec_l02Encode.f (k+1) a0 a1 a2 a3 a4):=by
 intro a0 a1 a2 a3 a4 k
 obtain ⟨ih0,ih1,ih2,ih3,ih4,ih5,ih6,ih7⟩:=spec_l02Encode.mono_l k
 unfold spec_l02Encode.f
 repeat' (with_reducible first|apply ih0|apply ih1|apply ih2|apply ih3|apply ih4|apply ih5|apply ih6|apply ih7|apply spec_l01Put.mono|apply LeO.refl|apply LeO.none|apply LeO.ite|refine LeO.bind ?_ (fun _=>?_))
set_option maxHeartbeats 8000000 in
set_option maxRecDepth 100000 in
theorem spec_l02Encode.calls (k:Nat) (a0_0:Int) (a0_1:Int) (a0_2:Int) (a0_3:Int) (a0_4:Int) (r:Int) (w:World) (h:spec_l02Encode.f k a0_0 a0_1 a0_2 a0_3 a0_4=some r) :
    Calls Try.prog 99 #[.agg #[.int .i64 a0_0,.int .i64 a0_1,.int .i64 a0_2,.int .i64 a0_3,.int .i64 a0_4]] w fun e w'=>e=.returned (.int .i64 r)∧Below w.heap.size w w':=by
 have hu86:=Try.underlying86
 have hu109:=Try.underlying109
 have HB:=Aside0.mk (Below.refl w.heap.size w)
 have H:((spec_l02Shape.f a0_0).bind fun bt152=>(if bt152.1=1 then ((spec_l01Put.f k bt152.2.1 7 5 a0_1).bind fun t157=>((spec_l01Put.f k t157 12 20 (wrap64 (Int.tdiv a0_4 4096))).bind fun t158=>(some t158))) else (if bt152.1=2 then ((spec_l01Put.f k bt152.2.1 7 5 a0_1).bind fun t159=>(spec_l02Encode.l0 k t159 1 a0_0 a0_1 a0_2 a0_3 a0_4)) else (if bt152.1=3 then ((spec_l01Put.f k bt152.2.1 7 5 a0_1).bind fun t164=>((spec_l01Put.f k t164 12 3 bt152.2.2.1).bind fun t165=>((spec_l01Put.f k t165 15 5 a0_2).bind fun t166=>((spec_l01Put.f k t166 20 12 a0_4).bind fun t167=>(some t167))))) else (if bt152.1=4 then ((spec_l01Put.f k bt152.2.1 12 3 bt152.2.2.1).bind fun t168=>((spec_l01Put.f k t168 15 5 a0_2).bind fun t169=>((spec_l01Put.f k t169 20 5 a0_3).bind fun t170=>(spec_l02Encode.l1 k t170 1 a0_0 a0_1 a0_2 a0_3 a0_4)))) else (if bt152.1=5 then ((spec_l01Put.f k bt152.2.1 7 5 a0_4).bind fun t175=>((spec_l01Put.f k t175 12 3 bt152.2.2.1).bind fun t176=>((spec_l01Put.f k t176 15 5 a0_2).bind fun t177=>((spec_l01Put.f k t177 20 5 a0_3).bind fun t178=>(spec_l02Encode.l2 k t178 5 a0_0 a0_1 a0_2 a0_3 a0_4))))) else (if bt152.1=6 then (spec_l02Encode.j7 k bt152.2.1 bt152.1 (bt152.1==6) a0_0 a0_1 a0_2 a0_3 a0_4 bt152.1 bt152.2.1 bt152.2.2.1 bt152.2.2.2) else (if bt152.1=7 then (spec_l02Encode.j7 k bt152.2.1 bt152.1 (bt152.1==7) a0_0 a0_1 a0_2 a0_3 a0_4 bt152.1 bt152.2.1 bt152.2.2.1 bt152.2.2.2) else (spec_l02Encode.j7 k bt152.2.1 bt152.1 (bt152.1==8) a0_0 a0_1 a0_2 a0_3 a0_4 bt152.1 bt152.2.1 bt152.2.2.1 bt152.2.2.2)))))))))=some r:=h
 clear h
 obtain ⟨⟨t152,t153,t154,t155⟩,A2,H⟩:=bindA H
 try dsimp only at H
 by_cases c3:t152=1
 ·rw [if_pos c3] at H
  obtain ⟨c3b0,c3b1⟩:=eqP c3
  clear c3
  obtain ⟨t157,A4,H⟩:=bindA H
  obtain ⟨t158,A5,H⟩:=bindA H
  obtain rfl:=Option.some.inj H
  go_enter Try.func99,Try.ntmps99
  go_wp2_with (first|((with_reducible refine gate_dst (N:=1) rfl ?_);refine box_event ?hg (N:=1) ?hd (cs:=#[.int .i64 a0_0,.int .i64 a0_1,.int .i64 a0_2,.int .i64 a0_3,.int .i64 a0_4]) (t:=86) ?hr ?_;(case hd=>rfl);(case hg=>rfl);(case hr=>first|(go_simp;done)|(go_simp;rfl));intro gb151 hg w6 hbox hb;have n0_:=Aside0.mk (below_step (by repeat (with_reducible first|exact HB.out|apply Q4|apply Q5|apply Q6)) hb);have n1_:=Aside0.mk (hbox);have n2_:=Aside0.mk ((by rw [hg];exact (below_size (by repeat (with_reducible first|exact HB.out|apply Q4|apply Q5|apply Q6))):w.heap.size≤gb151));have n3_:=Aside0.mk ((by rw [hg];exact (below_size (by repeat (with_reducible first|exact HB.out|apply Q4|apply Q5|apply Q6))):w.heap.size≤gb151));clear HB;have HB:=n0_;have BK151:=n1_;have GW151:=n2_;have GE151:=n3_;clear n0_ n1_ n2_ n3_;clear hb hbox hg;have hcz7_0:w6.cell? ⟨gb151,0,none⟩=some (.int .i64 a0_0):=(blk_cell BK151.out 0).trans rfl;have hcz7_1:w6.cell? ⟨gb151,1,none⟩=some (.int .i64 a0_1):=(blk_cell BK151.out 1).trans rfl;have hcz7_2:w6.cell? ⟨gb151,2,none⟩=some (.int .i64 a0_2):=(blk_cell BK151.out 2).trans rfl;have hcz7_3:w6.cell? ⟨gb151,3,none⟩=some (.int .i64 a0_3):=(blk_cell BK151.out 3).trans rfl;have hcz7_4:w6.cell? ⟨gb151,4,none⟩=some (.int .i64 a0_4):=(blk_cell BK151.out 4).trans rfl;have hfz7_0:=blk_frozen BK151.out 0;have hfz7_1:=blk_frozen BK151.out 1;have hfz7_2:=blk_frozen BK151.out 2;have hfz7_3:=blk_frozen BK151.out 3;have hfz7_4:=blk_frozen BK151.out 4)|((with_reducible refine gate_callee (f:=88) rfl ?_);refine goesL_ (some 12) rfl rfl Try.func88 (by kernel_rfl) rfl #[.int .i64 a0_0] rfl (by (try simp only [List.map_toArray,List.map_cons,List.map_nil]);first|done|rfl|(simp only [List.length_drop,List.length_take];rfl)) ?_;(with_reducible refine (spec_l02Shape.calls a0_0 t152 t153 t154 t155 _ A2.out).mono ?_);rintro e w8 ⟨rfl,hb⟩;refine ⟨_,rfl,?_⟩;have n0_:=Aside0.mk (blk_below (g:=gb151) (o:=.cells #[.int .i64 a0_0,.int .i64 a0_1,.int .i64 a0_2,.int .i64 a0_3,.int .i64 a0_4] 86 (0,0)) (by (with_reducible repeat first|apply Q1|apply Q2|apply Q3);exact BK151.out) hb);have n1_:=Aside0.mk (below_step (by repeat (with_reducible first|exact HB.out|apply Q4|apply Q5|apply Q6|apply Q7 GE151.out)) hb);clear BK151;clear HB;have BK151:=n0_;have HB:=n1_;clear n0_ n1_;(try clear hb);(try clear hb2);(try clear hk);(try clear hi))|((with_reducible refine gate_dst (N:=3) rfl ?_);refine box_event ?hg (N:=3) ?hd (cs:=#[.int .i64 0,.int .i64 0,.int .i64 0,.int .i64 0]) (t:=109) ?hr ?_;(case hd=>rfl);(case hg=>rfl);(case hr=>first|(go_simp;done)|(go_simp;rfl));intro gb156 hg w9 hbox hb;have n0_:=Aside0.mk (blk_below (g:=gb151) (o:=.cells #[.int .i64 a0_0,.int .i64 a0_1,.int .i64 a0_2,.int .i64 a0_3,.int .i64 a0_4] 86 (0,0)) (by (with_reducible repeat first|apply Q1|apply Q2|apply Q3);exact BK151.out) hb);have n1_:=Aside0.mk (below_step (by repeat (with_reducible first|exact HB.out|apply Q4|apply Q5|apply Q6|apply Q7 GE151.out)) hb);have n2_:=Aside0.mk (hbox);have n3_:=Aside0.mk ((by rw [hg];exact (below_size (by repeat (with_reducible first|exact HB.out|apply Q4|apply Q5|apply Q6|apply Q7 GE151.out))):w.heap.size≤gb156));have n4_:=Aside0.mk ((by rw [hg];exact (below_size (by repeat (with_reducible first|exact HB.out|apply Q4|apply Q5|apply Q6|apply Q7 GE151.out))):w.heap.size≤gb156));have n5_:=Aside0.mk ((by rw [hg];exact Nat.ne_of_lt (blk_lt (g:=gb151) (o:=.cells #[.int .i64 a0_0,.int .i64 a0_1,.int .i64 a0_2,.int .i64 a0_3,.int .i64 a0_4] 86 (0,0)) (by (with_reducible repeat first|apply Q1|apply Q2|apply Q3);exact BK151.out)):gb151≠gb156));have n6_:=Aside0.mk ((by rw [hg];exact Nat.ne_of_gt (blk_lt (g:=gb151) (o:=.cells #[.int .i64 a0_0,.int .i64 a0_1,.int .i64 a0_2,.int .i64 a0_3,.int .i64 a0_4] 86 (0,0)) (by (with_reducible repeat first|apply Q1|apply Q2|apply Q3);exact BK151.out)):gb156≠gb151));clear BK151;clear HB;have BK151:=n0_;have HB:=n1_;have BK156:=n2_;have GW156:=n3_;have GE156:=n4_;have NB151_156:=n5_;have NB156_151:=n6_;clear n0_ n1_ n2_ n3_ n4_ n5_ n6_;clear hb hbox hg;have hnb10:=NB156_151.out;have hnc10:=NB151_156.out;have hcz11_0:w9.cell? ⟨gb156,0,none⟩=some (.int .i64 0):=(blk_cell BK156.out 0).trans rfl;have hcz11_1:w9.cell? ⟨gb156,1,none⟩=some (.int .i64 0):=(blk_cell BK156.out 1).trans rfl;have hcz11_2:w9.cell? ⟨gb156,2,none⟩=some (.int .i64 0):=(blk_cell BK156.out 2).trans rfl;have hcz11_3:w9.cell? ⟨gb156,3,none⟩=some (.int .i64 0):=(blk_cell BK156.out 3).trans rfl;have hfz11_0:=blk_frozen BK156.out 0;have hfz11_1:=blk_frozen BK156.out 1;have hfz11_2:=blk_frozen BK156.out 2;have hfz11_3:=blk_frozen BK156.out 3;have hcz12_0:w9.cell? ⟨gb151,0,none⟩=some (.int .i64 a0_0):=(blk_cell BK151.out 0).trans rfl;have hcz12_1:w9.cell? ⟨gb151,1,none⟩=some (.int .i64 a0_1):=(blk_cell BK151.out 1).trans rfl;have hcz12_2:w9.cell? ⟨gb151,2,none⟩=some (.int .i64 a0_2):=(blk_cell BK151.out 2).trans rfl;have hcz12_3:w9.cell? ⟨gb151,3,none⟩=some (.int .i64 a0_3):=(blk_cell BK151.out 3).trans rfl;have hcz12_4:w9.cell? ⟨gb151,4,none⟩=some (.int .i64 a0_4):=(blk_cell BK151.out 4).trans rfl;have hfz12_0:=blk_frozen BK151.out 0;have hfz12_1:=blk_frozen BK151.out 1;have hfz12_2:=blk_frozen BK151.out 2;have hfz12_3:=blk_frozen BK151.out 3;have hfz12_4:=blk_frozen BK151.out 4)|((with_reducible refine gate_callee (f:=119) rfl ?_);refine goesL_ (some 22) rfl rfl Try.func119 (by kernel_rfl) rfl #[.int .i64 t153,.int .i64 7,.int .i64 5,.int .i64 a0_1] rfl (by (try simp only [List.map_toArray,List.map_cons,List.map_nil]);first|done|rfl|(simp only [List.length_drop,List.length_take];rfl)) ?_;(with_reducible refine (spec_l01Put.calls k t153 7 5 a0_1 t157 _ A4.out).mono ?_);rintro e w' ⟨rfl,⟨nd,rfl⟩⟩;refine ⟨_,rfl,?_⟩)|((with_reducible refine gate_callee (f:=119) rfl ?_);refine goesL_ (some 27) rfl rfl Try.func119 (by kernel_rfl) rfl #[.int .i64 t157,.int .i64 12,.int .i64 20,.int .i64 (wrap64 (Int.tdiv a0_4 4096))] rfl (by (try simp only [List.map_toArray,List.map_cons,List.map_nil]);first|done|rfl|(simp only [List.length_drop,List.length_take];rfl)) ?_;(with_reducible refine (spec_l01Put.calls k t157 12 20 (wrap64 (Int.tdiv a0_4 4096)) t158 _ A5.out).mono ?_);rintro e w' ⟨rfl,⟨nd,rfl⟩⟩;refine ⟨_,rfl,?_⟩))
  go_ret
  exact ⟨by first|rfl|(simp [errW_none,errW_some]<;>rfl)|(simp [*,errW_none,errW_some]<;>rfl),by repeat (with_reducible first|exact HB.out|apply Q4|apply Q5|apply Q6|apply Q7 GE151.out|apply Q7 GE156.out)⟩
 rw [if_neg c3] at H
 obtain ⟨c3b0,c3b1⟩:=eqN c3
 by_cases c13:t152=2
 ·rw [if_pos c13] at H
  obtain ⟨c13b0,c13b1⟩:=eqP c13
  clear c13
  obtain ⟨t159,A14,H⟩:=bindA H
  have H':=Aside0.mk H
  clear H
  go_enter Try.func99,Try.ntmps99
  go_wp2_with (first|((with_reducible refine gate_dst (N:=1) rfl ?_);refine box_event ?hg (N:=1) ?hd (cs:=#[.int .i64 a0_0,.int .i64 a0_1,.int .i64 a0_2,.int .i64 a0_3,.int .i64 a0_4]) (t:=86) ?hr ?_;(case hd=>rfl);(case hg=>rfl);(case hr=>first|(go_simp;done)|(go_simp;rfl));intro gb151 hg w15 hbox hb;have n0_:=Aside0.mk (below_step (by repeat (with_reducible first|exact HB.out|apply Q4|apply Q5|apply Q6)) hb);have n1_:=Aside0.mk (hbox);have n2_:=Aside0.mk ((by rw [hg];exact (below_size (by repeat (with_reducible first|exact HB.out|apply Q4|apply Q5|apply Q6))):w.heap.size≤gb151));have n3_:=Aside0.mk ((by rw [hg];exact (below_size (by repeat (with_reducible first|exact HB.out|apply Q4|apply Q5|apply Q6))):w.heap.size≤gb151));clear HB;have HB:=n0_;have BK151:=n1_;have GW151:=n2_;have GE151:=n3_;clear n0_ n1_ n2_ n3_;clear hb hbox hg;have hcz16_0:w15.cell? ⟨gb151,0,none⟩=some (.int .i64 a0_0):=(blk_cell BK151.out 0).trans rfl;have hcz16_1:w15.cell? ⟨gb151,1,none⟩=some (.int .i64 a0_1):=(blk_cell BK151.out 1).trans rfl;have hcz16_2:w15.cell? ⟨gb151,2,none⟩=some (.int .i64 a0_2):=(blk_cell BK151.out 2).trans rfl;have hcz16_3:w15.cell? ⟨gb151,3,none⟩=some (.int .i64 a0_3):=(blk_cell BK151.out 3).trans rfl;have hcz16_4:w15.cell? ⟨gb151,4,none⟩=some (.int .i64 a0_4):=(blk_cell BK151.out 4).trans rfl;have hfz16_0:=blk_frozen BK151.out 0;have hfz16_1:=blk_frozen BK151.out 1;have hfz16_2:=blk_frozen BK151.out 2;have hfz16_3:=blk_frozen BK151.out 3;have hfz16_4:=blk_frozen BK151.out 4)|((with_reducible refine gate_callee (f:=88) rfl ?_);refine goesL_ (some 12) rfl rfl Try.func88 (by kernel_rfl) rfl #[.int .i64 a0_0] rfl (by (try simp only [List.map_toArray,List.map_cons,List.map_nil]);first|done|rfl|(simp only [List.length_drop,List.length_take];rfl)) ?_;(with_reducible refine (spec_l02Shape.calls a0_0 t152 t153 t154 t155 _ A2.out).mono ?_);rintro e w17 ⟨rfl,hb⟩;refine ⟨_,rfl,?_⟩;have n0_:=Aside0.mk (blk_below (g:=gb151) (o:=.cells #[.int .i64 a0_0,.int .i64 a0_1,.int .i64 a0_2,.int .i64 a0_3,.int .i64 a0_4] 86 (0,0)) (by (with_reducible repeat first|apply Q1|apply Q2|apply Q3);exact BK151.out) hb);have n1_:=Aside0.mk (below_step (by repeat (with_reducible first|exact HB.out|apply Q4|apply Q5|apply Q6|apply Q7 GE151.out)) hb);clear BK151;clear HB;have BK151:=n0_;have HB:=n1_;clear n0_ n1_;(try clear hb);(try clear hb2);(try clear hk);(try clear hi))|((with_reducible refine gate_dst (N:=3) rfl ?_);refine box_event ?hg (N:=3) ?hd (cs:=#[.int .i64 0,.int .i64 0,.int .i64 0,.int .i64 0]) (t:=109) ?hr ?_;(case hd=>rfl);(case hg=>rfl);(case hr=>first|(go_simp;done)|(go_simp;rfl));intro gb156 hg w18 hbox hb;have n0_:=Aside0.mk (blk_below (g:=gb151) (o:=.cells #[.int .i64 a0_0,.int .i64 a0_1,.int .i64 a0_2,.int .i64 a0_3,.int .i64 a0_4] 86 (0,0)) (by (with_reducible repeat first|apply Q1|apply Q2|apply Q3);exact BK151.out) hb);have n1_:=Aside0.mk (below_step (by repeat (with_reducible first|exact HB.out|apply Q4|apply Q5|apply Q6|apply Q7 GE151.out)) hb);have n2_:=Aside0.mk (hbox);have n3_:=Aside0.mk ((by rw [hg];exact (below_size (by repeat (with_reducible first|exact HB.out|apply Q4|apply Q5|apply Q6|apply Q7 GE151.out))):w.heap.size≤gb156));have n4_:=Aside0.mk ((by rw [hg];exact (below_size (by repeat (with_reducible first|exact HB.out|apply Q4|apply Q5|apply Q6|apply Q7 GE151.out))):w.heap.size≤gb156));have n5_:=Aside0.mk ((by rw [hg];exact Nat.ne_of_lt (blk_lt (g:=gb151) (o:=.cells #[.int .i64 a0_0,.int .i64 a0_1,.int .i64 a0_2,.int .i64 a0_3,.int .i64 a0_4] 86 (0,0)) (by (with_reducible repeat first|apply Q1|apply Q2|apply Q3);exact BK151.out)):gb151≠gb156));have n6_:=Aside0.mk ((by rw [hg];exact Nat.ne_of_gt (blk_lt (g:=gb151) (o:=.cells #[.int .i64 a0_0,.int .i64 a0_1,.int .i64 a0_2,.int .i64 a0_3,.int .i64 a0_4] 86 (0,0)) (by (with_reducible repeat first|apply Q1|apply Q2|apply Q3);exact BK151.out)):gb156≠gb151));clear BK151;clear HB;have BK151:=n0_;have HB:=n1_;have BK156:=n2_;have GW156:=n3_;have GE156:=n4_;have NB151_156:=n5_;have NB156_151:=n6_;clear n0_ n1_ n2_ n3_ n4_ n5_ n6_;clear hb hbox hg;have hnb19:=NB156_151.out;have hnc19:=NB151_156.out;have hcz20_0:w18.cell? ⟨gb156,0,none⟩=some (.int .i64 0):=(blk_cell BK156.out 0).trans rfl;have hcz20_1:w18.cell? ⟨gb156,1,none⟩=some (.int .i64 0):=(blk_cell BK156.out 1).trans rfl;have hcz20_2:w18.cell? ⟨gb156,2,none⟩=some (.int .i64 0):=(blk_cell BK156.out 2).trans rfl;have hcz20_3:w18.cell? ⟨gb156,3,none⟩=some (.int .i64 0):=(blk_cell BK156.out 3).trans rfl;have hfz20_0:=blk_frozen BK156.out 0;have hfz20_1:=blk_frozen BK156.out 1;have hfz20_2:=blk_frozen BK156.out 2;have hfz20_3:=blk_frozen BK156.out 3;have hcz21_0:w18.cell? ⟨gb151,0,none⟩=some (.int .i64 a0_0):=(blk_cell BK151.out 0).trans rfl;have hcz21_1:w18.cell? ⟨gb151,1,none⟩=some (.int .i64 a0_1):=(blk_cell BK151.out 1).trans rfl;have hcz21_2:w18.cell? ⟨gb151,2,none⟩=some (.int .i64 a0_2):=(blk_cell BK151.out 2).trans rfl;have hcz21_3:w18.cell? ⟨gb151,3,none⟩=some (.int .i64 a0_3):=(blk_cell BK151.out 3).trans rfl;have hcz21_4:w18.cell? ⟨gb151,4,none⟩=some (.int .i64 a0_4):=(blk_cell BK151.out 4).trans rfl;have hfz21_0:=blk_frozen BK151.out 0;have hfz21_1:=blk_frozen BK151.out 1;have hfz21_2:=blk_frozen BK151.out 2;have hfz21_3:=blk_frozen BK151.out 3;have hfz21_4:=blk_frozen BK151.out 4)|((with_reducible refine gate_callee (f:=119) rfl ?_);refine goesL_ (some 33) rfl rfl Try.func119 (by kernel_rfl) rfl #[.int .i64 t153,.int .i64 7,.int .i64 5,.int .i64 a0_1] rfl (by (try simp only [List.map_toArray,List.map_cons,List.map_nil]);first|done|rfl|(simp only [List.length_drop,List.length_take];rfl)) ?_;(with_reducible refine (spec_l01Put.calls k t153 7 5 a0_1 t159 _ A14.out).mono ?_);rintro e w' ⟨rfl,⟨nd,rfl⟩⟩;refine ⟨_,rfl,?_⟩))
  go_loopg [4,5] k (fun kq v4 v5 w'=>∃ (x4_1:Int) (x5_1:Int),v4=.int .i64 x4_1∧v5=.int .i64 x5_1∧Aside0 (spec_l02Encode.l0 kq x4_1 x5_1 a0_0 a0_1 a0_2 a0_3 a0_4=some r)∧Aside0 (kq≤k)∧Aside0 (w'.heap[gb151]?=some (.cells #[.int .i64 a0_0,.int .i64 a0_1,.int .i64 a0_2,.int .i64 a0_3,.int .i64 a0_4] 86 (0,0)))∧Aside0 (w'.heap[gb156]?=some (.cells #[.int .i64 t152,.int .i64 t153,.int .i64 t154,.int .i64 t155] 109 (0,0)))∧Aside0 (Below w.heap.size w w'))
  case atStart=>exact ⟨(t159),(1),(by first|rfl|(simp;done)|(simp [*];done)),(by first|rfl|(simp;done)|(simp [*];done)),H',⟨Nat.le_refl _⟩,⟨by (with_reducible repeat first|apply Q1|apply Q2|apply Q3);refine blk_far ?_ NB151_156.out _;(with_reducible repeat first|apply Q1|apply Q2|apply Q3);refine blk_far ?_ NB151_156.out _;(with_reducible repeat first|apply Q1|apply Q2|apply Q3);refine blk_far ?_ NB151_156.out _;(with_reducible repeat first|apply Q1|apply Q2|apply Q3);refine blk_far ?_ NB151_156.out _;(with_reducible repeat first|apply Q1|apply Q2|apply Q3);exact BK151.out⟩,⟨by (with_reducible repeat first|apply Q1|apply Q2|apply Q3);refine blk_put (cs:=#[.int .i64 t152,.int .i64 t153,.int .i64 t154,.int .i64 0]) ?_ 3 _ rfl;(with_reducible repeat first|apply Q1|apply Q2|apply Q3);refine blk_put (cs:=#[.int .i64 t152,.int .i64 t153,.int .i64 0,.int .i64 0]) ?_ 2 _ rfl;(with_reducible repeat first|apply Q1|apply Q2|apply Q3);refine blk_put (cs:=#[.int .i64 t152,.int .i64 0,.int .i64 0,.int .i64 0]) ?_ 1 _ rfl;(with_reducible repeat first|apply Q1|apply Q2|apply Q3);refine blk_put (cs:=#[.int .i64 0,.int .i64 0,.int .i64 0,.int .i64 0]) ?_ 0 _ rfl;(with_reducible repeat first|apply Q1|apply Q2|apply Q3);exact BK156.out⟩,⟨by repeat (with_reducible first|exact HB.out|apply Q4|apply Q5|apply Q6|apply Q7 GE151.out|apply Q7 GE156.out)⟩⟩
  clear H'
  try clear c3
  try clear c3b0 c3b1
  try clear c13b0 c13b1
  try clear hcz16_0 hcz16_1 hcz16_2 hcz16_3 hcz16_4
  try clear hcz20_0 hcz20_1 hcz20_2 hcz20_3
  try clear hcz21_0 hcz21_1 hcz21_2 hcz21_3 hcz21_4
  try clear hfz16_0 hfz16_1 hfz16_2 hfz16_3 hfz16_4
  try clear hfz20_0 hfz20_1 hfz20_2 hfz20_3
  try clear hfz21_0 hfz21_1 hfz21_2 hfz21_3 hfz21_4
  obtain ⟨x4_1,x5_1,rfl,rfl,HA,HK1,BK151,BK156,HB⟩:=hrel
  cases gk with
  | zero=>exact absurd HA.out (by simp [spec_l02Encode.l0])
  | succ k1 =>
   have H:=HA.out
   clear HA
   simp only [spec_l02Encode.l0] at H
   by_cases c22:x5_1 < 21
   ·rw [if_pos c22] at H
    have c22b0:decide (x5_1 < 21)=true:=decide_eq_true c22
    clear c22
    have HC23:=Aside0.mk H
    clear H
    go_upto_if 41 with (fail)
    go_cut [6] (fun v6 wc=>∃ (kq:Nat) (x6_22:Int),v6=.int .i64 x6_22∧Aside0 (spec_l02Encode.j1 kq x4_1 x5_1 x6_22 a0_0 a0_1 a0_2 a0_3 a0_4=some r)∧Aside0 (kq≤k1)∧Aside0 (wc.heap[gb151]?=some (.cells #[.int .i64 a0_0,.int .i64 a0_1,.int .i64 a0_2,.int .i64 a0_3,.int .i64 a0_4] 86 (0,0)))∧Aside0 (wc.heap[gb156]?=some (.cells #[.int .i64 t152,.int .i64 t153,.int .i64 t154,.int .i64 t155] 109 (0,0)))∧Aside0 (Below w.heap.size w wc))
    case first=>
     have H:=HC23.out
     clear HC23
     by_cases c24:x5_1 > 10
     ·rw [if_pos c24] at H
      have c24b0:decide (10 < x5_1)=true:=decide_eq_true c24
      clear c24
      (first|rw [c24b0]|(simp only [i64_w,i32_w];rw [c24b0])|skip)
      have H':=Aside0.mk H
      clear H
      go_wp2
      go_meet
      case rel=>exact ⟨_,(wrap64 (9+x5_1)),(by first|rfl|(simp;done)|(simp [*];done)),H',⟨by have:=HK1.out;first|omega|exact Nat.le_refl _⟩,⟨by (with_reducible repeat first|apply Q1|apply Q2|apply Q3);exact BK151.out⟩,⟨by (with_reducible repeat first|apply Q1|apply Q2|apply Q3);exact BK156.out⟩,⟨by repeat (with_reducible first|exact HB.out|apply Q4|apply Q5|apply Q6|apply Q7 GE151.out|apply Q7 GE156.out)⟩⟩
     rw [if_neg c24] at H
     have c24b0:decide (10 < x5_1)=false:=decide_eq_false c24
     clear c24
     (first|rw [c24b0]|(simp only [i64_w,i32_w];rw [c24b0])|skip)
     have H':=Aside0.mk H
     clear H
     go_wp2
     go_meet
     case rel=>exact ⟨_,(wrap64 (20+x5_1)),(by first|rfl|(simp;done)|(simp [*];done)),H',⟨by have:=HK1.out;first|omega|exact Nat.le_refl _⟩,⟨by (with_reducible repeat first|apply Q1|apply Q2|apply Q3);exact BK151.out⟩,⟨by (with_reducible repeat first|apply Q1|apply Q2|apply Q3);exact BK156.out⟩,⟨by repeat (with_reducible first|exact HB.out|apply Q4|apply Q5|apply Q6|apply Q7 GE151.out|apply Q7 GE156.out)⟩⟩
    clear HC23
    try clear c22b0
    obtain ⟨kq,x6_22,rfl,HA,HJ22,BK151,BK156,HB⟩:=hcut
    cases kq with
    | zero=>exact absurd HA.out (by simp [spec_l02Encode.j1])
    | succ kj22 =>
     have H:=HA.out
     clear HA
     simp only [spec_l02Encode.j1] at H
     have HC25:=Aside0.mk H
     clear H
     go_upto_if 45 with (fail)
     go_cut [6] (fun v6 wc=>∃ (kq:Nat) (x6_24:Int),v6=.int .i64 x6_24∧Aside0 (spec_l02Encode.j2 kq x4_1 x5_1 x6_24 a0_0 a0_1 a0_2 a0_3 a0_4=some r)∧Aside0 (kq≤kj22)∧Aside0 (wc.heap[gb151]?=some (.cells #[.int .i64 a0_0,.int .i64 a0_1,.int .i64 a0_2,.int .i64 a0_3,.int .i64 a0_4] 86 (0,0)))∧Aside0 (wc.heap[gb156]?=some (.cells #[.int .i64 t152,.int .i64 t153,.int .i64 t154,.int .i64 t155] 109 (0,0)))∧Aside0 (Below w.heap.size w wc))
     case first=>
      have H:=HC25.out
      clear HC25
      by_cases c26:x5_1 > 11
      ·rw [if_pos c26] at H
       have c26b0:decide (11 < x5_1)=true:=decide_eq_true c26
       clear c26
       (first|rw [c26b0]|(simp only [i64_w,i32_w];rw [c26b0])|skip)
       have H':=Aside0.mk H
       clear H
       go_wp2
       go_meet
       case rel=>exact ⟨_,(x5_1),(by first|rfl|(simp;done)|(simp [*];done)),H',⟨by have:=HK1.out;have:=HJ22.out;first|omega|exact Nat.le_refl _⟩,⟨by (with_reducible repeat first|apply Q1|apply Q2|apply Q3);exact BK151.out⟩,⟨by (with_reducible repeat first|apply Q1|apply Q2|apply Q3);exact BK156.out⟩,⟨by repeat (with_reducible first|exact HB.out|apply Q4|apply Q5|apply Q6|apply Q7 GE151.out|apply Q7 GE156.out)⟩⟩
      rw [if_neg c26] at H
      have c26b0:decide (11 < x5_1)=false:=decide_eq_false c26
      clear c26
      (first|rw [c26b0]|(simp only [i64_w,i32_w];rw [c26b0])|skip)
      have H':=Aside0.mk H
      clear H
      go_wp2
      go_meet
      case rel=>exact ⟨_,(x6_22),(by first|rfl|(simp;done)|(simp [*];done)),H',⟨by have:=HK1.out;have:=HJ22.out;first|omega|exact Nat.le_refl _⟩,⟨by (with_reducible repeat first|apply Q1|apply Q2|apply Q3);exact BK151.out⟩,⟨by (with_reducible repeat first|apply Q1|apply Q2|apply Q3);exact BK156.out⟩,⟨by repeat (with_reducible first|exact HB.out|apply Q4|apply Q5|apply Q6|apply Q7 GE151.out|apply Q7 GE156.out)⟩⟩
     clear HC25
     obtain ⟨kq,x6_24,rfl,HA,HJ24,BK151,BK156,HB⟩:=hcut
     cases kq with
     | zero=>exact absurd HA.out (by simp [spec_l02Encode.j2])
     | succ kj24 =>
      have H:=HA.out
      clear HA
      simp only [spec_l02Encode.j2] at H
      by_cases c27:x5_1=20
      ·rw [if_pos c27] at H
       obtain ⟨c27b0,c27b1⟩:=eqP c27
       clear c27
       obtain ⟨t160,A28,H⟩:=bindA H
       obtain ⟨t161,A29,H⟩:=bindA H
       have H':=Aside0.mk H
       clear H
       have hnb30:=NB151_156.out
       have hnc30:=NB156_151.out
       have hcz31_0:wc.cell? ⟨gb151,0,none⟩=some (.int .i64 a0_0):=(blk_cell BK151.out 0).trans rfl
       have hcz31_1:wc.cell? ⟨gb151,1,none⟩=some (.int .i64 a0_1):=(blk_cell BK151.out 1).trans rfl
       have hcz31_2:wc.cell? ⟨gb151,2,none⟩=some (.int .i64 a0_2):=(blk_cell BK151.out 2).trans rfl
       have hcz31_3:wc.cell? ⟨gb151,3,none⟩=some (.int .i64 a0_3):=(blk_cell BK151.out 3).trans rfl
       have hcz31_4:wc.cell? ⟨gb151,4,none⟩=some (.int .i64 a0_4):=(blk_cell BK151.out 4).trans rfl
       have hfz31_0:=blk_frozen BK151.out 0
       have hfz31_1:=blk_frozen BK151.out 1
       have hfz31_2:=blk_frozen BK151.out 2
       have hfz31_3:=blk_frozen BK151.out 3
       have hfz31_4:=blk_frozen BK151.out 4
       go_wp2_with (first|((with_reducible refine gate_callee (f:=116) rfl ?_);refine goesL_ (some 54) rfl rfl Try.func116 (by kernel_rfl) rfl #[.int .i64 a0_4,.int .i64 x5_1] rfl (by (try simp only [List.map_toArray,List.map_cons,List.map_nil]);first|done|rfl|(simp only [List.length_drop,List.length_take];rfl)) ?_;(with_reducible refine (spec_l01Bit.calls a0_4 x5_1 t160 _ A28.out).mono ?_);rintro e w' ⟨rfl,⟨nd,rfl⟩⟩;refine ⟨_,rfl,?_⟩)|((with_reducible refine gate_callee (f:=119) rfl ?_);refine goesL_ (some 55) rfl rfl Try.func119 (by kernel_rfl) rfl #[.int .i64 x4_1,.int .i64 31,.int .i64 1,.int .i64 t160] rfl (by (try simp only [List.map_toArray,List.map_cons,List.map_nil]);first|done|rfl|(simp only [List.length_drop,List.length_take];rfl)) ?_;(with_reducible refine (spec_l01Put.calls kj24 x4_1 31 1 t160 t161 _ A29.out).mono ?_);rintro e w' ⟨rfl,⟨nd,rfl⟩⟩;refine ⟨_,rfl,?_⟩))
       go_roundg kj24
       case measure=>have:=HK1.out;have:=HJ22.out;have:=HJ24.out;omega
       case rel=>exact ⟨(t161),(wrap64 (x5_1+1)),(by first|rfl|(simp;done)|(simp [*];done)),(by first|rfl|(simp;done)|(simp [*];done)),H',⟨by have:=HK1.out;have:=HJ22.out;have:=HJ24.out;omega⟩,⟨by (with_reducible repeat first|apply Q1|apply Q2|apply Q3);exact BK151.out⟩,⟨by (with_reducible repeat first|apply Q1|apply Q2|apply Q3);exact BK156.out⟩,⟨by repeat (with_reducible first|exact HB.out|apply Q4|apply Q5|apply Q6|apply Q7 GE151.out|apply Q7 GE156.out)⟩⟩
      rw [if_neg c27] at H
      obtain ⟨c27b0,c27b1⟩:=eqN c27
      obtain ⟨t162,A32,H⟩:=bindA H
      obtain ⟨t163,A33,H⟩:=bindA H
      have H':=Aside0.mk H
      clear H
      have hnb34:=NB151_156.out
      have hnc34:=NB156_151.out
      have hcz35_0:wc.cell? ⟨gb151,0,none⟩=some (.int .i64 a0_0):=(blk_cell BK151.out 0).trans rfl
      have hcz35_1:wc.cell? ⟨gb151,1,none⟩=some (.int .i64 a0_1):=(blk_cell BK151.out 1).trans rfl
      have hcz35_2:wc.cell? ⟨gb151,2,none⟩=some (.int .i64 a0_2):=(blk_cell BK151.out 2).trans rfl
      have hcz35_3:wc.cell? ⟨gb151,3,none⟩=some (.int .i64 a0_3):=(blk_cell BK151.out 3).trans rfl
      have hcz35_4:wc.cell? ⟨gb151,4,none⟩=some (.int .i64 a0_4):=(blk_cell BK151.out 4).trans rfl
      have hfz35_0:=blk_frozen BK151.out 0
      have hfz35_1:=blk_frozen BK151.out 1
      have hfz35_2:=blk_frozen BK151.out 2
      have hfz35_3:=blk_frozen BK151.out 3
      have hfz35_4:=blk_frozen BK151.out 4
      go_wp2_with (first|((with_reducible refine gate_callee (f:=116) rfl ?_);refine goesL_ (some 54) rfl rfl Try.func116 (by kernel_rfl) rfl #[.int .i64 a0_4,.int .i64 x5_1] rfl (by (try simp only [List.map_toArray,List.map_cons,List.map_nil]);first|done|rfl|(simp only [List.length_drop,List.length_take];rfl)) ?_;(with_reducible refine (spec_l01Bit.calls a0_4 x5_1 t162 _ A32.out).mono ?_);rintro e w' ⟨rfl,⟨nd,rfl⟩⟩;refine ⟨_,rfl,?_⟩)|((with_reducible refine gate_callee (f:=119) rfl ?_);refine goesL_ (some 55) rfl rfl Try.func119 (by kernel_rfl) rfl #[.int .i64 x4_1,.int .i64 x6_24,.int .i64 1,.int .i64 t162] rfl (by (try simp only [List.map_toArray,List.map_cons,List.map_nil]);first|done|rfl|(simp only [List.length_drop,List.length_take];rfl)) ?_;(with_reducible refine (spec_l01Put.calls kj24 x4_1 x6_24 1 t162 t163 _ A33.out).mono ?_);rintro e w' ⟨rfl,⟨nd,rfl⟩⟩;refine ⟨_,rfl,?_⟩))
      go_roundg kj24
      case measure=>have:=HK1.out;have:=HJ22.out;have:=HJ24.out;omega
      case rel=>exact ⟨(t163),(wrap64 (x5_1+1)),(by first|rfl|(simp;done)|(simp [*];done)),(by first|rfl|(simp;done)|(simp [*];done)),H',⟨by have:=HK1.out;have:=HJ22.out;have:=HJ24.out;omega⟩,⟨by (with_reducible repeat first|apply Q1|apply Q2|apply Q3);exact BK151.out⟩,⟨by (with_reducible repeat first|apply Q1|apply Q2|apply Q3);exact BK156.out⟩,⟨by repeat (with_reducible first|exact HB.out|apply Q4|apply Q5|apply Q6|apply Q7 GE151.out|apply Q7 GE156.out)⟩⟩
   rw [if_neg c22] at H
   have c22b0:decide (x5_1 < 21)=false:=decide_eq_false c22
   clear c22
   obtain rfl:=Option.some.inj H
   go_wp2
   go_ret
   exact ⟨by first|rfl|(simp [errW_none,errW_some]<;>rfl)|(simp [*,errW_none,errW_some]<;>rfl),by repeat (with_reducible first|exact HB.out|apply Q4|apply Q5|apply Q6|apply Q7 GE151.out|apply Q7 GE156.out)⟩
 rw [if_neg c13] at H
 obtain ⟨c13b0,c13b1⟩:=eqN c13
 by_cases c36:t152=3
 ·rw [if_pos c36] at H
  obtain ⟨c36b0,c36b1⟩:=eqP c36
  clear c36
  obtain ⟨t164,A37,H⟩:=bindA H
  obtain ⟨t165,A38,H⟩:=bindA H
  obtain ⟨t166,A39,H⟩:=bindA H
  obtain ⟨t167,A40,H⟩:=bindA H
  obtain rfl:=Option.some.inj H
  go_enter Try.func99,Try.ntmps99
  go_wp2_with (first|((with_reducible refine gate_dst (N:=1) rfl ?_);refine box_event ?hg (N:=1) ?hd (cs:=#[.int .i64 a0_0,.int .i64 a0_1,.int .i64 a0_2,.int .i64 a0_3,.int .i64 a0_4]) (t:=86) ?hr ?_;(case hd=>rfl);(case hg=>rfl);(case hr=>first|(go_simp;done)|(go_simp;rfl));intro gb151 hg w41 hbox hb;have n0_:=Aside0.mk (below_step (by repeat (with_reducible first|exact HB.out|apply Q4|apply Q5|apply Q6)) hb);have n1_:=Aside0.mk (hbox);have n2_:=Aside0.mk ((by rw [hg];exact (below_size (by repeat (with_reducible first|exact HB.out|apply Q4|apply Q5|apply Q6))):w.heap.size≤gb151));have n3_:=Aside0.mk ((by rw [hg];exact (below_size (by repeat (with_reducible first|exact HB.out|apply Q4|apply Q5|apply Q6))):w.heap.size≤gb151));clear HB;have HB:=n0_;have BK151:=n1_;have GW151:=n2_;have GE151:=n3_;clear n0_ n1_ n2_ n3_;clear hb hbox hg;have hcz42_0:w41.cell? ⟨gb151,0,none⟩=some (.int .i64 a0_0):=(blk_cell BK151.out 0).trans rfl;have hcz42_1:w41.cell? ⟨gb151,1,none⟩=some (.int .i64 a0_1):=(blk_cell BK151.out 1).trans rfl;have hcz42_2:w41.cell? ⟨gb151,2,none⟩=some (.int .i64 a0_2):=(blk_cell BK151.out 2).trans rfl;have hcz42_3:w41.cell? ⟨gb151,3,none⟩=some (.int .i64 a0_3):=(blk_cell BK151.out 3).trans rfl;have hcz42_4:w41.cell? ⟨gb151,4,none⟩=some (.int .i64 a0_4):=(blk_cell BK151.out 4).trans rfl;have hfz42_0:=blk_frozen BK151.out 0;have hfz42_1:=blk_frozen BK151.out 1;have hfz42_2:=blk_frozen BK151.out 2;have hfz42_3:=blk_frozen BK151.out 3;have hfz42_4:=blk_frozen BK151.out 4)|((with_reducible refine gate_callee (f:=88) rfl ?_);refine goesL_ (some 12) rfl rfl Try.func88 (by kernel_rfl) rfl #[.int .i64 a0_0] rfl (by (try simp only [List.map_toArray,List.map_cons,List.map_nil]);first|done|rfl|(simp only [List.length_drop,List.length_take];rfl)) ?_;(with_reducible refine (spec_l02Shape.calls a0_0 t152 t153 t154 t155 _ A2.out).mono ?_);rintro e w43 ⟨rfl,hb⟩;refine ⟨_,rfl,?_⟩;have n0_:=Aside0.mk (blk_below (g:=gb151) (o:=.cells #[.int .i64 a0_0,.int .i64 a0_1,.int .i64 a0_2,.int .i64 a0_3,.int .i64 a0_4] 86 (0,0)) (by (with_reducible repeat first|apply Q1|apply Q2|apply Q3);exact BK151.out) hb);have n1_:=Aside0.mk (below_step (by repeat (with_reducible first|exact HB.out|apply Q4|apply Q5|apply Q6|apply Q7 GE151.out)) hb);clear BK151;clear HB;have BK151:=n0_;have HB:=n1_;clear n0_ n1_;(try clear hb);(try clear hb2);(try clear hk);(try clear hi))|((with_reducible refine gate_dst (N:=3) rfl ?_);refine box_event ?hg (N:=3) ?hd (cs:=#[.int .i64 0,.int .i64 0,.int .i64 0,.int .i64 0]) (t:=109) ?hr ?_;(case hd=>rfl);(case hg=>rfl);(case hr=>first|(go_simp;done)|(go_simp;rfl));intro gb156 hg w44 hbox hb;have n0_:=Aside0.mk (blk_below (g:=gb151) (o:=.cells #[.int .i64 a0_0,.int .i64 a0_1,.int .i64 a0_2,.int .i64 a0_3,.int .i64 a0_4] 86 (0,0)) (by (with_reducible repeat first|apply Q1|apply Q2|apply Q3);exact BK151.out) hb);have n1_:=Aside0.mk (below_step (by repeat (with_reducible first|exact HB.out|apply Q4|apply Q5|apply Q6|apply Q7 GE151.out)) hb);have n2_:=Aside0.mk (hbox);have n3_:=Aside0.mk ((by rw [hg];exact (below_size (by repeat (with_reducible first|exact HB.out|apply Q4|apply Q5|apply Q6|apply Q7 GE151.out))):w.heap.size≤gb156));have n4_:=Aside0.mk ((by rw [hg];exact (below_size (by repeat (with_reducible first|exact HB.out|apply Q4|apply Q5|apply Q6|apply Q7 GE151.out))):w.heap.size≤gb156));have n5_:=Aside0.mk ((by rw [hg];exact Nat.ne_of_lt (blk_lt (g:=gb151) (o:=.cells #[.int .i64 a0_0,.int .i64 a0_1,.int .i64 a0_2,.int .i64 a0_3,.int .i64 a0_4] 86 (0,0)) (by (with_reducible repeat first|apply Q1|apply Q2|apply Q3);exact BK151.out)):gb151≠gb156));have n6_:=Aside0.mk ((by rw [hg];exact Nat.ne_of_gt (blk_lt (g:=gb151) (o:=.cells #[.int .i64 a0_0,.int .i64 a0_1,.int .i64 a0_2,.int .i64 a0_3,.int .i64 a0_4] 86 (0,0)) (by (with_reducible repeat first|apply Q1|apply Q2|apply Q3);exact BK151.out)):gb156≠gb151));clear BK151;clear HB;have BK151:=n0_;have HB:=n1_;have BK156:=n2_;have GW156:=n3_;have GE156:=n4_;have NB151_156:=n5_;have NB156_151:=n6_;clear n0_ n1_ n2_ n3_ n4_ n5_ n6_;clear hb hbox hg;have hnb45:=NB156_151.out;have hnc45:=NB151_156.out;have hcz46_0:w44.cell? ⟨gb156,0,none⟩=some (.int .i64 0):=(blk_cell BK156.out 0).trans rfl;have hcz46_1:w44.cell? ⟨gb156,1,none⟩=some (.int .i64 0):=(blk_cell BK156.out 1).trans rfl;have hcz46_2:w44.cell? ⟨gb156,2,none⟩=some (.int .i64 0):=(blk_cell BK156.out 2).trans rfl;have hcz46_3:w44.cell? ⟨gb156,3,none⟩=some (.int .i64 0):=(blk_cell BK156.out 3).trans rfl;have hfz46_0:=blk_frozen BK156.out 0;have hfz46_1:=blk_frozen BK156.out 1;have hfz46_2:=blk_frozen BK156.out 2;have hfz46_3:=blk_frozen BK156.out 3;have hcz47_0:w44.cell? ⟨gb151,0,none⟩=some (.int .i64 a0_0):=(blk_cell BK151.out 0).trans rfl;have hcz47_1:w44.cell? ⟨gb151,1,none⟩=some (.int .i64 a0_1):=(blk_cell BK151.out 1).trans rfl;have hcz47_2:w44.cell? ⟨gb151,2,none⟩=some (.int .i64 a0_2):=(blk_cell BK151.out 2).trans rfl;have hcz47_3:w44.cell? ⟨gb151,3,none⟩=some (.int .i64 a0_3):=(blk_cell BK151.out 3).trans rfl;have hcz47_4:w44.cell? ⟨gb151,4,none⟩=some (.int .i64 a0_4):=(blk_cell BK151.out 4).trans rfl;have hfz47_0:=blk_frozen BK151.out 0;have hfz47_1:=blk_frozen BK151.out 1;have hfz47_2:=blk_frozen BK151.out 2;have hfz47_3:=blk_frozen BK151.out 3;have hfz47_4:=blk_frozen BK151.out 4)|((with_reducible refine gate_callee (f:=119) rfl ?_);refine goesL_ (some 61) rfl rfl Try.func119 (by kernel_rfl) rfl #[.int .i64 t153,.int .i64 7,.int .i64 5,.int .i64 a0_1] rfl (by (try simp only [List.map_toArray,List.map_cons,List.map_nil]);first|done|rfl|(simp only [List.length_drop,List.length_take];rfl)) ?_;(with_reducible refine (spec_l01Put.calls k t153 7 5 a0_1 t164 _ A37.out).mono ?_);rintro e w' ⟨rfl,⟨nd,rfl⟩⟩;refine ⟨_,rfl,?_⟩)|((with_reducible refine gate_callee (f:=119) rfl ?_);refine goesL_ (some 65) rfl rfl Try.func119 (by kernel_rfl) rfl #[.int .i64 t164,.int .i64 12,.int .i64 3,.int .i64 t154] rfl (by (try simp only [List.map_toArray,List.map_cons,List.map_nil]);first|done|rfl|(simp only [List.length_drop,List.length_take];rfl)) ?_;(with_reducible refine (spec_l01Put.calls k t164 12 3 t154 t165 _ A38.out).mono ?_);rintro e w' ⟨rfl,⟨nd,rfl⟩⟩;refine ⟨_,rfl,?_⟩)|((with_reducible refine gate_callee (f:=119) rfl ?_);refine goesL_ (some 69) rfl rfl Try.func119 (by kernel_rfl) rfl #[.int .i64 t165,.int .i64 15,.int .i64 5,.int .i64 a0_2] rfl (by (try simp only [List.map_toArray,List.map_cons,List.map_nil]);first|done|rfl|(simp only [List.length_drop,List.length_take];rfl)) ?_;(with_reducible refine (spec_l01Put.calls k t165 15 5 a0_2 t166 _ A39.out).mono ?_);rintro e w' ⟨rfl,⟨nd,rfl⟩⟩;refine ⟨_,rfl,?_⟩)|((with_reducible refine gate_callee (f:=119) rfl ?_);refine goesL_ (some 73) rfl rfl Try.func119 (by kernel_rfl) rfl #[.int .i64 t166,.int .i64 20,.int .i64 12,.int .i64 a0_4] rfl (by (try simp only [List.map_toArray,List.map_cons,List.map_nil]);first|done|rfl|(simp only [List.length_drop,List.length_take];rfl)) ?_;(with_reducible refine (spec_l01Put.calls k t166 20 12 a0_4 t167 _ A40.out).mono ?_);rintro e w' ⟨rfl,⟨nd,rfl⟩⟩;refine ⟨_,rfl,?_⟩))
  go_ret
  exact ⟨by first|rfl|(simp [errW_none,errW_some]<;>rfl)|(simp [*,errW_none,errW_some]<;>rfl),by repeat (with_reducible first|exact HB.out|apply Q4|apply Q5|apply Q6|apply Q7 GE151.out|apply Q7 GE156.out)⟩
 rw [if_neg c36] at H
 obtain ⟨c36b0,c36b1⟩:=eqN c36
 by_cases c48:t152=4
 ·rw [if_pos c48] at H
  obtain ⟨c48b0,c48b1⟩:=eqP c48
  clear c48
  obtain ⟨t168,A49,H⟩:=bindA H
  obtain ⟨t169,A50,H⟩:=bindA H
  obtain ⟨t170,A51,H⟩:=bindA H
  have H':=Aside0.mk H
  clear H
  go_enter Try.func99,Try.ntmps99
  go_wp2_with (first|((with_reducible refine gate_dst (N:=1) rfl ?_);refine box_event ?hg (N:=1) ?hd (cs:=#[.int .i64 a0_0,.int .i64 a0_1,.int .i64 a0_2,.int .i64 a0_3,.int .i64 a0_4]) (t:=86) ?hr ?_;(case hd=>rfl);(case hg=>rfl);(case hr=>first|(go_simp;done)|(go_simp;rfl));intro gb151 hg w52 hbox hb;have n0_:=Aside0.mk (below_step (by repeat (with_reducible first|exact HB.out|apply Q4|apply Q5|apply Q6)) hb);have n1_:=Aside0.mk (hbox);have n2_:=Aside0.mk ((by rw [hg];exact (below_size (by repeat (with_reducible first|exact HB.out|apply Q4|apply Q5|apply Q6))):w.heap.size≤gb151));have n3_:=Aside0.mk ((by rw [hg];exact (below_size (by repeat (with_reducible first|exact HB.out|apply Q4|apply Q5|apply Q6))):w.heap.size≤gb151));clear HB;have HB:=n0_;have BK151:=n1_;have GW151:=n2_;have GE151:=n3_;clear n0_ n1_ n2_ n3_;clear hb hbox hg;have hcz53_0:w52.cell? ⟨gb151,0,none⟩=some (.int .i64 a0_0):=(blk_cell BK151.out 0).trans rfl;have hcz53_1:w52.cell? ⟨gb151,1,none⟩=some (.int .i64 a0_1):=(blk_cell BK151.out 1).trans rfl;have hcz53_2:w52.cell? ⟨gb151,2,none⟩=some (.int .i64 a0_2):=(blk_cell BK151.out 2).trans rfl;have hcz53_3:w52.cell? ⟨gb151,3,none⟩=some (.int .i64 a0_3):=(blk_cell BK151.out 3).trans rfl;have hcz53_4:w52.cell? ⟨gb151,4,none⟩=some (.int .i64 a0_4):=(blk_cell BK151.out 4).trans rfl;have hfz53_0:=blk_frozen BK151.out 0;have hfz53_1:=blk_frozen BK151.out 1;have hfz53_2:=blk_frozen BK151.out 2;have hfz53_3:=blk_frozen BK151.out 3;have hfz53_4:=blk_frozen BK151.out 4)|((with_reducible refine gate_callee (f:=88) rfl ?_);refine goesL_ (some 12) rfl rfl Try.func88 (by kernel_rfl) rfl #[.int .i64 a0_0] rfl (by (try simp only [List.map_toArray,List.map_cons,List.map_nil]);first|done|rfl|(simp only [List.length_drop,List.length_take];rfl)) ?_;(with_reducible refine (spec_l02Shape.calls a0_0 t152 t153 t154 t155 _ A2.out).mono ?_);rintro e w54 ⟨rfl,hb⟩;refine ⟨_,rfl,?_⟩;have n0_:=Aside0.mk (blk_below (g:=gb151) (o:=.cells #[.int .i64 a0_0,.int .i64 a0_1,.int .i64 a0_2,.int .i64 a0_3,.int .i64 a0_4] 86 (0,0)) (by (with_reducible repeat first|apply Q1|apply Q2|apply Q3);exact BK151.out) hb);have n1_:=Aside0.mk (below_step (by repeat (with_reducible first|exact HB.out|apply Q4|apply Q5|apply Q6|apply Q7 GE151.out)) hb);clear BK151;clear HB;have BK151:=n0_;have HB:=n1_;clear n0_ n1_;(try clear hb);(try clear hb2);(try clear hk);(try clear hi))|((with_reducible refine gate_dst (N:=3) rfl ?_);refine box_event ?hg (N:=3) ?hd (cs:=#[.int .i64 0,.int .i64 0,.int .i64 0,.int .i64 0]) (t:=109) ?hr ?_;(case hd=>rfl);(case hg=>rfl);(case hr=>first|(go_simp;done)|(go_simp;rfl));intro gb156 hg w55 hbox hb;have n0_:=Aside0.mk (blk_below (g:=gb151) (o:=.cells #[.int .i64 a0_0,.int .i64 a0_1,.int .i64 a0_2,.int .i64 a0_3,.int .i64 a0_4] 86 (0,0)) (by (with_reducible repeat first|apply Q1|apply Q2|apply Q3);exact BK151.out) hb);have n1_:=Aside0.mk (below_step (by repeat (with_reducible first|exact HB.out|apply Q4|apply Q5|apply Q6|apply Q7 GE151.out)) hb);have n2_:=Aside0.mk (hbox);have n3_:=Aside0.mk ((by rw [hg];exact (below_size (by repeat (with_reducible first|exact HB.out|apply Q4|apply Q5|apply Q6|apply Q7 GE151.out))):w.heap.size≤gb156));have n4_:=Aside0.mk ((by rw [hg];exact (below_size (by repeat (with_reducible first|exact HB.out|apply Q4|apply Q5|apply Q6|apply Q7 GE151.out))):w.heap.size≤gb156));have n5_:=Aside0.mk ((by rw [hg];exact Nat.ne_of_lt (blk_lt (g:=gb151) (o:=.cells #[.int .i64 a0_0,.int .i64 a0_1,.int .i64 a0_2,.int .i64 a0_3,.int .i64 a0_4] 86 (0,0)) (by (with_reducible repeat first|apply Q1|apply Q2|apply Q3);exact BK151.out)):gb151≠gb156));have n6_:=Aside0.mk ((by rw [hg];exact Nat.ne_of_gt (blk_lt (g:=gb151) (o:=.cells #[.int .i64 a0_0,.int .i64 a0_1,.int .i64 a0_2,.int .i64 a0_3,.int .i64 a0_4] 86 (0,0)) (by (with_reducible repeat first|apply Q1|apply Q2|apply Q3);exact BK151.out)):gb156≠gb151));clear BK151;clear HB;have BK151:=n0_;have HB:=n1_;have BK156:=n2_;have GW156:=n3_;have GE156:=n4_;have NB151_156:=n5_;have NB156_151:=n6_;clear n0_ n1_ n2_ n3_ n4_ n5_ n6_;clear hb hbox hg;have hnb56:=NB156_151.out;have hnc56:=NB151_156.out;have hcz57_0:w55.cell? ⟨gb156,0,none⟩=some (.int .i64 0):=(blk_cell BK156.out 0).trans rfl;have hcz57_1:w55.cell? ⟨gb156,1,none⟩=some (.int .i64 0):=(blk_cell BK156.out 1).trans rfl;have hcz57_2:w55.cell? ⟨gb156,2,none⟩=some (.int .i64 0):=(blk_cell BK156.out 2).trans rfl;have hcz57_3:w55.cell? ⟨gb156,3,none⟩=some (.int .i64 0):=(blk_cell BK156.out 3).trans rfl;have hfz57_0:=blk_frozen BK156.out 0;have hfz57_1:=blk_frozen BK156.out 1;have hfz57_2:=blk_frozen BK156.out 2;have hfz57_3:=blk_frozen BK156.out 3)|((with_reducible refine gate_callee (f:=119) rfl ?_);refine goesL_ (some 79) rfl rfl Try.func119 (by kernel_rfl) rfl #[.int .i64 t153,.int .i64 12,.int .i64 3,.int .i64 t154] rfl (by (try simp only [List.map_toArray,List.map_cons,List.map_nil]);first|done|rfl|(simp only [List.length_drop,List.length_take];rfl)) ?_;(with_reducible refine (spec_l01Put.calls k t153 12 3 t154 t168 _ A49.out).mono ?_);rintro e w' ⟨rfl,⟨nd,rfl⟩⟩;refine ⟨_,rfl,?_⟩;have hcz58_0:w55.cell? ⟨gb151,0,none⟩=some (.int .i64 a0_0):=(blk_cell BK151.out 0).trans rfl;have hcz58_1:w55.cell? ⟨gb151,1,none⟩=some (.int .i64 a0_1):=(blk_cell BK151.out 1).trans rfl;have hcz58_2:w55.cell? ⟨gb151,2,none⟩=some (.int .i64 a0_2):=(blk_cell BK151.out 2).trans rfl;have hcz58_3:w55.cell? ⟨gb151,3,none⟩=some (.int .i64 a0_3):=(blk_cell BK151.out 3).trans rfl;have hcz58_4:w55.cell? ⟨gb151,4,none⟩=some (.int .i64 a0_4):=(blk_cell BK151.out 4).trans rfl;have hfz58_0:=blk_frozen BK151.out 0;have hfz58_1:=blk_frozen BK151.out 1;have hfz58_2:=blk_frozen BK151.out 2;have hfz58_3:=blk_frozen BK151.out 3;have hfz58_4:=blk_frozen BK151.out 4)|((with_reducible refine gate_callee (f:=119) rfl ?_);refine goesL_ (some 83) rfl rfl Try.func119 (by kernel_rfl) rfl #[.int .i64 t168,.int .i64 15,.int .i64 5,.int .i64 a0_2] rfl (by (try simp only [List.map_toArray,List.map_cons,List.map_nil]);first|done|rfl|(simp only [List.length_drop,List.length_take];rfl)) ?_;(with_reducible refine (spec_l01Put.calls k t168 15 5 a0_2 t169 _ A50.out).mono ?_);rintro e w' ⟨rfl,⟨nd,rfl⟩⟩;refine ⟨_,rfl,?_⟩)|((with_reducible refine gate_callee (f:=119) rfl ?_);refine goesL_ (some 87) rfl rfl Try.func119 (by kernel_rfl) rfl #[.int .i64 t169,.int .i64 20,.int .i64 5,.int .i64 a0_3] rfl (by (try simp only [List.map_toArray,List.map_cons,List.map_nil]);first|done|rfl|(simp only [List.length_drop,List.length_take];rfl)) ?_;(with_reducible refine (spec_l01Put.calls k t169 20 5 a0_3 t170 _ A51.out).mono ?_);rintro e w' ⟨rfl,⟨nd,rfl⟩⟩;refine ⟨_,rfl,?_⟩))
  go_loopg [4,7] k (fun kq v4 v7 w'=>∃ (x4_1:Int) (x7_1:Int),v4=.int .i64 x4_1∧v7=.int .i64 x7_1∧Aside0 (spec_l02Encode.l1 kq x4_1 x7_1 a0_0 a0_1 a0_2 a0_3 a0_4=some r)∧Aside0 (kq≤k)∧Aside0 (w'.heap[gb151]?=some (.cells #[.int .i64 a0_0,.int .i64 a0_1,.int .i64 a0_2,.int .i64 a0_3,.int .i64 a0_4] 86 (0,0)))∧Aside0 (w'.heap[gb156]?=some (.cells #[.int .i64 t152,.int .i64 t153,.int .i64 t154,.int .i64 t155] 109 (0,0)))∧Aside0 (Below w.heap.size w w'))
  case atStart=>exact ⟨(t170),(1),(by first|rfl|(simp;done)|(simp [*];done)),(by first|rfl|(simp;done)|(simp [*];done)),H',⟨Nat.le_refl _⟩,⟨by (with_reducible repeat first|apply Q1|apply Q2|apply Q3);refine blk_far ?_ NB151_156.out _;(with_reducible repeat first|apply Q1|apply Q2|apply Q3);refine blk_far ?_ NB151_156.out _;(with_reducible repeat first|apply Q1|apply Q2|apply Q3);refine blk_far ?_ NB151_156.out _;(with_reducible repeat first|apply Q1|apply Q2|apply Q3);refine blk_far ?_ NB151_156.out _;(with_reducible repeat first|apply Q1|apply Q2|apply Q3);exact BK151.out⟩,⟨by (with_reducible repeat first|apply Q1|apply Q2|apply Q3);refine blk_put (cs:=#[.int .i64 t152,.int .i64 t153,.int .i64 t154,.int .i64 0]) ?_ 3 _ rfl;(with_reducible repeat first|apply Q1|apply Q2|apply Q3);refine blk_put (cs:=#[.int .i64 t152,.int .i64 t153,.int .i64 0,.int .i64 0]) ?_ 2 _ rfl;(with_reducible repeat first|apply Q1|apply Q2|apply Q3);refine blk_put (cs:=#[.int .i64 t152,.int .i64 0,.int .i64 0,.int .i64 0]) ?_ 1 _ rfl;(with_reducible repeat first|apply Q1|apply Q2|apply Q3);refine blk_put (cs:=#[.int .i64 0,.int .i64 0,.int .i64 0,.int .i64 0]) ?_ 0 _ rfl;(with_reducible repeat first|apply Q1|apply Q2|apply Q3);exact BK156.out⟩,⟨by repeat (with_reducible first|exact HB.out|apply Q4|apply Q5|apply Q6|apply Q7 GE151.out|apply Q7 GE156.out)⟩⟩
  clear H'
  try clear c3
  try clear c3b0 c3b1
  try clear c13
  try clear c13b0 c13b1
  try clear c36
  try clear c36b0 c36b1
  try clear c48b0 c48b1
  try clear hcz53_0 hcz53_1 hcz53_2 hcz53_3 hcz53_4
  try clear hcz57_0 hcz57_1 hcz57_2 hcz57_3
  try clear hcz58_0 hcz58_1 hcz58_2 hcz58_3 hcz58_4
  try clear hfz53_0 hfz53_1 hfz53_2 hfz53_3 hfz53_4
  try clear hfz57_0 hfz57_1 hfz57_2 hfz57_3
  try clear hfz58_0 hfz58_1 hfz58_2 hfz58_3 hfz58_4
  obtain ⟨x4_1,x7_1,rfl,rfl,HA,HK1,BK151,BK156,HB⟩:=hrel
  cases gk with
  | zero=>exact absurd HA.out (by simp [spec_l02Encode.l1])
  | succ k1 =>
   have H:=HA.out
   clear HA
   simp only [spec_l02Encode.l1] at H
   by_cases c59:x7_1 < 13
   ·rw [if_pos c59] at H
    have c59b0:decide (x7_1 < 13)=true:=decide_eq_true c59
    clear c59
    have HC60:=Aside0.mk H
    clear H
    go_upto_if 95 with (fail)
    go_cut [8] (fun v8 wc=>∃ (kq:Nat) (x8_59:Int),v8=.int .i64 x8_59∧Aside0 (spec_l02Encode.j4 kq x4_1 x7_1 x8_59 a0_0 a0_1 a0_2 a0_3 a0_4=some r)∧Aside0 (kq≤k1)∧Aside0 (wc.heap[gb151]?=some (.cells #[.int .i64 a0_0,.int .i64 a0_1,.int .i64 a0_2,.int .i64 a0_3,.int .i64 a0_4] 86 (0,0)))∧Aside0 (wc.heap[gb156]?=some (.cells #[.int .i64 t152,.int .i64 t153,.int .i64 t154,.int .i64 t155] 109 (0,0)))∧Aside0 (Below w.heap.size w wc))
    case first=>
     have H:=HC60.out
     clear HC60
     by_cases c61:x7_1 > 4
     ·rw [if_pos c61] at H
      have c61b0:decide (4 < x7_1)=true:=decide_eq_true c61
      clear c61
      (first|rw [c61b0]|(simp only [i64_w,i32_w];rw [c61b0])|skip)
      have H':=Aside0.mk H
      clear H
      go_wp2
      go_meet
      case rel=>exact ⟨_,(wrap64 (20+x7_1)),(by first|rfl|(simp;done)|(simp [*];done)),H',⟨by have:=HK1.out;first|omega|exact Nat.le_refl _⟩,⟨by (with_reducible repeat first|apply Q1|apply Q2|apply Q3);exact BK151.out⟩,⟨by (with_reducible repeat first|apply Q1|apply Q2|apply Q3);exact BK156.out⟩,⟨by repeat (with_reducible first|exact HB.out|apply Q4|apply Q5|apply Q6|apply Q7 GE151.out|apply Q7 GE156.out)⟩⟩
     rw [if_neg c61] at H
     have c61b0:decide (4 < x7_1)=false:=decide_eq_false c61
     clear c61
     (first|rw [c61b0]|(simp only [i64_w,i32_w];rw [c61b0])|skip)
     have H':=Aside0.mk H
     clear H
     go_wp2
     go_meet
     case rel=>exact ⟨_,(wrap64 (7+x7_1)),(by first|rfl|(simp;done)|(simp [*];done)),H',⟨by have:=HK1.out;first|omega|exact Nat.le_refl _⟩,⟨by (with_reducible repeat first|apply Q1|apply Q2|apply Q3);exact BK151.out⟩,⟨by (with_reducible repeat first|apply Q1|apply Q2|apply Q3);exact BK156.out⟩,⟨by repeat (with_reducible first|exact HB.out|apply Q4|apply Q5|apply Q6|apply Q7 GE151.out|apply Q7 GE156.out)⟩⟩
    clear HC60
    try clear c59b0
    obtain ⟨kq,x8_59,rfl,HA,HJ59,BK151,BK156,HB⟩:=hcut
    cases kq with
    | zero=>exact absurd HA.out (by simp [spec_l02Encode.j4])
    | succ kj59 =>
     have H:=HA.out
     clear HA
     simp only [spec_l02Encode.j4] at H
     have HC62:=Aside0.mk H
     clear H
     go_upto_if 99 with (fail)
     go_cut [8] (fun v8 wc=>∃ (kq:Nat) (x8_61:Int),v8=.int .i64 x8_61∧Aside0 (spec_l02Encode.j5 kq x4_1 x7_1 x8_61 a0_0 a0_1 a0_2 a0_3 a0_4=some r)∧Aside0 (kq≤kj59)∧Aside0 (wc.heap[gb151]?=some (.cells #[.int .i64 a0_0,.int .i64 a0_1,.int .i64 a0_2,.int .i64 a0_3,.int .i64 a0_4] 86 (0,0)))∧Aside0 (wc.heap[gb156]?=some (.cells #[.int .i64 t152,.int .i64 t153,.int .i64 t154,.int .i64 t155] 109 (0,0)))∧Aside0 (Below w.heap.size w wc))
     case first=>
      have H:=HC62.out
      clear HC62
      by_cases c63:x7_1=11
      ·rw [if_pos c63] at H
       obtain ⟨c63b0,c63b1⟩:=eqP c63
       clear c63
       (first|rw [c63b0]|(simp only [i64_w,i32_w];rw [c63b0])|skip)
       have H':=Aside0.mk H
       clear H
       go_wp2
       go_meet
       case rel=>exact ⟨_,(7),(by first|rfl|(simp;done)|(simp [*];done)),H',⟨by have:=HK1.out;have:=HJ59.out;first|omega|exact Nat.le_refl _⟩,⟨by (with_reducible repeat first|apply Q1|apply Q2|apply Q3);exact BK151.out⟩,⟨by (with_reducible repeat first|apply Q1|apply Q2|apply Q3);exact BK156.out⟩,⟨by repeat (with_reducible first|exact HB.out|apply Q4|apply Q5|apply Q6|apply Q7 GE151.out|apply Q7 GE156.out)⟩⟩
      rw [if_neg c63] at H
      obtain ⟨c63b0,c63b1⟩:=eqN c63
      (first|rw [c63b0]|(simp only [i64_w,i32_w];rw [c63b0])|skip)
      have H':=Aside0.mk H
      clear H
      go_wp2
      go_meet
      case rel=>exact ⟨_,(x8_59),(by first|rfl|(simp;done)|(simp [*];done)),H',⟨by have:=HK1.out;have:=HJ59.out;first|omega|exact Nat.le_refl _⟩,⟨by (with_reducible repeat first|apply Q1|apply Q2|apply Q3);exact BK151.out⟩,⟨by (with_reducible repeat first|apply Q1|apply Q2|apply Q3);exact BK156.out⟩,⟨by repeat (with_reducible first|exact HB.out|apply Q4|apply Q5|apply Q6|apply Q7 GE151.out|apply Q7 GE156.out)⟩⟩
     clear HC62
     obtain ⟨kq,x8_61,rfl,HA,HJ61,BK151,BK156,HB⟩:=hcut
     cases kq with
     | zero=>exact absurd HA.out (by simp [spec_l02Encode.j5])
     | succ kj61 =>
      have H:=HA.out
      clear HA
      simp only [spec_l02Encode.j5] at H
      by_cases c64:x7_1=12
      ·rw [if_pos c64] at H
       obtain ⟨c64b0,c64b1⟩:=eqP c64
       clear c64
       obtain ⟨t171,A65,H⟩:=bindA H
       obtain ⟨t172,A66,H⟩:=bindA H
       have H':=Aside0.mk H
       clear H
       have hnb67:=NB151_156.out
       have hnc67:=NB156_151.out
       have hcz68_0:wc.cell? ⟨gb151,0,none⟩=some (.int .i64 a0_0):=(blk_cell BK151.out 0).trans rfl
       have hcz68_1:wc.cell? ⟨gb151,1,none⟩=some (.int .i64 a0_1):=(blk_cell BK151.out 1).trans rfl
       have hcz68_2:wc.cell? ⟨gb151,2,none⟩=some (.int .i64 a0_2):=(blk_cell BK151.out 2).trans rfl
       have hcz68_3:wc.cell? ⟨gb151,3,none⟩=some (.int .i64 a0_3):=(blk_cell BK151.out 3).trans rfl
       have hcz68_4:wc.cell? ⟨gb151,4,none⟩=some (.int .i64 a0_4):=(blk_cell BK151.out 4).trans rfl
       have hfz68_0:=blk_frozen BK151.out 0
       have hfz68_1:=blk_frozen BK151.out 1
       have hfz68_2:=blk_frozen BK151.out 2
       have hfz68_3:=blk_frozen BK151.out 3
       have hfz68_4:=blk_frozen BK151.out 4
       go_wp2_with (first|((with_reducible refine gate_callee (f:=116) rfl ?_);refine goesL_ (some 107) rfl rfl Try.func116 (by kernel_rfl) rfl #[.int .i64 a0_4,.int .i64 x7_1] rfl (by (try simp only [List.map_toArray,List.map_cons,List.map_nil]);first|done|rfl|(simp only [List.length_drop,List.length_take];rfl)) ?_;(with_reducible refine (spec_l01Bit.calls a0_4 x7_1 t171 _ A65.out).mono ?_);rintro e w' ⟨rfl,⟨nd,rfl⟩⟩;refine ⟨_,rfl,?_⟩)|((with_reducible refine gate_callee (f:=119) rfl ?_);refine goesL_ (some 108) rfl rfl Try.func119 (by kernel_rfl) rfl #[.int .i64 x4_1,.int .i64 31,.int .i64 1,.int .i64 t171] rfl (by (try simp only [List.map_toArray,List.map_cons,List.map_nil]);first|done|rfl|(simp only [List.length_drop,List.length_take];rfl)) ?_;(with_reducible refine (spec_l01Put.calls kj61 x4_1 31 1 t171 t172 _ A66.out).mono ?_);rintro e w' ⟨rfl,⟨nd,rfl⟩⟩;refine ⟨_,rfl,?_⟩))
       go_roundg kj61
       case measure=>have:=HK1.out;have:=HJ59.out;have:=HJ61.out;omega
       case rel=>exact ⟨(t172),(wrap64 (x7_1+1)),(by first|rfl|(simp;done)|(simp [*];done)),(by first|rfl|(simp;done)|(simp [*];done)),H',⟨by have:=HK1.out;have:=HJ59.out;have:=HJ61.out;omega⟩,⟨by (with_reducible repeat first|apply Q1|apply Q2|apply Q3);exact BK151.out⟩,⟨by (with_reducible repeat first|apply Q1|apply Q2|apply Q3);exact BK156.out⟩,⟨by repeat (with_reducible first|exact HB.out|apply Q4|apply Q5|apply Q6|apply Q7 GE151.out|apply Q7 GE156.out)⟩⟩
      rw [if_neg c64] at H
      obtain ⟨c64b0,c64b1⟩:=eqN c64
      obtain ⟨t173,A69,H⟩:=bindA H
      obtain ⟨t174,A70,H⟩:=bindA H
      have H':=Aside0.mk H
      clear H
      have hnb71:=NB151_156.out
      have hnc71:=NB156_151.out
      have hcz72_0:wc.cell? ⟨gb151,0,none⟩=some (.int .i64 a0_0):=(blk_cell BK151.out 0).trans rfl
      have hcz72_1:wc.cell? ⟨gb151,1,none⟩=some (.int .i64 a0_1):=(blk_cell BK151.out 1).trans rfl
      have hcz72_2:wc.cell? ⟨gb151,2,none⟩=some (.int .i64 a0_2):=(blk_cell BK151.out 2).trans rfl
      have hcz72_3:wc.cell? ⟨gb151,3,none⟩=some (.int .i64 a0_3):=(blk_cell BK151.out 3).trans rfl
      have hcz72_4:wc.cell? ⟨gb151,4,none⟩=some (.int .i64 a0_4):=(blk_cell BK151.out 4).trans rfl
      have hfz72_0:=blk_frozen BK151.out 0
      have hfz72_1:=blk_frozen BK151.out 1
      have hfz72_2:=blk_frozen BK151.out 2
      have hfz72_3:=blk_frozen BK151.out 3
      have hfz72_4:=blk_frozen BK151.out 4
      go_wp2_with (first|((with_reducible refine gate_callee (f:=116) rfl ?_);refine goesL_ (some 107) rfl rfl Try.func116 (by kernel_rfl) rfl #[.int .i64 a0_4,.int .i64 x7_1] rfl (by (try simp only [List.map_toArray,List.map_cons,List.map_nil]);first|done|rfl|(simp only [List.length_drop,List.length_take];rfl)) ?_;(with_reducible refine (spec_l01Bit.calls a0_4 x7_1 t173 _ A69.out).mono ?_);rintro e w' ⟨rfl,⟨nd,rfl⟩⟩;refine ⟨_,rfl,?_⟩)|((with_reducible refine gate_callee (f:=119) rfl ?_);refine goesL_ (some 108) rfl rfl Try.func119 (by kernel_rfl) rfl #[.int .i64 x4_1,.int .i64 x8_61,.int .i64 1,.int .i64 t173] rfl (by (try simp only [List.map_toArray,List.map_cons,List.map_nil]);first|done|rfl|(simp only [List.length_drop,List.length_take];rfl)) ?_;(with_reducible refine (spec_l01Put.calls kj61 x4_1 x8_61 1 t173 t174 _ A70.out).mono ?_);rintro e w' ⟨rfl,⟨nd,rfl⟩⟩;refine ⟨_,rfl,?_⟩))
      go_roundg kj61
      case measure=>have:=HK1.out;have:=HJ59.out;have:=HJ61.out;omega
      case rel=>exact ⟨(t174),(wrap64 (x7_1+1)),(by first|rfl|(simp;done)|(simp [*];done)),(by first|rfl|(simp;done)|(simp [*];done)),H',⟨by have:=HK1.out;have:=HJ59.out;have:=HJ61.out;omega⟩,⟨by (with_reducible repeat first|apply Q1|apply Q2|apply Q3);exact BK151.out⟩,⟨by (with_reducible repeat first|apply Q1|apply Q2|apply Q3);exact BK156.out⟩,⟨by repeat (with_reducible first|exact HB.out|apply Q4|apply Q5|apply Q6|apply Q7 GE151.out|apply Q7 GE156.out)⟩⟩
   rw [if_neg c59] at H
   have c59b0:decide (x7_1 < 13)=false:=decide_eq_false c59
   clear c59
   obtain rfl:=Option.some.inj H
   go_wp2
   go_ret
   exact ⟨by first|rfl|(simp [errW_none,errW_some]<;>rfl)|(simp [*,errW_none,errW_some]<;>rfl),by repeat (with_reducible first|exact HB.out|apply Q4|apply Q5|apply Q6|apply Q7 GE151.out|apply Q7 GE156.out)⟩
 rw [if_neg c48] at H
 obtain ⟨c48b0,c48b1⟩:=eqN c48
 by_cases c73:t152=5
 ·rw [if_pos c73] at H
  obtain ⟨c73b0,c73b1⟩:=eqP c73
  clear c73
  obtain ⟨t175,A74,H⟩:=bindA H
  obtain ⟨t176,A75,H⟩:=bindA H
  obtain ⟨t177,A76,H⟩:=bindA H
  obtain ⟨t178,A77,H⟩:=bindA H
  have H':=Aside0.mk H
  clear H
  go_enter Try.func99,Try.ntmps99
  go_wp2_with (first|((with_reducible refine gate_dst (N:=1) rfl ?_);refine box_event ?hg (N:=1) ?hd (cs:=#[.int .i64 a0_0,.int .i64 a0_1,.int .i64 a0_2,.int .i64 a0_3,.int .i64 a0_4]) (t:=86) ?hr ?_;(case hd=>rfl);(case hg=>rfl);(case hr=>first|(go_simp;done)|(go_simp;rfl));intro gb151 hg w78 hbox hb;have n0_:=Aside0.mk (below_step (by repeat (with_reducible first|exact HB.out|apply Q4|apply Q5|apply Q6)) hb);have n1_:=Aside0.mk (hbox);have n2_:=Aside0.mk ((by rw [hg];exact (below_size (by repeat (with_reducible first|exact HB.out|apply Q4|apply Q5|apply Q6))):w.heap.size≤gb151));have n3_:=Aside0.mk ((by rw [hg];exact (below_size (by repeat (with_reducible first|exact HB.out|apply Q4|apply Q5|apply Q6))):w.heap.size≤gb151));clear HB;have HB:=n0_;have BK151:=n1_;have GW151:=n2_;have GE151:=n3_;clear n0_ n1_ n2_ n3_;clear hb hbox hg;have hcz79_0:w78.cell? ⟨gb151,0,none⟩=some (.int .i64 a0_0):=(blk_cell BK151.out 0).trans rfl;have hcz79_1:w78.cell? ⟨gb151,1,none⟩=some (.int .i64 a0_1):=(blk_cell BK151.out 1).trans rfl;have hcz79_2:w78.cell? ⟨gb151,2,none⟩=some (.int .i64 a0_2):=(blk_cell BK151.out 2).trans rfl;have hcz79_3:w78.cell? ⟨gb151,3,none⟩=some (.int .i64 a0_3):=(blk_cell BK151.out 3).trans rfl;have hcz79_4:w78.cell? ⟨gb151,4,none⟩=some (.int .i64 a0_4):=(blk_cell BK151.out 4).trans rfl;have hfz79_0:=blk_frozen BK151.out 0;have hfz79_1:=blk_frozen BK151.out 1;have hfz79_2:=blk_frozen BK151.out 2;have hfz79_3:=blk_frozen BK151.out 3;have hfz79_4:=blk_frozen BK151.out 4)|((with_reducible refine gate_callee (f:=88) rfl ?_);refine goesL_ (some 12) rfl rfl Try.func88 (by kernel_rfl) rfl #[.int .i64 a0_0] rfl (by (try simp only [List.map_toArray,List.map_cons,List.map_nil]);first|done|rfl|(simp only [List.length_drop,List.length_take];rfl)) ?_;(with_reducible refine (spec_l02Shape.calls a0_0 t152 t153 t154 t155 _ A2.out).mono ?_);rintro e w80 ⟨rfl,hb⟩;refine ⟨_,rfl,?_⟩;have n0_:=Aside0.mk (blk_below (g:=gb151) (o:=.cells #[.int .i64 a0_0,.int .i64 a0_1,.int .i64 a0_2,.int .i64 a0_3,.int .i64 a0_4] 86 (0,0)) (by (with_reducible repeat first|apply Q1|apply Q2|apply Q3);exact BK151.out) hb);have n1_:=Aside0.mk (below_step (by repeat (with_reducible first|exact HB.out|apply Q4|apply Q5|apply Q6|apply Q7 GE151.out)) hb);clear BK151;clear HB;have BK151:=n0_;have HB:=n1_;clear n0_ n1_;(try clear hb);(try clear hb2);(try clear hk);(try clear hi))|((with_reducible refine gate_dst (N:=3) rfl ?_);refine box_event ?hg (N:=3) ?hd (cs:=#[.int .i64 0,.int .i64 0,.int .i64 0,.int .i64 0]) (t:=109) ?hr ?_;(case hd=>rfl);(case hg=>rfl);(case hr=>first|(go_simp;done)|(go_simp;rfl));intro gb156 hg w81 hbox hb;have n0_:=Aside0.mk (blk_below (g:=gb151) (o:=.cells #[.int .i64 a0_0,.int .i64 a0_1,.int .i64 a0_2,.int .i64 a0_3,.int .i64 a0_4] 86 (0,0)) (by (with_reducible repeat first|apply Q1|apply Q2|apply Q3);exact BK151.out) hb);have n1_:=Aside0.mk (below_step (by repeat (with_reducible first|exact HB.out|apply Q4|apply Q5|apply Q6|apply Q7 GE151.out)) hb);have n2_:=Aside0.mk (hbox);have n3_:=Aside0.mk ((by rw [hg];exact (below_size (by repeat (with_reducible first|exact HB.out|apply Q4|apply Q5|apply Q6|apply Q7 GE151.out))):w.heap.size≤gb156));have n4_:=Aside0.mk ((by rw [hg];exact (below_size (by repeat (with_reducible first|exact HB.out|apply Q4|apply Q5|apply Q6|apply Q7 GE151.out))):w.heap.size≤gb156));have n5_:=Aside0.mk ((by rw [hg];exact Nat.ne_of_lt (blk_lt (g:=gb151) (o:=.cells #[.int .i64 a0_0,.int .i64 a0_1,.int .i64 a0_2,.int .i64 a0_3,.int .i64 a0_4] 86 (0,0)) (by (with_reducible repeat first|apply Q1|apply Q2|apply Q3);exact BK151.out)):gb151≠gb156));have n6_:=Aside0.mk ((by rw [hg];exact Nat.ne_of_gt (blk_lt (g:=gb151) (o:=.cells #[.int .i64 a0_0,.int .i64 a0_1,.int .i64 a0_2,.int .i64 a0_3,.int .i64 a0_4] 86 (0,0)) (by (with_reducible repeat first|apply Q1|apply Q2|apply Q3);exact BK151.out)):gb156≠gb151));clear BK151;clear HB;have BK151:=n0_;have HB:=n1_;have BK156:=n2_;have GW156:=n3_;have GE156:=n4_;have NB151_156:=n5_;have NB156_151:=n6_;clear n0_ n1_ n2_ n3_ n4_ n5_ n6_;clear hb hbox hg;have hnb82:=NB156_151.out;have hnc82:=NB151_156.out;have hcz83_0:w81.cell? ⟨gb156,0,none⟩=some (.int .i64 0):=(blk_cell BK156.out 0).trans rfl;have hcz83_1:w81.cell? ⟨gb156,1,none⟩=some (.int .i64 0):=(blk_cell BK156.out 1).trans rfl;have hcz83_2:w81.cell? ⟨gb156,2,none⟩=some (.int .i64 0):=(blk_cell BK156.out 2).trans rfl;have hcz83_3:w81.cell? ⟨gb156,3,none⟩=some (.int .i64 0):=(blk_cell BK156.out 3).trans rfl;have hfz83_0:=blk_frozen BK156.out 0;have hfz83_1:=blk_frozen BK156.out 1;have hfz83_2:=blk_frozen BK156.out 2;have hfz83_3:=blk_frozen BK156.out 3;have hcz84_0:w81.cell? ⟨gb151,0,none⟩=some (.int .i64 a0_0):=(blk_cell BK151.out 0).trans rfl;have hcz84_1:w81.cell? ⟨gb151,1,none⟩=some (.int .i64 a0_1):=(blk_cell BK151.out 1).trans rfl;have hcz84_2:w81.cell? ⟨gb151,2,none⟩=some (.int .i64 a0_2):=(blk_cell BK151.out 2).trans rfl;have hcz84_3:w81.cell? ⟨gb151,3,none⟩=some (.int .i64 a0_3):=(blk_cell BK151.out 3).trans rfl;have hcz84_4:w81.cell? ⟨gb151,4,none⟩=some (.int .i64 a0_4):=(blk_cell BK151.out 4).trans rfl;have hfz84_0:=blk_frozen BK151.out 0;have hfz84_1:=blk_frozen BK151.out 1;have hfz84_2:=blk_frozen BK151.out 2;have hfz84_3:=blk_frozen BK151.out 3;have hfz84_4:=blk_frozen BK151.out 4)|((with_reducible refine gate_callee (f:=119) rfl ?_);refine goesL_ (some 114) rfl rfl Try.func119 (by kernel_rfl) rfl #[.int .i64 t153,.int .i64 7,.int .i64 5,.int .i64 a0_4] rfl (by (try simp only [List.map_toArray,List.map_cons,List.map_nil]);first|done|rfl|(simp only [List.length_drop,List.length_take];rfl)) ?_;(with_reducible refine (spec_l01Put.calls k t153 7 5 a0_4 t175 _ A74.out).mono ?_);rintro e w' ⟨rfl,⟨nd,rfl⟩⟩;refine ⟨_,rfl,?_⟩)|((with_reducible refine gate_callee (f:=119) rfl ?_);refine goesL_ (some 118) rfl rfl Try.func119 (by kernel_rfl) rfl #[.int .i64 t175,.int .i64 12,.int .i64 3,.int .i64 t154] rfl (by (try simp only [List.map_toArray,List.map_cons,List.map_nil]);first|done|rfl|(simp only [List.length_drop,List.length_take];rfl)) ?_;(with_reducible refine (spec_l01Put.calls k t175 12 3 t154 t176 _ A75.out).mono ?_);rintro e w' ⟨rfl,⟨nd,rfl⟩⟩;refine ⟨_,rfl,?_⟩)|((with_reducible refine gate_callee (f:=119) rfl ?_);refine goesL_ (some 122) rfl rfl Try.func119 (by kernel_rfl) rfl #[.int .i64 t176,.int .i64 15,.int .i64 5,.int .i64 a0_2] rfl (by (try simp only [List.map_toArray,List.map_cons,List.map_nil]);first|done|rfl|(simp only [List.length_drop,List.length_take];rfl)) ?_;(with_reducible refine (spec_l01Put.calls k t176 15 5 a0_2 t177 _ A76.out).mono ?_);rintro e w' ⟨rfl,⟨nd,rfl⟩⟩;refine ⟨_,rfl,?_⟩)|((with_reducible refine gate_callee (f:=119) rfl ?_);refine goesL_ (some 126) rfl rfl Try.func119 (by kernel_rfl) rfl #[.int .i64 t177,.int .i64 20,.int .i64 5,.int .i64 a0_3] rfl (by (try simp only [List.map_toArray,List.map_cons,List.map_nil]);first|done|rfl|(simp only [List.length_drop,List.length_take];rfl)) ?_;(with_reducible refine (spec_l01Put.calls k t177 20 5 a0_3 t178 _ A77.out).mono ?_);rintro e w' ⟨rfl,⟨nd,rfl⟩⟩;refine ⟨_,rfl,?_⟩))
  go_loopg [4,9] k (fun kq v4 v9 w'=>∃ (x4_1:Int) (x9_1:Int),v4=.int .i64 x4_1∧v9=.int .i64 x9_1∧Aside0 (spec_l02Encode.l2 kq x4_1 x9_1 a0_0 a0_1 a0_2 a0_3 a0_4=some r)∧Aside0 (kq≤k)∧Aside0 (w'.heap[gb151]?=some (.cells #[.int .i64 a0_0,.int .i64 a0_1,.int .i64 a0_2,.int .i64 a0_3,.int .i64 a0_4] 86 (0,0)))∧Aside0 (w'.heap[gb156]?=some (.cells #[.int .i64 t152,.int .i64 t153,.int .i64 t154,.int .i64 t155] 109 (0,0)))∧Aside0 (Below w.heap.size w w'))
  case atStart=>exact ⟨(t178),(5),(by first|rfl|(simp;done)|(simp [*];done)),(by first|rfl|(simp;done)|(simp [*];done)),H',⟨Nat.le_refl _⟩,⟨by (with_reducible repeat first|apply Q1|apply Q2|apply Q3);refine blk_far ?_ NB151_156.out _;(with_reducible repeat first|apply Q1|apply Q2|apply Q3);refine blk_far ?_ NB151_156.out _;(with_reducible repeat first|apply Q1|apply Q2|apply Q3);refine blk_far ?_ NB151_156.out _;(with_reducible repeat first|apply Q1|apply Q2|apply Q3);refine blk_far ?_ NB151_156.out _;(with_reducible repeat first|apply Q1|apply Q2|apply Q3);exact BK151.out⟩,⟨by (with_reducible repeat first|apply Q1|apply Q2|apply Q3);refine blk_put (cs:=#[.int .i64 t152,.int .i64 t153,.int .i64 t154,.int .i64 0]) ?_ 3 _ rfl;(with_reducible repeat first|apply Q1|apply Q2|apply Q3);refine blk_put (cs:=#[.int .i64 t152,.int .i64 t153,.int .i64 0,.int .i64 0]) ?_ 2 _ rfl;(with_reducible repeat first|apply Q1|apply Q2|apply Q3);refine blk_put (cs:=#[.int .i64 t152,.int .i64 0,.int .i64 0,.int .i64 0]) ?_ 1 _ rfl;(with_reducible repeat first|apply Q1|apply Q2|apply Q3);refine blk_put (cs:=#[.int .i64 0,.int .i64 0,.int .i64 0,.int .i64 0]) ?_ 0 _ rfl;(with_reducible repeat first|apply Q1|apply Q2|apply Q3);exact BK156.out⟩,⟨by repeat (with_reducible first|exact HB.out|apply Q4|apply Q5|apply Q6|apply Q7 GE151.out|apply Q7 GE156.out)⟩⟩
  clear H'
  try clear c3
  try clear c3b0 c3b1
  try clear c13
  try clear c13b0 c13b1
  try clear c36
  try clear c36b0 c36b1
  try clear c48
  try clear c48b0 c48b1
  try clear c73b0 c73b1
  try clear hcz79_0 hcz79_1 hcz79_2 hcz79_3 hcz79_4
  try clear hcz83_0 hcz83_1 hcz83_2 hcz83_3
  try clear hcz84_0 hcz84_1 hcz84_2 hcz84_3 hcz84_4
  try clear hfz79_0 hfz79_1 hfz79_2 hfz79_3 hfz79_4
  try clear hfz83_0 hfz83_1 hfz83_2 hfz83_3
  try clear hfz84_0 hfz84_1 hfz84_2 hfz84_3 hfz84_4
  obtain ⟨x4_1,x9_1,rfl,rfl,HA,HK1,BK151,BK156,HB⟩:=hrel
  cases gk with
  | zero=>exact absurd HA.out (by simp [spec_l02Encode.l2])
  | succ k1 =>
   have H:=HA.out
   clear HA
   simp only [spec_l02Encode.l2] at H
   by_cases c85:x9_1 < 12
   ·rw [if_pos c85] at H
    have c85b0:decide (x9_1 < 12)=true:=decide_eq_true c85
    clear c85
    obtain ⟨t179,A86,H⟩:=bindA H
    obtain ⟨t180,A87,H⟩:=bindA H
    have H':=Aside0.mk H
    clear H
    have hnb88:=NB151_156.out
    have hnc88:=NB156_151.out
    have hcz89_0:wr.cell? ⟨gb151,0,none⟩=some (.int .i64 a0_0):=(blk_cell BK151.out 0).trans rfl
    have hcz89_1:wr.cell? ⟨gb151,1,none⟩=some (.int .i64 a0_1):=(blk_cell BK151.out 1).trans rfl
    have hcz89_2:wr.cell? ⟨gb151,2,none⟩=some (.int .i64 a0_2):=(blk_cell BK151.out 2).trans rfl
    have hcz89_3:wr.cell? ⟨gb151,3,none⟩=some (.int .i64 a0_3):=(blk_cell BK151.out 3).trans rfl
    have hcz89_4:wr.cell? ⟨gb151,4,none⟩=some (.int .i64 a0_4):=(blk_cell BK151.out 4).trans rfl
    have hfz89_0:=blk_frozen BK151.out 0
    have hfz89_1:=blk_frozen BK151.out 1
    have hfz89_2:=blk_frozen BK151.out 2
    have hfz89_3:=blk_frozen BK151.out 3
    have hfz89_4:=blk_frozen BK151.out 4
    go_wp2_with (first|((with_reducible refine gate_callee (f:=116) rfl ?_);refine goesL_ (some 137) rfl rfl Try.func116 (by kernel_rfl) rfl #[.int .i64 a0_4,.int .i64 x9_1] rfl (by (try simp only [List.map_toArray,List.map_cons,List.map_nil]);first|done|rfl|(simp only [List.length_drop,List.length_take];rfl)) ?_;(with_reducible refine (spec_l01Bit.calls a0_4 x9_1 t179 _ A86.out).mono ?_);rintro e w' ⟨rfl,⟨nd,rfl⟩⟩;refine ⟨_,rfl,?_⟩)|((with_reducible refine gate_callee (f:=119) rfl ?_);refine goesL_ (some 138) rfl rfl Try.func119 (by kernel_rfl) rfl #[.int .i64 x4_1,.int .i64 (wrap64 (20+x9_1)),.int .i64 1,.int .i64 t179] rfl (by (try simp only [List.map_toArray,List.map_cons,List.map_nil]);first|done|rfl|(simp only [List.length_drop,List.length_take];rfl)) ?_;(with_reducible refine (spec_l01Put.calls k1 x4_1 (wrap64 (20+x9_1)) 1 t179 t180 _ A87.out).mono ?_);rintro e w' ⟨rfl,⟨nd,rfl⟩⟩;refine ⟨_,rfl,?_⟩))
    go_roundg k1
    case measure=>have:=HK1.out;omega
    case rel=>exact ⟨(t180),(wrap64 (x9_1+1)),(by first|rfl|(simp;done)|(simp [*];done)),(by first|rfl|(simp;done)|(simp [*];done)),H',⟨by have:=HK1.out;omega⟩,⟨by (with_reducible repeat first|apply Q1|apply Q2|apply Q3);exact BK151.out⟩,⟨by (with_reducible repeat first|apply Q1|apply Q2|apply Q3);exact BK156.out⟩,⟨by repeat (with_reducible first|exact HB.out|apply Q4|apply Q5|apply Q6|apply Q7 GE151.out|apply Q7 GE156.out)⟩⟩
   rw [if_neg c85] at H
   have c85b0:decide (x9_1 < 12)=false:=decide_eq_false c85
   clear c85
   obtain rfl:=Option.some.inj H
   go_wp2
   go_ret
   exact ⟨by first|rfl|(simp [errW_none,errW_some]<;>rfl)|(simp [*,errW_none,errW_some]<;>rfl),by repeat (with_reducible first|exact HB.out|apply Q4|apply Q5|apply Q6|apply Q7 GE151.out|apply Q7 GE156.out)⟩
 rw [if_neg c73] at H
 obtain ⟨c73b0,c73b1⟩:=eqN c73
 have HC90:=Aside0.mk H
 clear H
 go_enter Try.func99,Try.ntmps99
 go_upto_if 139 with (first|((with_reducible refine gate_dst (N:=1) rfl ?_);refine box_event ?hg (N:=1) ?hd (cs:=#[.int .i64 a0_0,.int .i64 a0_1,.int .i64 a0_2,.int .i64 a0_3,.int .i64 a0_4]) (t:=86) ?hr ?_;(case hd=>rfl);(case hg=>rfl);(case hr=>first|(go_simp;done)|(go_simp;rfl));intro gb151 hg w91 hbox hb;have n0_:=Aside0.mk (below_step (by repeat (with_reducible first|exact HB.out|apply Q4|apply Q5|apply Q6)) hb);have n1_:=Aside0.mk (hbox);have n2_:=Aside0.mk ((by rw [hg];exact (below_size (by repeat (with_reducible first|exact HB.out|apply Q4|apply Q5|apply Q6))):w.heap.size≤gb151));have n3_:=Aside0.mk ((by rw [hg];exact (below_size (by repeat (with_reducible first|exact HB.out|apply Q4|apply Q5|apply Q6))):w.heap.size≤gb151));clear HB;have HB:=n0_;have BK151:=n1_;have GW151:=n2_;have GE151:=n3_;clear n0_ n1_ n2_ n3_;clear hb hbox hg;have hcz92_0:w91.cell? ⟨gb151,0,none⟩=some (.int .i64 a0_0):=(blk_cell BK151.out 0).trans rfl;have hcz92_1:w91.cell? ⟨gb151,1,none⟩=some (.int .i64 a0_1):=(blk_cell BK151.out 1).trans rfl;have hcz92_2:w91.cell? ⟨gb151,2,none⟩=some (.int .i64 a0_2):=(blk_cell BK151.out 2).trans rfl;have hcz92_3:w91.cell? ⟨gb151,3,none⟩=some (.int .i64 a0_3):=(blk_cell BK151.out 3).trans rfl;have hcz92_4:w91.cell? ⟨gb151,4,none⟩=some (.int .i64 a0_4):=(blk_cell BK151.out 4).trans rfl;have hfz92_0:=blk_frozen BK151.out 0;have hfz92_1:=blk_frozen BK151.out 1;have hfz92_2:=blk_frozen BK151.out 2;have hfz92_3:=blk_frozen BK151.out 3;have hfz92_4:=blk_frozen BK151.out 4)|((with_reducible refine gate_callee (f:=88) rfl ?_);refine goesL_ (some 12) rfl rfl Try.func88 (by kernel_rfl) rfl #[.int .i64 a0_0] rfl (by (try simp only [List.map_toArray,List.map_cons,List.map_nil]);first|done|rfl|(simp only [List.length_drop,List.length_take];rfl)) ?_;(with_reducible refine (spec_l02Shape.calls a0_0 t152 t153 t154 t155 _ A2.out).mono ?_);rintro e w93 ⟨rfl,hb⟩;refine ⟨_,rfl,?_⟩;have n0_:=Aside0.mk (blk_below (g:=gb151) (o:=.cells #[.int .i64 a0_0,.int .i64 a0_1,.int .i64 a0_2,.int .i64 a0_3,.int .i64 a0_4] 86 (0,0)) (by (with_reducible repeat first|apply Q1|apply Q2|apply Q3);exact BK151.out) hb);have n1_:=Aside0.mk (below_step (by repeat (with_reducible first|exact HB.out|apply Q4|apply Q5|apply Q6|apply Q7 GE151.out)) hb);clear BK151;clear HB;have BK151:=n0_;have HB:=n1_;clear n0_ n1_;(try clear hb);(try clear hb2);(try clear hk);(try clear hi))|((with_reducible refine gate_dst (N:=3) rfl ?_);refine box_event ?hg (N:=3) ?hd (cs:=#[.int .i64 0,.int .i64 0,.int .i64 0,.int .i64 0]) (t:=109) ?hr ?_;(case hd=>rfl);(case hg=>rfl);(case hr=>first|(go_simp;done)|(go_simp;rfl));intro gb156 hg w94 hbox hb;have n0_:=Aside0.mk (blk_below (g:=gb151) (o:=.cells #[.int .i64 a0_0,.int .i64 a0_1,.int .i64 a0_2,.int .i64 a0_3,.int .i64 a0_4] 86 (0,0)) (by (with_reducible repeat first|apply Q1|apply Q2|apply Q3);exact BK151.out) hb);have n1_:=Aside0.mk (below_step (by repeat (with_reducible first|exact HB.out|apply Q4|apply Q5|apply Q6|apply Q7 GE151.out)) hb);have n2_:=Aside0.mk (hbox);have n3_:=Aside0.mk ((by rw [hg];exact (below_size (by repeat (with_reducible first|exact HB.out|apply Q4|apply Q5|apply Q6|apply Q7 GE151.out))):w.heap.size≤gb156));have n4_:=Aside0.mk ((by rw [hg];exact (below_size (by repeat (with_reducible first|exact HB.out|apply Q4|apply Q5|apply Q6|apply Q7 GE151.out))):w.heap.size≤gb156));have n5_:=Aside0.mk ((by rw [hg];exact Nat.ne_of_lt (blk_lt (g:=gb151) (o:=.cells #[.int .i64 a0_0,.int .i64 a0_1,.int .i64 a0_2,.int .i64 a0_3,.int .i64 a0_4] 86 (0,0)) (by (with_reducible repeat first|apply Q1|apply Q2|apply Q3);exact BK151.out)):gb151≠gb156));have n6_:=Aside0.mk ((by rw [hg];exact Nat.ne_of_gt (blk_lt (g:=gb151) (o:=.cells #[.int .i64 a0_0,.int .i64 a0_1,.int .i64 a0_2,.int .i64 a0_3,.int .i64 a0_4] 86 (0,0)) (by (with_reducible repeat first|apply Q1|apply Q2|apply Q3);exact BK151.out)):gb156≠gb151));clear BK151;clear HB;have BK151:=n0_;have HB:=n1_;have BK156:=n2_;have GW156:=n3_;have GE156:=n4_;have NB151_156:=n5_;have NB156_151:=n6_;clear n0_ n1_ n2_ n3_ n4_ n5_ n6_;clear hb hbox hg;have hnb95:=NB156_151.out;have hnc95:=NB151_156.out;have hcz96_0:w94.cell? ⟨gb156,0,none⟩=some (.int .i64 0):=(blk_cell BK156.out 0).trans rfl;have hcz96_1:w94.cell? ⟨gb156,1,none⟩=some (.int .i64 0):=(blk_cell BK156.out 1).trans rfl;have hcz96_2:w94.cell? ⟨gb156,2,none⟩=some (.int .i64 0):=(blk_cell BK156.out 2).trans rfl;have hcz96_3:w94.cell? ⟨gb156,3,none⟩=some (.int .i64 0):=(blk_cell BK156.out 3).trans rfl;have hfz96_0:=blk_frozen BK156.out 0;have hfz96_1:=blk_frozen BK156.out 1;have hfz96_2:=blk_frozen BK156.out 2;have hfz96_3:=blk_frozen BK156.out 3))
 (try simp only [Act.put,List.setIfInBounds_toArray,List.set_cons_zero,List.set_cons_succ])
 go_cut [139] (fun v139 wc=>∃ (kq:Nat) (x139_89:Bool),v139=.bool x139_89∧Aside0 (spec_l02Encode.j7 kq t153 t152 x139_89 a0_0 a0_1 a0_2 a0_3 a0_4 t152 t153 t154 t155=some r)∧Aside0 (kq≤k)∧Aside0 (wc.heap[gb151]?=some (.cells #[.int .i64 a0_0,.int .i64 a0_1,.int .i64 a0_2,.int .i64 a0_3,.int .i64 a0_4] 86 (0,0)))∧Aside0 (wc.heap[gb156]?=some (.cells #[.int .i64 t152,.int .i64 t153,.int .i64 t154,.int .i64 t155] 109 (0,0)))∧Aside0 (Below w.heap.size w wc))
 case first=>
  have H:=HC90.out
  clear HC90
  by_cases c97:t152=6
  ·rw [if_pos c97] at H
   obtain ⟨c97b0,c97b1⟩:=eqP c97
   clear c97
   (first|rw [c97b0]|(simp only [i64_w,i32_w];rw [c97b0])|skip)
   have H':=Aside0.mk H
   clear H
   go_wp2
   go_meet
   case rel=>exact ⟨_,((t152==6)),(by first|rfl|(simp;done)|(simp [*];done)),H',⟨by first|omega|exact Nat.le_refl _⟩,⟨by (with_reducible repeat first|apply Q1|apply Q2|apply Q3);refine blk_far ?_ NB151_156.out _;(with_reducible repeat first|apply Q1|apply Q2|apply Q3);refine blk_far ?_ NB151_156.out _;(with_reducible repeat first|apply Q1|apply Q2|apply Q3);refine blk_far ?_ NB151_156.out _;(with_reducible repeat first|apply Q1|apply Q2|apply Q3);refine blk_far ?_ NB151_156.out _;(with_reducible repeat first|apply Q1|apply Q2|apply Q3);exact BK151.out⟩,⟨by (with_reducible repeat first|apply Q1|apply Q2|apply Q3);refine blk_put (cs:=#[.int .i64 t152,.int .i64 t153,.int .i64 t154,.int .i64 0]) ?_ 3 _ rfl;(with_reducible repeat first|apply Q1|apply Q2|apply Q3);refine blk_put (cs:=#[.int .i64 t152,.int .i64 t153,.int .i64 0,.int .i64 0]) ?_ 2 _ rfl;(with_reducible repeat first|apply Q1|apply Q2|apply Q3);refine blk_put (cs:=#[.int .i64 t152,.int .i64 0,.int .i64 0,.int .i64 0]) ?_ 1 _ rfl;(with_reducible repeat first|apply Q1|apply Q2|apply Q3);refine blk_put (cs:=#[.int .i64 0,.int .i64 0,.int .i64 0,.int .i64 0]) ?_ 0 _ rfl;(with_reducible repeat first|apply Q1|apply Q2|apply Q3);exact BK156.out⟩,⟨by repeat (with_reducible first|exact HB.out|apply Q4|apply Q5|apply Q6|apply Q7 GE151.out|apply Q7 GE156.out)⟩⟩
  rw [if_neg c97] at H
  obtain ⟨c97b0,c97b1⟩:=eqN c97
  (first|rw [c97b0]|(simp only [i64_w,i32_w];rw [c97b0])|skip)
  by_cases c98:t152=7
  ·rw [if_pos c98] at H
   obtain ⟨c98b0,c98b1⟩:=eqP c98
   clear c98
   have H':=Aside0.mk H
   clear H
   go_wp2
   go_meet
   case rel=>exact ⟨_,((t152==7)),(by first|rfl|(simp;done)|(simp [*];done)),H',⟨by first|omega|exact Nat.le_refl _⟩,⟨by (with_reducible repeat first|apply Q1|apply Q2|apply Q3);refine blk_far ?_ NB151_156.out _;(with_reducible repeat first|apply Q1|apply Q2|apply Q3);refine blk_far ?_ NB151_156.out _;(with_reducible repeat first|apply Q1|apply Q2|apply Q3);refine blk_far ?_ NB151_156.out _;(with_reducible repeat first|apply Q1|apply Q2|apply Q3);refine blk_far ?_ NB151_156.out _;(with_reducible repeat first|apply Q1|apply Q2|apply Q3);exact BK151.out⟩,⟨by (with_reducible repeat first|apply Q1|apply Q2|apply Q3);refine blk_put (cs:=#[.int .i64 t152,.int .i64 t153,.int .i64 t154,.int .i64 0]) ?_ 3 _ rfl;(with_reducible repeat first|apply Q1|apply Q2|apply Q3);refine blk_put (cs:=#[.int .i64 t152,.int .i64 t153,.int .i64 0,.int .i64 0]) ?_ 2 _ rfl;(with_reducible repeat first|apply Q1|apply Q2|apply Q3);refine blk_put (cs:=#[.int .i64 t152,.int .i64 0,.int .i64 0,.int .i64 0]) ?_ 1 _ rfl;(with_reducible repeat first|apply Q1|apply Q2|apply Q3);refine blk_put (cs:=#[.int .i64 0,.int .i64 0,.int .i64 0,.int .i64 0]) ?_ 0 _ rfl;(with_reducible repeat first|apply Q1|apply Q2|apply Q3);exact BK156.out⟩,⟨by repeat (with_reducible first|exact HB.out|apply Q4|apply Q5|apply Q6|apply Q7 GE151.out|apply Q7 GE156.out)⟩⟩
  rw [if_neg c98] at H
  obtain ⟨c98b0,c98b1⟩:=eqN c98
  have H':=Aside0.mk H
  clear H
  go_wp2
  go_meet
  case rel=>exact ⟨_,((t152==8)),(by first|rfl|(simp;done)|(simp [*];done)),H',⟨by first|omega|exact Nat.le_refl _⟩,⟨by (with_reducible repeat first|apply Q1|apply Q2|apply Q3);refine blk_far ?_ NB151_156.out _;(with_reducible repeat first|apply Q1|apply Q2|apply Q3);refine blk_far ?_ NB151_156.out _;(with_reducible repeat first|apply Q1|apply Q2|apply Q3);refine blk_far ?_ NB151_156.out _;(with_reducible repeat first|apply Q1|apply Q2|apply Q3);refine blk_far ?_ NB151_156.out _;(with_reducible repeat first|apply Q1|apply Q2|apply Q3);exact BK151.out⟩,⟨by (with_reducible repeat first|apply Q1|apply Q2|apply Q3);refine blk_put (cs:=#[.int .i64 t152,.int .i64 t153,.int .i64 t154,.int .i64 0]) ?_ 3 _ rfl;(with_reducible repeat first|apply Q1|apply Q2|apply Q3);refine blk_put (cs:=#[.int .i64 t152,.int .i64 t153,.int .i64 0,.int .i64 0]) ?_ 2 _ rfl;(with_reducible repeat first|apply Q1|apply Q2|apply Q3);refine blk_put (cs:=#[.int .i64 t152,.int .i64 0,.int .i64 0,.int .i64 0]) ?_ 1 _ rfl;(with_reducible repeat first|apply Q1|apply Q2|apply Q3);refine blk_put (cs:=#[.int .i64 0,.int .i64 0,.int .i64 0,.int .i64 0]) ?_ 0 _ rfl;(with_reducible repeat first|apply Q1|apply Q2|apply Q3);exact BK156.out⟩,⟨by repeat (with_reducible first|exact HB.out|apply Q4|apply Q5|apply Q6|apply Q7 GE151.out|apply Q7 GE156.out)⟩⟩
 clear HC90
 try clear c3
 try clear c3b0 c3b1
 try clear c13
 try clear c13b0 c13b1
 try clear c36
 try clear c36b0 c36b1
 try clear c48
 try clear c48b0 c48b1
 try clear c73
 try clear c73b0 c73b1
 try clear hcz92_0 hcz92_1 hcz92_2 hcz92_3 hcz92_4
 try clear hcz96_0 hcz96_1 hcz96_2 hcz96_3
 try clear hfz92_0 hfz92_1 hfz92_2 hfz92_3 hfz92_4
 try clear hfz96_0 hfz96_1 hfz96_2 hfz96_3
 obtain ⟨kq,x139_89,rfl,HA,HJ89,BK151,BK156,HB⟩:=hcut
 cases kq with
 | zero=>exact absurd HA.out (by simp [spec_l02Encode.j7])
 | succ kj89 =>
  have H:=HA.out
  clear HA
  simp only [spec_l02Encode.j7] at H
  by_cases c99:x139_89=true
  ·subst c99
   rw [if_pos rfl] at H
   obtain ⟨t181,A100,H⟩:=bindA H
   obtain ⟨t182,A101,H⟩:=bindA H
   obtain ⟨t183,A102,H⟩:=bindA H
   obtain ⟨t184,A103,H⟩:=bindA H
   by_cases c104:t152=6
   ·rw [if_pos c104] at H
    obtain ⟨c104b0,c104b1⟩:=eqP c104
    clear c104
    obtain ⟨t185,A105,H⟩:=bindA H
    obtain rfl:=Option.some.inj H
    have hnb106:=NB151_156.out
    have hnc106:=NB156_151.out
    have hcz107_0:wc.cell? ⟨gb151,0,none⟩=some (.int .i64 a0_0):=(blk_cell BK151.out 0).trans rfl
    have hcz107_1:wc.cell? ⟨gb151,1,none⟩=some (.int .i64 a0_1):=(blk_cell BK151.out 1).trans rfl
    have hcz107_2:wc.cell? ⟨gb151,2,none⟩=some (.int .i64 a0_2):=(blk_cell BK151.out 2).trans rfl
    have hcz107_3:wc.cell? ⟨gb151,3,none⟩=some (.int .i64 a0_3):=(blk_cell BK151.out 3).trans rfl
    have hcz107_4:wc.cell? ⟨gb151,4,none⟩=some (.int .i64 a0_4):=(blk_cell BK151.out 4).trans rfl
    have hfz107_0:=blk_frozen BK151.out 0
    have hfz107_1:=blk_frozen BK151.out 1
    have hfz107_2:=blk_frozen BK151.out 2
    have hfz107_3:=blk_frozen BK151.out 3
    have hfz107_4:=blk_frozen BK151.out 4
    go_wp2_with (first|((with_reducible refine gate_callee (f:=119) rfl ?_);refine goesL_ (some 146) rfl rfl Try.func119 (by kernel_rfl) rfl #[.int .i64 t153,.int .i64 7,.int .i64 5,.int .i64 a0_1] rfl (by (try simp only [List.map_toArray,List.map_cons,List.map_nil]);first|done|rfl|(simp only [List.length_drop,List.length_take];rfl)) ?_;(with_reducible refine (spec_l01Put.calls kj89 t153 7 5 a0_1 t181 _ A100.out).mono ?_);rintro e w' ⟨rfl,⟨nd,rfl⟩⟩;refine ⟨_,rfl,?_⟩;have hcz108_0:wc.cell? ⟨gb156,0,none⟩=some (.int .i64 t152):=(blk_cell BK156.out 0).trans rfl;have hcz108_1:wc.cell? ⟨gb156,1,none⟩=some (.int .i64 t153):=(blk_cell BK156.out 1).trans rfl;have hcz108_2:wc.cell? ⟨gb156,2,none⟩=some (.int .i64 t154):=(blk_cell BK156.out 2).trans rfl;have hcz108_3:wc.cell? ⟨gb156,3,none⟩=some (.int .i64 t155):=(blk_cell BK156.out 3).trans rfl;have hfz108_0:=blk_frozen BK156.out 0;have hfz108_1:=blk_frozen BK156.out 1;have hfz108_2:=blk_frozen BK156.out 2;have hfz108_3:=blk_frozen BK156.out 3)|((with_reducible refine gate_callee (f:=119) rfl ?_);refine goesL_ (some 150) rfl rfl Try.func119 (by kernel_rfl) rfl #[.int .i64 t181,.int .i64 12,.int .i64 3,.int .i64 t154] rfl (by (try simp only [List.map_toArray,List.map_cons,List.map_nil]);first|done|rfl|(simp only [List.length_drop,List.length_take];rfl)) ?_;(with_reducible refine (spec_l01Put.calls kj89 t181 12 3 t154 t182 _ A101.out).mono ?_);rintro e w' ⟨rfl,⟨nd,rfl⟩⟩;refine ⟨_,rfl,?_⟩)|((with_reducible refine gate_callee (f:=119) rfl ?_);refine goesL_ (some 154) rfl rfl Try.func119 (by kernel_rfl) rfl #[.int .i64 t182,.int .i64 15,.int .i64 5,.int .i64 a0_2] rfl (by (try simp only [List.map_toArray,List.map_cons,List.map_nil]);first|done|rfl|(simp only [List.length_drop,List.length_take];rfl)) ?_;(with_reducible refine (spec_l01Put.calls kj89 t182 15 5 a0_2 t183 _ A102.out).mono ?_);rintro e w' ⟨rfl,⟨nd,rfl⟩⟩;refine ⟨_,rfl,?_⟩)|((with_reducible refine gate_callee (f:=119) rfl ?_);refine goesL_ (some 158) rfl rfl Try.func119 (by kernel_rfl) rfl #[.int .i64 t183,.int .i64 25,.int .i64 7,.int .i64 t155] rfl (by (try simp only [List.map_toArray,List.map_cons,List.map_nil]);first|done|rfl|(simp only [List.length_drop,List.length_take];rfl)) ?_;(with_reducible refine (spec_l01Put.calls kj89 t183 25 7 t155 t184 _ A103.out).mono ?_);rintro e w' ⟨rfl,⟨nd,rfl⟩⟩;refine ⟨_,rfl,?_⟩)|((with_reducible refine gate_callee (f:=119) rfl ?_);refine goesL_ (some 165) rfl rfl Try.func119 (by kernel_rfl) rfl #[.int .i64 t184,.int .i64 20,.int .i64 6,.int .i64 a0_4] rfl (by (try simp only [List.map_toArray,List.map_cons,List.map_nil]);first|done|rfl|(simp only [List.length_drop,List.length_take];rfl)) ?_;(with_reducible refine (spec_l01Put.calls kj89 t184 20 6 a0_4 t185 _ A105.out).mono ?_);rintro e w' ⟨rfl,⟨nd,rfl⟩⟩;refine ⟨_,rfl,?_⟩))
    go_ret
    exact ⟨by first|rfl|(simp [errW_none,errW_some]<;>rfl)|(simp [*,errW_none,errW_some]<;>rfl),by repeat (with_reducible first|exact HB.out|apply Q4|apply Q5|apply Q6|apply Q7 GE151.out|apply Q7 GE156.out)⟩
   rw [if_neg c104] at H
   obtain ⟨c104b0,c104b1⟩:=eqN c104
   by_cases c109:t152=7
   ·rw [if_pos c109] at H
    obtain ⟨c109b0,c109b1⟩:=eqP c109
    clear c109
    obtain ⟨t186,A110,H⟩:=bindA H
    obtain rfl:=Option.some.inj H
    have hnb111:=NB151_156.out
    have hnc111:=NB156_151.out
    have hcz112_0:wc.cell? ⟨gb151,0,none⟩=some (.int .i64 a0_0):=(blk_cell BK151.out 0).trans rfl
    have hcz112_1:wc.cell? ⟨gb151,1,none⟩=some (.int .i64 a0_1):=(blk_cell BK151.out 1).trans rfl
    have hcz112_2:wc.cell? ⟨gb151,2,none⟩=some (.int .i64 a0_2):=(blk_cell BK151.out 2).trans rfl
    have hcz112_3:wc.cell? ⟨gb151,3,none⟩=some (.int .i64 a0_3):=(blk_cell BK151.out 3).trans rfl
    have hcz112_4:wc.cell? ⟨gb151,4,none⟩=some (.int .i64 a0_4):=(blk_cell BK151.out 4).trans rfl
    have hfz112_0:=blk_frozen BK151.out 0
    have hfz112_1:=blk_frozen BK151.out 1
    have hfz112_2:=blk_frozen BK151.out 2
    have hfz112_3:=blk_frozen BK151.out 3
    have hfz112_4:=blk_frozen BK151.out 4
    go_wp2_with (first|((with_reducible refine gate_callee (f:=119) rfl ?_);refine goesL_ (some 146) rfl rfl Try.func119 (by kernel_rfl) rfl #[.int .i64 t153,.int .i64 7,.int .i64 5,.int .i64 a0_1] rfl (by (try simp only [List.map_toArray,List.map_cons,List.map_nil]);first|done|rfl|(simp only [List.length_drop,List.length_take];rfl)) ?_;(with_reducible refine (spec_l01Put.calls kj89 t153 7 5 a0_1 t181 _ A100.out).mono ?_);rintro e w' ⟨rfl,⟨nd,rfl⟩⟩;refine ⟨_,rfl,?_⟩;have hcz113_0:wc.cell? ⟨gb156,0,none⟩=some (.int .i64 t152):=(blk_cell BK156.out 0).trans rfl;have hcz113_1:wc.cell? ⟨gb156,1,none⟩=some (.int .i64 t153):=(blk_cell BK156.out 1).trans rfl;have hcz113_2:wc.cell? ⟨gb156,2,none⟩=some (.int .i64 t154):=(blk_cell BK156.out 2).trans rfl;have hcz113_3:wc.cell? ⟨gb156,3,none⟩=some (.int .i64 t155):=(blk_cell BK156.out 3).trans rfl;have hfz113_0:=blk_frozen BK156.out 0;have hfz113_1:=blk_frozen BK156.out 1;have hfz113_2:=blk_frozen BK156.out 2;have hfz113_3:=blk_frozen BK156.out 3)|((with_reducible refine gate_callee (f:=119) rfl ?_);refine goesL_ (some 150) rfl rfl Try.func119 (by kernel_rfl) rfl #[.int .i64 t181,.int .i64 12,.int .i64 3,.int .i64 t154] rfl (by (try simp only [List.map_toArray,List.map_cons,List.map_nil]);first|done|rfl|(simp only [List.length_drop,List.length_take];rfl)) ?_;(with_reducible refine (spec_l01Put.calls kj89 t181 12 3 t154 t182 _ A101.out).mono ?_);rintro e w' ⟨rfl,⟨nd,rfl⟩⟩;refine ⟨_,rfl,?_⟩)|((with_reducible refine gate_callee (f:=119) rfl ?_);refine goesL_ (some 154) rfl rfl Try.func119 (by kernel_rfl) rfl #[.int .i64 t182,.int .i64 15,.int .i64 5,.int .i64 a0_2] rfl (by (try simp only [List.map_toArray,List.map_cons,List.map_nil]);first|done|rfl|(simp only [List.length_drop,List.length_take];rfl)) ?_;(with_reducible refine (spec_l01Put.calls kj89 t182 15 5 a0_2 t183 _ A102.out).mono ?_);rintro e w' ⟨rfl,⟨nd,rfl⟩⟩;refine ⟨_,rfl,?_⟩)|((with_reducible refine gate_callee (f:=119) rfl ?_);refine goesL_ (some 158) rfl rfl Try.func119 (by kernel_rfl) rfl #[.int .i64 t183,.int .i64 25,.int .i64 7,.int .i64 t155] rfl (by (try simp only [List.map_toArray,List.map_cons,List.map_nil]);first|done|rfl|(simp only [List.length_drop,List.length_take];rfl)) ?_;(with_reducible refine (spec_l01Put.calls kj89 t183 25 7 t155 t184 _ A103.out).mono ?_);rintro e w' ⟨rfl,⟨nd,rfl⟩⟩;refine ⟨_,rfl,?_⟩)|((with_reducible refine gate_callee (f:=119) rfl ?_);refine goesL_ (some 172) rfl rfl Try.func119 (by kernel_rfl) rfl #[.int .i64 t184,.int .i64 20,.int .i64 5,.int .i64 a0_4] rfl (by (try simp only [List.map_toArray,List.map_cons,List.map_nil]);first|done|rfl|(simp only [List.length_drop,List.length_take];rfl)) ?_;(with_reducible refine (spec_l01Put.calls kj89 t184 20 5 a0_4 t186 _ A110.out).mono ?_);rintro e w' ⟨rfl,⟨nd,rfl⟩⟩;refine ⟨_,rfl,?_⟩))
    go_ret
    exact ⟨by first|rfl|(simp [errW_none,errW_some]<;>rfl)|(simp [*,errW_none,errW_some]<;>rfl),by repeat (with_reducible first|exact HB.out|apply Q4|apply Q5|apply Q6|apply Q7 GE151.out|apply Q7 GE156.out)⟩
   rw [if_neg c109] at H
   obtain ⟨c109b0,c109b1⟩:=eqN c109
   obtain ⟨t187,A114,H⟩:=bindA H
   obtain rfl:=Option.some.inj H
   have hnb115:=NB151_156.out
   have hnc115:=NB156_151.out
   have hcz116_0:wc.cell? ⟨gb151,0,none⟩=some (.int .i64 a0_0):=(blk_cell BK151.out 0).trans rfl
   have hcz116_1:wc.cell? ⟨gb151,1,none⟩=some (.int .i64 a0_1):=(blk_cell BK151.out 1).trans rfl
   have hcz116_2:wc.cell? ⟨gb151,2,none⟩=some (.int .i64 a0_2):=(blk_cell BK151.out 2).trans rfl
   have hcz116_3:wc.cell? ⟨gb151,3,none⟩=some (.int .i64 a0_3):=(blk_cell BK151.out 3).trans rfl
   have hcz116_4:wc.cell? ⟨gb151,4,none⟩=some (.int .i64 a0_4):=(blk_cell BK151.out 4).trans rfl
   have hfz116_0:=blk_frozen BK151.out 0
   have hfz116_1:=blk_frozen BK151.out 1
   have hfz116_2:=blk_frozen BK151.out 2
   have hfz116_3:=blk_frozen BK151.out 3
   have hfz116_4:=blk_frozen BK151.out 4
   go_wp2_with (first|((with_reducible refine gate_callee (f:=119) rfl ?_);refine goesL_ (some 146) rfl rfl Try.func119 (by kernel_rfl) rfl #[.int .i64 t153,.int .i64 7,.int .i64 5,.int .i64 a0_1] rfl (by (try simp only [List.map_toArray,List.map_cons,List.map_nil]);first|done|rfl|(simp only [List.length_drop,List.length_take];rfl)) ?_;(with_reducible refine (spec_l01Put.calls kj89 t153 7 5 a0_1 t181 _ A100.out).mono ?_);rintro e w' ⟨rfl,⟨nd,rfl⟩⟩;refine ⟨_,rfl,?_⟩;have hcz117_0:wc.cell? ⟨gb156,0,none⟩=some (.int .i64 t152):=(blk_cell BK156.out 0).trans rfl;have hcz117_1:wc.cell? ⟨gb156,1,none⟩=some (.int .i64 t153):=(blk_cell BK156.out 1).trans rfl;have hcz117_2:wc.cell? ⟨gb156,2,none⟩=some (.int .i64 t154):=(blk_cell BK156.out 2).trans rfl;have hcz117_3:wc.cell? ⟨gb156,3,none⟩=some (.int .i64 t155):=(blk_cell BK156.out 3).trans rfl;have hfz117_0:=blk_frozen BK156.out 0;have hfz117_1:=blk_frozen BK156.out 1;have hfz117_2:=blk_frozen BK156.out 2;have hfz117_3:=blk_frozen BK156.out 3)|((with_reducible refine gate_callee (f:=119) rfl ?_);refine goesL_ (some 150) rfl rfl Try.func119 (by kernel_rfl) rfl #[.int .i64 t181,.int .i64 12,.int .i64 3,.int .i64 t154] rfl (by (try simp only [List.map_toArray,List.map_cons,List.map_nil]);first|done|rfl|(simp only [List.length_drop,List.length_take];rfl)) ?_;(with_reducible refine (spec_l01Put.calls kj89 t181 12 3 t154 t182 _ A101.out).mono ?_);rintro e w' ⟨rfl,⟨nd,rfl⟩⟩;refine ⟨_,rfl,?_⟩)|((with_reducible refine gate_callee (f:=119) rfl ?_);refine goesL_ (some 154) rfl rfl Try.func119 (by kernel_rfl) rfl #[.int .i64 t182,.int .i64 15,.int .i64 5,.int .i64 a0_2] rfl (by (try simp only [List.map_toArray,List.map_cons,List.map_nil]);first|done|rfl|(simp only [List.length_drop,List.length_take];rfl)) ?_;(with_reducible refine (spec_l01Put.calls kj89 t182 15 5 a0_2 t183 _ A102.out).mono ?_);rintro e w' ⟨rfl,⟨nd,rfl⟩⟩;refine ⟨_,rfl,?_⟩)|((with_reducible refine gate_callee (f:=119) rfl ?_);refine goesL_ (some 158) rfl rfl Try.func119 (by kernel_rfl) rfl #[.int .i64 t183,.int .i64 25,.int .i64 7,.int .i64 t155] rfl (by (try simp only [List.map_toArray,List.map_cons,List.map_nil]);first|done|rfl|(simp only [List.length_drop,List.length_take];rfl)) ?_;(with_reducible refine (spec_l01Put.calls kj89 t183 25 7 t155 t184 _ A103.out).mono ?_);rintro e w' ⟨rfl,⟨nd,rfl⟩⟩;refine ⟨_,rfl,?_⟩)|((with_reducible refine gate_callee (f:=119) rfl ?_);refine goesL_ (some 176) rfl rfl Try.func119 (by kernel_rfl) rfl #[.int .i64 t184,.int .i64 20,.int .i64 5,.int .i64 a0_3] rfl (by (try simp only [List.map_toArray,List.map_cons,List.map_nil]);first|done|rfl|(simp only [List.length_drop,List.length_take];rfl)) ?_;(with_reducible refine (spec_l01Put.calls kj89 t184 20 5 a0_3 t187 _ A114.out).mono ?_);rintro e w' ⟨rfl,⟨nd,rfl⟩⟩;refine ⟨_,rfl,?_⟩))
   go_ret
   exact ⟨by first|rfl|(simp [errW_none,errW_some]<;>rfl)|(simp [*,errW_none,errW_some]<;>rfl),by repeat (with_reducible first|exact HB.out|apply Q4|apply Q5|apply Q6|apply Q7 GE151.out|apply Q7 GE156.out)⟩
  replace c99:=Bool.eq_false_iff.mpr c99
  subst c99
  rw [if_neg (show ¬ (false=true) by decide)] at H
  by_cases c118:t152=9
  ·rw [if_pos c118] at H
   obtain ⟨c118b0,c118b1⟩:=eqP c118
   clear c118
   obtain ⟨t188,A119,H⟩:=bindA H
   obtain rfl:=Option.some.inj H
   have hnb120:=NB156_151.out
   have hnc120:=NB151_156.out
   have hcz121_0:wc.cell? ⟨gb156,0,none⟩=some (.int .i64 t152):=(blk_cell BK156.out 0).trans rfl
   have hcz121_1:wc.cell? ⟨gb156,1,none⟩=some (.int .i64 t153):=(blk_cell BK156.out 1).trans rfl
   have hcz121_2:wc.cell? ⟨gb156,2,none⟩=some (.int .i64 t154):=(blk_cell BK156.out 2).trans rfl
   have hcz121_3:wc.cell? ⟨gb156,3,none⟩=some (.int .i64 t155):=(blk_cell BK156.out 3).trans rfl
   have hfz121_0:=blk_frozen BK156.out 0
   have hfz121_1:=blk_frozen BK156.out 1
   have hfz121_2:=blk_frozen BK156.out 2
   have hfz121_3:=blk_frozen BK156.out 3
   go_wp2_with (first|((with_reducible refine gate_callee (f:=119) rfl ?_);refine goesL_ (some 182) rfl rfl Try.func119 (by kernel_rfl) rfl #[.int .i64 t153,.int .i64 20,.int .i64 12,.int .i64 t155] rfl (by (try simp only [List.map_toArray,List.map_cons,List.map_nil]);first|done|rfl|(simp only [List.length_drop,List.length_take];rfl)) ?_;(with_reducible refine (spec_l01Put.calls kj89 t153 20 12 t155 t188 _ A119.out).mono ?_);rintro e w' ⟨rfl,⟨nd,rfl⟩⟩;refine ⟨_,rfl,?_⟩))
   go_ret
   exact ⟨by first|rfl|(simp [errW_none,errW_some]<;>rfl)|(simp [*,errW_none,errW_some]<;>rfl),by repeat (with_reducible first|exact HB.out|apply Q4|apply Q5|apply Q6|apply Q7 GE151.out|apply Q7 GE156.out)⟩
  rw [if_neg c118] at H
  obtain ⟨c118b0,c118b1⟩:=eqN c118
  obtain rfl:=Option.some.inj H
  go_wp2
  go_ret
  exact ⟨by first|rfl|(simp [errW_none,errW_some]<;>rfl)|(simp [*,errW_none,errW_some]<;>rfl),by repeat (with_reducible first|exact HB.out|apply Q4|apply Q5|apply Q6|apply Q7 GE151.out|apply Q7 GE156.out)⟩
end Go.Proofs.Ythepmdlpjdlajaa.PFnExactCallsOf
