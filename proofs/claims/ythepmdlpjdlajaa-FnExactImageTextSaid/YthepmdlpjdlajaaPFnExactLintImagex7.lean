-- Written by a program for this claim.
import Derived.Test.YthepmdlpjdlajaaPFnExactLintImagex0
import Derived.Test.YthepmdlpjdlajaaPFnExactLintImagex3
import Derived.Test.YthepmdlpjdlajaaPFnExactLintImagex6
namespace Go.Proofs.Ythepmdlpjdlajaa.PFnExactLintImage
open Go.RowKit Go.Proofs.YthepmdlpjdlajaaW.PrintWords Go.Proofs.YthepmdlpjdlajaaW.PrintLast Go.Proofs.YthepmdlpjdlajaaW.PrintMore
attribute [local go_sem] max2_int min2_int max_two min_two max_three min_three max_four min_four   -- for this text's walks alone
set_option linter.unusedVariables false
set_option linter.unusedSimpArgs false
mutual
def spec_l02Encode.l0:Nat→Int→Int→Int→Int→Int→Int→Int→Option (Int)
  | 0,_,_,_,_,_,_,_=>none
  | k+1,x4,x5,x182000,x182001,x182002,x182003,x182004=>if x5 < 21 then (if x5 > 10 then (spec_l02Encode.j1 k x4 x5 (wrap64 (9+x5)) x182000 x182001 x182002 x182003 x182004) else (spec_l02Encode.j1 k x4 x5 (wrap64 (20+x5)) x182000 x182001 x182002 x182003 x182004)) else (some x4)
def spec_l02Encode.j1:Nat→Int→Int→Int→Int→Int→Int→Int→Int→Option (Int)
  | 0,_,_,_,_,_,_,_,_=>none
  | k+1,x4,x5,x6,x182000,x182001,x182002,x182003,x182004=>if x5 > 11 then (spec_l02Encode.j2 k x4 x5 x5 x182000 x182001 x182002 x182003 x182004) else (spec_l02Encode.j2 k x4 x5 x6 x182000 x182001 x182002 x182003 x182004)
def spec_l02Encode.j2:Nat→Int→Int→Int→Int→Int→Int→Int→Int→Option (Int)
  | 0,_,_,_,_,_,_,_,_=>none
  | k+1,x4,x5,x6,x182000,x182001,x182002,x182003,x182004=>if x5=20 then ((spec_l01Bit.f x182004 x5).bind fun t190=>((spec_l01Put.f k x4 31 1 t190).bind fun t191=>(spec_l02Encode.l0 k t191 (wrap64 (x5+1)) x182000 x182001 x182002 x182003 x182004))) else ((spec_l01Bit.f x182004 x5).bind fun t192=>((spec_l01Put.f k x4 x6 1 t192).bind fun t193=>(spec_l02Encode.l0 k t193 (wrap64 (x5+1)) x182000 x182001 x182002 x182003 x182004)))
def spec_l02Encode.l1:Nat→Int→Int→Int→Int→Int→Int→Int→Option (Int)
  | 0,_,_,_,_,_,_,_=>none
  | k+1,x4,x7,x182000,x182001,x182002,x182003,x182004=>if x7 < 13 then (if x7 > 4 then (spec_l02Encode.j4 k x4 x7 (wrap64 (20+x7)) x182000 x182001 x182002 x182003 x182004) else (spec_l02Encode.j4 k x4 x7 (wrap64 (7+x7)) x182000 x182001 x182002 x182003 x182004)) else (some x4)
def spec_l02Encode.j4:Nat→Int→Int→Int→Int→Int→Int→Int→Int→Option (Int)
  | 0,_,_,_,_,_,_,_,_=>none
  | k+1,x4,x7,x8,x182000,x182001,x182002,x182003,x182004=>if x7=11 then (spec_l02Encode.j5 k x4 x7 7 x182000 x182001 x182002 x182003 x182004) else (spec_l02Encode.j5 k x4 x7 x8 x182000 x182001 x182002 x182003 x182004)
def spec_l02Encode.j5:Nat→Int→Int→Int→Int→Int→Int→Int→Int→Option (Int)
  | 0,_,_,_,_,_,_,_,_=>none
  | k+1,x4,x7,x8,x182000,x182001,x182002,x182003,x182004=>if x7=12 then ((spec_l01Bit.f x182004 x7).bind fun t201=>((spec_l01Put.f k x4 31 1 t201).bind fun t202=>(spec_l02Encode.l1 k t202 (wrap64 (x7+1)) x182000 x182001 x182002 x182003 x182004))) else ((spec_l01Bit.f x182004 x7).bind fun t203=>((spec_l01Put.f k x4 x8 1 t203).bind fun t204=>(spec_l02Encode.l1 k t204 (wrap64 (x7+1)) x182000 x182001 x182002 x182003 x182004)))
def spec_l02Encode.l2:Nat→Int→Int→Int→Int→Int→Int→Int→Option (Int)
  | 0,_,_,_,_,_,_,_=>none
  | k+1,x4,x9,x182000,x182001,x182002,x182003,x182004=>if x9 < 12 then ((spec_l01Bit.f x182004 x9).bind fun t209=>((spec_l01Put.f k x4 (wrap64 (20+x9)) 1 t209).bind fun t210=>(spec_l02Encode.l2 k t210 (wrap64 (x9+1)) x182000 x182001 x182002 x182003 x182004))) else (some x4)
def spec_l02Encode.j7:Nat→Int→Int→Bool→Int→Int→Int→Int→Int→Int→Int→Int→Int→Option (Int)
  | 0,_,_,_,_,_,_,_,_,_,_,_,_=>none
  | k+1,x4,x16,x139,x182000,x182001,x182002,x182003,x182004,x187000,x187001,x187002,x187003=>if x139=true then ((spec_l01Put.f k x4 7 5 x182001).bind fun t211=>((spec_l01Put.f k t211 12 3 x187002).bind fun t212=>((spec_l01Put.f k t212 15 5 x182002).bind fun t213=>((spec_l01Put.f k t213 25 7 x187003).bind fun t214=>(if x187000=6 then ((spec_l01Put.f k t214 20 6 x182004).bind fun t215=>(some t215)) else (if x187000=7 then ((spec_l01Put.f k t214 20 5 x182004).bind fun t216=>(some t216)) else ((spec_l01Put.f k t214 20 5 x182003).bind fun t217=>(some t217)))))))) else (if x16=9 then ((spec_l01Put.f k x4 20 12 x187003).bind fun t218=>(some t218)) else (some x4))
end
def spec_l02Encode.f (k:Nat) (a0_0:Int) (a0_1:Int) (a0_2:Int) (a0_3:Int) (a0_4:Int):Option (Int):=(spec_l02Shape.f a0_0).bind fun bt182=>(if bt182.1=1 then ((spec_l01Put.f k bt182.2.1 7 5 a0_1).bind fun t187=>((spec_l01Put.f k t187 12 20 (wrap64 (Int.tdiv a0_4 4096))).bind fun t188=>(some t188))) else (if bt182.1=2 then ((spec_l01Put.f k bt182.2.1 7 5 a0_1).bind fun t189=>(spec_l02Encode.l0 k t189 1 a0_0 a0_1 a0_2 a0_3 a0_4)) else (if bt182.1=3 then ((spec_l01Put.f k bt182.2.1 7 5 a0_1).bind fun t194=>((spec_l01Put.f k t194 12 3 bt182.2.2.1).bind fun t195=>((spec_l01Put.f k t195 15 5 a0_2).bind fun t196=>((spec_l01Put.f k t196 20 12 a0_4).bind fun t197=>(some t197))))) else (if bt182.1=4 then ((spec_l01Put.f k bt182.2.1 12 3 bt182.2.2.1).bind fun t198=>((spec_l01Put.f k t198 15 5 a0_2).bind fun t199=>((spec_l01Put.f k t199 20 5 a0_3).bind fun t200=>(spec_l02Encode.l1 k t200 1 a0_0 a0_1 a0_2 a0_3 a0_4)))) else (if bt182.1=5 then ((spec_l01Put.f k bt182.2.1 7 5 a0_4).bind fun t205=>((spec_l01Put.f k t205 12 3 bt182.2.2.1).bind fun t206=>((spec_l01Put.f k t206 15 5 a0_2).bind fun t207=>((spec_l01Put.f k t207 20 5 a0_3).bind fun t208=>(spec_l02Encode.l2 k t208 5 a0_0 a0_1 a0_2 a0_3 a0_4))))) else (if bt182.1=6 then (spec_l02Encode.j7 k bt182.2.1 bt182.1 (bt182.1==6) a0_0 a0_1 a0_2 a0_3 a0_4 bt182.1 bt182.2.1 bt182.2.2.1 bt182.2.2.2) else (if bt182.1=7 then (spec_l02Encode.j7 k bt182.2.1 bt182.1 (bt182.1==7) a0_0 a0_1 a0_2 a0_3 a0_4 bt182.1 bt182.2.1 bt182.2.2.1 bt182.2.2.2) else (spec_l02Encode.j7 k bt182.2.1 bt182.1 (bt182.1==8) a0_0 a0_1 a0_2 a0_3 a0_4 bt182.1 bt182.2.1 bt182.2.2.1 bt182.2.2.2))))))))
theorem spec_l02Encode.mono_l : ∀ k,(∀ y0 y1 y2 y3 y4 y5 y6,LeO (spec_l02Encode.l0 k y0 y1 y2 y3 y4 y5 y6) (spec_l02Encode.l0 (k+1) y0 y1 y2 y3 y4 y5 y6))∧(∀ y0 y1 y2 y3 y4 y5 y6 y7,LeO (spec_l02Encode.j1 k y0 y1 y2 y3 y4 y5 y6 y7) (spec_l02Encode.j1 (k+1) y0 y1 y2 y3 y4 y5 y6 y7))∧(∀ y0 y1 y2 y3 y4 y5 y6 y7,LeO (spec_l02Encode.j2 k y0 y1 y2 y3 y4 y5 y6 y7) (spec_l02Encode.j2 (k+1) y0 y1 y2 y3 y4 y5 y6 y7))∧(∀ y0 y1 y2 y3 y4 y5 y6,LeO (spec_l02Encode.l1 k y0 y1 y2 y3 y4 y5 y6) (spec_l02Encode.l1 (k+1) y0 y1 y2 y3 y4 y5 y6))∧(∀ y0 y1 y2 y3 y4 y5 y6 y7,LeO (spec_l02Encode.j4 k y0 y1 y2 y3 y4 y5 y6 y7) (spec_l02Encode.j4 (k+1) y0 y1 y2 y3 y4 y5 y6 y7))∧(∀ y0 y1 y2 y3 y4 y5 y6 y7,LeO (spec_l02Encode.j5 k y0 y1 y2 y3 y4 y5 y6 y7) (spec_l02Encode.j5 (k+1) y0 y1 y2 y3 y4 y5 y6 y7))∧(∀ y0 y1 y2 y3 y4 y5 y6,LeO (spec_l02Encode.l2 k y0 y1 y2 y3 y4 y5 y6) (spec_l02Encode.l2 (k+1) y0 y1 y2 y3 y4 y5 y6))∧(∀ y0 y1 y2 y3 y4 y5 y6 y7 y8 y9 y10 y11,LeO (spec_l02Encode.j7 k y0 y1 y2 y3 y4 y5 y6 y7 y8 y9 y10 y11) (spec_l02Encode.j7 (k+1) y0 y1 y2 y3 y4 y5 y6 y7 y8 y9 y10 y11))
  | 0=>⟨fun _ _ _ _ _ _ _ r h=>by simp [spec_l02Encode.l0] at h,fun _ _ _ _ _ _ _ _ r h=>by simp [spec_l02Encode.j1] at h,fun _ _ _ _ _ _ _ _ r h=>by simp [spec_l02Encode.j2] at h,fun _ _ _ _ _ _ _ r h=>by simp [spec_l02Encode.l1] at h,fun _ _ _ _ _ _ _ _ r h=>by simp [spec_l02Encode.j4] at h,fun _ _ _ _ _ _ _ _ r h=>by simp [spec_l02Encode.j5] at h,fun _ _ _ _ _ _ _ r h=>by simp [spec_l02Encode.l2] at h,fun _ _ _ _ _ _ _ _ _ _ _ _ r h=>by simp [spec_l02Encode.j7] at h⟩
  | k+1=>by
    obtain ⟨ih0,ih1,ih2,ih3,ih4,ih5,ih6,ih7⟩:=spec_l02Encode.mono_l k
    refine ⟨?_,?_,?_,?_,?_,?_,?_,?_⟩<;>intros<;>(first|unfold spec_l02Encode.l0|unfold spec_l02Encode.j1|unfold spec_l02Encode.j2|unfold spec_l02Encode.l1|unfold spec_l02Encode.j4|unfold spec_l02Encode.j5|unfold spec_l02Encode.l2|unfold spec_l02Encode.j7)<;>repeat' (with_reducible first|apply ih0|apply ih1|apply ih2|apply ih3|apply ih4|apply ih5|apply ih6|apply ih7|apply spec_l01Put.mono|apply LeO.refl|apply LeO.none|apply LeO.ite|refine LeO.bind ?_ (fun _=>?_))
theorem spec_l02Encode.mono : ∀ a0 a1 a2 a3 a4 k,LeO (spec_l02Encode.f k a0 a1 a2 a3 a4) (spec_l02Encode.f (k+1) a0 a1 a2 a3 a4):=by
 intro a0 a1 a2 a3 a4 k
 obtain ⟨ih0,ih1,ih2,ih3,ih4,ih5,ih6,ih7⟩:=spec_l02Encode.mono_l k
 unfold spec_l02Encode.f
 repeat' (with_reducible first|apply ih0|apply ih1|apply ih2|apply ih3|apply ih4|apply ih5|apply ih6|apply ih7|apply spec_l01Put.mono|apply LeO.refl|apply LeO.none|apply LeO.ite|refine LeO.bind ?_ (fun _=>?_))
set_option maxHeartbeats 8000000 in
set_option maxRecDepth 100000 in
theorem spec_l02Encode.calls (k:Nat) (a0_0:Int) (a0_1:Int) (a0_2:Int) (a0_3:Int) (a0_4:Int) (r:Int) (w:World) (h:spec_l02Encode.f k a0_0 a0_1 a0_2 a0_3 a0_4=some r) :
    Calls Try.prog 99 #[.agg #[.int .i64 a0_0,.int .i64 a0_1,.int .i64 a0_2,.int .i64 a0_3,.int .i64 a0_4]] w fun e w'=>e=.returned (.int .i64 r)∧Below w.heap.size w w':=by
 have hu86:=Try.underlying86
 have hu109:=Try.underlying109
 have HB:=Aside0.mk (Below.refl w.heap.size w)
 have H:((spec_l02Shape.f a0_0).bind fun bt182=>(if bt182.1=1 then ((spec_l01Put.f k bt182.2.1 7 5 a0_1).bind fun t187=>((spec_l01Put.f k t187 12 20 (wrap64 (Int.tdiv a0_4 4096))).bind fun t188=>(some t188))) else (if bt182.1=2 then ((spec_l01Put.f k bt182.2.1 7 5 a0_1).bind fun t189=>(spec_l02Encode.l0 k t189 1 a0_0 a0_1 a0_2 a0_3 a0_4)) else (if bt182.1=3 then ((spec_l01Put.f k bt182.2.1 7 5 a0_1).bind fun t194=>((spec_l01Put.f k t194 12 3 bt182.2.2.1).bind fun t195=>((spec_l01Put.f k t195 15 5 a0_2).bind fun t196=>((spec_l01Put.f k t196 20 12 a0_4).bind fun t197=>(some t197))))) else (if bt182.1=4 then ((spec_l01Put.f k bt182.2.1 12 3 bt182.2.2.1).bind fun t198=>((spec_l01Put.f k t198 15 5 a0_2).bind fun t199=>((spec_l01Put.f k t199 20 5 a0_3).bind fun t200=>(spec_l02Encode.l1 k t200 1 a0_0 a0_1 a0_2 a0_3 a0_4)))) else (if bt182.1=5 then ((spec_l01Put.f k bt182.2.1 7 5 a0_4).bind fun t205=>((spec_l01Put.f k t205 12 3 bt182.2.2.1).bind fun t206=>((spec_l01Put.f k t206 15 5 a0_2).bind fun t207=>((spec_l01Put.f k t207 20 5 a0_3).bind fun t208=>(spec_l02Encode.l2 k t208 5 a0_0 a0_1 a0_2 a0_3 a0_4))))) else (if bt182.1=6 then (spec_l02Encode.j7 k bt182.2.1 bt182.1 (bt182.1==6) a0_0 a0_1 a0_2 a0_3 a0_4 bt182.1 bt182.2.1 bt182.2.2.1 bt182.2.2.2) else (if bt182.1=7 then (spec_l02Encode.j7 k bt182.2.1 bt182.1 (bt182.1==7) a0_0 a0_1 a0_2 a0_3 a0_4 bt182.1 bt182.2.1 bt182.2.2.1 bt182.2.2.2) else (spec_l02Encode.j7 k bt182.2.1 bt182.1 (bt182.1==8) a0_0 a0_1 a0_2 a0_3 a0_4 bt182.1 bt182.2.1 bt182.2.2.1 bt182.2.2.2)))))))))=some r:=h
 clear h
 obtain ⟨⟨t182,t183,t184,t185⟩,A2,H⟩:=bindA H
 try dsimp only at H
 by_cases c3:t182=1
 ·rw [if_pos c3] at H
  obtain ⟨c3b0,c3b1⟩:=eqP c3
  clear c3
  obtain ⟨t187,A4,H⟩:=bindA H
  obtain ⟨t188,A5,H⟩:=bindA H
  obtain rfl:=Option.some.inj H
  go_enter Try.func99,Try.ntmps99
  go_wp2_with (first|(refine bv 1 #[.int .i64 a0_0,.int .i64 a0_1,.int .i64 a0_2,.int .i64 a0_3,.int .i64 a0_4] 86 ?_;intro gb181 hg w6 hbox hb;obtain ⟨n0_,n2_⟩:=bx0 hbx hb hg;have n1_:=Aside0.mk (hbox);clear HB;have HB:=n0_;have BK181:=n1_;have GW181:=n2_;have GE181:=n2_;clear n0_ n1_ n2_;clear hb hbox hg;obtain ⟨Z7_0,Z7_1,Z7_2,Z7_3,Z7_4,Y7_0,Y7_1,Y7_2,Y7_3,Y7_4⟩:=cel5 BK181.out)|(refine gl 88 12 Try.func88 #[.int .i64 a0_0] ?_;(with_reducible refine (spec_l02Shape.calls a0_0 t182 t183 t184 t185 _ A2.out).mono ?_);rintro e w8 ⟨rfl,hb⟩;refine ⟨_,rfl,?_⟩;have n0_:=Aside0.mk (blk_below (qx BK181.out) hb);replace HB:=Aside0.mk (below_step (hb1 GE181.out) hb);clear BK181;have BK181:=n0_;clear n0_;(try clear hb);(try clear hb2);(try clear hk);(try clear hi))|(refine bv 3 #[.int .i64 0,.int .i64 0,.int .i64 0,.int .i64 0] 109 ?_;intro gb186 hg w9 hbox hb;obtain ⟨n1_,n3_⟩:=bx0 (hb1 GE181.out) hb hg;obtain ⟨n0_,n5_,n6_⟩:=bx3 (qx BK181.out) hb hg;have n2_:=Aside0.mk (hbox);clear BK181;clear HB;have BK181:=n0_;have HB:=n1_;have BK186:=n2_;have GW186:=n3_;have GE186:=n3_;have NB181_186:=n5_;have NB186_181:=n6_;clear n0_ n1_ n2_ n3_ n5_ n6_;clear hb hbox hg;have hnb10:=NB186_181.out;have hnc10:=NB181_186.out;obtain ⟨Z11_0,Z11_1,Z11_2,Z11_3,Y11_0,Y11_1,Y11_2,Y11_3⟩:=cel4 BK186.out;obtain ⟨Z12_0,Z12_1,Z12_2,Z12_3,Z12_4,Y12_0,Y12_1,Y12_2,Y12_3,Y12_4⟩:=cel5 BK181.out)|(refine gd 119 22 Try.func119 #[.int .i64 t183,.int .i64 7,.int .i64 5,.int .i64 a0_1] (spec_l01Put.calls k t183 7 5 a0_1 t187 _ A4.out) ?_;intro nd)|(refine gd 119 27 Try.func119 #[.int .i64 t187,.int .i64 12,.int .i64 20,.int .i64 (wrap64 (Int.tdiv a0_4 4096))] (spec_l01Put.calls k t187 12 20 (wrap64 (Int.tdiv a0_4 4096)) t188 _ A5.out) ?_;intro nd))
  go_ret
  exact ⟨rf,hb2 GE181.out GE186.out⟩
 rw [if_neg c3] at H
 obtain ⟨c3b0,c3b1⟩:=eqN c3
 by_cases c13:t182=2
 ·rw [if_pos c13] at H
  obtain ⟨c13b0,c13b1⟩:=eqP c13
  clear c13
  obtain ⟨t189,A14,H⟩:=bindA H
  have H':=Aside0.mk H
  clear H
  go_enter Try.func99,Try.ntmps99
  go_wp2_with (first|(refine bv 1 #[.int .i64 a0_0,.int .i64 a0_1,.int .i64 a0_2,.int .i64 a0_3,.int .i64 a0_4] 86 ?_;intro gb181 hg w15 hbox hb;obtain ⟨n0_,n2_⟩:=bx0 hbx hb hg;have n1_:=Aside0.mk (hbox);clear HB;have HB:=n0_;have BK181:=n1_;have GW181:=n2_;have GE181:=n2_;clear n0_ n1_ n2_;clear hb hbox hg;obtain ⟨Z16_0,Z16_1,Z16_2,Z16_3,Z16_4,Y16_0,Y16_1,Y16_2,Y16_3,Y16_4⟩:=cel5 BK181.out)|(refine gl 88 12 Try.func88 #[.int .i64 a0_0] ?_;(with_reducible refine (spec_l02Shape.calls a0_0 t182 t183 t184 t185 _ A2.out).mono ?_);rintro e w17 ⟨rfl,hb⟩;refine ⟨_,rfl,?_⟩;have n0_:=Aside0.mk (blk_below (qx BK181.out) hb);replace HB:=Aside0.mk (below_step (hb1 GE181.out) hb);clear BK181;have BK181:=n0_;clear n0_;(try clear hb);(try clear hb2);(try clear hk);(try clear hi))|(refine bv 3 #[.int .i64 0,.int .i64 0,.int .i64 0,.int .i64 0] 109 ?_;intro gb186 hg w18 hbox hb;obtain ⟨n1_,n3_⟩:=bx0 (hb1 GE181.out) hb hg;obtain ⟨n0_,n5_,n6_⟩:=bx3 (qx BK181.out) hb hg;have n2_:=Aside0.mk (hbox);clear BK181;clear HB;have BK181:=n0_;have HB:=n1_;have BK186:=n2_;have GW186:=n3_;have GE186:=n3_;have NB181_186:=n5_;have NB186_181:=n6_;clear n0_ n1_ n2_ n3_ n5_ n6_;clear hb hbox hg;have hnb19:=NB186_181.out;have hnc19:=NB181_186.out;obtain ⟨Z20_0,Z20_1,Z20_2,Z20_3,Y20_0,Y20_1,Y20_2,Y20_3⟩:=cel4 BK186.out;obtain ⟨Z21_0,Z21_1,Z21_2,Z21_3,Z21_4,Y21_0,Y21_1,Y21_2,Y21_3,Y21_4⟩:=cel5 BK181.out)|(refine gd 119 33 Try.func119 #[.int .i64 t183,.int .i64 7,.int .i64 5,.int .i64 a0_1] (spec_l01Put.calls k t183 7 5 a0_1 t189 _ A14.out) ?_;intro nd))
  go_loopg [4,5] k (fun kq v4 v5 w'=>∃ (x4_1:Int) (x5_1:Int),v4=.int .i64 x4_1∧v5=.int .i64 x5_1∧Aside0 (spec_l02Encode.l0 kq x4_1 x5_1 a0_0 a0_1 a0_2 a0_3 a0_4=some r)∧Aside0 (kq≤k)∧Aside0 (w'.heap[gb181]?=some (.cells #[.int .i64 a0_0,.int .i64 a0_1,.int .i64 a0_2,.int .i64 a0_3,.int .i64 a0_4] 86 (0,0)))∧Aside0 (w'.heap[gb186]?=some (.cells #[.int .i64 t182,.int .i64 t183,.int .i64 t184,.int .i64 t185] 109 (0,0)))∧Aside0 (Below w.heap.size w w'))
  case atStart=>exact ⟨(t189),(1),rs,rs,H',⟨Nat.le_refl _⟩,⟨by (with_reducible repeat first|apply Q1|apply Q2|apply Q3);refine blk_far ?_ NB181_186.out _;(with_reducible repeat first|apply Q1|apply Q2|apply Q3);refine blk_far ?_ NB181_186.out _;(with_reducible repeat first|apply Q1|apply Q2|apply Q3);refine blk_far ?_ NB181_186.out _;(with_reducible repeat first|apply Q1|apply Q2|apply Q3);refine blk_far ?_ NB181_186.out _;(with_reducible repeat first|apply Q1|apply Q2|apply Q3);exact BK181.out⟩,⟨by (with_reducible repeat first|apply Q1|apply Q2|apply Q3);refine blk_put (cs:=#[.int .i64 t182,.int .i64 t183,.int .i64 t184,.int .i64 0]) ?_ 3 _ rfl;(with_reducible repeat first|apply Q1|apply Q2|apply Q3);refine blk_put (cs:=#[.int .i64 t182,.int .i64 t183,.int .i64 0,.int .i64 0]) ?_ 2 _ rfl;(with_reducible repeat first|apply Q1|apply Q2|apply Q3);refine blk_put (cs:=#[.int .i64 t182,.int .i64 0,.int .i64 0,.int .i64 0]) ?_ 1 _ rfl;(with_reducible repeat first|apply Q1|apply Q2|apply Q3);refine blk_put (cs:=#[.int .i64 0,.int .i64 0,.int .i64 0,.int .i64 0]) ?_ 0 _ rfl;(with_reducible repeat first|apply Q1|apply Q2|apply Q3);exact BK186.out⟩,⟨hb2 GE181.out GE186.out⟩⟩
  clear H'
  try clear c3
  try clear c3b0 c3b1
  try clear c13b0 c13b1
  try clear Z16_0 Z16_1 Z16_2 Z16_3 Z16_4
  try clear Z20_0 Z20_1 Z20_2 Z20_3
  try clear Z21_0 Z21_1 Z21_2 Z21_3 Z21_4
  try clear Y16_0 Y16_1 Y16_2 Y16_3 Y16_4
  try clear Y20_0 Y20_1 Y20_2 Y20_3
  try clear Y21_0 Y21_1 Y21_2 Y21_3 Y21_4
  obtain ⟨x4_1,x5_1,rfl,rfl,HA,HK1,BK181,BK186,HB⟩:=hrel
  cases gk with
  | zero=>exact absurd HA.out (by simp [spec_l02Encode.l0])
  | succ k1 =>
   have H:=HA.out
   clear HA
   simp only [spec_l02Encode.l0] at H
   by_cases c22:x5_1 < 21
   ·rw [if_pos c22] at H
    have c22b0:decide (x5_1 < 21)=true:=decide_eq_true c22
    clear c22
    have HC23:=Aside0.mk H
    clear H
    go_upto_if 41 with (fail)
    go_cut [6] (fun v6 wc=>∃ (kq:Nat) (x6_22:Int),v6=.int .i64 x6_22∧Aside0 (spec_l02Encode.j1 kq x4_1 x5_1 x6_22 a0_0 a0_1 a0_2 a0_3 a0_4=some r)∧Aside0 (kq≤k1)∧Aside0 (wc.heap[gb181]?=some (.cells #[.int .i64 a0_0,.int .i64 a0_1,.int .i64 a0_2,.int .i64 a0_3,.int .i64 a0_4] 86 (0,0)))∧Aside0 (wc.heap[gb186]?=some (.cells #[.int .i64 t182,.int .i64 t183,.int .i64 t184,.int .i64 t185] 109 (0,0)))∧Aside0 (Below w.heap.size w wc))
    case first=>
     have H:=HC23.out
     clear HC23
     by_cases c24:x5_1 > 10
     ·rw [if_pos c24] at H
      have c24b0:decide (10 < x5_1)=true:=decide_eq_true c24
      clear c24
      (first|rw [c24b0]|(simp only [i64_w,i32_w];rw [c24b0])|skip)
      have H':=Aside0.mk H
      clear H
      go_wp2
      go_meet
      case rel=>exact ⟨_,(wrap64 (9+x5_1)),rs,H',⟨om HK1.out⟩,⟨qx BK181.out⟩,⟨qx BK186.out⟩,⟨hb2 GE181.out GE186.out⟩⟩
     rw [if_neg c24] at H
     have c24b0:decide (10 < x5_1)=false:=decide_eq_false c24
     clear c24
     (first|rw [c24b0]|(simp only [i64_w,i32_w];rw [c24b0])|skip)
     have H':=Aside0.mk H
     clear H
     go_wp2
     go_meet
     case rel=>exact ⟨_,(wrap64 (20+x5_1)),rs,H',⟨om HK1.out⟩,⟨qx BK181.out⟩,⟨qx BK186.out⟩,⟨hb2 GE181.out GE186.out⟩⟩
    clear HC23
    try clear c22b0
    obtain ⟨kq,x6_22,rfl,HA,HJ22,BK181,BK186,HB⟩:=hcut
    cases kq with
    | zero=>exact absurd HA.out (by simp [spec_l02Encode.j1])
    | succ kj22 =>
     have H:=HA.out
     clear HA
     simp only [spec_l02Encode.j1] at H
     have HC25:=Aside0.mk H
     clear H
     go_upto_if 45 with (fail)
     go_cut [6] (fun v6 wc=>∃ (kq:Nat) (x6_24:Int),v6=.int .i64 x6_24∧Aside0 (spec_l02Encode.j2 kq x4_1 x5_1 x6_24 a0_0 a0_1 a0_2 a0_3 a0_4=some r)∧Aside0 (kq≤kj22)∧Aside0 (wc.heap[gb181]?=some (.cells #[.int .i64 a0_0,.int .i64 a0_1,.int .i64 a0_2,.int .i64 a0_3,.int .i64 a0_4] 86 (0,0)))∧Aside0 (wc.heap[gb186]?=some (.cells #[.int .i64 t182,.int .i64 t183,.int .i64 t184,.int .i64 t185] 109 (0,0)))∧Aside0 (Below w.heap.size w wc))
     case first=>
      have H:=HC25.out
      clear HC25
      by_cases c26:x5_1 > 11
      ·rw [if_pos c26] at H
       have c26b0:decide (11 < x5_1)=true:=decide_eq_true c26
       clear c26
       (first|rw [c26b0]|(simp only [i64_w,i32_w];rw [c26b0])|skip)
       have H':=Aside0.mk H
       clear H
       go_wp2
       go_meet
       case rel=>exact ⟨_,(x5_1),rs,H',⟨by have:=HK1.out;have:=HJ22.out;first|omega|exact Nat.le_refl _⟩,⟨qx BK181.out⟩,⟨qx BK186.out⟩,⟨hb2 GE181.out GE186.out⟩⟩
      rw [if_neg c26] at H
      have c26b0:decide (11 < x5_1)=false:=decide_eq_false c26
      clear c26
      (first|rw [c26b0]|(simp only [i64_w,i32_w];rw [c26b0])|skip)
      have H':=Aside0.mk H
      clear H
      go_wp2
      go_meet
      case rel=>exact ⟨_,(x6_22),rs,H',⟨by have:=HK1.out;have:=HJ22.out;first|omega|exact Nat.le_refl _⟩,⟨qx BK181.out⟩,⟨qx BK186.out⟩,⟨hb2 GE181.out GE186.out⟩⟩
     clear HC25
     obtain ⟨kq,x6_24,rfl,HA,HJ24,BK181,BK186,HB⟩:=hcut
     cases kq with
     | zero=>exact absurd HA.out (by simp [spec_l02Encode.j2])
     | succ kj24 =>
      have H:=HA.out
      clear HA
      simp only [spec_l02Encode.j2] at H
      by_cases c27:x5_1=20
      ·rw [if_pos c27] at H
       obtain ⟨c27b0,c27b1⟩:=eqP c27
       clear c27
       obtain ⟨t190,A28,H⟩:=bindA H
       obtain ⟨t191,A29,H⟩:=bindA H
       have H':=Aside0.mk H
       clear H
       have hnb30:=NB181_186.out
       have hnc30:=NB186_181.out
       obtain ⟨Z31_0,Z31_1,Z31_2,Z31_3,Z31_4,Y31_0,Y31_1,Y31_2,Y31_3,Y31_4⟩:=cel5 BK181.out
       go_wp2_with (first|(refine gd 116 54 Try.func116 #[.int .i64 a0_4,.int .i64 x5_1] (spec_l01Bit.calls a0_4 x5_1 t190 _ A28.out) ?_;intro nd)|(refine gd 119 55 Try.func119 #[.int .i64 x4_1,.int .i64 31,.int .i64 1,.int .i64 t190] (spec_l01Put.calls kj24 x4_1 31 1 t190 t191 _ A29.out) ?_;intro nd))
       go_roundg kj24
       case measure=>have:=HK1.out;have:=HJ22.out;have:=HJ24.out;omega
       case rel=>exact ⟨(t191),(wrap64 (x5_1+1)),rs,rs,H',⟨by have:=HK1.out;have:=HJ22.out;have:=HJ24.out;omega⟩,⟨qx BK181.out⟩,⟨qx BK186.out⟩,⟨hb2 GE181.out GE186.out⟩⟩
      rw [if_neg c27] at H
      obtain ⟨c27b0,c27b1⟩:=eqN c27
      obtain ⟨t192,A32,H⟩:=bindA H
      obtain ⟨t193,A33,H⟩:=bindA H
      have H':=Aside0.mk H
      clear H
      have hnb34:=NB181_186.out
      have hnc34:=NB186_181.out
      obtain ⟨Z35_0,Z35_1,Z35_2,Z35_3,Z35_4,Y35_0,Y35_1,Y35_2,Y35_3,Y35_4⟩:=cel5 BK181.out
      go_wp2_with (first|(refine gd 116 54 Try.func116 #[.int .i64 a0_4,.int .i64 x5_1] (spec_l01Bit.calls a0_4 x5_1 t192 _ A32.out) ?_;intro nd)|(refine gd 119 55 Try.func119 #[.int .i64 x4_1,.int .i64 x6_24,.int .i64 1,.int .i64 t192] (spec_l01Put.calls kj24 x4_1 x6_24 1 t192 t193 _ A33.out) ?_;intro nd))
      go_roundg kj24
      case measure=>have:=HK1.out;have:=HJ22.out;have:=HJ24.out;omega
      case rel=>exact ⟨(t193),(wrap64 (x5_1+1)),rs,rs,H',⟨by have:=HK1.out;have:=HJ22.out;have:=HJ24.out;omega⟩,⟨qx BK181.out⟩,⟨qx BK186.out⟩,⟨hb2 GE181.out GE186.out⟩⟩
   rw [if_neg c22] at H
   have c22b0:decide (x5_1 < 21)=false:=decide_eq_false c22
   clear c22
   obtain rfl:=Option.some.inj H
   go_wp2
   go_ret
   exact ⟨rf,hb2 GE181.out GE186.out⟩
 rw [if_neg c13] at H
 obtain ⟨c13b0,c13b1⟩:=eqN c13
 by_cases c36:t182=3
 ·rw [if_pos c36] at H
  obtain ⟨c36b0,c36b1⟩:=eqP c36
  clear c36
  obtain ⟨t194,A37,H⟩:=bindA H
  obtain ⟨t195,A38,H⟩:=bindA H
  obtain ⟨t196,A39,H⟩:=bindA H
  obtain ⟨t197,A40,H⟩:=bindA H
  obtain rfl:=Option.some.inj H
  go_enter Try.func99,Try.ntmps99
  go_wp2_with (first|(refine bv 1 #[.int .i64 a0_0,.int .i64 a0_1,.int .i64 a0_2,.int .i64 a0_3,.int .i64 a0_4] 86 ?_;intro gb181 hg w41 hbox hb;obtain ⟨n0_,n2_⟩:=bx0 hbx hb hg;have n1_:=Aside0.mk (hbox);clear HB;have HB:=n0_;have BK181:=n1_;have GW181:=n2_;have GE181:=n2_;clear n0_ n1_ n2_;clear hb hbox hg;obtain ⟨Z42_0,Z42_1,Z42_2,Z42_3,Z42_4,Y42_0,Y42_1,Y42_2,Y42_3,Y42_4⟩:=cel5 BK181.out)|(refine gl 88 12 Try.func88 #[.int .i64 a0_0] ?_;(with_reducible refine (spec_l02Shape.calls a0_0 t182 t183 t184 t185 _ A2.out).mono ?_);rintro e w43 ⟨rfl,hb⟩;refine ⟨_,rfl,?_⟩;have n0_:=Aside0.mk (blk_below (qx BK181.out) hb);replace HB:=Aside0.mk (below_step (hb1 GE181.out) hb);clear BK181;have BK181:=n0_;clear n0_;(try clear hb);(try clear hb2);(try clear hk);(try clear hi))|(refine bv 3 #[.int .i64 0,.int .i64 0,.int .i64 0,.int .i64 0] 109 ?_;intro gb186 hg w44 hbox hb;obtain ⟨n1_,n3_⟩:=bx0 (hb1 GE181.out) hb hg;obtain ⟨n0_,n5_,n6_⟩:=bx3 (qx BK181.out) hb hg;have n2_:=Aside0.mk (hbox);clear BK181;clear HB;have BK181:=n0_;have HB:=n1_;have BK186:=n2_;have GW186:=n3_;have GE186:=n3_;have NB181_186:=n5_;have NB186_181:=n6_;clear n0_ n1_ n2_ n3_ n5_ n6_;clear hb hbox hg;have hnb45:=NB186_181.out;have hnc45:=NB181_186.out;obtain ⟨Z46_0,Z46_1,Z46_2,Z46_3,Y46_0,Y46_1,Y46_2,Y46_3⟩:=cel4 BK186.out;obtain ⟨Z47_0,Z47_1,Z47_2,Z47_3,Z47_4,Y47_0,Y47_1,Y47_2,Y47_3,Y47_4⟩:=cel5 BK181.out)|(refine gd 119 61 Try.func119 #[.int .i64 t183,.int .i64 7,.int .i64 5,.int .i64 a0_1] (spec_l01Put.calls k t183 7 5 a0_1 t194 _ A37.out) ?_;intro nd)|(refine gd 119 65 Try.func119 #[.int .i64 t194,.int .i64 12,.int .i64 3,.int .i64 t184] (spec_l01Put.calls k t194 12 3 t184 t195 _ A38.out) ?_;intro nd)|(refine gd 119 69 Try.func119 #[.int .i64 t195,.int .i64 15,.int .i64 5,.int .i64 a0_2] (spec_l01Put.calls k t195 15 5 a0_2 t196 _ A39.out) ?_;intro nd)|(refine gd 119 73 Try.func119 #[.int .i64 t196,.int .i64 20,.int .i64 12,.int .i64 a0_4] (spec_l01Put.calls k t196 20 12 a0_4 t197 _ A40.out) ?_;intro nd))
  go_ret
  exact ⟨rf,hb2 GE181.out GE186.out⟩
 rw [if_neg c36] at H
 obtain ⟨c36b0,c36b1⟩:=eqN c36
 by_cases c48:t182=4
 ·rw [if_pos c48] at H
  obtain ⟨c48b0,c48b1⟩:=eqP c48
  clear c48
  obtain ⟨t198,A49,H⟩:=bindA H
  obtain ⟨t199,A50,H⟩:=bindA H
  obtain ⟨t200,A51,H⟩:=bindA H
  have H':=Aside0.mk H
  clear H
  go_enter Try.func99,Try.ntmps99
  go_wp2_with (first|(refine bv 1 #[.int .i64 a0_0,.int .i64 a0_1,.int .i64 a0_2,.int .i64 a0_3,.int .i64 a0_4] 86 ?_;intro gb181 hg w52 hbox hb;obtain ⟨n0_,n2_⟩:=bx0 hbx hb hg;have n1_:=Aside0.mk (hbox);clear HB;have HB:=n0_;have BK181:=n1_;have GW181:=n2_;have GE181:=n2_;clear n0_ n1_ n2_;clear hb hbox hg;obtain ⟨Z53_0,Z53_1,Z53_2,Z53_3,Z53_4,Y53_0,Y53_1,Y53_2,Y53_3,Y53_4⟩:=cel5 BK181.out)|(refine gl 88 12 Try.func88 #[.int .i64 a0_0] ?_;(with_reducible refine (spec_l02Shape.calls a0_0 t182 t183 t184 t185 _ A2.out).mono ?_);rintro e w54 ⟨rfl,hb⟩;refine ⟨_,rfl,?_⟩;have n0_:=Aside0.mk (blk_below (qx BK181.out) hb);replace HB:=Aside0.mk (below_step (hb1 GE181.out) hb);clear BK181;have BK181:=n0_;clear n0_;(try clear hb);(try clear hb2);(try clear hk);(try clear hi))|(refine bv 3 #[.int .i64 0,.int .i64 0,.int .i64 0,.int .i64 0] 109 ?_;intro gb186 hg w55 hbox hb;obtain ⟨n1_,n3_⟩:=bx0 (hb1 GE181.out) hb hg;obtain ⟨n0_,n5_,n6_⟩:=bx3 (qx BK181.out) hb hg;have n2_:=Aside0.mk (hbox);clear BK181;clear HB;have BK181:=n0_;have HB:=n1_;have BK186:=n2_;have GW186:=n3_;have GE186:=n3_;have NB181_186:=n5_;have NB186_181:=n6_;clear n0_ n1_ n2_ n3_ n5_ n6_;clear hb hbox hg;have hnb56:=NB186_181.out;have hnc56:=NB181_186.out;obtain ⟨Z57_0,Z57_1,Z57_2,Z57_3,Y57_0,Y57_1,Y57_2,Y57_3⟩:=cel4 BK186.out)|(refine gd 119 79 Try.func119 #[.int .i64 t183,.int .i64 12,.int .i64 3,.int .i64 t184] (spec_l01Put.calls k t183 12 3 t184 t198 _ A49.out) ?_;intro nd;obtain ⟨Z58_0,Z58_1,Z58_2,Z58_3,Z58_4,Y58_0,Y58_1,Y58_2,Y58_3,Y58_4⟩:=cel5 BK181.out)|(refine gd 119 83 Try.func119 #[.int .i64 t198,.int .i64 15,.int .i64 5,.int .i64 a0_2] (spec_l01Put.calls k t198 15 5 a0_2 t199 _ A50.out) ?_;intro nd)|(refine gd 119 87 Try.func119 #[.int .i64 t199,.int .i64 20,.int .i64 5,.int .i64 a0_3] (spec_l01Put.calls k t199 20 5 a0_3 t200 _ A51.out) ?_;intro nd))
  go_loopg [4,7] k (fun kq v4 v7 w'=>∃ (x4_1:Int) (x7_1:Int),v4=.int .i64 x4_1∧v7=.int .i64 x7_1∧Aside0 (spec_l02Encode.l1 kq x4_1 x7_1 a0_0 a0_1 a0_2 a0_3 a0_4=some r)∧Aside0 (kq≤k)∧Aside0 (w'.heap[gb181]?=some (.cells #[.int .i64 a0_0,.int .i64 a0_1,.int .i64 a0_2,.int .i64 a0_3,.int .i64 a0_4] 86 (0,0)))∧Aside0 (w'.heap[gb186]?=some (.cells #[.int .i64 t182,.int .i64 t183,.int .i64 t184,.int .i64 t185] 109 (0,0)))∧Aside0 (Below w.heap.size w w'))
  case atStart=>exact ⟨(t200),(1),rs,rs,H',⟨Nat.le_refl _⟩,⟨by (with_reducible repeat first|apply Q1|apply Q2|apply Q3);refine blk_far ?_ NB181_186.out _;(with_reducible repeat first|apply Q1|apply Q2|apply Q3);refine blk_far ?_ NB181_186.out _;(with_reducible repeat first|apply Q1|apply Q2|apply Q3);refine blk_far ?_ NB181_186.out _;(with_reducible repeat first|apply Q1|apply Q2|apply Q3);refine blk_far ?_ NB181_186.out _;(with_reducible repeat first|apply Q1|apply Q2|apply Q3);exact BK181.out⟩,⟨by (with_reducible repeat first|apply Q1|apply Q2|apply Q3);refine blk_put (cs:=#[.int .i64 t182,.int .i64 t183,.int .i64 t184,.int .i64 0]) ?_ 3 _ rfl;(with_reducible repeat first|apply Q1|apply Q2|apply Q3);refine blk_put (cs:=#[.int .i64 t182,.int .i64 t183,.int .i64 0,.int .i64 0]) ?_ 2 _ rfl;(with_reducible repeat first|apply Q1|apply Q2|apply Q3);refine blk_put (cs:=#[.int .i64 t182,.int .i64 0,.int .i64 0,.int .i64 0]) ?_ 1 _ rfl;(with_reducible repeat first|apply Q1|apply Q2|apply Q3);refine blk_put (cs:=#[.int .i64 0,.int .i64 0,.int .i64 0,.int .i64 0]) ?_ 0 _ rfl;(with_reducible repeat first|apply Q1|apply Q2|apply Q3);exact BK186.out⟩,⟨hb2 GE181.out GE186.out⟩⟩
  clear H'
  try clear c3
  try clear c3b0 c3b1
  try clear c13
  try clear c13b0 c13b1
  try clear c36
  try clear c36b0 c36b1
  try clear c48b0 c48b1
  try clear Z53_0 Z53_1 Z53_2 Z53_3 Z53_4
  try clear Z57_0 Z57_1 Z57_2 Z57_3
  try clear Z58_0 Z58_1 Z58_2 Z58_3 Z58_4
  try clear Y53_0 Y53_1 Y53_2 Y53_3 Y53_4
  try clear Y57_0 Y57_1 Y57_2 Y57_3
  try clear Y58_0 Y58_1 Y58_2 Y58_3 Y58_4
  obtain ⟨x4_1,x7_1,rfl,rfl,HA,HK1,BK181,BK186,HB⟩:=hrel
  cases gk with
  | zero=>exact absurd HA.out (by simp [spec_l02Encode.l1])
  | succ k1 =>
   have H:=HA.out
   clear HA
   simp only [spec_l02Encode.l1] at H
   by_cases c59:x7_1 < 13
   ·rw [if_pos c59] at H
    have c59b0:decide (x7_1 < 13)=true:=decide_eq_true c59
    clear c59
    have HC60:=Aside0.mk H
    clear H
    go_upto_if 95 with (fail)
    go_cut [8] (fun v8 wc=>∃ (kq:Nat) (x8_59:Int),v8=.int .i64 x8_59∧Aside0 (spec_l02Encode.j4 kq x4_1 x7_1 x8_59 a0_0 a0_1 a0_2 a0_3 a0_4=some r)∧Aside0 (kq≤k1)∧Aside0 (wc.heap[gb181]?=some (.cells #[.int .i64 a0_0,.int .i64 a0_1,.int .i64 a0_2,.int .i64 a0_3,.int .i64 a0_4] 86 (0,0)))∧Aside0 (wc.heap[gb186]?=some (.cells #[.int .i64 t182,.int .i64 t183,.int .i64 t184,.int .i64 t185] 109 (0,0)))∧Aside0 (Below w.heap.size w wc))
    case first=>
     have H:=HC60.out
     clear HC60
     by_cases c61:x7_1 > 4
     ·rw [if_pos c61] at H
      have c61b0:decide (4 < x7_1)=true:=decide_eq_true c61
      clear c61
      (first|rw [c61b0]|(simp only [i64_w,i32_w];rw [c61b0])|skip)
      have H':=Aside0.mk H
      clear H
      go_wp2
      go_meet
      case rel=>exact ⟨_,(wrap64 (20+x7_1)),rs,H',⟨om HK1.out⟩,⟨qx BK181.out⟩,⟨qx BK186.out⟩,⟨hb2 GE181.out GE186.out⟩⟩
     rw [if_neg c61] at H
     have c61b0:decide (4 < x7_1)=false:=decide_eq_false c61
     clear c61
     (first|rw [c61b0]|(simp only [i64_w,i32_w];rw [c61b0])|skip)
     have H':=Aside0.mk H
     clear H
     go_wp2
     go_meet
     case rel=>exact ⟨_,(wrap64 (7+x7_1)),rs,H',⟨om HK1.out⟩,⟨qx BK181.out⟩,⟨qx BK186.out⟩,⟨hb2 GE181.out GE186.out⟩⟩
    clear HC60
    try clear c59b0
    obtain ⟨kq,x8_59,rfl,HA,HJ59,BK181,BK186,HB⟩:=hcut
    cases kq with
    | zero=>exact absurd HA.out (by simp [spec_l02Encode.j4])
    | succ kj59 =>
     have H:=HA.out
     clear HA
     simp only [spec_l02Encode.j4] at H
     have HC62:=Aside0.mk H
     clear H
     go_upto_if 99 with (fail)
     go_cut [8] (fun v8 wc=>∃ (kq:Nat) (x8_61:Int),v8=.int .i64 x8_61∧Aside0 (spec_l02Encode.j5 kq x4_1 x7_1 x8_61 a0_0 a0_1 a0_2 a0_3 a0_4=some r)∧Aside0 (kq≤kj59)∧Aside0 (wc.heap[gb181]?=some (.cells #[.int .i64 a0_0,.int .i64 a0_1,.int .i64 a0_2,.int .i64 a0_3,.int .i64 a0_4] 86 (0,0)))∧Aside0 (wc.heap[gb186]?=some (.cells #[.int .i64 t182,.int .i64 t183,.int .i64 t184,.int .i64 t185] 109 (0,0)))∧Aside0 (Below w.heap.size w wc))
     case first=>
      have H:=HC62.out
      clear HC62
      by_cases c63:x7_1=11
      ·rw [if_pos c63] at H
       obtain ⟨c63b0,c63b1⟩:=eqP c63
       clear c63
       (first|rw [c63b0]|(simp only [i64_w,i32_w];rw [c63b0])|skip)
       have H':=Aside0.mk H
       clear H
       go_wp2
       go_meet
       case rel=>exact ⟨_,(7),rs,H',⟨by have:=HK1.out;have:=HJ59.out;first|omega|exact Nat.le_refl _⟩,⟨qx BK181.out⟩,⟨qx BK186.out⟩,⟨hb2 GE181.out GE186.out⟩⟩
      rw [if_neg c63] at H
      obtain ⟨c63b0,c63b1⟩:=eqN c63
      (first|rw [c63b0]|(simp only [i64_w,i32_w];rw [c63b0])|skip)
      have H':=Aside0.mk H
      clear H
      go_wp2
      go_meet
      case rel=>exact ⟨_,(x8_59),rs,H',⟨by have:=HK1.out;have:=HJ59.out;first|omega|exact Nat.le_refl _⟩,⟨qx BK181.out⟩,⟨qx BK186.out⟩,⟨hb2 GE181.out GE186.out⟩⟩
     clear HC62
     obtain ⟨kq,x8_61,rfl,HA,HJ61,BK181,BK186,HB⟩:=hcut
     cases kq with
     | zero=>exact absurd HA.out (by simp [spec_l02Encode.j5])
     | succ kj61 =>
      have H:=HA.out
      clear HA
      simp only [spec_l02Encode.j5] at H
      by_cases c64:x7_1=12
      ·rw [if_pos c64] at H
       obtain ⟨c64b0,c64b1⟩:=eqP c64
       clear c64
       obtain ⟨t201,A65,H⟩:=bindA H
       obtain ⟨t202,A66,H⟩:=bindA H
       have H':=Aside0.mk H
       clear H
       have hnb67:=NB181_186.out
       have hnc67:=NB186_181.out
       obtain ⟨Z68_0,Z68_1,Z68_2,Z68_3,Z68_4,Y68_0,Y68_1,Y68_2,Y68_3,Y68_4⟩:=cel5 BK181.out
       go_wp2_with (first|(refine gd 116 107 Try.func116 #[.int .i64 a0_4,.int .i64 x7_1] (spec_l01Bit.calls a0_4 x7_1 t201 _ A65.out) ?_;intro nd)|(refine gd 119 108 Try.func119 #[.int .i64 x4_1,.int .i64 31,.int .i64 1,.int .i64 t201] (spec_l01Put.calls kj61 x4_1 31 1 t201 t202 _ A66.out) ?_;intro nd))
       go_roundg kj61
       case measure=>have:=HK1.out;have:=HJ59.out;have:=HJ61.out;omega
       case rel=>exact ⟨(t202),(wrap64 (x7_1+1)),rs,rs,H',⟨by have:=HK1.out;have:=HJ59.out;have:=HJ61.out;omega⟩,⟨qx BK181.out⟩,⟨qx BK186.out⟩,⟨hb2 GE181.out GE186.out⟩⟩
      rw [if_neg c64] at H
      obtain ⟨c64b0,c64b1⟩:=eqN c64
      obtain ⟨t203,A69,H⟩:=bindA H
      obtain ⟨t204,A70,H⟩:=bindA H
      have H':=Aside0.mk H
      clear H
      have hnb71:=NB181_186.out
      have hnc71:=NB186_181.out
      obtain ⟨Z72_0,Z72_1,Z72_2,Z72_3,Z72_4,Y72_0,Y72_1,Y72_2,Y72_3,Y72_4⟩:=cel5 BK181.out
      go_wp2_with (first|(refine gd 116 107 Try.func116 #[.int .i64 a0_4,.int .i64 x7_1] (spec_l01Bit.calls a0_4 x7_1 t203 _ A69.out) ?_;intro nd)|(refine gd 119 108 Try.func119 #[.int .i64 x4_1,.int .i64 x8_61,.int .i64 1,.int .i64 t203] (spec_l01Put.calls kj61 x4_1 x8_61 1 t203 t204 _ A70.out) ?_;intro nd))
      go_roundg kj61
      case measure=>have:=HK1.out;have:=HJ59.out;have:=HJ61.out;omega
      case rel=>exact ⟨(t204),(wrap64 (x7_1+1)),rs,rs,H',⟨by have:=HK1.out;have:=HJ59.out;have:=HJ61.out;omega⟩,⟨qx BK181.out⟩,⟨qx BK186.out⟩,⟨hb2 GE181.out GE186.out⟩⟩
   rw [if_neg c59] at H
   have c59b0:decide (x7_1 < 13)=false:=decide_eq_false c59
   clear c59
   obtain rfl:=Option.some.inj H
   go_wp2
   go_ret
   exact ⟨rf,hb2 GE181.out GE186.out⟩
 rw [if_neg c48] at H
 obtain ⟨c48b0,c48b1⟩:=eqN c48
 by_cases c73:t182=5
 ·rw [if_pos c73] at H
  obtain ⟨c73b0,c73b1⟩:=eqP c73
  clear c73
  obtain ⟨t205,A74,H⟩:=bindA H
  obtain ⟨t206,A75,H⟩:=bindA H
  obtain ⟨t207,A76,H⟩:=bindA H
  obtain ⟨t208,A77,H⟩:=bindA H
  have H':=Aside0.mk H
  clear H
  go_enter Try.func99,Try.ntmps99
  go_wp2_with (first|(refine bv 1 #[.int .i64 a0_0,.int .i64 a0_1,.int .i64 a0_2,.int .i64 a0_3,.int .i64 a0_4] 86 ?_;intro gb181 hg w78 hbox hb;obtain ⟨n0_,n2_⟩:=bx0 hbx hb hg;have n1_:=Aside0.mk (hbox);clear HB;have HB:=n0_;have BK181:=n1_;have GW181:=n2_;have GE181:=n2_;clear n0_ n1_ n2_;clear hb hbox hg;obtain ⟨Z79_0,Z79_1,Z79_2,Z79_3,Z79_4,Y79_0,Y79_1,Y79_2,Y79_3,Y79_4⟩:=cel5 BK181.out)|(refine gl 88 12 Try.func88 #[.int .i64 a0_0] ?_;(with_reducible refine (spec_l02Shape.calls a0_0 t182 t183 t184 t185 _ A2.out).mono ?_);rintro e w80 ⟨rfl,hb⟩;refine ⟨_,rfl,?_⟩;have n0_:=Aside0.mk (blk_below (qx BK181.out) hb);replace HB:=Aside0.mk (below_step (hb1 GE181.out) hb);clear BK181;have BK181:=n0_;clear n0_;(try clear hb);(try clear hb2);(try clear hk);(try clear hi))|(refine bv 3 #[.int .i64 0,.int .i64 0,.int .i64 0,.int .i64 0] 109 ?_;intro gb186 hg w81 hbox hb;obtain ⟨n1_,n3_⟩:=bx0 (hb1 GE181.out) hb hg;obtain ⟨n0_,n5_,n6_⟩:=bx3 (qx BK181.out) hb hg;have n2_:=Aside0.mk (hbox);clear BK181;clear HB;have BK181:=n0_;have HB:=n1_;have BK186:=n2_;have GW186:=n3_;have GE186:=n3_;have NB181_186:=n5_;have NB186_181:=n6_;clear n0_ n1_ n2_ n3_ n5_ n6_;clear hb hbox hg;have hnb82:=NB186_181.out;have hnc82:=NB181_186.out;obtain ⟨Z83_0,Z83_1,Z83_2,Z83_3,Y83_0,Y83_1,Y83_2,Y83_3⟩:=cel4 BK186.out;obtain ⟨Z84_0,Z84_1,Z84_2,Z84_3,Z84_4,Y84_0,Y84_1,Y84_2,Y84_3,Y84_4⟩:=cel5 BK181.out)|(refine gd 119 114 Try.func119 #[.int .i64 t183,.int .i64 7,.int .i64 5,.int .i64 a0_4] (spec_l01Put.calls k t183 7 5 a0_4 t205 _ A74.out) ?_;intro nd)|(refine gd 119 118 Try.func119 #[.int .i64 t205,.int .i64 12,.int .i64 3,.int .i64 t184] (spec_l01Put.calls k t205 12 3 t184 t206 _ A75.out) ?_;intro nd)|(refine gd 119 122 Try.func119 #[.int .i64 t206,.int .i64 15,.int .i64 5,.int .i64 a0_2] (spec_l01Put.calls k t206 15 5 a0_2 t207 _ A76.out) ?_;intro nd)|(refine gd 119 126 Try.func119 #[.int .i64 t207,.int .i64 20,.int .i64 5,.int .i64 a0_3] (spec_l01Put.calls k t207 20 5 a0_3 t208 _ A77.out) ?_;intro nd))
  go_loopg [4,9] k (fun kq v4 v9 w'=>∃ (x4_1:Int) (x9_1:Int),v4=.int .i64 x4_1∧v9=.int .i64 x9_1∧Aside0 (spec_l02Encode.l2 kq x4_1 x9_1 a0_0 a0_1 a0_2 a0_3 a0_4=some r)∧Aside0 (kq≤k)∧Aside0 (w'.heap[gb181]?=some (.cells #[.int .i64 a0_0,.int .i64 a0_1,.int .i64 a0_2,.int .i64 a0_3,.int .i64 a0_4] 86 (0,0)))∧Aside0 (w'.heap[gb186]?=some (.cells #[.int .i64 t182,.int .i64 t183,.int .i64 t184,.int .i64 t185] 109 (0,0)))∧Aside0 (Below w.heap.size w w'))
  case atStart=>exact ⟨(t208),(5),rs,rs,H',⟨Nat.le_refl _⟩,⟨by (with_reducible repeat first|apply Q1|apply Q2|apply Q3);refine blk_far ?_ NB181_186.out _;(with_reducible repeat first|apply Q1|apply Q2|apply Q3);refine blk_far ?_ NB181_186.out _;(with_reducible repeat first|apply Q1|apply Q2|apply Q3);refine blk_far ?_ NB181_186.out _;(with_reducible repeat first|apply Q1|apply Q2|apply Q3);refine blk_far ?_ NB181_186.out _;(with_reducible repeat first|apply Q1|apply Q2|apply Q3);exact BK181.out⟩,⟨by (with_reducible repeat first|apply Q1|apply Q2|apply Q3);refine blk_put (cs:=#[.int .i64 t182,.int .i64 t183,.int .i64 t184,.int .i64 0]) ?_ 3 _ rfl;(with_reducible repeat first|apply Q1|apply Q2|apply Q3);refine blk_put (cs:=#[.int .i64 t182,.int .i64 t183,.int .i64 0,.int .i64 0]) ?_ 2 _ rfl;(with_reducible repeat first|apply Q1|apply Q2|apply Q3);refine blk_put (cs:=#[.int .i64 t182,.int .i64 0,.int .i64 0,.int .i64 0]) ?_ 1 _ rfl;(with_reducible repeat first|apply Q1|apply Q2|apply Q3);refine blk_put (cs:=#[.int .i64 0,.int .i64 0,.int .i64 0,.int .i64 0]) ?_ 0 _ rfl;(with_reducible repeat first|apply Q1|apply Q2|apply Q3);exact BK186.out⟩,⟨hb2 GE181.out GE186.out⟩⟩
  clear H'
  try clear c3
  try clear c3b0 c3b1
  try clear c13
  try clear c13b0 c13b1
  try clear c36
  try clear c36b0 c36b1
  try clear c48
  try clear c48b0 c48b1
  try clear c73b0 c73b1
  try clear Z79_0 Z79_1 Z79_2 Z79_3 Z79_4
  try clear Z83_0 Z83_1 Z83_2 Z83_3
  try clear Z84_0 Z84_1 Z84_2 Z84_3 Z84_4
  try clear Y79_0 Y79_1 Y79_2 Y79_3 Y79_4
  try clear Y83_0 Y83_1 Y83_2 Y83_3
  try clear Y84_0 Y84_1 Y84_2 Y84_3 Y84_4
  obtain ⟨x4_1,x9_1,rfl,rfl,HA,HK1,BK181,BK186,HB⟩:=hrel
  cases gk with
  | zero=>exact absurd HA.out (by simp [spec_l02Encode.l2])
  | succ k1 =>
   have H:=HA.out
   clear HA
   simp only [spec_l02Encode.l2] at H
   by_cases c85:x9_1 < 12
   ·rw [if_pos c85] at H
    have c85b0:decide (x9_1 < 12)=true:=decide_eq_true c85
    clear c85
    obtain ⟨t209,A86,H⟩:=bindA H
    obtain ⟨t210,A87,H⟩:=bindA H
    have H':=Aside0.mk H
    clear H
    have hnb88:=NB181_186.out
    have hnc88:=NB186_181.out
    obtain ⟨Z89_0,Z89_1,Z89_2,Z89_3,Z89_4,Y89_0,Y89_1,Y89_2,Y89_3,Y89_4⟩:=cel5 BK181.out
    go_wp2_with (first|(refine gd 116 137 Try.func116 #[.int .i64 a0_4,.int .i64 x9_1] (spec_l01Bit.calls a0_4 x9_1 t209 _ A86.out) ?_;intro nd)|(refine gd 119 138 Try.func119 #[.int .i64 x4_1,.int .i64 (wrap64 (20+x9_1)),.int .i64 1,.int .i64 t209] (spec_l01Put.calls k1 x4_1 (wrap64 (20+x9_1)) 1 t209 t210 _ A87.out) ?_;intro nd))
    go_roundg k1
    case measure=>have:=HK1.out;omega
    case rel=>exact ⟨(t210),(wrap64 (x9_1+1)),rs,rs,H',⟨by have:=HK1.out;omega⟩,⟨qx BK181.out⟩,⟨qx BK186.out⟩,⟨hb2 GE181.out GE186.out⟩⟩
   rw [if_neg c85] at H
   have c85b0:decide (x9_1 < 12)=false:=decide_eq_false c85
   clear c85
   obtain rfl:=Option.some.inj H
   go_wp2
   go_ret
   exact ⟨rf,hb2 GE181.out GE186.out⟩
 rw [if_neg c73] at H
 obtain ⟨c73b0,c73b1⟩:=eqN c73
 have HC90:=Aside0.mk H
 clear H
 go_enter Try.func99,Try.ntmps99
 go_upto_if 139 with (first|(refine bv 1 #[.int .i64 a0_0,.int .i64 a0_1,.int .i64 a0_2,.int .i64 a0_3,.int .i64 a0_4] 86 ?_;intro gb181 hg w91 hbox hb;obtain ⟨n0_,n2_⟩:=bx0 hbx hb hg;have n1_:=Aside0.mk (hbox);clear HB;have HB:=n0_;have BK181:=n1_;have GW181:=n2_;have GE181:=n2_;clear n0_ n1_ n2_;clear hb hbox hg;obtain ⟨Z92_0,Z92_1,Z92_2,Z92_3,Z92_4,Y92_0,Y92_1,Y92_2,Y92_3,Y92_4⟩:=cel5 BK181.out)|(refine gl 88 12 Try.func88 #[.int .i64 a0_0] ?_;(with_reducible refine (spec_l02Shape.calls a0_0 t182 t183 t184 t185 _ A2.out).mono ?_);rintro e w93 ⟨rfl,hb⟩;refine ⟨_,rfl,?_⟩;have n0_:=Aside0.mk (blk_below (qx BK181.out) hb);replace HB:=Aside0.mk (below_step (hb1 GE181.out) hb);clear BK181;have BK181:=n0_;clear n0_;(try clear hb);(try clear hb2);(try clear hk);(try clear hi))|(refine bv 3 #[.int .i64 0,.int .i64 0,.int .i64 0,.int .i64 0] 109 ?_;intro gb186 hg w94 hbox hb;obtain ⟨n1_,n3_⟩:=bx0 (hb1 GE181.out) hb hg;obtain ⟨n0_,n5_,n6_⟩:=bx3 (qx BK181.out) hb hg;have n2_:=Aside0.mk (hbox);clear BK181;clear HB;have BK181:=n0_;have HB:=n1_;have BK186:=n2_;have GW186:=n3_;have GE186:=n3_;have NB181_186:=n5_;have NB186_181:=n6_;clear n0_ n1_ n2_ n3_ n5_ n6_;clear hb hbox hg;have hnb95:=NB186_181.out;have hnc95:=NB181_186.out;obtain ⟨Z96_0,Z96_1,Z96_2,Z96_3,Y96_0,Y96_1,Y96_2,Y96_3⟩:=cel4 BK186.out))
 (try simp only [Act.put,List.setIfInBounds_toArray,List.set_cons_zero,List.set_cons_succ])
 go_cut [139] (fun v139 wc=>∃ (kq:Nat) (x139_89:Bool),v139=.bool x139_89∧Aside0 (spec_l02Encode.j7 kq t183 t182 x139_89 a0_0 a0_1 a0_2 a0_3 a0_4 t182 t183 t184 t185=some r)∧Aside0 (kq≤k)∧Aside0 (wc.heap[gb181]?=some (.cells #[.int .i64 a0_0,.int .i64 a0_1,.int .i64 a0_2,.int .i64 a0_3,.int .i64 a0_4] 86 (0,0)))∧Aside0 (wc.heap[gb186]?=some (.cells #[.int .i64 t182,.int .i64 t183,.int .i64 t184,.int .i64 t185] 109 (0,0)))∧Aside0 (Below w.heap.size w wc))
 case first=>
  have H:=HC90.out
  clear HC90
  by_cases c97:t182=6
  ·rw [if_pos c97] at H
   obtain ⟨c97b0,c97b1⟩:=eqP c97
   clear c97
   (first|rw [c97b0]|(simp only [i64_w,i32_w];rw [c97b0])|skip)
   have H':=Aside0.mk H
   clear H
   go_wp2
   go_meet
   case rel=>exact ⟨_,((t182==6)),rs,H',⟨by first|omega|exact Nat.le_refl _⟩,⟨by (with_reducible repeat first|apply Q1|apply Q2|apply Q3);refine blk_far ?_ NB181_186.out _;(with_reducible repeat first|apply Q1|apply Q2|apply Q3);refine blk_far ?_ NB181_186.out _;(with_reducible repeat first|apply Q1|apply Q2|apply Q3);refine blk_far ?_ NB181_186.out _;(with_reducible repeat first|apply Q1|apply Q2|apply Q3);refine blk_far ?_ NB181_186.out _;(with_reducible repeat first|apply Q1|apply Q2|apply Q3);exact BK181.out⟩,⟨by (with_reducible repeat first|apply Q1|apply Q2|apply Q3);refine blk_put (cs:=#[.int .i64 t182,.int .i64 t183,.int .i64 t184,.int .i64 0]) ?_ 3 _ rfl;(with_reducible repeat first|apply Q1|apply Q2|apply Q3);refine blk_put (cs:=#[.int .i64 t182,.int .i64 t183,.int .i64 0,.int .i64 0]) ?_ 2 _ rfl;(with_reducible repeat first|apply Q1|apply Q2|apply Q3);refine blk_put (cs:=#[.int .i64 t182,.int .i64 0,.int .i64 0,.int .i64 0]) ?_ 1 _ rfl;(with_reducible repeat first|apply Q1|apply Q2|apply Q3);refine blk_put (cs:=#[.int .i64 0,.int .i64 0,.int .i64 0,.int .i64 0]) ?_ 0 _ rfl;(with_reducible repeat first|apply Q1|apply Q2|apply Q3);exact BK186.out⟩,⟨hb2 GE181.out GE186.out⟩⟩
  rw [if_neg c97] at H
  obtain ⟨c97b0,c97b1⟩:=eqN c97
  (first|rw [c97b0]|(simp only [i64_w,i32_w];rw [c97b0])|skip)
  by_cases c98:t182=7
  ·rw [if_pos c98] at H
   obtain ⟨c98b0,c98b1⟩:=eqP c98
   clear c98
   have H':=Aside0.mk H
   clear H
   go_wp2
   go_meet
   case rel=>exact ⟨_,((t182==7)),rs,H',⟨by first|omega|exact Nat.le_refl _⟩,⟨by (with_reducible repeat first|apply Q1|apply Q2|apply Q3);refine blk_far ?_ NB181_186.out _;(with_reducible repeat first|apply Q1|apply Q2|apply Q3);refine blk_far ?_ NB181_186.out _;(with_reducible repeat first|apply Q1|apply Q2|apply Q3);refine blk_far ?_ NB181_186.out _;(with_reducible repeat first|apply Q1|apply Q2|apply Q3);refine blk_far ?_ NB181_186.out _;(with_reducible repeat first|apply Q1|apply Q2|apply Q3);exact BK181.out⟩,⟨by (with_reducible repeat first|apply Q1|apply Q2|apply Q3);refine blk_put (cs:=#[.int .i64 t182,.int .i64 t183,.int .i64 t184,.int .i64 0]) ?_ 3 _ rfl;(with_reducible repeat first|apply Q1|apply Q2|apply Q3);refine blk_put (cs:=#[.int .i64 t182,.int .i64 t183,.int .i64 0,.int .i64 0]) ?_ 2 _ rfl;(with_reducible repeat first|apply Q1|apply Q2|apply Q3);refine blk_put (cs:=#[.int .i64 t182,.int .i64 0,.int .i64 0,.int .i64 0]) ?_ 1 _ rfl;(with_reducible repeat first|apply Q1|apply Q2|apply Q3);refine blk_put (cs:=#[.int .i64 0,.int .i64 0,.int .i64 0,.int .i64 0]) ?_ 0 _ rfl;(with_reducible repeat first|apply Q1|apply Q2|apply Q3);exact BK186.out⟩,⟨hb2 GE181.out GE186.out⟩⟩
  rw [if_neg c98] at H
  obtain ⟨c98b0,c98b1⟩:=eqN c98
  have H':=Aside0.mk H
  clear H
  go_wp2
  go_meet
  case rel=>exact ⟨_,((t182==8)),rs,H',⟨by first|omega|exact Nat.le_refl _⟩,⟨by (with_reducible repeat first|apply Q1|apply Q2|apply Q3);refine blk_far ?_ NB181_186.out _;(with_reducible repeat first|apply Q1|apply Q2|apply Q3);refine blk_far ?_ NB181_186.out _;(with_reducible repeat first|apply Q1|apply Q2|apply Q3);refine blk_far ?_ NB181_186.out _;(with_reducible repeat first|apply Q1|apply Q2|apply Q3);refine blk_far ?_ NB181_186.out _;(with_reducible repeat first|apply Q1|apply Q2|apply Q3);exact BK181.out⟩,⟨by (with_reducible repeat first|apply Q1|apply Q2|apply Q3);refine blk_put (cs:=#[.int .i64 t182,.int .i64 t183,.int .i64 t184,.int .i64 0]) ?_ 3 _ rfl;(with_reducible repeat first|apply Q1|apply Q2|apply Q3);refine blk_put (cs:=#[.int .i64 t182,.int .i64 t183,.int .i64 0,.int .i64 0]) ?_ 2 _ rfl;(with_reducible repeat first|apply Q1|apply Q2|apply Q3);refine blk_put (cs:=#[.int .i64 t182,.int .i64 0,.int .i64 0,.int .i64 0]) ?_ 1 _ rfl;(with_reducible repeat first|apply Q1|apply Q2|apply Q3);refine blk_put (cs:=#[.int .i64 0,.int .i64 0,.int .i64 0,.int .i64 0]) ?_ 0 _ rfl;(with_reducible repeat first|apply Q1|apply Q2|apply Q3);exact BK186.out⟩,⟨hb2 GE181.out GE186.out⟩⟩
 clear HC90
 try clear c3
 try clear c3b0 c3b1
 try clear c13
 try clear c13b0 c13b1
 try clear c36
 try clear c36b0 c36b1
 try clear c48
 try clear c48b0 c48b1
 try clear c73
 try clear c73b0 c73b1
 try clear Z92_0 Z92_1 Z92_2 Z92_3 Z92_4
 try clear Z96_0 Z96_1 Z96_2 Z96_3
 try clear Y92_0 Y92_1 Y92_2 Y92_3 Y92_4
 try clear Y96_0 Y96_1 Y96_2 Y96_3
 obtain ⟨kq,x139_89,rfl,HA,HJ89,BK181,BK186,HB⟩:=hcut
 cases kq with
 | zero=>exact absurd HA.out (by simp [spec_l02Encode.j7])
 | succ kj89 =>
  have H:=HA.out
  clear HA
  simp only [spec_l02Encode.j7] at H
  by_cases c99:x139_89=true
  ·subst c99
   rw [if_pos rfl] at H
   obtain ⟨t211,A100,H⟩:=bindA H
   obtain ⟨t212,A101,H⟩:=bindA H
   obtain ⟨t213,A102,H⟩:=bindA H
   obtain ⟨t214,A103,H⟩:=bindA H
   by_cases c104:t182=6
   ·rw [if_pos c104] at H
    obtain ⟨c104b0,c104b1⟩:=eqP c104
    clear c104
    obtain ⟨t215,A105,H⟩:=bindA H
    obtain rfl:=Option.some.inj H
    have hnb106:=NB181_186.out
    have hnc106:=NB186_181.out
    obtain ⟨Z107_0,Z107_1,Z107_2,Z107_3,Z107_4,Y107_0,Y107_1,Y107_2,Y107_3,Y107_4⟩:=cel5 BK181.out
    go_wp2_with (first|(refine gd 119 146 Try.func119 #[.int .i64 t183,.int .i64 7,.int .i64 5,.int .i64 a0_1] (spec_l01Put.calls kj89 t183 7 5 a0_1 t211 _ A100.out) ?_;intro nd;obtain ⟨Z108_0,Z108_1,Z108_2,Z108_3,Y108_0,Y108_1,Y108_2,Y108_3⟩:=cel4 BK186.out)|(refine gd 119 150 Try.func119 #[.int .i64 t211,.int .i64 12,.int .i64 3,.int .i64 t184] (spec_l01Put.calls kj89 t211 12 3 t184 t212 _ A101.out) ?_;intro nd)|(refine gd 119 154 Try.func119 #[.int .i64 t212,.int .i64 15,.int .i64 5,.int .i64 a0_2] (spec_l01Put.calls kj89 t212 15 5 a0_2 t213 _ A102.out) ?_;intro nd)|(refine gd 119 158 Try.func119 #[.int .i64 t213,.int .i64 25,.int .i64 7,.int .i64 t185] (spec_l01Put.calls kj89 t213 25 7 t185 t214 _ A103.out) ?_;intro nd)|(refine gd 119 165 Try.func119 #[.int .i64 t214,.int .i64 20,.int .i64 6,.int .i64 a0_4] (spec_l01Put.calls kj89 t214 20 6 a0_4 t215 _ A105.out) ?_;intro nd))
    go_ret
    exact ⟨rf,hb2 GE181.out GE186.out⟩
   rw [if_neg c104] at H
   obtain ⟨c104b0,c104b1⟩:=eqN c104
   by_cases c109:t182=7
   ·rw [if_pos c109] at H
    obtain ⟨c109b0,c109b1⟩:=eqP c109
    clear c109
    obtain ⟨t216,A110,H⟩:=bindA H
    obtain rfl:=Option.some.inj H
    have hnb111:=NB181_186.out
    have hnc111:=NB186_181.out
    obtain ⟨Z112_0,Z112_1,Z112_2,Z112_3,Z112_4,Y112_0,Y112_1,Y112_2,Y112_3,Y112_4⟩:=cel5 BK181.out
    go_wp2_with (first|(refine gd 119 146 Try.func119 #[.int .i64 t183,.int .i64 7,.int .i64 5,.int .i64 a0_1] (spec_l01Put.calls kj89 t183 7 5 a0_1 t211 _ A100.out) ?_;intro nd;obtain ⟨Z113_0,Z113_1,Z113_2,Z113_3,Y113_0,Y113_1,Y113_2,Y113_3⟩:=cel4 BK186.out)|(refine gd 119 150 Try.func119 #[.int .i64 t211,.int .i64 12,.int .i64 3,.int .i64 t184] (spec_l01Put.calls kj89 t211 12 3 t184 t212 _ A101.out) ?_;intro nd)|(refine gd 119 154 Try.func119 #[.int .i64 t212,.int .i64 15,.int .i64 5,.int .i64 a0_2] (spec_l01Put.calls kj89 t212 15 5 a0_2 t213 _ A102.out) ?_;intro nd)|(refine gd 119 158 Try.func119 #[.int .i64 t213,.int .i64 25,.int .i64 7,.int .i64 t185] (spec_l01Put.calls kj89 t213 25 7 t185 t214 _ A103.out) ?_;intro nd)|(refine gd 119 172 Try.func119 #[.int .i64 t214,.int .i64 20,.int .i64 5,.int .i64 a0_4] (spec_l01Put.calls kj89 t214 20 5 a0_4 t216 _ A110.out) ?_;intro nd))
    go_ret
    exact ⟨rf,hb2 GE181.out GE186.out⟩
   rw [if_neg c109] at H
   obtain ⟨c109b0,c109b1⟩:=eqN c109
   obtain ⟨t217,A114,H⟩:=bindA H
   obtain rfl:=Option.some.inj H
   have hnb115:=NB181_186.out
   have hnc115:=NB186_181.out
   obtain ⟨Z116_0,Z116_1,Z116_2,Z116_3,Z116_4,Y116_0,Y116_1,Y116_2,Y116_3,Y116_4⟩:=cel5 BK181.out
   go_wp2_with (first|(refine gd 119 146 Try.func119 #[.int .i64 t183,.int .i64 7,.int .i64 5,.int .i64 a0_1] (spec_l01Put.calls kj89 t183 7 5 a0_1 t211 _ A100.out) ?_;intro nd;obtain ⟨Z117_0,Z117_1,Z117_2,Z117_3,Y117_0,Y117_1,Y117_2,Y117_3⟩:=cel4 BK186.out)|(refine gd 119 150 Try.func119 #[.int .i64 t211,.int .i64 12,.int .i64 3,.int .i64 t184] (spec_l01Put.calls kj89 t211 12 3 t184 t212 _ A101.out) ?_;intro nd)|(refine gd 119 154 Try.func119 #[.int .i64 t212,.int .i64 15,.int .i64 5,.int .i64 a0_2] (spec_l01Put.calls kj89 t212 15 5 a0_2 t213 _ A102.out) ?_;intro nd)|(refine gd 119 158 Try.func119 #[.int .i64 t213,.int .i64 25,.int .i64 7,.int .i64 t185] (spec_l01Put.calls kj89 t213 25 7 t185 t214 _ A103.out) ?_;intro nd)|(refine gd 119 176 Try.func119 #[.int .i64 t214,.int .i64 20,.int .i64 5,.int .i64 a0_3] (spec_l01Put.calls kj89 t214 20 5 a0_3 t217 _ A114.out) ?_;intro nd))
   go_ret
   exact ⟨rf,hb2 GE181.out GE186.out⟩
  replace c99:=Bool.eq_false_iff.mpr c99
  subst c99
  rw [if_neg (show ¬ (false=true) by decide)] at H
  by_cases c118:t182=9
  ·rw [if_pos c118] at H
   obtain ⟨c118b0,c118b1⟩:=eqP c118
   clear c118
   obtain ⟨t218,A119,H⟩:=bindA H
   obtain rfl:=Option.some.inj H
   have hnb120:=NB186_181.out
   have hnc120:=NB181_186.out
   obtain ⟨Z121_0,Z121_1,Z121_2,Z121_3,Y121_0,Y121_1,Y121_2,Y121_3⟩:=cel4 BK186.out
   go_wp2_with (first|(refine gd 119 182 Try.func119 #[.int .i64 t183,.int .i64 20,.int .i64 12,.int .i64 t185] (spec_l01Put.calls kj89 t183 20 12 t185 t218 _ A119.out) ?_;intro nd))
   go_ret
   exact ⟨rf,hb2 GE181.out GE186.out⟩
  rw [if_neg c118] at H
  obtain ⟨c118b0,c118b1⟩:=eqN c118
  obtain rfl:=Option.some.inj H
  go_wp2
  go_ret
  exact ⟨rf,hb2 GE181.out GE186.out⟩
end Go.Proofs.Ythepmdlpjdlajaa.PFnExactLintImage
