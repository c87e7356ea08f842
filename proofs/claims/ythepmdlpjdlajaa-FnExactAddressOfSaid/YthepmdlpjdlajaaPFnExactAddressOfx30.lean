-- Written by a program for this claim.
import Derived.Test.YthepmdlpjdlajaaZFnExactLintImagea
import Derived.Test.YthepmdlpjdlajaaProg
import Derived.Below
import Derived.Deep.Draws
import Derived.Deep.AppendLies
import Derived.Maps.AppendAt
import Derived.OwnWalk
import Derived.Laws.BytesArg
import Derived.Laws.MakeOwn
import Derived.Laws.OwnMore
import Derived.Deep.OwnRows
import Derived.Tactics
import Derived.Lib.ConvBytes
import Derived.Laws.Slices
import Derived.WalkKit
import Derived.KernelRfl
import Derived.RowKit3
import Derived.Deep.LoopGhost
import Derived.Deep.QuietTactic
import Derived.BigQuiet
import Derived.WideLaws
import Derived.Deep.DeepCutAuto
import Derived.Deep.CutBlock
import Derived.Deep.RegionHeld3
import Derived.Laws.Rows
import Derived.Lib.AppendStr
import Derived.ArgAppend
import Derived.Laws.IdiomCopy
import Derived.OrdersHeld
import Derived.Laws.BitsLemmas
import Derived.StillTailTactics
import Derived.RowKit
import Derived.Test.YthepmdlpjdlajaaPFnExactLintImagex25
namespace Go.Proofs.Ythepmdlpjdlajaa.PFnExactLintImage
open Go.RowKit Go.Proofs.YthepmdlpjdlajaaW.PrintWords Go.Proofs.YthepmdlpjdlajaaW.PrintLast Go.Proofs.YthepmdlpjdlajaaW.PrintMore
attribute [local go_sem] max2_int min2_int max_two min_two max_three min_three max_four min_four   -- for this text's walks alone
set_option linter.unusedVariables false
set_option linter.unusedSimpArgs false
def spec_ImageOK.f (k:Nat) (a0_0:ByteArray) (a0_1:ByteArray) (l0_2:List (S54)):Option (Bool):=(spec_l07Lint.f k a0_0 a0_1 l0_2).bind fun bt333=>(some (bt333.2.2==0))
theorem spec_ImageOK.mono : ∀ a0 a1 a2 k,LeO (spec_ImageOK.f k a0 a1 a2) (spec_ImageOK.f (k+1) a0 a1 a2):=by
 intro a0 a1 a2 k
 unfold spec_ImageOK.f
 repeat' (with_reducible first|apply spec_l07Lint.mono|apply LeO.refl|apply LeO.none|apply LeO.ite|refine LeO.bind ?_ (fun _=>?_))
set_option maxHeartbeats 8000000 in
set_option maxRecDepth 100000 in
theorem spec_ImageOK.calls (k:Nat) (a0_0:ByteArray) (a0_1:ByteArray) (A0_2:Option Addr) (c0_2:Nat) (l0_2:List (S54)) (r:Bool) (w:World) (hr0_2:Kd.C k54 w A0_2 l0_2.length l0_2) (hc0_2:l0_2.length≤c0_2) (h:spec_ImageOK.f k a0_0 a0_1 l0_2=some r) :
    Calls Try.prog 28 #[.agg #[.string a0_0,.string a0_1,.slice A0_2 l0_2.length c0_2]] w fun e w'=>e=.returned (.bool r)∧Below w.heap.size w w':=by
 have hu30:=Try.underlying30
 have HR0_2:=Aside0.mk hr0_2
 have HC0_2:=Aside0.mk hc0_2
 clear hr0_2 hc0_2
 have HB:=Aside0.mk (Below.refl w.heap.size w)
 have H:((spec_l07Lint.f k a0_0 a0_1 l0_2).bind fun bt333=>(some (bt333.2.2==0)))=some r:=h
 clear h
 obtain ⟨⟨t333,t334,t335⟩,A2,H⟩:=bindA H
 try dsimp only at H
 obtain rfl:=Option.some.inj H
 go_enter Try.func28,Try.ntmps28
 go_wp2_with (first|(refine bv 1 #[.string a0_0,.string a0_1,.slice A0_2 l0_2.length c0_2] 30 ?_;intro gb332 hg w3 hbox hb;obtain ⟨n0_,n2_⟩:=bx0 hbx hb hg;have n1_:=Aside0.mk (hbox);clear HB;have HB:=n0_;have BK332:=n1_;have GW332:=n2_;have GE332:=n2_;clear n0_ n1_ n2_;clear hb hbox hg;obtain ⟨Z4_0,Z4_1,Z4_2,Y4_0,Y4_1,Y4_2⟩:=cel3 BK332.out)|(refine gl 51 8 Try.func51 #[.agg #[.string a0_0,.string a0_1,.slice A0_2 l0_2.length c0_2]] ?_;(with_reducible refine (spec_l07Lint.calls k a0_0 a0_1 _ _ l0_2 t333 t334 t335 _ ?side1 ?side2 A2.out).mono ?_);(case side1=>exact kc HR0_2.out);(case side2=>exact HC0_2.out);rintro e w5 ⟨rfl,hb⟩;refine ⟨_,rfl,?_⟩;have n0_:=Aside0.mk (blk_below (qx BK332.out) hb);replace HB:=Aside0.mk (below_step (hb1 GE332.out) hb);clear BK332;have BK332:=n0_;clear n0_;(try clear hb);(try clear hb2);(try clear hk);(try clear hi)))
 go_ret
 exact ⟨rf,hb1 GE332.out⟩
def spec_AddressOf.f (k:Nat) (a0_0:ByteArray) (a0_1:ByteArray) (l0_2:List (S54)) (a1:Int):Option (Int × Int):=(spec_ImageOK.f k a0_0 a0_1 l0_2).bind fun t337=>(if t337=true then (if a1 < 0 then (some (0,23)) else (if a1≥(l0_2.length:Int) then (some (0,23)) else (if 0≤a1 then (if a1 < (l0_2.length:Int) then ((spec_l07Place.f ((rd_T54 l0_2 a1).f0) ((rd_T54 l0_2 a1).f1) ((rd_T54 l0_2 a1).f2) ((rd_T54 l0_2 a1).f3) ((rd_T54 l0_2 a1).f4)).bind fun t339=>(some (t339,0))) else (none)) else (none)))) else (some (0,1)))
theorem spec_AddressOf.mono : ∀ a0 a1 a2 a3 k,LeO (spec_AddressOf.f k a0 a1 a2 a3) (spec_AddressOf.f (k+1) a0 a1 a2 a3):=by
 intro a0 a1 a2 a3 k
 unfold spec_AddressOf.f
 repeat' (with_reducible first|apply spec_ImageOK.mono|apply LeO.refl|apply LeO.none|apply LeO.ite|refine LeO.bind ?_ (fun _=>?_))
set_option maxHeartbeats 8000000 in
set_option maxRecDepth 100000 in
theorem spec_AddressOf.calls (k:Nat) (a0_0:ByteArray) (a0_1:ByteArray) (A0_2:Option Addr) (c0_2:Nat) (l0_2:List (S54)) (a1:Int) (r1:Int) (r2:Int) (w:World) (hr0_2:Kd.C k54 w A0_2 l0_2.length l0_2) (hc0_2:l0_2.length≤c0_2) (h:spec_AddressOf.f k a0_0 a0_1 l0_2 a1=some (r1,r2)) :
    Calls Try.prog 30 #[.agg #[.string a0_0,.string a0_1,.slice A0_2 l0_2.length c0_2],.int .i64 a1] w fun e w'=>e=.returned (.tuple #[.int .i64 r1,.int .i64 r2])∧Below w.heap.size w w':=by
 have hu30:=Try.underlying30
 have hu54:=Try.underlying54
 have HR0_2:=Aside0.mk hr0_2
 have HC0_2:=Aside0.mk hc0_2
 clear hr0_2 hc0_2
 have HB:=Aside0.mk (Below.refl w.heap.size w)
 have H:((spec_ImageOK.f k a0_0 a0_1 l0_2).bind fun t337=>(if t337=true then (if a1 < 0 then (some (0,23)) else (if a1≥(l0_2.length:Int) then (some (0,23)) else (if 0≤a1 then (if a1 < (l0_2.length:Int) then ((spec_l07Place.f ((rd_T54 l0_2 a1).f0) ((rd_T54 l0_2 a1).f1) ((rd_T54 l0_2 a1).f2) ((rd_T54 l0_2 a1).f3) ((rd_T54 l0_2 a1).f4)).bind fun t339=>(some (t339,0))) else (none)) else (none)))) else (some (0,1))))=some (r1,r2):=h
 clear h
 obtain ⟨t337,A3,H⟩:=bindA H
 by_cases c4:t337=true
 ·subst c4
  rw [if_pos rfl] at H
  by_cases c5:a1 < 0
  ·rw [if_pos c5] at H
   have c5b0:decide (a1 < 0)=true:=decide_eq_true c5
   clear c5
   simp only [Option.some.injEq,Prod.mk.injEq] at H
   obtain ⟨rfl,rfl⟩:=H
   go_enter Try.func30,Try.ntmps30
   go_wp2_with (first|((with_reducible refine gate_dst (N:=2) rfl ?_);(try (refine gate_guard (by rfl) ?_;dsimp only));refine box_event ?hg (N:=2) ?hd (cs:=#[.string a0_0,.string a0_1,.slice A0_2 l0_2.length c0_2]) (t:=30) ?hr ?_;(case hd=>rfl);(case hg=>rfl);(case hr=>first|(go_simp;done)|(go_simp;rfl));intro gb336 hg w6 hbox hb;obtain ⟨n0_,n2_⟩:=bx0 hbx hb hg;have n1_:=Aside0.mk (hbox);clear HB;have HB:=n0_;have BK336:=n1_;have GW336:=n2_;have GE336:=n2_;clear n0_ n1_ n2_;clear hb hbox hg;obtain ⟨Z7_0,Z7_1,Z7_2,Y7_0,Y7_1,Y7_2⟩:=cel3 BK336.out)|(refine gl 28 7 Try.func28 #[.agg #[.string a0_0,.string a0_1,.slice A0_2 l0_2.length c0_2]] ?_;(with_reducible refine (spec_ImageOK.calls k a0_0 a0_1 _ _ l0_2 true _ ?side1 ?side2 A3.out).mono ?_);(case side1=>exact kc HR0_2.out);(case side2=>exact HC0_2.out);rintro e w8 ⟨rfl,hb⟩;refine ⟨_,rfl,?_⟩;have n0_:=Aside0.mk (blk_below (qx BK336.out) hb);replace HB:=Aside0.mk (below_step (hb1 GE336.out) hb);clear BK336;have BK336:=n0_;clear n0_;(try clear hb);(try clear hb2);(try clear hk);(try clear hi)))
   go_ret2
   exact ⟨rf,hb1 GE336.out⟩
  rw [if_neg c5] at H
  have c5b0:decide (a1 < 0)=false:=decide_eq_false c5
  clear c5
  by_cases c9:a1≥(l0_2.length:Int)
  ·rw [if_pos c9] at H
   have c9b0:decide ((l0_2.length:Int)≤a1)=true:=decide_eq_true c9
   clear c9
   simp only [Option.some.injEq,Prod.mk.injEq] at H
   obtain ⟨rfl,rfl⟩:=H
   go_enter Try.func30,Try.ntmps30
   go_wp2_with (first|((with_reducible refine gate_dst (N:=2) rfl ?_);(try (refine gate_guard (by rfl) ?_;dsimp only));refine box_event ?hg (N:=2) ?hd (cs:=#[.string a0_0,.string a0_1,.slice A0_2 l0_2.length c0_2]) (t:=30) ?hr ?_;(case hd=>rfl);(case hg=>rfl);(case hr=>first|(go_simp;done)|(go_simp;rfl));intro gb336 hg w10 hbox hb;obtain ⟨n0_,n2_⟩:=bx0 hbx hb hg;have n1_:=Aside0.mk (hbox);clear HB;have HB:=n0_;have BK336:=n1_;have GW336:=n2_;have GE336:=n2_;clear n0_ n1_ n2_;clear hb hbox hg;obtain ⟨Z11_0,Z11_1,Z11_2,Y11_0,Y11_1,Y11_2⟩:=cel3 BK336.out)|(refine gl 28 7 Try.func28 #[.agg #[.string a0_0,.string a0_1,.slice A0_2 l0_2.length c0_2]] ?_;(with_reducible refine (spec_ImageOK.calls k a0_0 a0_1 _ _ l0_2 true _ ?side1 ?side2 A3.out).mono ?_);(case side1=>exact kc HR0_2.out);(case side2=>exact HC0_2.out);rintro e w12 ⟨rfl,hb⟩;refine ⟨_,rfl,?_⟩;have n0_:=Aside0.mk (blk_below (qx BK336.out) hb);replace HB:=Aside0.mk (below_step (hb1 GE336.out) hb);clear BK336;have BK336:=n0_;clear n0_;(try clear hb);(try clear hb2);(try clear hk);(try clear hi);obtain ⟨Z13_0,Z13_1,Z13_2,Y13_0,Y13_1,Y13_2⟩:=cel3 BK336.out))
   go_ret2
   exact ⟨rf,hb1 GE336.out⟩
  rw [if_neg c9] at H
  have c9b0:decide ((l0_2.length:Int)≤a1)=false:=decide_eq_false c9
  clear c9
  by_cases c14:0≤a1
  ·rw [if_pos c14] at H
   have c14b0:decide (0≤a1)=true:=decide_eq_true c14
   clear c14
   by_cases c15:a1 < (l0_2.length:Int)
   ·rw [if_pos c15] at H
    have c15b0:decide (a1 < (l0_2.length:Int))=true:=decide_eq_true c15
    clear c15
    obtain ⟨t339,A16,H⟩:=bindA H
    simp only [Option.some.injEq,Prod.mk.injEq] at H
    obtain ⟨rfl,rfl⟩:=H
    go_enter Try.func30,Try.ntmps30
    go_wp2_with (first|((with_reducible refine gate_dst (N:=2) rfl ?_);(try (refine gate_guard (by rfl) ?_;dsimp only));refine box_event ?hg (N:=2) ?hd (cs:=#[.string a0_0,.string a0_1,.slice A0_2 l0_2.length c0_2]) (t:=30) ?hr ?_;(case hd=>rfl);(case hg=>rfl);(case hr=>first|(go_simp;done)|(go_simp;rfl));intro gb336 hg w17 hbox hb;obtain ⟨n0_,n2_⟩:=bx0 hbx hb hg;have n1_:=Aside0.mk (hbox);clear HB;have HB:=n0_;have BK336:=n1_;have GW336:=n2_;have GE336:=n2_;clear n0_ n1_ n2_;clear hb hbox hg;obtain ⟨Z18_0,Z18_1,Z18_2,Y18_0,Y18_1,Y18_2⟩:=cel3 BK336.out)|(refine gl 28 7 Try.func28 #[.agg #[.string a0_0,.string a0_1,.slice A0_2 l0_2.length c0_2]] ?_;(with_reducible refine (spec_ImageOK.calls k a0_0 a0_1 _ _ l0_2 true _ ?side1 ?side2 A3.out).mono ?_);(case side1=>exact kc HR0_2.out);(case side2=>exact HC0_2.out);rintro e w19 ⟨rfl,hb⟩;refine ⟨_,rfl,?_⟩;have n0_:=Aside0.mk (blk_below (qx BK336.out) hb);replace HB:=Aside0.mk (below_step (hb1 GE336.out) hb);clear BK336;have BK336:=n0_;clear n0_;(try clear hb);(try clear hb2);(try clear hk);(try clear hi);obtain ⟨Z20_0,Z20_1,Z20_2,Y20_0,Y20_1,Y20_2⟩:=cel3 BK336.out;have p338:0≤(a1:Int):=od;have q338:a1 < (l0_2.length:Int):=od;obtain ⟨ad338,e338,hx338_0,hx338_1,hx338_2,hx338_3,hx338_4⟩:=at_T54 HR0_2.out a1 p338 q338;cases e338;replace hx338_0:=cx HB.out hx338_0;replace hx338_1:=cx HB.out hx338_1;replace hx338_2:=cx HB.out hx338_2;replace hx338_3:=cx HB.out hx338_3;replace hx338_4:=cx HB.out hx338_4;replace p338:=eq_true p338;replace q338:=eq_true q338)|(refine gl 55 23 Try.func55 #[.agg #[.string ((rd_T54 l0_2 a1).f0),.int .i64 ((rd_T54 l0_2 a1).f1),.int .i64 ((rd_T54 l0_2 a1).f2),.int .i64 ((rd_T54 l0_2 a1).f3),.int .i64 ((rd_T54 l0_2 a1).f4)]] ?_;(with_reducible refine (spec_l07Place.calls ((rd_T54 l0_2 a1).f0) ((rd_T54 l0_2 a1).f1) ((rd_T54 l0_2 a1).f2) ((rd_T54 l0_2 a1).f3) ((rd_T54 l0_2 a1).f4) t339 _ A16.out).mono ?_);rintro e w21 ⟨rfl,hb⟩;refine ⟨_,rfl,?_⟩;have n0_:=Aside0.mk (blk_below (qx BK336.out) hb);replace HB:=Aside0.mk (below_step (hb1 GE336.out) hb);clear BK336;have BK336:=n0_;clear n0_;(try clear hb);(try clear hb2);(try clear hk);(try clear hi)))
    go_ret2
    exact ⟨rf,hb1 GE336.out⟩
   rw [if_neg c15] at H
   exact absurd H (by simp)
  rw [if_neg c14] at H
  exact absurd H (by simp)
 replace c4:=Bool.eq_false_iff.mpr c4
 subst c4
 rw [if_neg (show ¬ (false=true) by decide)] at H
 simp only [Option.some.injEq,Prod.mk.injEq] at H
 obtain ⟨rfl,rfl⟩:=H
 go_enter Try.func30,Try.ntmps30
 go_wp2_with (first|((with_reducible refine gate_dst (N:=2) rfl ?_);(try (refine gate_guard (by rfl) ?_;dsimp only));refine box_event ?hg (N:=2) ?hd (cs:=#[.string a0_0,.string a0_1,.slice A0_2 l0_2.length c0_2]) (t:=30) ?hr ?_;(case hd=>rfl);(case hg=>rfl);(case hr=>first|(go_simp;done)|(go_simp;rfl));intro gb336 hg w22 hbox hb;obtain ⟨n0_,n2_⟩:=bx0 hbx hb hg;have n1_:=Aside0.mk (hbox);clear HB;have HB:=n0_;have BK336:=n1_;have GW336:=n2_;have GE336:=n2_;clear n0_ n1_ n2_;clear hb hbox hg;obtain ⟨Z23_0,Z23_1,Z23_2,Y23_0,Y23_1,Y23_2⟩:=cel3 BK336.out)|(refine gl 28 7 Try.func28 #[.agg #[.string a0_0,.string a0_1,.slice A0_2 l0_2.length c0_2]] ?_;(with_reducible refine (spec_ImageOK.calls k a0_0 a0_1 _ _ l0_2 false _ ?side1 ?side2 A3.out).mono ?_);(case side1=>exact kc HR0_2.out);(case side2=>exact HC0_2.out);rintro e w24 ⟨rfl,hb⟩;refine ⟨_,rfl,?_⟩;have n0_:=Aside0.mk (blk_below (qx BK336.out) hb);replace HB:=Aside0.mk (below_step (hb1 GE336.out) hb);clear BK336;have BK336:=n0_;clear n0_;(try clear hb);(try clear hb2);(try clear hk);(try clear hi)))
 go_ret2
 exact ⟨rf,hb1 GE336.out⟩
def impl_ImageOK.f (k:Nat) (a0_0:ByteArray) (a0_1:ByteArray) (l0_2:List (S54)):Option (Bool):=(impl_LintImage.f k a0_0 a0_1 l0_2).bind fun bt498=>(some (bt498.2.2==0))
theorem impl_ImageOK.mono : ∀ a0 a1 a2 k,LeO (impl_ImageOK.f k a0 a1 a2) (impl_ImageOK.f (k+1) a0 a1 a2):=by
 intro a0 a1 a2 k
 unfold impl_ImageOK.f
 repeat' (with_reducible first|apply impl_LintImage.mono|apply LeO.refl|apply LeO.none|apply LeO.ite|refine LeO.bind ?_ (fun _=>?_))
set_option maxHeartbeats 8000000 in
set_option maxRecDepth 100000 in
theorem impl_ImageOK.calls (k:Nat) (a0_0:ByteArray) (a0_1:ByteArray) (A0_2:Option Addr) (c0_2:Nat) (l0_2:List (S54)) (r:Bool) (w:World) (hr0_2:Kd.C k54 w A0_2 l0_2.length l0_2) (hc0_2:l0_2.length≤c0_2) (h:impl_ImageOK.f k a0_0 a0_1 l0_2=some r) :
    Calls Try.prog 29 #[.agg #[.string a0_0,.string a0_1,.slice A0_2 l0_2.length c0_2]] w fun e w'=>e=.returned (.bool r)∧Below w.heap.size w w':=by
 have hu30:=Try.underlying30
 have HR0_2:=Aside0.mk hr0_2
 have HC0_2:=Aside0.mk hc0_2
 clear hr0_2 hc0_2
 have HB:=Aside0.mk (Below.refl w.heap.size w)
 have H:((impl_LintImage.f k a0_0 a0_1 l0_2).bind fun bt498=>(some (bt498.2.2==0)))=some r:=h
 clear h
 obtain ⟨⟨t498,t499,t500⟩,A2,H⟩:=bindA H
 try dsimp only at H
 obtain rfl:=Option.some.inj H
 go_enter Try.func29,Try.ntmps29
 go_wp2_with (first|(refine bv 1 #[.string a0_0,.string a0_1,.slice A0_2 l0_2.length c0_2] 30 ?_;intro gb497 hg w3 hbox hb;obtain ⟨n0_,n2_⟩:=bx0 hbx hb hg;have n1_:=Aside0.mk (hbox);clear HB;have HB:=n0_;have BK497:=n1_;have GW497:=n2_;have GE497:=n2_;clear n0_ n1_ n2_;clear hb hbox hg;obtain ⟨Z4_0,Z4_1,Z4_2,Y4_0,Y4_1,Y4_2⟩:=cel3 BK497.out)|(refine gl 27 8 Try.func27 #[.agg #[.string a0_0,.string a0_1,.slice A0_2 l0_2.length c0_2]] ?_;(with_reducible refine (impl_LintImage.calls k a0_0 a0_1 _ _ l0_2 t498 t499 t500 _ ?side1 ?side2 A2.out).mono ?_);(case side1=>exact kc HR0_2.out);(case side2=>exact HC0_2.out);rintro e w5 ⟨rfl,hb⟩;refine ⟨_,rfl,?_⟩;have n0_:=Aside0.mk (blk_below (qx BK497.out) hb);replace HB:=Aside0.mk (below_step (hb1 GE497.out) hb);clear BK497;have BK497:=n0_;clear n0_;(try clear hb);(try clear hb2);(try clear hk);(try clear hi)))
 go_ret
 exact ⟨rf,hb1 GE497.out⟩
def impl_AddressOf.f (k:Nat) (a0_0:ByteArray) (a0_1:ByteArray) (l0_2:List (S54)) (a1:Int):Option (Int × Int):=(impl_ImageOK.f k a0_0 a0_1 l0_2).bind fun t502=>(if t502=true then ((impl_within.f a1 0 (wrap64 ((l0_2.length:Int) - 1))).bind fun t503=>(if t503=true then (if 0≤a1 then (if a1 < (l0_2.length:Int) then ((impl_Symbol_address.f ((rd_T54 l0_2 a1).f0) ((rd_T54 l0_2 a1).f1) ((rd_T54 l0_2 a1).f2) ((rd_T54 l0_2 a1).f3) ((rd_T54 l0_2 a1).f4)).bind fun t505=>(some (t505,0))) else (none)) else (none)) else (some (0,23)))) else (some (0,1)))
theorem impl_AddressOf.mono : ∀ a0 a1 a2 a3 k,LeO (impl_AddressOf.f k a0 a1 a2 a3) (impl_AddressOf.f (k+1) a0 a1 a2 a3):=by
 intro a0 a1 a2 a3 k
 unfold impl_AddressOf.f
 repeat' (with_reducible first|apply impl_ImageOK.mono|apply LeO.refl|apply LeO.none|apply LeO.ite|refine LeO.bind ?_ (fun _=>?_))
set_option maxHeartbeats 8000000 in
set_option maxRecDepth 100000 in
theorem impl_AddressOf.calls (k:Nat) (a0_0:ByteArray) (a0_1:ByteArray) (A0_2:Option Addr) (c0_2:Nat) (l0_2:List (S54)) (a1:Int) (r1:Int) (r2:Int) (w:World) (hr0_2:Kd.C k54 w A0_2 l0_2.length l0_2) (hc0_2:l0_2.length≤c0_2) (h:impl_AddressOf.f k a0_0 a0_1 l0_2 a1=some (r1,r2)) :
    Calls Try.prog 31 #[.agg #[.string a0_0,.string a0_1,.slice A0_2 l0_2.length c0_2],.int .i64 a1] w fun e w'=>e=.returned (.tuple #[.int .i64 r1,.int .i64 r2])∧Below w.heap.size w w':=by
 have hu30:=Try.underlying30
 have hu54:=Try.underlying54
 have HR0_2:=Aside0.mk hr0_2
 have HC0_2:=Aside0.mk hc0_2
 clear hr0_2 hc0_2
 have HB:=Aside0.mk (Below.refl w.heap.size w)
 have H:((impl_ImageOK.f k a0_0 a0_1 l0_2).bind fun t502=>(if t502=true then ((impl_within.f a1 0 (wrap64 ((l0_2.length:Int) - 1))).bind fun t503=>(if t503=true then (if 0≤a1 then (if a1 < (l0_2.length:Int) then ((impl_Symbol_address.f ((rd_T54 l0_2 a1).f0) ((rd_T54 l0_2 a1).f1) ((rd_T54 l0_2 a1).f2) ((rd_T54 l0_2 a1).f3) ((rd_T54 l0_2 a1).f4)).bind fun t505=>(some (t505,0))) else (none)) else (none)) else (some (0,23)))) else (some (0,1))))=some (r1,r2):=h
 clear h
 obtain ⟨t502,A3,H⟩:=bindA H
 by_cases c4:t502=true
 ·subst c4
  rw [if_pos rfl] at H
  obtain ⟨t503,A5,H⟩:=bindA H
  by_cases c6:t503=true
  ·subst c6
   rw [if_pos rfl] at H
   by_cases c7:0≤a1
   ·rw [if_pos c7] at H
    have c7b0:decide (0≤a1)=true:=decide_eq_true c7
    clear c7
    by_cases c8:a1 < (l0_2.length:Int)
    ·rw [if_pos c8] at H
     have c8b0:decide (a1 < (l0_2.length:Int))=true:=decide_eq_true c8
     clear c8
     obtain ⟨t505,A9,H⟩:=bindA H
     simp only [Option.some.injEq,Prod.mk.injEq] at H
     obtain ⟨rfl,rfl⟩:=H
     go_enter Try.func31,Try.ntmps31
     go_wp2_with (first|(refine bv 2 #[.string a0_0,.string a0_1,.slice A0_2 l0_2.length c0_2] 30 ?_;intro gb501 hg w10 hbox hb;obtain ⟨n0_,n2_⟩:=bx0 hbx hb hg;have n1_:=Aside0.mk (hbox);clear HB;have HB:=n0_;have BK501:=n1_;have GW501:=n2_;have GE501:=n2_;clear n0_ n1_ n2_;clear hb hbox hg;obtain ⟨Z11_0,Z11_1,Z11_2,Y11_0,Y11_1,Y11_2⟩:=cel3 BK501.out)|(refine gl 29 8 Try.func29 #[.agg #[.string a0_0,.string a0_1,.slice A0_2 l0_2.length c0_2]] ?_;(with_reducible refine (impl_ImageOK.calls k a0_0 a0_1 _ _ l0_2 true _ ?side1 ?side2 A3.out).mono ?_);(case side1=>exact kc HR0_2.out);(case side2=>exact HC0_2.out);rintro e w12 ⟨rfl,hb⟩;refine ⟨_,rfl,?_⟩;have n0_:=Aside0.mk (blk_below (qx BK501.out) hb);replace HB:=Aside0.mk (below_step (hb1 GE501.out) hb);clear BK501;have BK501:=n0_;clear n0_;(try clear hb);(try clear hb2);(try clear hk);(try clear hi);obtain ⟨Z13_0,Z13_1,Z13_2,Y13_0,Y13_1,Y13_2⟩:=cel3 BK501.out)|(refine gd 56 16 Try.func56 #[.int .i64 a1,.int .i64 0,.int .i64 (wrap64 ((l0_2.length:Int) - 1))] (impl_within.calls a1 0 (wrap64 ((l0_2.length:Int) - 1)) true _ A5.out) ?_;intro nd;have p504:0≤(a1:Int):=od;have q504:a1 < (l0_2.length:Int):=od;obtain ⟨ad504,e504,hx504_0,hx504_1,hx504_2,hx504_3,hx504_4⟩:=at_T54 HR0_2.out a1 p504 q504;cases e504;replace hx504_0:=cx HB.out hx504_0;replace hx504_1:=cx HB.out hx504_1;replace hx504_2:=cx HB.out hx504_2;replace hx504_3:=cx HB.out hx504_3;replace hx504_4:=cx HB.out hx504_4;replace p504:=eq_true p504;replace q504:=eq_true q504)|(refine gl 54 23 Try.func54 #[.agg #[.string ((rd_T54 l0_2 a1).f0),.int .i64 ((rd_T54 l0_2 a1).f1),.int .i64 ((rd_T54 l0_2 a1).f2),.int .i64 ((rd_T54 l0_2 a1).f3),.int .i64 ((rd_T54 l0_2 a1).f4)]] ?_;(with_reducible refine (impl_Symbol_address.calls ((rd_T54 l0_2 a1).f0) ((rd_T54 l0_2 a1).f1) ((rd_T54 l0_2 a1).f2) ((rd_T54 l0_2 a1).f3) ((rd_T54 l0_2 a1).f4) t505 _ A9.out).mono ?_);rintro e w14 ⟨rfl,hb⟩;refine ⟨_,rfl,?_⟩;have n0_:=Aside0.mk (blk_below (qx BK501.out) hb);replace HB:=Aside0.mk (below_step (hb1 GE501.out) hb);clear BK501;have BK501:=n0_;clear n0_;(try clear hb);(try clear hb2);(try clear hk);(try clear hi)))
     go_ret2
     exact ⟨rf,hb1 GE501.out⟩
    rw [if_neg c8] at H
    exact absurd H (by simp)
   rw [if_neg c7] at H
   exact absurd H (by simp)
  replace c6:=Bool.eq_false_iff.mpr c6
  subst c6
  rw [if_neg (show ¬ (false=true) by decide)] at H
  simp only [Option.some.injEq,Prod.mk.injEq] at H
  obtain ⟨rfl,rfl⟩:=H
  go_enter Try.func31,Try.ntmps31
  go_wp2_with (first|(refine bv 2 #[.string a0_0,.string a0_1,.slice A0_2 l0_2.length c0_2] 30 ?_;intro gb501 hg w15 hbox hb;obtain ⟨n0_,n2_⟩:=bx0 hbx hb hg;have n1_:=Aside0.mk (hbox);clear HB;have HB:=n0_;have BK501:=n1_;have GW501:=n2_;have GE501:=n2_;clear n0_ n1_ n2_;clear hb hbox hg;obtain ⟨Z16_0,Z16_1,Z16_2,Y16_0,Y16_1,Y16_2⟩:=cel3 BK501.out)|(refine gl 29 8 Try.func29 #[.agg #[.string a0_0,.string a0_1,.slice A0_2 l0_2.length c0_2]] ?_;(with_reducible refine (impl_ImageOK.calls k a0_0 a0_1 _ _ l0_2 true _ ?side1 ?side2 A3.out).mono ?_);(case side1=>exact kc HR0_2.out);(case side2=>exact HC0_2.out);rintro e w17 ⟨rfl,hb⟩;refine ⟨_,rfl,?_⟩;have n0_:=Aside0.mk (blk_below (qx BK501.out) hb);replace HB:=Aside0.mk (below_step (hb1 GE501.out) hb);clear BK501;have BK501:=n0_;clear n0_;(try clear hb);(try clear hb2);(try clear hk);(try clear hi);obtain ⟨Z18_0,Z18_1,Z18_2,Y18_0,Y18_1,Y18_2⟩:=cel3 BK501.out)|(refine gd 56 16 Try.func56 #[.int .i64 a1,.int .i64 0,.int .i64 (wrap64 ((l0_2.length:Int) - 1))] (impl_within.calls a1 0 (wrap64 ((l0_2.length:Int) - 1)) false _ A5.out) ?_;intro nd))
  go_ret2
  exact ⟨rf,hb1 GE501.out⟩
 replace c4:=Bool.eq_false_iff.mpr c4
 subst c4
 rw [if_neg (show ¬ (false=true) by decide)] at H
 simp only [Option.some.injEq,Prod.mk.injEq] at H
 obtain ⟨rfl,rfl⟩:=H
 go_enter Try.func31,Try.ntmps31
 go_wp2_with (first|(refine bv 2 #[.string a0_0,.string a0_1,.slice A0_2 l0_2.length c0_2] 30 ?_;intro gb501 hg w19 hbox hb;obtain ⟨n0_,n2_⟩:=bx0 hbx hb hg;have n1_:=Aside0.mk (hbox);clear HB;have HB:=n0_;have BK501:=n1_;have GW501:=n2_;have GE501:=n2_;clear n0_ n1_ n2_;clear hb hbox hg;obtain ⟨Z20_0,Z20_1,Z20_2,Y20_0,Y20_1,Y20_2⟩:=cel3 BK501.out)|(refine gl 29 8 Try.func29 #[.agg #[.string a0_0,.string a0_1,.slice A0_2 l0_2.length c0_2]] ?_;(with_reducible refine (impl_ImageOK.calls k a0_0 a0_1 _ _ l0_2 false _ ?side1 ?side2 A3.out).mono ?_);(case side1=>exact kc HR0_2.out);(case side2=>exact HC0_2.out);rintro e w21 ⟨rfl,hb⟩;refine ⟨_,rfl,?_⟩;have n0_:=Aside0.mk (blk_below (qx BK501.out) hb);replace HB:=Aside0.mk (below_step (hb1 GE501.out) hb);clear BK501;have BK501:=n0_;clear n0_;(try clear hb);(try clear hb2);(try clear hk);(try clear hi)))
 go_ret2
 exact ⟨rf,hb1 GE501.out⟩
end Go.Proofs.Ythepmdlpjdlajaa.PFnExactLintImage
