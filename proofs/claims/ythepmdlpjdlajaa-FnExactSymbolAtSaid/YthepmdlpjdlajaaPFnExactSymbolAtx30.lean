-- Written by a program for this claim.
import Derived.Test.YthepmdlpjdlajaaZFnExactLintImagea
import Derived.Test.YthepmdlpjdlajaaProg
import Derived.Below
import Derived.Deep.Draws
import Derived.Deep.AppendLies
import Derived.Maps.AppendAt
import Derived.OwnWalk
import Derived.Laws.BytesArg
import Derived.Laws.MakeOwn
import Derived.Laws.OwnMore
import Derived.Deep.OwnRows
import Derived.Tactics
import Derived.Lib.ConvBytes
import Derived.Laws.Slices
import Derived.WalkKit
import Derived.KernelRfl
import Derived.RowKit3
import Derived.Deep.LoopGhost
import Derived.Deep.QuietTactic
import Derived.BigQuiet
import Derived.WideLaws
import Derived.Deep.DeepCutAuto
import Derived.Deep.CutBlock
import Derived.Deep.RegionHeld3
import Derived.Laws.Rows
import Derived.Lib.AppendStr
import Derived.ArgAppend
import Derived.Laws.IdiomCopy
import Derived.OrdersHeld
import Derived.Laws.BitsLemmas
import Derived.StillTailTactics
import Derived.RowKit
import Derived.Test.YthepmdlpjdlajaaPFnExactLintImagex25
namespace Go.Proofs.Ythepmdlpjdlajaa.PFnExactLintImage
open Go.RowKit Go.Proofs.YthepmdlpjdlajaaW.PrintWords Go.Proofs.YthepmdlpjdlajaaW.PrintLast Go.Proofs.YthepmdlpjdlajaaW.PrintMore
attribute [local go_sem] max2_int min2_int max_two min_two max_three min_three max_four min_four   -- for this text's walks alone
set_option linter.unusedVariables false
set_option linter.unusedSimpArgs false
def spec_ImageOK.f (k:Nat) (a0_0:ByteArray) (a0_1:ByteArray) (l0_2:List (S54)):Option (Bool):=(spec_l07Lint.f k a0_0 a0_1 l0_2).bind fun bt333=>(some (bt333.2.2==0))
theorem spec_ImageOK.mono : ∀ a0 a1 a2 k,LeO (spec_ImageOK.f k a0 a1 a2) (spec_ImageOK.f (k+1) a0 a1 a2):=by
 intro a0 a1 a2 k
 unfold spec_ImageOK.f
 repeat' (with_reducible first|apply spec_l07Lint.mono|apply LeO.refl|apply LeO.none|apply LeO.ite|refine LeO.bind ?_ (fun _=>?_))
set_option maxHeartbeats 8000000 in
set_option maxRecDepth 100000 in
theorem spec_ImageOK.calls (k:Nat) (a0_0:ByteArray) (a0_1:ByteArray) (A0_2:Option Addr) (c0_2:Nat) (l0_2:List (S54)) (r:Bool) (w:World) (hr0_2:Kd.C k54 w A0_2 l0_2.length l0_2) (hc0_2:l0_2.length≤c0_2) (h:spec_ImageOK.f k a0_0 a0_1 l0_2=some r) :
    Calls Try.prog 28 #[.agg #[.string a0_0,.string a0_1,.slice A0_2 l0_2.length c0_2]] w fun e w'=>e=.returned (.bool r)∧Below w.heap.size w w':=by
 have hu30:=Try.underlying30
 have HR0_2:=Aside0.mk hr0_2
 have HC0_2:=Aside0.mk hc0_2
 clear hr0_2 hc0_2
 have HB:=Aside0.mk (Below.refl w.heap.size w)
 have H:((spec_l07Lint.f k a0_0 a0_1 l0_2).bind fun bt333=>(some (bt333.2.2==0)))=some r:=h
 clear h
 obtain ⟨⟨t333,t334,t335⟩,A2,H⟩:=bindA H
 try dsimp only at H
 obtain rfl:=Option.some.inj H
 go_enter Try.func28,Try.ntmps28
 go_wp2_with (first|(refine bv 1 #[.string a0_0,.string a0_1,.slice A0_2 l0_2.length c0_2] 30 ?_;intro gb332 hg w3 hbox hb;obtain ⟨n0_,n2_⟩:=bx0 hbx hb hg;have n1_:=Aside0.mk (hbox);clear HB;have HB:=n0_;have BK332:=n1_;have GW332:=n2_;have GE332:=n2_;clear n0_ n1_ n2_;clear hb hbox hg;obtain ⟨Z4_0,Z4_1,Z4_2,Y4_0,Y4_1,Y4_2⟩:=cel3 BK332.out)|(refine gl 51 8 Try.func51 #[.agg #[.string a0_0,.string a0_1,.slice A0_2 l0_2.length c0_2]] ?_;(with_reducible refine (spec_l07Lint.calls k a0_0 a0_1 _ _ l0_2 t333 t334 t335 _ ?side1 ?side2 A2.out).mono ?_);(case side1=>exact kc HR0_2.out);(case side2=>exact HC0_2.out);rintro e w5 ⟨rfl,hb⟩;refine ⟨_,rfl,?_⟩;have n0_:=Aside0.mk (blk_below (qx BK332.out) hb);replace HB:=Aside0.mk (below_step (hb1 GE332.out) hb);clear BK332;have BK332:=n0_;clear n0_;(try clear hb);(try clear hb2);(try clear hk);(try clear hi)))
 go_ret
 exact ⟨rf,hb1 GE332.out⟩
def spec_SymbolAt.l0:Nat→Int→Int→ByteArray→ByteArray→List (S54)→Option (Int × Int × Int)
  | 0,_,_,_,_,_=>none
  | k+1,x1,x7,x337000,x337001,x337002=>if x7 < (x337002.length:Int) then (if 0≤x7 then ((spec_l07Place.f ((rd_T54 x337002 x7).f0) ((rd_T54 x337002 x7).f1) ((rd_T54 x337002 x7).f2) ((rd_T54 x337002 x7).f3) ((rd_T54 x337002 x7).f4)).bind fun t339=>(if t339≤x1 then (if x1 < (wrap64 (t339+((rd_T54 x337002 x7).f3))) then (some (x7,wrap64 (x1 - t339),0)) else (spec_SymbolAt.l0 k x1 (wrap64 (x7+1)) x337000 x337001 x337002)) else (spec_SymbolAt.l0 k x1 (wrap64 (x7+1)) x337000 x337001 x337002))) else (none)) else (some (0,0,23))
def spec_SymbolAt.f (k:Nat) (a0_0:ByteArray) (a0_1:ByteArray) (l0_2:List (S54)) (a1:Int):Option (Int × Int × Int):=(spec_ImageOK.f k a0_0 a0_1 l0_2).bind fun t337=>(if t337=true then (spec_SymbolAt.l0 k a1 0 a0_0 a0_1 l0_2) else (some (0,0,1)))
theorem spec_SymbolAt.mono_l : ∀ k,(∀ y0 y1 y2 y3 y4,LeO (spec_SymbolAt.l0 k y0 y1 y2 y3 y4) (spec_SymbolAt.l0 (k+1) y0 y1 y2 y3 y4))
  | 0=>fun _ _ _ _ _ r h=>by simp [spec_SymbolAt.l0] at h
  | k+1=>by
    have ih0:=spec_SymbolAt.mono_l k
    · intro y0 y1 y2 y3 y4
      unfold spec_SymbolAt.l0
      repeat' (with_reducible first|apply ih0|apply spec_ImageOK.mono|apply LeO.refl|apply LeO.none|apply LeO.ite|refine LeO.bind ?_ (fun _=>?_))
theorem spec_SymbolAt.mono : ∀ a0 a1 a2 a3 k,LeO (spec_SymbolAt.f k a0 a1 a2 a3) (spec_SymbolAt.f (k+1) a0 a1 a2 a3):=by
 intro a0 a1 a2 a3 k
 have ih0:=spec_SymbolAt.mono_l k
 unfold spec_SymbolAt.f
 repeat' (with_reducible first|apply ih0|apply spec_ImageOK.mono|apply LeO.refl|apply LeO.none|apply LeO.ite|refine LeO.bind ?_ (fun _=>?_))
set_option maxHeartbeats 8000000 in
set_option maxRecDepth 100000 in
theorem spec_SymbolAt.calls (k:Nat) (a0_0:ByteArray) (a0_1:ByteArray) (A0_2:Option Addr) (c0_2:Nat) (l0_2:List (S54)) (a1:Int) (r1:Int) (r2:Int) (r3:Int) (w:World) (hr0_2:Kd.C k54 w A0_2 l0_2.length l0_2) (hc0_2:l0_2.length≤c0_2) (h:spec_SymbolAt.f k a0_0 a0_1 l0_2 a1=some (r1,r2,r3)) :
    Calls Try.prog 32 #[.agg #[.string a0_0,.string a0_1,.slice A0_2 l0_2.length c0_2],.int .i64 a1] w fun e w'=>e=.returned (.tuple #[.int .i64 r1,.int .i64 r2,.int .i64 r3])∧Below w.heap.size w w':=by
 have hu30:=Try.underlying30
 have hu54:=Try.underlying54
 have HR0_2:=Aside0.mk hr0_2
 have HC0_2:=Aside0.mk hc0_2
 clear hr0_2 hc0_2
 have HB:=Aside0.mk (Below.refl w.heap.size w)
 have H:((spec_ImageOK.f k a0_0 a0_1 l0_2).bind fun t337=>(if t337=true then (spec_SymbolAt.l0 k a1 0 a0_0 a0_1 l0_2) else (some (0,0,1))))=some (r1,r2,r3):=h
 clear h
 obtain ⟨t337,A3,H⟩:=bindA H
 by_cases c4:t337=true
 ·subst c4
  rw [if_pos rfl] at H
  have H':=Aside0.mk H
  clear H
  go_enter Try.func32,Try.ntmps32
  go_wp2_with (first|(refine bv 2 #[.string a0_0,.string a0_1,.slice A0_2 l0_2.length c0_2] 30 ?_;intro gb336 hg w5 hbox hb;obtain ⟨n0_,n2_⟩:=bx0 hbx hb hg;have n1_:=Aside0.mk (hbox);clear HB;have HB:=n0_;have BK336:=n1_;have GW336:=n2_;have GE336:=n2_;clear n0_ n1_ n2_;clear hb hbox hg;obtain ⟨Z6_0,Z6_1,Z6_2,Y6_0,Y6_1,Y6_2⟩:=cel3 BK336.out)|(refine gl 28 10 Try.func28 #[.agg #[.string a0_0,.string a0_1,.slice A0_2 l0_2.length c0_2]] ?_;(with_reducible refine (spec_ImageOK.calls k a0_0 a0_1 _ _ l0_2 true _ ?side1 ?side2 A3.out).mono ?_);(case side1=>exact kc HR0_2.out);(case side2=>exact HC0_2.out);rintro e w7 ⟨rfl,hb⟩;refine ⟨_,rfl,?_⟩;have n0_:=Aside0.mk (blk_below (qx BK336.out) hb);replace HB:=Aside0.mk (below_step (hb1 GE336.out) hb);clear BK336;have BK336:=n0_;clear n0_;(try clear hb);(try clear hb2);(try clear hk);(try clear hi)))
  go_loopg [7] k (fun kq v7 w'=>∃ (x7_1:Int),v7=.int .i64 x7_1∧Aside0 (spec_SymbolAt.l0 kq a1 x7_1 a0_0 a0_1 l0_2=some (r1,r2,r3))∧Aside0 (kq≤k)∧Aside0 (w'.heap[gb336]?=some (.cells #[.string a0_0,.string a0_1,(.slice A0_2 l0_2.length c0_2)] 30 (0,0)))∧Aside0 (Below w.heap.size w w'))
  case atStart=>exact ⟨(0),rs,H',⟨Nat.le_refl _⟩,⟨qx BK336.out⟩,⟨hb1 GE336.out⟩⟩
  clear H'
  try clear c4
  try clear Z6_0 Z6_1 Z6_2 Y6_0 Y6_1 Y6_2
  obtain ⟨x7_1,rfl,HA,HK1,BK336,HB⟩:=hrel
  cases gk with
  | zero=>exact absurd HA.out (by simp [spec_SymbolAt.l0])
  | succ k1 =>
   have H:=HA.out
   clear HA
   simp only [spec_SymbolAt.l0] at H
   by_cases c8:x7_1 < (l0_2.length:Int)
   ·rw [if_pos c8] at H
    have c8b0:decide (x7_1 < (l0_2.length:Int))=true:=decide_eq_true c8
    clear c8
    by_cases c9:0≤x7_1
    ·rw [if_pos c9] at H
     have c9b0:decide (0≤x7_1)=true:=decide_eq_true c9
     clear c9
     obtain ⟨t339,A10,H⟩:=bindA H
     by_cases c11:t339≤a1
     ·rw [if_pos c11] at H
      have c11b0:decide (t339≤a1)=true:=decide_eq_true c11
      clear c11
      by_cases c12:a1 < (wrap64 (t339+((rd_T54 l0_2 x7_1).f3)))
      ·rw [if_pos c12] at H
       have c12b0:decide (a1 < (wrap64 (t339+((rd_T54 l0_2 x7_1).f3))))=true:=decide_eq_true c12
       clear c12
       simp only [Option.some.injEq,Prod.mk.injEq] at H
       obtain ⟨rfl,rfl,rfl⟩:=H
       obtain ⟨Z13_0,Z13_1,Z13_2,Y13_0,Y13_1,Y13_2⟩:=cel3 BK336.out
       have p338:0≤(x7_1:Int):=od
       have q338:x7_1 < (l0_2.length:Int):=od
       obtain ⟨ad338,e338,hx338_0,hx338_1,hx338_2,hx338_3,hx338_4⟩:=at_T54 HR0_2.out x7_1 p338 q338
       cases e338
       replace hx338_0:=cx HB.out hx338_0
       replace hx338_1:=cx HB.out hx338_1
       replace hx338_2:=cx HB.out hx338_2
       replace hx338_3:=cx HB.out hx338_3
       replace hx338_4:=cx HB.out hx338_4
       replace p338:=eq_true p338
       replace q338:=eq_true q338
       go_wp2_with (first|(refine gl 55 24 Try.func55 #[.agg #[.string ((rd_T54 l0_2 x7_1).f0),.int .i64 ((rd_T54 l0_2 x7_1).f1),.int .i64 ((rd_T54 l0_2 x7_1).f2),.int .i64 ((rd_T54 l0_2 x7_1).f3),.int .i64 ((rd_T54 l0_2 x7_1).f4)]] ?_;(with_reducible refine (spec_l07Place.calls ((rd_T54 l0_2 x7_1).f0) ((rd_T54 l0_2 x7_1).f1) ((rd_T54 l0_2 x7_1).f2) ((rd_T54 l0_2 x7_1).f3) ((rd_T54 l0_2 x7_1).f4) t339 _ A10.out).mono ?_);rintro e w14 ⟨rfl,hb⟩;refine ⟨_,rfl,?_⟩;have n0_:=Aside0.mk (blk_below (qx BK336.out) hb);replace HB:=Aside0.mk (below_step (hb1 GE336.out) hb);clear BK336;have BK336:=n0_;clear n0_;(try clear hb);(try clear hb2);(try clear hk);(try clear hi);obtain ⟨Z15_0,Z15_1,Z15_2,Y15_0,Y15_1,Y15_2⟩:=cel3 BK336.out;have p340:0≤(x7_1:Int):=od;have q340:x7_1 < (l0_2.length:Int):=od;obtain ⟨ad340,e340,hx340_0,hx340_1,hx340_2,hx340_3,hx340_4⟩:=at_T54 HR0_2.out x7_1 p340 q340;obtain rfl:ad338=ad340:=(by injection e340);replace hx340_0:=cx HB.out hx340_0;replace hx340_1:=cx HB.out hx340_1;replace hx340_2:=cx HB.out hx340_2;replace hx340_3:=cx HB.out hx340_3;replace hx340_4:=cx HB.out hx340_4;replace p340:=eq_true p340;replace q340:=eq_true q340))
       go_ret3
       exact ⟨rf,hb1 GE336.out⟩
      rw [if_neg c12] at H
      have c12b0:decide (a1 < (wrap64 (t339+((rd_T54 l0_2 x7_1).f3))))=false:=decide_eq_false c12
      clear c12
      have H':=Aside0.mk H
      clear H
      obtain ⟨Z16_0,Z16_1,Z16_2,Y16_0,Y16_1,Y16_2⟩:=cel3 BK336.out
      have p338:0≤(x7_1:Int):=od
      have q338:x7_1 < (l0_2.length:Int):=od
      obtain ⟨ad338,e338,hx338_0,hx338_1,hx338_2,hx338_3,hx338_4⟩:=at_T54 HR0_2.out x7_1 p338 q338
      cases e338
      replace hx338_0:=cx HB.out hx338_0
      replace hx338_1:=cx HB.out hx338_1
      replace hx338_2:=cx HB.out hx338_2
      replace hx338_3:=cx HB.out hx338_3
      replace hx338_4:=cx HB.out hx338_4
      replace p338:=eq_true p338
      replace q338:=eq_true q338
      go_wp2_with (first|(refine gl 55 24 Try.func55 #[.agg #[.string ((rd_T54 l0_2 x7_1).f0),.int .i64 ((rd_T54 l0_2 x7_1).f1),.int .i64 ((rd_T54 l0_2 x7_1).f2),.int .i64 ((rd_T54 l0_2 x7_1).f3),.int .i64 ((rd_T54 l0_2 x7_1).f4)]] ?_;(with_reducible refine (spec_l07Place.calls ((rd_T54 l0_2 x7_1).f0) ((rd_T54 l0_2 x7_1).f1) ((rd_T54 l0_2 x7_1).f2) ((rd_T54 l0_2 x7_1).f3) ((rd_T54 l0_2 x7_1).f4) t339 _ A10.out).mono ?_);rintro e w17 ⟨rfl,hb⟩;refine ⟨_,rfl,?_⟩;have n0_:=Aside0.mk (blk_below (qx BK336.out) hb);replace HB:=Aside0.mk (below_step (hb1 GE336.out) hb);clear BK336;have BK336:=n0_;clear n0_;(try clear hb);(try clear hb2);(try clear hk);(try clear hi);obtain ⟨Z18_0,Z18_1,Z18_2,Y18_0,Y18_1,Y18_2⟩:=cel3 BK336.out;have p340:0≤(x7_1:Int):=od;have q340:x7_1 < (l0_2.length:Int):=od;obtain ⟨ad340,e340,hx340_0,hx340_1,hx340_2,hx340_3,hx340_4⟩:=at_T54 HR0_2.out x7_1 p340 q340;obtain rfl:ad338=ad340:=(by injection e340);replace hx340_0:=cx HB.out hx340_0;replace hx340_1:=cx HB.out hx340_1;replace hx340_2:=cx HB.out hx340_2;replace hx340_3:=cx HB.out hx340_3;replace hx340_4:=cx HB.out hx340_4;replace p340:=eq_true p340;replace q340:=eq_true q340))
      go_roundg k1
      case measure=>have:=HK1.out;omega
      case rel=>exact ⟨(wrap64 (x7_1+1)),rs,H',⟨by have:=HK1.out;omega⟩,⟨qx BK336.out⟩,⟨hb1 GE336.out⟩⟩
     rw [if_neg c11] at H
     have c11b0:decide (t339≤a1)=false:=decide_eq_false c11
     clear c11
     have H':=Aside0.mk H
     clear H
     obtain ⟨Z19_0,Z19_1,Z19_2,Y19_0,Y19_1,Y19_2⟩:=cel3 BK336.out
     have p338:0≤(x7_1:Int):=od
     have q338:x7_1 < (l0_2.length:Int):=od
     obtain ⟨ad338,e338,hx338_0,hx338_1,hx338_2,hx338_3,hx338_4⟩:=at_T54 HR0_2.out x7_1 p338 q338
     cases e338
     replace hx338_0:=cx HB.out hx338_0
     replace hx338_1:=cx HB.out hx338_1
     replace hx338_2:=cx HB.out hx338_2
     replace hx338_3:=cx HB.out hx338_3
     replace hx338_4:=cx HB.out hx338_4
     replace p338:=eq_true p338
     replace q338:=eq_true q338
     go_wp2_with (first|(refine gl 55 24 Try.func55 #[.agg #[.string ((rd_T54 l0_2 x7_1).f0),.int .i64 ((rd_T54 l0_2 x7_1).f1),.int .i64 ((rd_T54 l0_2 x7_1).f2),.int .i64 ((rd_T54 l0_2 x7_1).f3),.int .i64 ((rd_T54 l0_2 x7_1).f4)]] ?_;(with_reducible refine (spec_l07Place.calls ((rd_T54 l0_2 x7_1).f0) ((rd_T54 l0_2 x7_1).f1) ((rd_T54 l0_2 x7_1).f2) ((rd_T54 l0_2 x7_1).f3) ((rd_T54 l0_2 x7_1).f4) t339 _ A10.out).mono ?_);rintro e w20 ⟨rfl,hb⟩;refine ⟨_,rfl,?_⟩;have n0_:=Aside0.mk (blk_below (qx BK336.out) hb);replace HB:=Aside0.mk (below_step (hb1 GE336.out) hb);clear BK336;have BK336:=n0_;clear n0_;(try clear hb);(try clear hb2);(try clear hk);(try clear hi)))
     go_roundg k1
     case measure=>have:=HK1.out;omega
     case rel=>exact ⟨(wrap64 (x7_1+1)),rs,H',⟨by have:=HK1.out;omega⟩,⟨qx BK336.out⟩,⟨hb1 GE336.out⟩⟩
    rw [if_neg c9] at H
    exact absurd H (by simp)
   rw [if_neg c8] at H
   have c8b0:decide (x7_1 < (l0_2.length:Int))=false:=decide_eq_false c8
   clear c8
   simp only [Option.some.injEq,Prod.mk.injEq] at H
   obtain ⟨rfl,rfl,rfl⟩:=H
   obtain ⟨Z21_0,Z21_1,Z21_2,Y21_0,Y21_1,Y21_2⟩:=cel3 BK336.out
   go_wp2
   go_ret3
   exact ⟨rf,hb1 GE336.out⟩
 replace c4:=Bool.eq_false_iff.mpr c4
 subst c4
 rw [if_neg (show ¬ (false=true) by decide)] at H
 simp only [Option.some.injEq,Prod.mk.injEq] at H
 obtain ⟨rfl,rfl,rfl⟩:=H
 go_enter Try.func32,Try.ntmps32
 go_wp2_with (first|(refine bv 2 #[.string a0_0,.string a0_1,.slice A0_2 l0_2.length c0_2] 30 ?_;intro gb336 hg w22 hbox hb;obtain ⟨n0_,n2_⟩:=bx0 hbx hb hg;have n1_:=Aside0.mk (hbox);clear HB;have HB:=n0_;have BK336:=n1_;have GW336:=n2_;have GE336:=n2_;clear n0_ n1_ n2_;clear hb hbox hg;obtain ⟨Z23_0,Z23_1,Z23_2,Y23_0,Y23_1,Y23_2⟩:=cel3 BK336.out)|(refine gl 28 10 Try.func28 #[.agg #[.string a0_0,.string a0_1,.slice A0_2 l0_2.length c0_2]] ?_;(with_reducible refine (spec_ImageOK.calls k a0_0 a0_1 _ _ l0_2 false _ ?side1 ?side2 A3.out).mono ?_);(case side1=>exact kc HR0_2.out);(case side2=>exact HC0_2.out);rintro e w24 ⟨rfl,hb⟩;refine ⟨_,rfl,?_⟩;have n0_:=Aside0.mk (blk_below (qx BK336.out) hb);replace HB:=Aside0.mk (below_step (hb1 GE336.out) hb);clear BK336;have BK336:=n0_;clear n0_;(try clear hb);(try clear hb2);(try clear hk);(try clear hi)))
 go_ret3
 exact ⟨rf,hb1 GE336.out⟩
def impl_ImageOK.f (k:Nat) (a0_0:ByteArray) (a0_1:ByteArray) (l0_2:List (S54)):Option (Bool):=(impl_LintImage.f k a0_0 a0_1 l0_2).bind fun bt499=>(some (bt499.2.2==0))
theorem impl_ImageOK.mono : ∀ a0 a1 a2 k,LeO (impl_ImageOK.f k a0 a1 a2) (impl_ImageOK.f (k+1) a0 a1 a2):=by
 intro a0 a1 a2 k
 unfold impl_ImageOK.f
 repeat' (with_reducible first|apply impl_LintImage.mono|apply LeO.refl|apply LeO.none|apply LeO.ite|refine LeO.bind ?_ (fun _=>?_))
set_option maxHeartbeats 8000000 in
set_option maxRecDepth 100000 in
theorem impl_ImageOK.calls (k:Nat) (a0_0:ByteArray) (a0_1:ByteArray) (A0_2:Option Addr) (c0_2:Nat) (l0_2:List (S54)) (r:Bool) (w:World) (hr0_2:Kd.C k54 w A0_2 l0_2.length l0_2) (hc0_2:l0_2.length≤c0_2) (h:impl_ImageOK.f k a0_0 a0_1 l0_2=some r) :
    Calls Try.prog 29 #[.agg #[.string a0_0,.string a0_1,.slice A0_2 l0_2.length c0_2]] w fun e w'=>e=.returned (.bool r)∧Below w.heap.size w w':=by
 have hu30:=Try.underlying30
 have HR0_2:=Aside0.mk hr0_2
 have HC0_2:=Aside0.mk hc0_2
 clear hr0_2 hc0_2
 have HB:=Aside0.mk (Below.refl w.heap.size w)
 have H:((impl_LintImage.f k a0_0 a0_1 l0_2).bind fun bt499=>(some (bt499.2.2==0)))=some r:=h
 clear h
 obtain ⟨⟨t499,t500,t501⟩,A2,H⟩:=bindA H
 try dsimp only at H
 obtain rfl:=Option.some.inj H
 go_enter Try.func29,Try.ntmps29
 go_wp2_with (first|(refine bv 1 #[.string a0_0,.string a0_1,.slice A0_2 l0_2.length c0_2] 30 ?_;intro gb498 hg w3 hbox hb;obtain ⟨n0_,n2_⟩:=bx0 hbx hb hg;have n1_:=Aside0.mk (hbox);clear HB;have HB:=n0_;have BK498:=n1_;have GW498:=n2_;have GE498:=n2_;clear n0_ n1_ n2_;clear hb hbox hg;obtain ⟨Z4_0,Z4_1,Z4_2,Y4_0,Y4_1,Y4_2⟩:=cel3 BK498.out)|(refine gl 27 8 Try.func27 #[.agg #[.string a0_0,.string a0_1,.slice A0_2 l0_2.length c0_2]] ?_;(with_reducible refine (impl_LintImage.calls k a0_0 a0_1 _ _ l0_2 t499 t500 t501 _ ?side1 ?side2 A2.out).mono ?_);(case side1=>exact kc HR0_2.out);(case side2=>exact HC0_2.out);rintro e w5 ⟨rfl,hb⟩;refine ⟨_,rfl,?_⟩;have n0_:=Aside0.mk (blk_below (qx BK498.out) hb);replace HB:=Aside0.mk (below_step (hb1 GE498.out) hb);clear BK498;have BK498:=n0_;clear n0_;(try clear hb);(try clear hb2);(try clear hk);(try clear hi)))
 go_ret
 exact ⟨rf,hb1 GE498.out⟩
end Go.Proofs.Ythepmdlpjdlajaa.PFnExactLintImage
