-- Written by a program for this claim.
import Derived.Test.YthepmdlpjdlajaaZFnExactLintImagea
import Derived.Test.YthepmdlpjdlajaaProg
import Derived.Below
import Derived.Deep.Draws
import Derived.Deep.AppendLies
import Derived.Maps.AppendAt
import Derived.OwnWalk
import Derived.Laws.BytesArg
import Derived.Laws.MakeOwn
import Derived.Laws.OwnMore
import Derived.Deep.OwnRows
import Derived.Tactics
import Derived.Lib.ConvBytes
import Derived.Laws.Slices
import Derived.WalkKit
import Derived.KernelRfl
import Derived.RowKit3
import Derived.Deep.LoopGhost
import Derived.Deep.QuietTactic
import Derived.BigQuiet
import Derived.WideLaws
import Derived.Deep.DeepCutAuto
import Derived.Deep.CutBlock
import Derived.Deep.RegionHeld3
import Derived.Laws.Rows
import Derived.Lib.AppendStr
import Derived.ArgAppend
import Derived.Laws.IdiomCopy
import Derived.OrdersHeld
import Derived.Laws.BitsLemmas
import Derived.StillTailTactics
import Derived.RowKit
import Derived.Test.YthepmdlpjdlajaaPFnExactLintImagex25
import Derived.Test.YthepmdlpjdlajaaPFnExactSymbolAtx30
namespace Go.Proofs.Ythepmdlpjdlajaa.PFnExactLintImage
open Go.RowKit Go.Proofs.YthepmdlpjdlajaaW.PrintWords Go.Proofs.YthepmdlpjdlajaaW.PrintLast Go.Proofs.YthepmdlpjdlajaaW.PrintMore
attribute [local go_sem] max2_int min2_int max_two min_two max_three min_three max_four min_four   -- for this text's walks alone
set_option linter.unusedVariables false
set_option linter.unusedSimpArgs false
def impl_SymbolAt.l0:Nat→Int→List (S54)→Int→Int→Option (Int × Int × Int)
  | 0,_,_,_,_=>none
  | k+1,x1,x14,x15,x16=>if x16 < x15 then (if 0≤x16 then (if x16 < (x14.length:Int) then ((impl_Symbol_address.f ((rd_T54 x14 x16).f0) ((rd_T54 x14 x16).f1) ((rd_T54 x14 x16).f2) ((rd_T54 x14 x16).f3) ((rd_T54 x14 x16).f4)).bind fun t506=>((impl_within.f x1 t506 (wrap64 ((wrap64 (t506+((rd_T54 x14 x16).f3))) - 1))).bind fun t507=>(if t507=true then (some (x16,wrap64 (x1 - t506),0)) else (impl_SymbolAt.l0 k x1 x14 x15 (wrap64 (x16+1)))))) else (none)) else (none)) else (some (0,0,23))
def impl_SymbolAt.f (k:Nat) (a0_0:ByteArray) (a0_1:ByteArray) (l0_2:List (S54)) (a1:Int):Option (Int × Int × Int):=(impl_ImageOK.f k a0_0 a0_1 l0_2).bind fun t503=>(if t503=true then (impl_SymbolAt.l0 k a1 l0_2 (l0_2.length:Int) 0) else (some (0,0,1)))
theorem impl_SymbolAt.mono_l : ∀ k,(∀ y0 y1 y2 y3,LeO (impl_SymbolAt.l0 k y0 y1 y2 y3) (impl_SymbolAt.l0 (k+1) y0 y1 y2 y3))
  | 0=>fun _ _ _ _ r h=>by simp [impl_SymbolAt.l0] at h
  | k+1=>by
    have ih0:=impl_SymbolAt.mono_l k
    · intro y0 y1 y2 y3
      unfold impl_SymbolAt.l0
      repeat' (with_reducible first|apply ih0|apply impl_ImageOK.mono|apply LeO.refl|apply LeO.none|apply LeO.ite|refine LeO.bind ?_ (fun _=>?_))
theorem impl_SymbolAt.mono : ∀ a0 a1 a2 a3 k,LeO (impl_SymbolAt.f k a0 a1 a2 a3) (impl_SymbolAt.f (k+1) a0 a1 a2 a3):=by
 intro a0 a1 a2 a3 k
 have ih0:=impl_SymbolAt.mono_l k
 unfold impl_SymbolAt.f
 repeat' (with_reducible first|apply ih0|apply impl_ImageOK.mono|apply LeO.refl|apply LeO.none|apply LeO.ite|refine LeO.bind ?_ (fun _=>?_))
set_option maxHeartbeats 8000000 in
set_option maxRecDepth 100000 in
theorem impl_SymbolAt.calls (k:Nat) (a0_0:ByteArray) (a0_1:ByteArray) (A0_2:Option Addr) (c0_2:Nat) (l0_2:List (S54)) (a1:Int) (r1:Int) (r2:Int) (r3:Int) (w:World) (hr0_2:Kd.C k54 w A0_2 l0_2.length l0_2) (hc0_2:l0_2.length≤c0_2) (h:impl_SymbolAt.f k a0_0 a0_1 l0_2 a1=some (r1,r2,r3)) :
    Calls Try.prog 33 #[.agg #[.string a0_0,.string a0_1,.slice A0_2 l0_2.length c0_2],.int .i64 a1] w fun e w'=>e=.returned (.tuple #[.int .i64 r1,.int .i64 r2,.int .i64 r3])∧Below w.heap.size w w':=by
 have hu30:=Try.underlying30
 have hu54:=Try.underlying54
 have HR0_2:=Aside0.mk hr0_2
 have HC0_2:=Aside0.mk hc0_2
 clear hr0_2 hc0_2
 have HB:=Aside0.mk (Below.refl w.heap.size w)
 have H:((impl_ImageOK.f k a0_0 a0_1 l0_2).bind fun t503=>(if t503=true then (impl_SymbolAt.l0 k a1 l0_2 (l0_2.length:Int) 0) else (some (0,0,1))))=some (r1,r2,r3):=h
 clear h
 obtain ⟨t503,A3,H⟩:=bindA H
 by_cases c4:t503=true
 ·subst c4
  rw [if_pos rfl] at H
  have H':=Aside0.mk H
  clear H
  go_enter Try.func33,Try.ntmps33
  go_wp2_with (first|(refine bv 2 #[.string a0_0,.string a0_1,.slice A0_2 l0_2.length c0_2] 30 ?_;intro gb502 hg w5 hbox hb;obtain ⟨n0_,n2_⟩:=bx0 hbx hb hg;have n1_:=Aside0.mk (hbox);clear HB;have HB:=n0_;have BK502:=n1_;have GW502:=n2_;have GE502:=n2_;clear n0_ n1_ n2_;clear hb hbox hg;obtain ⟨Z6_0,Z6_1,Z6_2,Y6_0,Y6_1,Y6_2⟩:=cel3 BK502.out)|(refine gl 29 11 Try.func29 #[.agg #[.string a0_0,.string a0_1,.slice A0_2 l0_2.length c0_2]] ?_;(with_reducible refine (impl_ImageOK.calls k a0_0 a0_1 _ _ l0_2 true _ ?side1 ?side2 A3.out).mono ?_);(case side1=>exact kc HR0_2.out);(case side2=>exact HC0_2.out);rintro e w7 ⟨rfl,hb⟩;refine ⟨_,rfl,?_⟩;have n0_:=Aside0.mk (blk_below (qx BK502.out) hb);replace HB:=Aside0.mk (below_step (hb1 GE502.out) hb);clear BK502;have BK502:=n0_;clear n0_;(try clear hb);(try clear hb2);(try clear hk);(try clear hi);obtain ⟨Z8_0,Z8_1,Z8_2,Y8_0,Y8_1,Y8_2⟩:=cel3 BK502.out))
  go_loopg [16] k (fun kq v16 w'=>∃ (x16_1:Int),v16=.int .i64 x16_1∧Aside0 (impl_SymbolAt.l0 kq a1 l0_2 (l0_2.length:Int) x16_1=some (r1,r2,r3))∧Aside0 (kq≤k)∧Aside0 (w'.heap[gb502]?=some (.cells #[.string a0_0,.string a0_1,(.slice A0_2 l0_2.length c0_2)] 30 (0,0)))∧Aside0 (Below w.heap.size w w'))
  case atStart=>exact ⟨(0),rs,H',⟨Nat.le_refl _⟩,⟨qx BK502.out⟩,⟨hb1 GE502.out⟩⟩
  clear H'
  try clear c4
  try clear Z6_0 Z6_1 Z6_2
  try clear Z8_0 Z8_1 Z8_2
  try clear Y6_0 Y6_1 Y6_2
  try clear Y8_0 Y8_1 Y8_2
  obtain ⟨x16_1,rfl,HA,HK1,BK502,HB⟩:=hrel
  cases gk with
  | zero=>exact absurd HA.out (by simp [impl_SymbolAt.l0])
  | succ k1 =>
   have H:=HA.out
   clear HA
   simp only [impl_SymbolAt.l0] at H
   by_cases c9:x16_1 < (l0_2.length:Int)
   ·rw [if_pos c9] at H
    have c9b0:decide (x16_1 < (l0_2.length:Int))=true:=decide_eq_true c9
    clear c9
    by_cases c10:0≤x16_1
    ·rw [if_pos c10] at H
     have c10b0:decide (0≤x16_1)=true:=decide_eq_true c10
     clear c10
     by_cases c11:x16_1 < (l0_2.length:Int)
     ·rw [if_pos c11] at H
      have c11b0:decide (x16_1 < (l0_2.length:Int))=true:=decide_eq_true c11
      clear c11
      obtain ⟨t506,A12,H⟩:=bindA H
      obtain ⟨t507,A13,H⟩:=bindA H
      by_cases c14:t507=true
      ·subst c14
       rw [if_pos rfl] at H
       simp only [Option.some.injEq,Prod.mk.injEq] at H
       obtain ⟨rfl,rfl,rfl⟩:=H
       have p504:0≤(x16_1:Int):=od
       have q504:x16_1 < (l0_2.length:Int):=od
       obtain ⟨ad504,e504,hx504_0,hx504_1,hx504_2,hx504_3,hx504_4⟩:=at_T54 HR0_2.out x16_1 p504 q504
       cases e504
       replace hx504_0:=cx HB.out hx504_0
       replace hx504_1:=cx HB.out hx504_1
       replace hx504_2:=cx HB.out hx504_2
       replace hx504_3:=cx HB.out hx504_3
       replace hx504_4:=cx HB.out hx504_4
       replace p504:=eq_true p504
       replace q504:=eq_true q504
       go_wp2_with (first|(refine bv 8 #[.string (⟨#[]⟩:ByteArray),.int .i64 0,.int .i64 0,.int .i64 0,.int .i64 0] 54 ?_;intro gb505 hg w15 hbox hb;obtain ⟨n1_,n3_⟩:=bx0 (hb1 GE502.out) hb hg;obtain ⟨n0_,n5_,n6_⟩:=bx3 (qx BK502.out) hb hg;have n2_:=Aside0.mk (hbox);clear BK502;clear HB;have BK502:=n0_;have HB:=n1_;have BK505:=n2_;have GW505:=n3_;have GE505:=n3_;have NB502_505:=n5_;have NB505_502:=n6_;clear n0_ n1_ n2_ n3_ n5_ n6_;clear hb hbox hg;have hnb16:=NB505_502.out;have hnc16:=NB502_505.out;obtain ⟨Z17_0,Z17_1,Z17_2,Z17_3,Z17_4,Y17_0,Y17_1,Y17_2,Y17_3,Y17_4⟩:=cel5 BK505.out)|(refine gl 54 22 Try.func54 #[.agg #[.string ((rd_T54 l0_2 x16_1).f0),.int .i64 ((rd_T54 l0_2 x16_1).f1),.int .i64 ((rd_T54 l0_2 x16_1).f2),.int .i64 ((rd_T54 l0_2 x16_1).f3),.int .i64 ((rd_T54 l0_2 x16_1).f4)]] ?_;(with_reducible refine (impl_Symbol_address.calls ((rd_T54 l0_2 x16_1).f0) ((rd_T54 l0_2 x16_1).f1) ((rd_T54 l0_2 x16_1).f2) ((rd_T54 l0_2 x16_1).f3) ((rd_T54 l0_2 x16_1).f4) t506 _ A12.out).mono ?_);rintro e w18 ⟨rfl,hb⟩;refine ⟨_,rfl,?_⟩;have n0_:=Aside0.mk (blk_below (qg NB502_505.out BK502.out) hb);have n1_:=Aside0.mk (blk_below (g:=gb505) (o:=.cells #[.string ((rd_T54 l0_2 x16_1).f0),.int .i64 ((rd_T54 l0_2 x16_1).f1),.int .i64 ((rd_T54 l0_2 x16_1).f2),.int .i64 ((rd_T54 l0_2 x16_1).f3),.int .i64 ((rd_T54 l0_2 x16_1).f4)] 54 (0,0)) (by (with_reducible repeat first|apply Q1|apply Q2|apply Q3);refine blk_put (cs:=#[.string ((rd_T54 l0_2 x16_1).f0),.int .i64 ((rd_T54 l0_2 x16_1).f1),.int .i64 ((rd_T54 l0_2 x16_1).f2),.int .i64 ((rd_T54 l0_2 x16_1).f3),.int .i64 0]) ?_ 4 _ rfl;(with_reducible repeat first|apply Q1|apply Q2|apply Q3);refine blk_put (cs:=#[.string ((rd_T54 l0_2 x16_1).f0),.int .i64 ((rd_T54 l0_2 x16_1).f1),.int .i64 ((rd_T54 l0_2 x16_1).f2),.int .i64 0,.int .i64 0]) ?_ 3 _ rfl;(with_reducible repeat first|apply Q1|apply Q2|apply Q3);refine blk_put (cs:=#[.string ((rd_T54 l0_2 x16_1).f0),.int .i64 ((rd_T54 l0_2 x16_1).f1),.int .i64 0,.int .i64 0,.int .i64 0]) ?_ 2 _ rfl;(with_reducible repeat first|apply Q1|apply Q2|apply Q3);refine blk_put (cs:=#[.string ((rd_T54 l0_2 x16_1).f0),.int .i64 0,.int .i64 0,.int .i64 0,.int .i64 0]) ?_ 1 _ rfl;(with_reducible repeat first|apply Q1|apply Q2|apply Q3);refine blk_put (cs:=#[.string (⟨#[]⟩:ByteArray),.int .i64 0,.int .i64 0,.int .i64 0,.int .i64 0]) ?_ 0 _ rfl;(with_reducible repeat first|apply Q1|apply Q2|apply Q3);exact BK505.out) hb);replace HB:=Aside0.mk (below_step (hb2 GE502.out GE505.out) hb);clear BK502;clear BK505;have BK502:=n0_;have BK505:=n1_;clear n0_ n1_;(try clear hb);(try clear hb2);(try clear hk);(try clear hi);obtain ⟨Z19_0,Z19_1,Z19_2,Z19_3,Z19_4,Y19_0,Y19_1,Y19_2,Y19_3,Y19_4⟩:=cel5 BK505.out)|(refine gd 56 30 Try.func56 #[.int .i64 a1,.int .i64 t506,.int .i64 (wrap64 ((wrap64 (t506+((rd_T54 l0_2 x16_1).f3))) - 1))] (impl_within.calls a1 t506 (wrap64 ((wrap64 (t506+((rd_T54 l0_2 x16_1).f3))) - 1)) true _ A13.out) ?_;intro nd))
       go_ret3
       exact ⟨rf,hb2 GE502.out GE505.out⟩
      replace c14:=Bool.eq_false_iff.mpr c14
      subst c14
      rw [if_neg (show ¬ (false=true) by decide)] at H
      have H':=Aside0.mk H
      clear H
      have p504:0≤(x16_1:Int):=od
      have q504:x16_1 < (l0_2.length:Int):=od
      obtain ⟨ad504,e504,hx504_0,hx504_1,hx504_2,hx504_3,hx504_4⟩:=at_T54 HR0_2.out x16_1 p504 q504
      cases e504
      replace hx504_0:=cx HB.out hx504_0
      replace hx504_1:=cx HB.out hx504_1
      replace hx504_2:=cx HB.out hx504_2
      replace hx504_3:=cx HB.out hx504_3
      replace hx504_4:=cx HB.out hx504_4
      replace p504:=eq_true p504
      replace q504:=eq_true q504
      go_wp2_with (first|(refine bv 8 #[.string (⟨#[]⟩:ByteArray),.int .i64 0,.int .i64 0,.int .i64 0,.int .i64 0] 54 ?_;intro gb505 hg w20 hbox hb;obtain ⟨n1_,n3_⟩:=bx0 (hb1 GE502.out) hb hg;obtain ⟨n0_,n5_,n6_⟩:=bx3 (qx BK502.out) hb hg;have n2_:=Aside0.mk (hbox);clear BK502;clear HB;have BK502:=n0_;have HB:=n1_;have BK505:=n2_;have GW505:=n3_;have GE505:=n3_;have NB502_505:=n5_;have NB505_502:=n6_;clear n0_ n1_ n2_ n3_ n5_ n6_;clear hb hbox hg;have hnb21:=NB505_502.out;have hnc21:=NB502_505.out;obtain ⟨Z22_0,Z22_1,Z22_2,Z22_3,Z22_4,Y22_0,Y22_1,Y22_2,Y22_3,Y22_4⟩:=cel5 BK505.out)|(refine gl 54 22 Try.func54 #[.agg #[.string ((rd_T54 l0_2 x16_1).f0),.int .i64 ((rd_T54 l0_2 x16_1).f1),.int .i64 ((rd_T54 l0_2 x16_1).f2),.int .i64 ((rd_T54 l0_2 x16_1).f3),.int .i64 ((rd_T54 l0_2 x16_1).f4)]] ?_;(with_reducible refine (impl_Symbol_address.calls ((rd_T54 l0_2 x16_1).f0) ((rd_T54 l0_2 x16_1).f1) ((rd_T54 l0_2 x16_1).f2) ((rd_T54 l0_2 x16_1).f3) ((rd_T54 l0_2 x16_1).f4) t506 _ A12.out).mono ?_);rintro e w23 ⟨rfl,hb⟩;refine ⟨_,rfl,?_⟩;have n0_:=Aside0.mk (blk_below (qg NB502_505.out BK502.out) hb);have n1_:=Aside0.mk (blk_below (g:=gb505) (o:=.cells #[.string ((rd_T54 l0_2 x16_1).f0),.int .i64 ((rd_T54 l0_2 x16_1).f1),.int .i64 ((rd_T54 l0_2 x16_1).f2),.int .i64 ((rd_T54 l0_2 x16_1).f3),.int .i64 ((rd_T54 l0_2 x16_1).f4)] 54 (0,0)) (by (with_reducible repeat first|apply Q1|apply Q2|apply Q3);refine blk_put (cs:=#[.string ((rd_T54 l0_2 x16_1).f0),.int .i64 ((rd_T54 l0_2 x16_1).f1),.int .i64 ((rd_T54 l0_2 x16_1).f2),.int .i64 ((rd_T54 l0_2 x16_1).f3),.int .i64 0]) ?_ 4 _ rfl;(with_reducible repeat first|apply Q1|apply Q2|apply Q3);refine blk_put (cs:=#[.string ((rd_T54 l0_2 x16_1).f0),.int .i64 ((rd_T54 l0_2 x16_1).f1),.int .i64 ((rd_T54 l0_2 x16_1).f2),.int .i64 0,.int .i64 0]) ?_ 3 _ rfl;(with_reducible repeat first|apply Q1|apply Q2|apply Q3);refine blk_put (cs:=#[.string ((rd_T54 l0_2 x16_1).f0),.int .i64 ((rd_T54 l0_2 x16_1).f1),.int .i64 0,.int .i64 0,.int .i64 0]) ?_ 2 _ rfl;(with_reducible repeat first|apply Q1|apply Q2|apply Q3);refine blk_put (cs:=#[.string ((rd_T54 l0_2 x16_1).f0),.int .i64 0,.int .i64 0,.int .i64 0,.int .i64 0]) ?_ 1 _ rfl;(with_reducible repeat first|apply Q1|apply Q2|apply Q3);refine blk_put (cs:=#[.string (⟨#[]⟩:ByteArray),.int .i64 0,.int .i64 0,.int .i64 0,.int .i64 0]) ?_ 0 _ rfl;(with_reducible repeat first|apply Q1|apply Q2|apply Q3);exact BK505.out) hb);replace HB:=Aside0.mk (below_step (hb2 GE502.out GE505.out) hb);clear BK502;clear BK505;have BK502:=n0_;have BK505:=n1_;clear n0_ n1_;(try clear hb);(try clear hb2);(try clear hk);(try clear hi);obtain ⟨Z24_0,Z24_1,Z24_2,Z24_3,Z24_4,Y24_0,Y24_1,Y24_2,Y24_3,Y24_4⟩:=cel5 BK505.out)|(refine gd 56 30 Try.func56 #[.int .i64 a1,.int .i64 t506,.int .i64 (wrap64 ((wrap64 (t506+((rd_T54 l0_2 x16_1).f3))) - 1))] (impl_within.calls a1 t506 (wrap64 ((wrap64 (t506+((rd_T54 l0_2 x16_1).f3))) - 1)) false _ A13.out) ?_;intro nd))
      go_roundg k1
      case measure=>have:=HK1.out;omega
      case rel=>exact ⟨(wrap64 (x16_1+1)),rs,H',⟨by have:=HK1.out;omega⟩,⟨qx BK502.out⟩,⟨hb2 GE502.out GE505.out⟩⟩
     rw [if_neg c11] at H
     exact absurd H (by simp)
    rw [if_neg c10] at H
    exact absurd H (by simp)
   rw [if_neg c9] at H
   have c9b0:decide (x16_1 < (l0_2.length:Int))=false:=decide_eq_false c9
   clear c9
   simp only [Option.some.injEq,Prod.mk.injEq] at H
   obtain ⟨rfl,rfl,rfl⟩:=H
   go_wp2
   go_ret3
   exact ⟨rf,hb1 GE502.out⟩
 replace c4:=Bool.eq_false_iff.mpr c4
 subst c4
 rw [if_neg (show ¬ (false=true) by decide)] at H
 simp only [Option.some.injEq,Prod.mk.injEq] at H
 obtain ⟨rfl,rfl,rfl⟩:=H
 go_enter Try.func33,Try.ntmps33
 go_wp2_with (first|(refine bv 2 #[.string a0_0,.string a0_1,.slice A0_2 l0_2.length c0_2] 30 ?_;intro gb502 hg w25 hbox hb;obtain ⟨n0_,n2_⟩:=bx0 hbx hb hg;have n1_:=Aside0.mk (hbox);clear HB;have HB:=n0_;have BK502:=n1_;have GW502:=n2_;have GE502:=n2_;clear n0_ n1_ n2_;clear hb hbox hg;obtain ⟨Z26_0,Z26_1,Z26_2,Y26_0,Y26_1,Y26_2⟩:=cel3 BK502.out)|(refine gl 29 11 Try.func29 #[.agg #[.string a0_0,.string a0_1,.slice A0_2 l0_2.length c0_2]] ?_;(with_reducible refine (impl_ImageOK.calls k a0_0 a0_1 _ _ l0_2 false _ ?side1 ?side2 A3.out).mono ?_);(case side1=>exact kc HR0_2.out);(case side2=>exact HC0_2.out);rintro e w27 ⟨rfl,hb⟩;refine ⟨_,rfl,?_⟩;have n0_:=Aside0.mk (blk_below (qx BK502.out) hb);replace HB:=Aside0.mk (below_step (hb1 GE502.out) hb);clear BK502;have BK502:=n0_;clear n0_;(try clear hb);(try clear hb2);(try clear hk);(try clear hi)))
 go_ret3
 exact ⟨rf,hb1 GE502.out⟩
end Go.Proofs.Ythepmdlpjdlajaa.PFnExactLintImage
