-- Written by a program for this claim.
import Derived.Test.YthepmdlpjdlajaaZFnExactLintImagea
import Derived.Test.YthepmdlpjdlajaaProg
import Derived.Below
import Derived.Deep.Draws
import Derived.Deep.AppendLies
import Derived.Maps.AppendAt
import Derived.OwnWalk
import Derived.Laws.BytesArg
import Derived.Laws.MakeOwn
import Derived.Laws.OwnMore
import Derived.Deep.OwnRows
import Derived.Tactics
import Derived.Lib.ConvBytes
import Derived.Laws.Slices
import Derived.WalkKit
import Derived.KernelRfl
import Derived.RowKit3
import Derived.Deep.LoopGhost
import Derived.Deep.QuietTactic
import Derived.BigQuiet
import Derived.WideLaws
import Derived.Deep.DeepCutAuto
import Derived.Deep.CutBlock
import Derived.Deep.RegionHeld3
import Derived.Laws.Rows
import Derived.Lib.AppendStr
import Derived.ArgAppend
import Derived.Laws.IdiomCopy
import Derived.OrdersHeld
import Derived.Laws.BitsLemmas
import Derived.StillTailTactics
import Derived.RowKit
import Derived.Test.YthepmdlpjdlajaaPFnExactLintImagex25
import Derived.Test.YthepmdlpjdlajaaPFnExactImageOKx30
namespace Go.Proofs.Ythepmdlpjdlajaa.PFnExactLintImage
open Go.RowKit Go.Proofs.YthepmdlpjdlajaaW.PrintWords Go.Proofs.YthepmdlpjdlajaaW.PrintLast Go.Proofs.YthepmdlpjdlajaaW.PrintMore
attribute [local go_sem] max2_int min2_int max_two min_two max_three min_three max_four min_four   -- for this text's walks alone
set_option linter.unusedVariables false
set_option linter.unusedSimpArgs false
def laws_FnExactImageOK.f (k:Nat) (a0_0:ByteArray) (a0_1:ByteArray) (l0_2:List (S78)):Option (Bool):=(laws_szImage.f k a0_0 a0_1 l0_2 1048576).bind fun t498=>(if t498 < 0 then (some true) else ((laws_toImage.f k a0_0 a0_1 l0_2).bind fun bt499=>((spec_ImageOK.f k bt499.1 bt499.2.1 bt499.2.2).bind fun t504=>((laws_toImage.f k a0_0 a0_1 l0_2).bind fun bt505=>((impl_ImageOK.f k bt505.1 bt505.2.1 bt505.2.2).bind fun t511=>(if (t511 != t504)=true then (some false) else ((laws_toImage.f k a0_0 a0_1 l0_2).bind fun bt512=>((laws_eqImage.f k bt505.1 bt505.2.1 bt505.2.2 bt512.1 bt512.2.1 bt512.2.2).bind fun t517=>(if t517=true then (some true) else (some false))))))))))
theorem laws_FnExactImageOK.mono : ∀ a0 a1 a2 k,LeO (laws_FnExactImageOK.f k a0 a1 a2) (laws_FnExactImageOK.f (k+1) a0 a1 a2):=by
 intro a0 a1 a2 k
 unfold laws_FnExactImageOK.f
 repeat' (with_reducible first|apply impl_ImageOK.mono|apply laws_eqImage.mono|apply laws_szImage.mono|apply laws_toImage.mono|apply spec_ImageOK.mono|apply LeO.refl|apply LeO.none|apply LeO.ite|refine LeO.bind ?_ (fun _=>?_))
set_option maxHeartbeats 8000000 in
set_option maxRecDepth 100000 in
theorem laws_FnExactImageOK.calls (k:Nat) (a0_0:ByteArray) (a0_1:ByteArray) (A0_2:Option Addr) (c0_2:Nat) (l0_2:List (S78)) (r:Bool) (hT:r=true) (w:World) (hr0_2:Kd.C k78 w A0_2 l0_2.length l0_2) (hc0_2:l0_2.length≤c0_2) (h:laws_FnExactImageOK.f k a0_0 a0_1 l0_2=some r) :
    Calls Try.prog 8 #[.agg #[.string a0_0,.string a0_1,.slice A0_2 l0_2.length c0_2]] w fun e w'=>e=.returned (.bool r)∧Below w.heap.size w w':=by
 have HT:=Aside0.mk hT
 clear hT
 have hu24:=Try.underlying24
 have hu30:=Try.underlying30
 have HR0_2:=Aside0.mk hr0_2
 have HC0_2:=Aside0.mk hc0_2
 clear hr0_2 hc0_2
 have HB:=Aside0.mk (Below.refl w.heap.size w)
 have H:((laws_szImage.f k a0_0 a0_1 l0_2 1048576).bind fun t498=>(if t498 < 0 then (some true) else ((laws_toImage.f k a0_0 a0_1 l0_2).bind fun bt499=>((spec_ImageOK.f k bt499.1 bt499.2.1 bt499.2.2).bind fun t504=>((laws_toImage.f k a0_0 a0_1 l0_2).bind fun bt505=>((impl_ImageOK.f k bt505.1 bt505.2.1 bt505.2.2).bind fun t511=>(if (t511 != t504)=true then (some false) else ((laws_toImage.f k a0_0 a0_1 l0_2).bind fun bt512=>((laws_eqImage.f k bt505.1 bt505.2.1 bt505.2.2 bt512.1 bt512.2.1 bt512.2.2).bind fun t517=>(if t517=true then (some true) else (some false)))))))))))=some r:=h
 clear h
 obtain ⟨t498,A2,H⟩:=bindA H
 by_cases c3:t498 < 0
 ·rw [if_pos c3] at H
  have c3b0:decide (t498 < 0)=true:=decide_eq_true c3
  clear c3
  obtain rfl:=Option.some.inj H
  go_enter Try.func8,Try.ntmps8
  go_wp2_with (first|(refine bv 1 #[.string a0_0,.string a0_1,.slice A0_2 l0_2.length c0_2] 24 ?_;intro gb497 hg w4 hbox hb;obtain ⟨n0_,n2_⟩:=bx0 hbx hb hg;have n1_:=Aside0.mk (hbox);clear HB;have HB:=n0_;have BK497:=n1_;have GW497:=n2_;have GE497:=n2_;clear n0_ n1_ n2_;clear hb hbox hg;obtain ⟨Z5_0,Z5_1,Z5_2,Y5_0,Y5_1,Y5_2⟩:=cel3 BK497.out)|(refine gl 11 9 Try.func11 #[.agg #[.string a0_0,.string a0_1,.slice A0_2 l0_2.length c0_2],.int .i64 1048576] ?_;(with_reducible refine (laws_szImage.calls k a0_0 a0_1 _ _ l0_2 1048576 t498 _ ?side1 ?side2 A2.out).mono ?_);(case side1=>exact kc HR0_2.out);(case side2=>exact HC0_2.out);rintro e w6 ⟨rfl,hb⟩;refine ⟨_,rfl,?_⟩;have n0_:=Aside0.mk (blk_below (qx BK497.out) hb);replace HB:=Aside0.mk (below_step (hb1 GE497.out) hb);clear BK497;have BK497:=n0_;clear n0_;(try clear hb);(try clear hb2);(try clear hk);(try clear hi)))
  go_ret
  exact ⟨rf,hb1 GE497.out⟩
 rw [if_neg c3] at H
 have c3b0:decide (t498 < 0)=false:=decide_eq_false c3
 clear c3
 obtain ⟨⟨t499,t500,t501⟩,A7,H⟩:=bindA H
 try dsimp only at H
 obtain ⟨t504,A8,H⟩:=bindA H
 obtain ⟨⟨t505,t506,t507⟩,A9,H⟩:=bindA H
 try dsimp only at H
 obtain ⟨t511,A10,H⟩:=bindA H
 by_cases c11:(t511 != t504)=true
 ·rw [if_pos c11] at H
  have c11b0:(t511 != t504)=true:=c11
  (try (have c11b1:decide (t511=t504)=false:=by simpa using c11))
  (try (have c11b2:(t511==t504)=false:=by simpa using c11))
  (try (have c11b3:¬ (t511=t504):=by simpa using c11))
  clear c11
  exact absurd ((Option.some.inj H).trans HT.out) (by decide)
 rw [if_neg c11] at H
 have c11b0:(t511 != t504)=false:=by simpa using c11
 (try (have c11b1:decide (t511=t504)=true:=by simpa using c11))
 (try (have c11b2:(t511==t504)=true:=by simpa using c11))
 clear c11
 obtain ⟨⟨t512,t513,t514⟩,A12,H⟩:=bindA H
 try dsimp only at H
 obtain ⟨t517,A13,H⟩:=bindA H
 by_cases c14:t517=true
 ·subst c14
  rw [if_pos rfl] at H
  obtain rfl:=Option.some.inj H
  go_enter Try.func8,Try.ntmps8
  try go_wp2_with (first|(refine bv 1 #[.string a0_0,.string a0_1,.slice A0_2 l0_2.length c0_2] 24 ?_;intro gb497 hg w15 hbox hb;obtain ⟨n0_,n2_⟩:=bx0 hbx hb hg;have n1_:=Aside0.mk (hbox);clear HB;have HB:=n0_;have BK497:=n1_;have GW497:=n2_;have GE497:=n2_;clear n0_ n1_ n2_;clear hb hbox hg;obtain ⟨Z16_0,Z16_1,Z16_2,Y16_0,Y16_1,Y16_2⟩:=cel3 BK497.out)|(refine gl 11 9 Try.func11 #[.agg #[.string a0_0,.string a0_1,.slice A0_2 l0_2.length c0_2],.int .i64 1048576] ?_;(with_reducible refine (laws_szImage.calls k a0_0 a0_1 _ _ l0_2 1048576 t498 _ ?side1 ?side2 A2.out).mono ?_);(case side1=>exact kc HR0_2.out);(case side2=>exact HC0_2.out);rintro e w17 ⟨rfl,hb⟩;refine ⟨_,rfl,?_⟩;have n0_:=Aside0.mk (blk_below (qx BK497.out) hb);replace HB:=Aside0.mk (below_step (hb1 GE497.out) hb);clear BK497;have BK497:=n0_;clear n0_;(try clear hb);(try clear hb2);(try clear hk);(try clear hi);obtain ⟨Z18_0,Z18_1,Z18_2,Y18_0,Y18_1,Y18_2⟩:=cel3 BK497.out)|(refine gl 13 13 Try.func13 #[.agg #[.string a0_0,.string a0_1,.slice A0_2 l0_2.length c0_2]] ?_;(with_reducible refine (laws_toImage.calls k a0_0 a0_1 _ _ l0_2 t499 t500 t501 _ ?side1 ?side2 A7.out).mono ?_);(case side1=>exact kc HR0_2.out);(case side2=>exact HC0_2.out);rintro e w19 ⟨v502,rfl,ho0,hb⟩;refine ⟨_,rfl,?_⟩;have n0_:=Aside0.mk (Kd.R_lower ho0 (below_size (hb1 GE497.out)));have n1_:=Aside0.mk (blk_below (qx BK497.out) hb);replace HB:=Aside0.mk (below_step (hb1 GE497.out) hb);clear BK497;have HO503:=n0_;have BK497:=n1_;clear n0_ n1_;(try clear hb);(try clear hb2);(try clear hk);(try clear hi);(try clear ho0);obtain ⟨Ao20,co20,eo20⟩:=Kd.R_slice HO503.out;subst eo20)|(refine gl 28 14 Try.func28 #[.agg #[.string t499,.string t500,.slice Ao20 t501.length co20]] ?_;(with_reducible refine (spec_ImageOK.calls k t499 t500 _ _ t501 t504 _ ?side1 ?side2 A8.out).mono ?_);(case side1=>repeat (first|exact (Kd.R_reads' HO503.out).2.2|(with_reducible refine Kd.C_alloc ?_ _)|(with_reducible refine Kd.C_drewN ?_ _)|(with_reducible refine Kd.C_drew ?_)));(case side2=>exact (Kd.R_reads' HO503.out).2.1);rintro e w21 ⟨rfl,hb⟩;refine ⟨_,rfl,?_⟩;have n0_:=Aside0.mk (Kd.R_below (kr HO503.out) hb);have n1_:=Aside0.mk (blk_below (qx BK497.out) hb);replace HB:=Aside0.mk (below_step (hb1 GE497.out) hb);clear HO503;clear BK497;have HO503:=n0_;have BK497:=n1_;clear n0_ n1_;(try clear hb);(try clear hb2);(try clear hk);(try clear hi);obtain ⟨Z22_0,Z22_1,Z22_2,Y22_0,Y22_1,Y22_2⟩:=cel3 BK497.out)|(refine gl 13 16 Try.func13 #[.agg #[.string a0_0,.string a0_1,.slice A0_2 l0_2.length c0_2]] ?_;(with_reducible refine (laws_toImage.calls k a0_0 a0_1 _ _ l0_2 t505 t506 t507 _ ?side1 ?side2 A9.out).mono ?_);(case side1=>exact kc HR0_2.out);(case side2=>exact HC0_2.out);rintro e w23 ⟨v508,rfl,ho0,hb⟩;refine ⟨_,rfl,?_⟩;have n0_:=Aside0.mk (Kd.R_elder' (kr HO503.out) (Kd.R_base ho0) hb);have n1_:=Aside0.mk (Kd.R_lower (Kd.R_new' ho0 (Kd.R_lt (kr HO503.out))) (below_size (hb1 GE497.out)));have n2_:=Aside0.mk (blk_below (qx BK497.out) hb);replace HB:=Aside0.mk (below_step (hb1 GE497.out) hb);clear HO503;clear BK497;have HO503:=n0_;have HO509:=n1_;have BK497:=n2_;clear n0_ n1_ n2_;(try clear hb);(try clear hb2);(try clear hk);(try clear hi);(try clear ho0))|(refine bv 5 #[.string (⟨#[]⟩:ByteArray),.string (⟨#[]⟩:ByteArray),.slice none 0 0] 30 ?_;intro gb510 hg w24 hbox hb;obtain ⟨n3_,n5_⟩:=bx0 (hb1 GE497.out) hb hg;have n0_:=Aside0.mk (Kd.R_below (kr HO503.out) hb);have n1_:=Aside0.mk (Kd.R_below (kr HO509.out) hb);obtain ⟨n2_,n7_,n8_⟩:=bx3 (qx BK497.out) hb hg;have n4_:=Aside0.mk (hbox);clear HO503;clear HO509;clear BK497;clear HB;have HO503:=n0_;have HO509:=n1_;have BK497:=n2_;have HB:=n3_;have BK510:=n4_;have GW510:=n5_;have GE510:=n5_;have NB497_510:=n7_;have NB510_497:=n8_;clear n0_ n1_ n2_ n3_ n4_ n5_ n7_ n8_;clear hb hbox hg;have hnb25:=NB510_497.out;have hnc25:=NB497_510.out;obtain ⟨Z26_0,Z26_1,Z26_2,Y26_0,Y26_1,Y26_2⟩:=cel3 BK510.out;obtain ⟨Ao27,co27,eo27⟩:=Kd.R_slice HO509.out;subst eo27)|(refine gl 29 18 Try.func29 #[.agg #[.string t505,.string t506,.slice Ao27 t507.length co27]] ?_;(with_reducible refine (impl_ImageOK.calls k t505 t506 _ _ t507 t511 _ ?side1 ?side2 A10.out).mono ?_);(case side1=>refine (Kd.R_reads' (e:=54) (base:=w.heap.size) (ok:=fun k_=>(True∧some k_≠(.slice Ao20 t501.length co20:Value).ownBlock)) (n:=t507.length) (c:=co27) ?_).2.2;exact (by (with_reducible repeat (first|apply Kd.R_alloc|apply Kd.R_drewN|apply Kd.R_drew));exact (Kd.R_mono (Kd.R_far (p:=⟨gb510,2,none⟩) (Kd.R_far (p:=⟨gb510,1,none⟩) (Kd.R_far (p:=⟨gb510,0,none⟩) (Kd.R_types HO509.out BK510.out (by decide)) (fun _ hk=>hk.2) (.string t505)) (fun _ hk=>hk.2) (.string t506)) (fun _ hk=>hk.2) (.slice Ao27 t507.length co27)) (fun _ h_=>h_.1))));(case side2=>exact (Kd.R_reads' HO509.out).2.1);rintro e w28 ⟨rfl,hb⟩;refine ⟨_,rfl,?_⟩;have n0_:=Aside0.mk (Kd.R_below (by (with_reducible repeat (first|apply Kd.R_alloc|apply Kd.R_drewN|apply Kd.R_drew));exact (Kd.R_mono (Kd.R_far (p:=⟨gb510,2,none⟩) (Kd.R_far (p:=⟨gb510,1,none⟩) (Kd.R_far (p:=⟨gb510,0,none⟩) (Kd.R_types HO503.out BK510.out (by decide)) (fun _ hk=>hk.2) (.string t505)) (fun _ hk=>hk.2) (.string t506)) (fun _ hk=>hk.2) (.slice Ao27 t507.length co27)) (fun _ h_=>h_.1))) hb);have n1_:=Aside0.mk (Kd.R_below (by (with_reducible repeat (first|apply Kd.R_alloc|apply Kd.R_drewN|apply Kd.R_drew));exact (Kd.R_mono (Kd.R_far (p:=⟨gb510,2,none⟩) (Kd.R_far (p:=⟨gb510,1,none⟩) (Kd.R_far (p:=⟨gb510,0,none⟩) (Kd.R_types HO509.out BK510.out (by decide)) (fun _ hk=>hk.2) (.string t505)) (fun _ hk=>hk.2) (.string t506)) (fun _ hk=>hk.2) (.slice Ao27 t507.length co27)) (fun _ h_=>h_.1))) hb);have n2_:=Aside0.mk (blk_below (g:=gb497) (o:=.cells #[.string a0_0,.string a0_1,.slice A0_2 l0_2.length c0_2] 24 (0,0)) (by (with_reducible repeat first|apply Q1|apply Q2|apply Q3);refine blk_far ?_ NB497_510.out _;(with_reducible repeat first|apply Q1|apply Q2|apply Q3);refine blk_far ?_ NB497_510.out _;(with_reducible repeat first|apply Q1|apply Q2|apply Q3);refine blk_far ?_ NB497_510.out _;(with_reducible repeat first|apply Q1|apply Q2|apply Q3);exact BK497.out) hb);have n3_:=Aside0.mk (blk_below (g:=gb510) (o:=.cells #[.string t505,.string t506,.slice Ao27 t507.length co27] 30 (0,0)) (by (with_reducible repeat first|apply Q1|apply Q2|apply Q3);refine blk_put (cs:=#[.string t505,.string t506,.slice none 0 0]) ?_ 2 _ rfl;(with_reducible repeat first|apply Q1|apply Q2|apply Q3);refine blk_put (cs:=#[.string t505,.string (⟨#[]⟩:ByteArray),.slice none 0 0]) ?_ 1 _ rfl;(with_reducible repeat first|apply Q1|apply Q2|apply Q3);refine blk_put (cs:=#[.string (⟨#[]⟩:ByteArray),.string (⟨#[]⟩:ByteArray),.slice none 0 0]) ?_ 0 _ rfl;(with_reducible repeat first|apply Q1|apply Q2|apply Q3);exact BK510.out) hb);replace HB:=Aside0.mk (below_step (hb2 GE497.out GE510.out) hb);clear HO503;clear HO509;clear BK497;clear BK510;have HO503:=n0_;have HO509:=n1_;have BK497:=n2_;have BK510:=n3_;clear n0_ n1_ n2_ n3_;(try clear hb);(try clear hb2);(try clear hk);(try clear hi)))
  replace HO503:=Aside0.mk (Kd.R_drew HO503.out);replace HO509:=Aside0.mk (Kd.R_drew HO509.out);replace BK497:=Aside0.mk (blk_drew BK497.out);replace BK510:=Aside0.mk (blk_drew BK510.out);replace HB:=Aside0.mk (below_drew1 HB.out)
  refine start_ (n:=5) (S:=fun w'=>w'.cell? ⟨gb510,0,none⟩=some (.string t505)∧w'.cell? ⟨gb510,1,none⟩=some (.string t506)∧w'.cell? ⟨gb510,2,none⟩=some (.slice Ao27 t507.length co27)∧w'.cell? ⟨gb497,0,none⟩=some (.string a0_0)∧w'.cell? ⟨gb497,1,none⟩=some (.string a0_1)∧w'.cell? ⟨gb497,2,none⟩=some (.slice A0_2 l0_2.length c0_2)) (ds:=[]) #[false,false,false,false,false] (by kernel_rfl) rfl rfl ⟨(blk_cell BK510.out 0).trans rfl,(blk_cell BK510.out 1).trans rfl,(blk_cell BK510.out 2).trans rfl,(blk_cell BK497.out 0).trans rfl,(blk_cell BK497.out 1).trans rfl,(blk_cell BK497.out 2).trans rfl⟩ (fun hHeld=>?_)
  generalize w28.drew=w29 at HO503 HO509 BK497 BK510 HB hHeld ⊢
  refine tk6 0 22 #[true,false,false,false,false] hHeld ?_
  refine tk6 1 23 #[true,true,false,false,false] hHeld ?_
  refine one_ (i:=2) (N:=some 24) #[true,true,true,false,false] rfl rfl (by kernel_rfl) (by decide) (fun K hK=>?_)
  refine goes_ Try.func13 (by kernel_rfl) rfl #[.agg #[.string a0_0,.string a0_1,.slice A0_2 l0_2.length c0_2]] (by rfl) rfl rfl (mp_ rfl) ?_
  with_reducible refine (laws_toImage.calls k a0_0 a0_1 _ _ l0_2 t512 t513 t514 _ ?side1 ?side2 A12.out).mono ?_
  (case side1=>exact kc HR0_2.out)
  (case side2=>exact HC0_2.out)
  rintro e w30 ⟨v515,rfl,ho0,hb⟩
  refine ⟨_,rfl,?_⟩
  have n0_:=Aside0.mk (Kd.R_elder' (kr HO503.out) (Kd.R_base ho0) hb)
  have n1_:=Aside0.mk (Kd.R_elder' (kr HO509.out) (Kd.R_base ho0) hb)
  have n2_:=Aside0.mk (Kd.R_lower (Kd.R_new' (Kd.R_new' ho0 (Kd.R_lt (kr HO503.out))) (Kd.R_lt (kr HO509.out))) (below_size (hb2 GE497.out GE510.out)))
  have n3_:=Aside0.mk (blk_below (qx BK497.out) hb)
  have n4_:=Aside0.mk (blk_below (qx BK510.out) hb)
  have n5_:=Aside0.mk (below_step (hb2 GE497.out GE510.out) hb)
  clear HO503
  clear HO509
  clear BK497
  clear BK510
  clear HB
  have HO503:=n0_
  have HO509:=n1_
  have HO516:=n2_
  have BK497:=n3_
  have BK510:=n4_
  have HB:=n5_
  clear n0_ n1_ n2_ n3_ n4_ n5_
  try clear hb hb2
  try clear hk
  try clear hi
  try clear ho0
  obtain ⟨Ao31,co31,eo31⟩:=Kd.R_slice HO516.out
  (first|subst eo31|(injection eo31 with f1_ f2_ f3_;have f4_:=f1_.symm;have f5_:=f3_.symm;clear f1_ f2_ f3_;subst f4_;subst f5_))
  refine hK.out _ _ ⟨(blk_cell BK510.out 0).trans rfl,(blk_cell BK510.out 1).trans rfl,(blk_cell BK510.out 2).trans rfl,(blk_cell BK497.out 0).trans rfl,(blk_cell BK497.out 1).trans rfl,(blk_cell BK497.out 2).trans rfl⟩ (fun hHeld=>?_)
  clear hK K
  refine norm_ (a':=?_) ?_ ?_
  rotate_left
  ·show Act.put _ (some 24) _=_
   simp only [Act.put,List.setIfInBounds_toArray,List.set_cons_zero,List.set_cons_succ,i64_w,i32_w]
   rfl
  refine one_ (i:=3) (N:=some 25) #[true,true,true,true,false] rfl rfl (by kernel_rfl) (by decide) (fun K hK=>?_)
  refine goes_ Try.func15 (by kernel_rfl) rfl #[.agg #[.string t505,.string t506,.slice Ao27 t507.length co27],.agg #[.string t512,.string t513,.slice Ao31 t514.length co31]] (by rfl) rfl rfl (mp_ rfl) ?_
  with_reducible refine (laws_eqImage.calls k t505 t506 _ _ t507 t512 t513 _ _ t514 true _ ?side1 ?side2 ?side3 ?side4 A13.out).mono ?_
  (case side1=>repeat (first|exact (Kd.R_reads' HO509.out).2.2|(with_reducible refine Kd.C_alloc ?_ _)|(with_reducible refine Kd.C_drewN ?_ _)|(with_reducible refine Kd.C_drew ?_)))
  (case side2=>exact (Kd.R_reads' HO509.out).2.1)
  (case side3=>repeat (first|exact (Kd.R_reads' HO516.out).2.2|(with_reducible refine Kd.C_alloc ?_ _)|(with_reducible refine Kd.C_drewN ?_ _)|(with_reducible refine Kd.C_drew ?_)))
  (case side4=>exact (Kd.R_reads' HO516.out).2.1)
  rintro e w32 ⟨rfl,hb⟩
  refine ⟨_,rfl,?_⟩
  replace HO503:=Aside0.mk (Kd.R_below (kr HO503.out) hb);replace HO509:=Aside0.mk (Kd.R_below (kr HO509.out) hb);replace HO516:=Aside0.mk (Kd.R_below (kr HO516.out) hb);replace BK497:=Aside0.mk (blk_below (qx BK497.out) hb);replace BK510:=Aside0.mk (blk_below (qx BK510.out) hb);replace HB:=Aside0.mk (below_step (hb2 GE497.out GE510.out) hb)
  try clear hb
  refine hK.out _ _ ⟨(blk_cell BK510.out 0).trans rfl,(blk_cell BK510.out 1).trans rfl,(blk_cell BK510.out 2).trans rfl,(blk_cell BK497.out 0).trans rfl,(blk_cell BK497.out 1).trans rfl,(blk_cell BK497.out 2).trans rfl⟩ (fun hHeld=>?_)
  clear hK K
  refine norm_ (a':=?_) ?_ ?_
  rotate_left
  ·show Act.put _ (some 25) _=_
   simp only [Act.put,List.setIfInBounds_toArray,List.set_cons_zero,List.set_cons_succ,i64_w,i32_w]
   rfl
  refine pu 4 26 #[true,true,true,true,true] ?_
  refine done_ (by kernel_rfl) ?_
  try go_wp2
  go_ret
  exact ⟨rf,hb2 GE497.out GE510.out⟩
 replace c14:=Bool.eq_false_iff.mpr c14
 subst c14
 rw [if_neg (show ¬ (false=true) by decide)] at H
 exact absurd ((Option.some.inj H).trans HT.out) (by decide)
def laws_FnExactImageOK.Pure:Prop:=∀ (a0_0:ByteArray) (a0_1:ByteArray) (l0_2:List (S78)),a0_0.size≤maxLen→a0_1.size≤maxLen→l0_2.length≤maxLen→(∀ x∈l0_2,x.f0.size≤maxLen∧(Lit.int .i64 x.f1).wf=true∧(Lit.int .i64 x.f2).wf=true∧(Lit.int .i64 x.f3).wf=true∧(Lit.int .i64 x.f4).wf=true)→∃ k,laws_FnExactImageOK.f k a0_0 a0_1 l0_2=some true
theorem laws_FnExactImageOK.walk (P:laws_FnExactImageOK.Pure) (a0_0:ByteArray) (a0_1:ByteArray) (a0_2:Option Addr) (cap0_2:Nat) (l0_2:List (S78)) (w:World) (w0_0:a0_0.size≤maxLen) (w0_1:a0_1.size≤maxLen) (r0_2:Kd.C k78 w a0_2 l0_2.length l0_2) (c0_2:l0_2.length≤cap0_2) (m0_2:l0_2.length≤maxLen) (f0_2 : ∀ x∈l0_2,x.f0.size≤maxLen∧(Lit.int .i64 x.f1).wf=true∧(Lit.int .i64 x.f2).wf=true∧(Lit.int .i64 x.f3).wf=true∧(Lit.int .i64 x.f4).wf=true) :
    Calls Try.prog 8 #[.agg #[.string a0_0,.string a0_1,.slice a0_2 l0_2.length cap0_2]] w fun e w'=>e=.returned (.bool true)∧Below w.heap.size w w':=by
 obtain ⟨k,h⟩:=P a0_0 a0_1 l0_2 w0_0 w0_1 m0_2 f0_2
 refine (laws_FnExactImageOK.calls k a0_0 a0_1 _ _ l0_2 true rfl w r0_2 c0_2 h).mono ?_
 rintro e w' ⟨rfl,hd⟩
 exact ⟨rfl,hd⟩
end Go.Proofs.Ythepmdlpjdlajaa.PFnExactLintImage
