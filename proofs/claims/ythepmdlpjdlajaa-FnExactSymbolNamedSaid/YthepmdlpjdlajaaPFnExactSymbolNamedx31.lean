-- Written by a program for this claim.
import Derived.Test.YthepmdlpjdlajaaZFnExactLintImagea
import Derived.Test.YthepmdlpjdlajaaProg
import Derived.Below
import Derived.Deep.Draws
import Derived.Deep.AppendLies
import Derived.Maps.AppendAt
import Derived.OwnWalk
import Derived.Laws.BytesArg
import Derived.Laws.MakeOwn
import Derived.Laws.OwnMore
import Derived.Deep.OwnRows
import Derived.Tactics
import Derived.Lib.ConvBytes
import Derived.Laws.Slices
import Derived.WalkKit
import Derived.KernelRfl
import Derived.RowKit3
import Derived.Deep.LoopGhost
import Derived.Deep.QuietTactic
import Derived.BigQuiet
import Derived.WideLaws
import Derived.Deep.DeepCutAuto
import Derived.Deep.CutBlock
import Derived.Deep.RegionHeld3
import Derived.Laws.Rows
import Derived.Lib.AppendStr
import Derived.ArgAppend
import Derived.Laws.IdiomCopy
import Derived.OrdersHeld
import Derived.Laws.BitsLemmas
import Derived.StillTailTactics
import Derived.RowKit
import Derived.Test.YthepmdlpjdlajaaPFnExactLintImagex25
import Derived.Test.YthepmdlpjdlajaaPFnExactSymbolNamedx30
namespace Go.Proofs.Ythepmdlpjdlajaa.PFnExactLintImage
open Go.RowKit Go.Proofs.YthepmdlpjdlajaaW.PrintWords Go.Proofs.YthepmdlpjdlajaaW.PrintLast Go.Proofs.YthepmdlpjdlajaaW.PrintMore
attribute [local go_sem] max2_int min2_int max_two min_two max_three min_three max_four min_four   -- for this text's walks alone
set_option linter.unusedVariables false
set_option linter.unusedSimpArgs false
def laws_FnExactSymbolNamed.j0:Nat→Bool→ByteArray→ByteArray→List (S78)→ByteArray→ByteArray→List (S54)→Option (Bool)
  | 0,_,_,_,_,_,_,_=>none
  | k+1,x41,x505000,x505001,x505002,x519000,x519001,x519002=>if x41=true then (some false) else ((laws_toImage.f k x505000 x505001 x505002).bind fun bt521=>((laws_eqImage.f k x519000 x519001 x519002 bt521.1 bt521.2.1 bt521.2.2).bind fun t526=>(if t526=true then (some true) else (some false))))
def laws_FnExactSymbolNamed.f (k:Nat) (a0_0:ByteArray) (a0_1:ByteArray) (l0_2:List (S78)) (a1:ByteArray):Option (Bool):=if (a1.size:Int) > 1048576 then (some true) else ((laws_szImage.f k a0_0 a0_1 l0_2 1048576).bind fun t505=>(if t505 < 0 then (some true) else ((laws_toImage.f k a0_0 a0_1 l0_2).bind fun bt506=>((spec_SymbolNamed.f k bt506.1 bt506.2.1 bt506.2.2 a1).bind fun bt511=>((laws_toImage.f k a0_0 a0_1 l0_2).bind fun bt513=>((impl_SymbolNamed.f k bt513.1 bt513.2.1 bt513.2.2 a1).bind fun bt519=>(if bt519.1=bt511.1 then (laws_FnExactSymbolNamed.j0 k (bt519.2 != bt511.2) a0_0 a0_1 l0_2 bt513.1 bt513.2.1 bt513.2.2) else (laws_FnExactSymbolNamed.j0 k true a0_0 a0_1 l0_2 bt513.1 bt513.2.1 bt513.2.2))))))))
theorem laws_FnExactSymbolNamed.mono_l : ∀ k,(∀ y0 y1 y2 y3 y4 y5 y6,LeO (laws_FnExactSymbolNamed.j0 k y0 y1 y2 y3 y4 y5 y6) (laws_FnExactSymbolNamed.j0 (k+1) y0 y1 y2 y3 y4 y5 y6))
  | 0=>fun _ _ _ _ _ _ _ r h=>by simp [laws_FnExactSymbolNamed.j0] at h
  | k+1=>by
    have ih0:=laws_FnExactSymbolNamed.mono_l k
    · intro y0 y1 y2 y3 y4 y5 y6
      unfold laws_FnExactSymbolNamed.j0
      repeat' (with_reducible first|apply ih0|apply impl_SymbolNamed.mono|apply laws_eqImage.mono|apply laws_szImage.mono|apply laws_toImage.mono|apply spec_SymbolNamed.mono|apply LeO.refl|apply LeO.none|apply LeO.ite|refine LeO.bind ?_ (fun _=>?_))
theorem laws_FnExactSymbolNamed.mono : ∀ a0 a1 a2 a3 k,LeO (laws_FnExactSymbolNamed.f k a0 a1 a2 a3) (laws_FnExactSymbolNamed.f (k+1) a0 a1 a2 a3):=by
 intro a0 a1 a2 a3 k
 have ih0:=laws_FnExactSymbolNamed.mono_l k
 unfold laws_FnExactSymbolNamed.f
 repeat' (with_reducible first|apply ih0|apply impl_SymbolNamed.mono|apply laws_eqImage.mono|apply laws_szImage.mono|apply laws_toImage.mono|apply spec_SymbolNamed.mono|apply LeO.refl|apply LeO.none|apply LeO.ite|refine LeO.bind ?_ (fun _=>?_))
set_option maxHeartbeats 8000000 in
set_option maxRecDepth 100000 in
theorem laws_FnExactSymbolNamed.calls (k:Nat) (a0_0:ByteArray) (a0_1:ByteArray) (A0_2:Option Addr) (c0_2:Nat) (l0_2:List (S78)) (a1:ByteArray) (r:Bool) (hT:r=true) (w:World) (hr0_2:Kd.C k78 w A0_2 l0_2.length l0_2) (hc0_2:l0_2.length≤c0_2) (h:laws_FnExactSymbolNamed.f k a0_0 a0_1 l0_2 a1=some r) :
    Calls Try.prog 3 #[.agg #[.string a0_0,.string a0_1,.slice A0_2 l0_2.length c0_2],.string a1] w fun e w'=>e=.returned (.bool r)∧Below w.heap.size w w':=by
 have HT:=Aside0.mk hT
 clear hT
 have hu24:=Try.underlying24
 have hu30:=Try.underlying30
 have HR0_2:=Aside0.mk hr0_2
 have HC0_2:=Aside0.mk hc0_2
 clear hr0_2 hc0_2
 have HB:=Aside0.mk (Below.refl w.heap.size w)
 have H:(if (a1.size:Int) > 1048576 then (some true) else ((laws_szImage.f k a0_0 a0_1 l0_2 1048576).bind fun t505=>(if t505 < 0 then (some true) else ((laws_toImage.f k a0_0 a0_1 l0_2).bind fun bt506=>((spec_SymbolNamed.f k bt506.1 bt506.2.1 bt506.2.2 a1).bind fun bt511=>((laws_toImage.f k a0_0 a0_1 l0_2).bind fun bt513=>((impl_SymbolNamed.f k bt513.1 bt513.2.1 bt513.2.2 a1).bind fun bt519=>(if bt519.1=bt511.1 then (laws_FnExactSymbolNamed.j0 k (bt519.2 != bt511.2) a0_0 a0_1 l0_2 bt513.1 bt513.2.1 bt513.2.2) else (laws_FnExactSymbolNamed.j0 k true a0_0 a0_1 l0_2 bt513.1 bt513.2.1 bt513.2.2)))))))))=some r:=h
 clear h
 by_cases c3:(a1.size:Int) > 1048576
 ·rw [if_pos c3] at H
  have c3b0:decide (1048576 < (a1.size:Int))=true:=decide_eq_true c3
  have c3b1:decide (1048576 < a1.size)=true:=decide_eq_true (by omega)
  clear c3
  obtain rfl:=Option.some.inj H
  go_enter Try.func3,Try.ntmps3
  go_wp2_with (first|(refine bv 2 #[.string a0_0,.string a0_1,.slice A0_2 l0_2.length c0_2] 24 ?_;intro gb504 hg w4 hbox hb;obtain ⟨n0_,n2_⟩:=bx0 hbx hb hg;have n1_:=Aside0.mk (hbox);clear HB;have HB:=n0_;have BK504:=n1_;have GW504:=n2_;have GE504:=n2_;clear n0_ n1_ n2_;clear hb hbox hg))
  go_ret
  exact ⟨rf,hb1 GE504.out⟩
 rw [if_neg c3] at H
 have c3b0:decide (1048576 < (a1.size:Int))=false:=decide_eq_false c3
 have c3b1:decide (1048576 < a1.size)=false:=decide_eq_false (by omega)
 clear c3
 obtain ⟨t505,A5,H⟩:=bindA H
 by_cases c6:t505 < 0
 ·rw [if_pos c6] at H
  have c6b0:decide (t505 < 0)=true:=decide_eq_true c6
  clear c6
  obtain rfl:=Option.some.inj H
  go_enter Try.func3,Try.ntmps3
  go_wp2_with (first|(refine bv 2 #[.string a0_0,.string a0_1,.slice A0_2 l0_2.length c0_2] 24 ?_;intro gb504 hg w7 hbox hb;obtain ⟨n0_,n2_⟩:=bx0 hbx hb hg;have n1_:=Aside0.mk (hbox);clear HB;have HB:=n0_;have BK504:=n1_;have GW504:=n2_;have GE504:=n2_;clear n0_ n1_ n2_;clear hb hbox hg;obtain ⟨Z8_0,Z8_1,Z8_2,Y8_0,Y8_1,Y8_2⟩:=cel3 BK504.out)|(refine gl 11 16 Try.func11 #[.agg #[.string a0_0,.string a0_1,.slice A0_2 l0_2.length c0_2],.int .i64 1048576] ?_;(with_reducible refine (laws_szImage.calls k a0_0 a0_1 _ _ l0_2 1048576 t505 _ ?side1 ?side2 A5.out).mono ?_);(case side1=>exact kc HR0_2.out);(case side2=>exact HC0_2.out);rintro e w9 ⟨rfl,hb⟩;refine ⟨_,rfl,?_⟩;have n0_:=Aside0.mk (blk_below (qx BK504.out) hb);replace HB:=Aside0.mk (below_step (hb1 GE504.out) hb);clear BK504;have BK504:=n0_;clear n0_;(try clear hb);(try clear hb2);(try clear hk);(try clear hi)))
  go_ret
  exact ⟨rf,hb1 GE504.out⟩
 rw [if_neg c6] at H
 have c6b0:decide (t505 < 0)=false:=decide_eq_false c6
 clear c6
 obtain ⟨⟨t506,t507,t508⟩,A10,H⟩:=bindA H
 try dsimp only at H
 obtain ⟨⟨t511,t512⟩,A11,H⟩:=bindA H
 try dsimp only at H
 obtain ⟨⟨t513,t514,t515⟩,A12,H⟩:=bindA H
 try dsimp only at H
 obtain ⟨⟨t519,t520⟩,A13,H⟩:=bindA H
 try dsimp only at H
 have HC14:=Aside0.mk H
 clear H
 go_enter Try.func3,Try.ntmps3
 go_upto_region 10 with (first|(refine bv 2 #[.string a0_0,.string a0_1,.slice A0_2 l0_2.length c0_2] 24 ?_;intro gb504 hg w15 hbox hb;obtain ⟨n0_,n2_⟩:=bx0 hbx hb hg;have n1_:=Aside0.mk (hbox);clear HB;have HB:=n0_;have BK504:=n1_;have GW504:=n2_;have GE504:=n2_;clear n0_ n1_ n2_;clear hb hbox hg;obtain ⟨Z16_0,Z16_1,Z16_2,Y16_0,Y16_1,Y16_2⟩:=cel3 BK504.out)|((with_reducible refine gate_callee (f:=11) rfl ?_);refine gl 11 16 Try.func11 #[.agg #[.string a0_0,.string a0_1,.slice A0_2 l0_2.length c0_2],.int .i64 1048576] ?_;(with_reducible refine (laws_szImage.calls k a0_0 a0_1 _ _ l0_2 1048576 t505 _ ?side1 ?side2 A5.out).mono ?_);(case side1=>exact kc HR0_2.out);(case side2=>exact HC0_2.out);rintro e w17 ⟨rfl,hb⟩;refine ⟨_,rfl,?_⟩;have n0_:=Aside0.mk (blk_below (qx BK504.out) hb);replace HB:=Aside0.mk (below_step (hb1 GE504.out) hb);clear BK504;have BK504:=n0_;clear n0_;(try clear hb);(try clear hb2);(try clear hk);(try clear hi);obtain ⟨Z18_0,Z18_1,Z18_2,Y18_0,Y18_1,Y18_2⟩:=cel3 BK504.out)|((with_reducible refine gate_callee (f:=13) rfl ?_);refine gl 13 21 Try.func13 #[.agg #[.string a0_0,.string a0_1,.slice A0_2 l0_2.length c0_2]] ?_;(with_reducible refine (laws_toImage.calls k a0_0 a0_1 _ _ l0_2 t506 t507 t508 _ ?side1 ?side2 A10.out).mono ?_);(case side1=>exact kc HR0_2.out);(case side2=>exact HC0_2.out);rintro e w19 ⟨v509,rfl,ho0,hb⟩;refine ⟨_,rfl,?_⟩;have n0_:=Aside0.mk (Kd.R_lower ho0 (below_size (hb1 GE504.out)));have n1_:=Aside0.mk (blk_below (qx BK504.out) hb);replace HB:=Aside0.mk (below_step (hb1 GE504.out) hb);clear BK504;have HO510:=n0_;have BK504:=n1_;clear n0_ n1_;(try clear hb);(try clear hb2);(try clear hk);(try clear hi);(try clear ho0);obtain ⟨Ao20,co20,eo20⟩:=Kd.R_slice HO510.out;subst eo20)|((with_reducible refine gate_callee (f:=12) rfl ?_);refine gl 12 23 Try.func12 #[.agg #[.string t506,.string t507,.slice Ao20 t508.length co20],.string a1] ?_;(with_reducible refine (spec_SymbolNamed.calls k t506 t507 _ _ t508 a1 t511 t512 _ ?side1 ?side2 A11.out).mono ?_);(case side1=>repeat (first|exact (Kd.R_reads' HO510.out).2.2|(with_reducible refine Kd.C_alloc ?_ _)|(with_reducible refine Kd.C_drewN ?_ _)|(with_reducible refine Kd.C_drew ?_)));(case side2=>exact (Kd.R_reads' HO510.out).2.1);rintro e w21 ⟨rfl,hb⟩;refine ⟨_,rfl,?_⟩;have n0_:=Aside0.mk (Kd.R_below (kr HO510.out) hb);have n1_:=Aside0.mk (blk_below (qx BK504.out) hb);replace HB:=Aside0.mk (below_step (hb1 GE504.out) hb);clear HO510;clear BK504;have HO510:=n0_;have BK504:=n1_;clear n0_ n1_;(try clear hb);(try clear hb2);(try clear hk);(try clear hi);obtain ⟨Z22_0,Z22_1,Z22_2,Y22_0,Y22_1,Y22_2⟩:=cel3 BK504.out)|((with_reducible refine gate_callee (f:=13) rfl ?_);refine gl 13 27 Try.func13 #[.agg #[.string a0_0,.string a0_1,.slice A0_2 l0_2.length c0_2]] ?_;(with_reducible refine (laws_toImage.calls k a0_0 a0_1 _ _ l0_2 t513 t514 t515 _ ?side1 ?side2 A12.out).mono ?_);(case side1=>exact kc HR0_2.out);(case side2=>exact HC0_2.out);rintro e w23 ⟨v516,rfl,ho0,hb⟩;refine ⟨_,rfl,?_⟩;have n0_:=Aside0.mk (Kd.R_elder' (kr HO510.out) (Kd.R_base ho0) hb);have n1_:=Aside0.mk (Kd.R_lower (Kd.R_new' ho0 (Kd.R_lt (kr HO510.out))) (below_size (hb1 GE504.out)));have n2_:=Aside0.mk (blk_below (qx BK504.out) hb);replace HB:=Aside0.mk (below_step (hb1 GE504.out) hb);clear HO510;clear BK504;have HO510:=n0_;have HO517:=n1_;have BK504:=n2_;clear n0_ n1_ n2_;(try clear hb);(try clear hb2);(try clear hk);(try clear hi);(try clear ho0))|(refine bv 8 #[.string (⟨#[]⟩:ByteArray),.string (⟨#[]⟩:ByteArray),.slice none 0 0] 30 ?_;intro gb518 hg w24 hbox hb;obtain ⟨n3_,n5_⟩:=bx0 (hb1 GE504.out) hb hg;have n0_:=Aside0.mk (Kd.R_below (kr HO510.out) hb);have n1_:=Aside0.mk (Kd.R_below (kr HO517.out) hb);obtain ⟨n2_,n7_,n8_⟩:=bx3 (qx BK504.out) hb hg;have n4_:=Aside0.mk (hbox);clear HO510;clear HO517;clear BK504;clear HB;have HO510:=n0_;have HO517:=n1_;have BK504:=n2_;have HB:=n3_;have BK518:=n4_;have GW518:=n5_;have GE518:=n5_;have NB504_518:=n7_;have NB518_504:=n8_;clear n0_ n1_ n2_ n3_ n4_ n5_ n7_ n8_;clear hb hbox hg;have hnb25:=NB518_504.out;have hnc25:=NB504_518.out;obtain ⟨Z26_0,Z26_1,Z26_2,Y26_0,Y26_1,Y26_2⟩:=cel3 BK518.out;obtain ⟨Ao27,co27,eo27⟩:=Kd.R_slice HO517.out;subst eo27)|((with_reducible refine gate_callee (f:=14) rfl ?_);refine gl 14 31 Try.func14 #[.agg #[.string t513,.string t514,.slice Ao27 t515.length co27],.string a1] ?_;(with_reducible refine (impl_SymbolNamed.calls k t513 t514 _ _ t515 a1 t519 t520 _ ?side1 ?side2 A13.out).mono ?_);(case side1=>refine (Kd.R_reads' (e:=54) (base:=w.heap.size) (ok:=fun k_=>(True∧some k_≠(.slice Ao20 t508.length co20:Value).ownBlock)) (n:=t515.length) (c:=co27) ?_).2.2;exact (by (with_reducible repeat (first|apply Kd.R_alloc|apply Kd.R_drewN|apply Kd.R_drew));exact (Kd.R_mono (Kd.R_far (p:=⟨gb518,2,none⟩) (Kd.R_far (p:=⟨gb518,1,none⟩) (Kd.R_far (p:=⟨gb518,0,none⟩) (Kd.R_types HO517.out BK518.out (by decide)) (fun _ hk=>hk.2) (.string t513)) (fun _ hk=>hk.2) (.string t514)) (fun _ hk=>hk.2) (.slice Ao27 t515.length co27)) (fun _ h_=>h_.1))));(case side2=>exact (Kd.R_reads' HO517.out).2.1);rintro e w28 ⟨rfl,hb⟩;refine ⟨_,rfl,?_⟩;have n0_:=Aside0.mk (Kd.R_below (by (with_reducible repeat (first|apply Kd.R_alloc|apply Kd.R_drewN|apply Kd.R_drew));exact (Kd.R_mono (Kd.R_far (p:=⟨gb518,2,none⟩) (Kd.R_far (p:=⟨gb518,1,none⟩) (Kd.R_far (p:=⟨gb518,0,none⟩) (Kd.R_types HO510.out BK518.out (by decide)) (fun _ hk=>hk.2) (.string t513)) (fun _ hk=>hk.2) (.string t514)) (fun _ hk=>hk.2) (.slice Ao27 t515.length co27)) (fun _ h_=>h_.1))) hb);have n1_:=Aside0.mk (Kd.R_below (by (with_reducible repeat (first|apply Kd.R_alloc|apply Kd.R_drewN|apply Kd.R_drew));exact (Kd.R_mono (Kd.R_far (p:=⟨gb518,2,none⟩) (Kd.R_far (p:=⟨gb518,1,none⟩) (Kd.R_far (p:=⟨gb518,0,none⟩) (Kd.R_types HO517.out BK518.out (by decide)) (fun _ hk=>hk.2) (.string t513)) (fun _ hk=>hk.2) (.string t514)) (fun _ hk=>hk.2) (.slice Ao27 t515.length co27)) (fun _ h_=>h_.1))) hb);have n2_:=Aside0.mk (blk_below (g:=gb504) (o:=.cells #[.string a0_0,.string a0_1,.slice A0_2 l0_2.length c0_2] 24 (0,0)) (by (with_reducible repeat first|apply Q1|apply Q2|apply Q3);refine blk_far ?_ NB504_518.out _;(with_reducible repeat first|apply Q1|apply Q2|apply Q3);refine blk_far ?_ NB504_518.out _;(with_reducible repeat first|apply Q1|apply Q2|apply Q3);refine blk_far ?_ NB504_518.out _;(with_reducible repeat first|apply Q1|apply Q2|apply Q3);exact BK504.out) hb);have n3_:=Aside0.mk (blk_below (g:=gb518) (o:=.cells #[.string t513,.string t514,.slice Ao27 t515.length co27] 30 (0,0)) (by (with_reducible repeat first|apply Q1|apply Q2|apply Q3);refine blk_put (cs:=#[.string t513,.string t514,.slice none 0 0]) ?_ 2 _ rfl;(with_reducible repeat first|apply Q1|apply Q2|apply Q3);refine blk_put (cs:=#[.string t513,.string (⟨#[]⟩:ByteArray),.slice none 0 0]) ?_ 1 _ rfl;(with_reducible repeat first|apply Q1|apply Q2|apply Q3);refine blk_put (cs:=#[.string (⟨#[]⟩:ByteArray),.string (⟨#[]⟩:ByteArray),.slice none 0 0]) ?_ 0 _ rfl;(with_reducible repeat first|apply Q1|apply Q2|apply Q3);exact BK518.out) hb);replace HB:=Aside0.mk (below_step (hb2 GE504.out GE518.out) hb);clear HO510;clear HO517;clear BK504;clear BK518;have HO510:=n0_;have HO517:=n1_;have BK504:=n2_;have BK518:=n3_;clear n0_ n1_ n2_ n3_;(try clear hb);(try clear hb2);(try clear hk);(try clear hi)))
 (try simp only [Act.put,List.setIfInBounds_toArray,List.set_cons_zero,List.set_cons_succ])
 go_cut [41] (fun v41 wc=>∃ (kq:Nat) (x41_13:Bool),v41=.bool x41_13∧Aside0 (laws_FnExactSymbolNamed.j0 kq x41_13 a0_0 a0_1 l0_2 t513 t514 t515=some r)∧Aside0 (kq≤k)∧Aside0 (Kd.R k54 54 wc w.heap.size (fun _=>True) (.slice Ao27 t515.length co27) t515)∧Aside0 (wc.heap[gb504]?=some (.cells #[.string a0_0,.string a0_1,(.slice A0_2 l0_2.length c0_2)] 24 (0,0)))∧Aside0 (wc.heap[gb518]?=some (.cells #[.string t513,.string t514,(.slice Ao27 t515.length co27)] 30 (0,0)))∧Aside0 (Below w.heap.size w wc))
 case first=>
  have H:=HC14.out
  clear HC14
  by_cases c29:t519=t511
  ·rw [if_pos c29] at H
   obtain ⟨c29b0,c29b1⟩:=eqP c29
   clear c29
   (first|rw [c29b0]|(simp only [i64_w,i32_w];rw [c29b0])|skip)
   have H':=Aside0.mk H
   clear H
   go_wp2
   go_meet
   case rel=>exact ⟨_,((t520 != t512)),rs,H',⟨by first|omega|exact Nat.le_refl _⟩,⟨by (with_reducible repeat (first|apply Kd.R_alloc|apply Kd.R_drewN|apply Kd.R_drew));exact Kd.R_mono HO517.out (fun _ hk=>trivial)⟩,⟨qx BK504.out⟩,⟨qx BK518.out⟩,⟨hb2 GE504.out GE518.out⟩⟩
  rw [if_neg c29] at H
  obtain ⟨c29b0,c29b1⟩:=eqN c29
  (first|rw [c29b0]|(simp only [i64_w,i32_w];rw [c29b0])|skip)
  have H':=Aside0.mk H
  clear H
  go_wp2
  go_meet
  case rel=>exact ⟨_,(true),rs,H',⟨by first|omega|exact Nat.le_refl _⟩,⟨by (with_reducible repeat (first|apply Kd.R_alloc|apply Kd.R_drewN|apply Kd.R_drew));exact Kd.R_mono HO517.out (fun _ hk=>trivial)⟩,⟨qx BK504.out⟩,⟨qx BK518.out⟩,⟨hb2 GE504.out GE518.out⟩⟩
 clear HC14
 try clear c3b0
 try clear c3b1
 try clear c6b0
 try clear Z16_0 Z16_1 Z16_2
 try clear Z18_0 Z18_1 Z18_2
 try clear Z22_0 Z22_1 Z22_2
 try clear Z26_0 Z26_1 Z26_2
 try clear Y16_0 Y16_1 Y16_2
 try clear Y18_0 Y18_1 Y18_2
 try clear Y22_0 Y22_1 Y22_2
 try clear Y26_0 Y26_1 Y26_2
 obtain ⟨kq,x41_13,rfl,HA,HJ13,HO_519002,BK504,BK518,HB⟩:=hcut
 cases kq with
 | zero=>exact absurd HA.out (by simp [laws_FnExactSymbolNamed.j0])
 | succ kj13 =>
  have H:=HA.out
  clear HA
  simp only [laws_FnExactSymbolNamed.j0] at H
  by_cases c30:x41_13=true
  ·subst c30
   rw [if_pos rfl] at H
   exact absurd ((Option.some.inj H).trans HT.out) (by decide)
  replace c30:=Bool.eq_false_iff.mpr c30
  subst c30
  rw [if_neg (show ¬ (false=true) by decide)] at H
  obtain ⟨⟨t521,t522,t523⟩,A31,H⟩:=bindA H
  try dsimp only at H
  obtain ⟨t526,A32,H⟩:=bindA H
  by_cases c33:t526=true
  ·subst c33
   rw [if_pos rfl] at H
   obtain rfl:=Option.some.inj H
   try go_wp2
   replace HO_519002:=Aside0.mk (Kd.R_drew HO_519002.out);replace BK504:=Aside0.mk (blk_drew BK504.out);replace BK518:=Aside0.mk (blk_drew BK518.out);replace HB:=Aside0.mk (below_drew1 HB.out)
   refine start_ (n:=5) (S:=fun w'=>w'.cell? ⟨gb518,0,none⟩=some (.string t513)∧w'.cell? ⟨gb518,1,none⟩=some (.string t514)∧w'.cell? ⟨gb518,2,none⟩=some (.slice Ao27 t515.length co27)∧w'.cell? ⟨gb504,0,none⟩=some (.string a0_0)∧w'.cell? ⟨gb504,1,none⟩=some (.string a0_1)∧w'.cell? ⟨gb504,2,none⟩=some (.slice A0_2 l0_2.length c0_2)) (ds:=[]) #[false,false,false,false,false] (by kernel_rfl) rfl rfl ⟨(blk_cell BK518.out 0).trans rfl,(blk_cell BK518.out 1).trans rfl,(blk_cell BK518.out 2).trans rfl,(blk_cell BK504.out 0).trans rfl,(blk_cell BK504.out 1).trans rfl,(blk_cell BK504.out 2).trans rfl⟩ (fun hHeld=>?_)
   generalize wc.drew=w34 at HO_519002 BK504 BK518 HB hHeld ⊢
   refine tk6 0 42 #[true,false,false,false,false] hHeld ?_
   refine tk6 1 43 #[true,true,false,false,false] hHeld ?_
   refine one_ (i:=2) (N:=some 44) #[true,true,true,false,false] rfl rfl (by kernel_rfl) (by decide) (fun K hK=>?_)
   refine goes_ Try.func13 (by kernel_rfl) rfl #[.agg #[.string a0_0,.string a0_1,.slice A0_2 l0_2.length c0_2]] (by rfl) rfl rfl (mp_ rfl) ?_
   with_reducible refine (laws_toImage.calls kj13 a0_0 a0_1 _ _ l0_2 t521 t522 t523 _ ?side1 ?side2 A31.out).mono ?_
   (case side1=>exact kc HR0_2.out)
   (case side2=>exact HC0_2.out)
   rintro e w35 ⟨v524,rfl,ho0,hb⟩
   refine ⟨_,rfl,?_⟩
   have n0_:=Aside0.mk (Kd.R_elder' (kr HO_519002.out) (Kd.R_base ho0) hb)
   have n1_:=Aside0.mk (Kd.R_lower (Kd.R_new' ho0 (Kd.R_lt (kr HO_519002.out))) (below_size (hb2 GE504.out GE518.out)))
   have n2_:=Aside0.mk (blk_below (qx BK504.out) hb)
   have n3_:=Aside0.mk (blk_below (qx BK518.out) hb)
   have n4_:=Aside0.mk (below_step (hb2 GE504.out GE518.out) hb)
   clear HO_519002
   clear BK504
   clear BK518
   clear HB
   have HO_519002:=n0_
   have HO525:=n1_
   have BK504:=n2_
   have BK518:=n3_
   have HB:=n4_
   clear n0_ n1_ n2_ n3_ n4_
   try clear hb hb2
   try clear hk
   try clear hi
   try clear ho0
   obtain ⟨Ao36,co36,eo36⟩:=Kd.R_slice HO525.out
   (first|subst eo36|(injection eo36 with f1_ f2_ f3_;have f4_:=f1_.symm;have f5_:=f3_.symm;clear f1_ f2_ f3_;subst f4_;subst f5_))
   refine hK.out _ _ ⟨(blk_cell BK518.out 0).trans rfl,(blk_cell BK518.out 1).trans rfl,(blk_cell BK518.out 2).trans rfl,(blk_cell BK504.out 0).trans rfl,(blk_cell BK504.out 1).trans rfl,(blk_cell BK504.out 2).trans rfl⟩ (fun hHeld=>?_)
   clear hK K
   refine norm_ (a':=?_) ?_ ?_
   rotate_left
   ·show Act.put _ (some 44) _=_
    simp only [Act.put,List.setIfInBounds_toArray,List.set_cons_zero,List.set_cons_succ,i64_w,i32_w]
    rfl
   refine one_ (i:=3) (N:=some 45) #[true,true,true,true,false] rfl rfl (by kernel_rfl) (by decide) (fun K hK=>?_)
   refine goes_ Try.func15 (by kernel_rfl) rfl #[.agg #[.string t513,.string t514,.slice Ao27 t515.length co27],.agg #[.string t521,.string t522,.slice Ao36 t523.length co36]] (by rfl) rfl rfl (mp_ rfl) ?_
   with_reducible refine (laws_eqImage.calls kj13 t513 t514 _ _ t515 t521 t522 _ _ t523 true _ ?side1 ?side2 ?side3 ?side4 A32.out).mono ?_
   (case side1=>repeat (first|exact (Kd.R_reads' HO_519002.out).2.2|(with_reducible refine Kd.C_alloc ?_ _)|(with_reducible refine Kd.C_drewN ?_ _)|(with_reducible refine Kd.C_drew ?_)))
   (case side2=>exact (Kd.R_reads' HO_519002.out).2.1)
   (case side3=>repeat (first|exact (Kd.R_reads' HO525.out).2.2|(with_reducible refine Kd.C_alloc ?_ _)|(with_reducible refine Kd.C_drewN ?_ _)|(with_reducible refine Kd.C_drew ?_)))
   (case side4=>exact (Kd.R_reads' HO525.out).2.1)
   rintro e w37 ⟨rfl,hb⟩
   refine ⟨_,rfl,?_⟩
   replace HO_519002:=Aside0.mk (Kd.R_below (kr HO_519002.out) hb);replace HO525:=Aside0.mk (Kd.R_below (kr HO525.out) hb);replace BK504:=Aside0.mk (blk_below (qx BK504.out) hb);replace BK518:=Aside0.mk (blk_below (qx BK518.out) hb);replace HB:=Aside0.mk (below_step (hb2 GE504.out GE518.out) hb)
   try clear hb
   refine hK.out _ _ ⟨(blk_cell BK518.out 0).trans rfl,(blk_cell BK518.out 1).trans rfl,(blk_cell BK518.out 2).trans rfl,(blk_cell BK504.out 0).trans rfl,(blk_cell BK504.out 1).trans rfl,(blk_cell BK504.out 2).trans rfl⟩ (fun hHeld=>?_)
   clear hK K
   refine norm_ (a':=?_) ?_ ?_
   rotate_left
   ·show Act.put _ (some 45) _=_
    simp only [Act.put,List.setIfInBounds_toArray,List.set_cons_zero,List.set_cons_succ,i64_w,i32_w]
    rfl
   refine pu 4 46 #[true,true,true,true,true] ?_
   refine done_ (by kernel_rfl) ?_
   try go_wp2
   go_ret
   exact ⟨rf,hb2 GE504.out GE518.out⟩
  replace c33:=Bool.eq_false_iff.mpr c33
  subst c33
  rw [if_neg (show ¬ (false=true) by decide)] at H
  exact absurd ((Option.some.inj H).trans HT.out) (by decide)
def laws_FnExactSymbolNamed.Pure:Prop:=∀ (a0_0:ByteArray) (a0_1:ByteArray) (l0_2:List (S78)) (a1:ByteArray),a0_0.size≤maxLen→a0_1.size≤maxLen→l0_2.length≤maxLen→(∀ x∈l0_2,x.f0.size≤maxLen∧(Lit.int .i64 x.f1).wf=true∧(Lit.int .i64 x.f2).wf=true∧(Lit.int .i64 x.f3).wf=true∧(Lit.int .i64 x.f4).wf=true)→a1.size≤140737488351232→∃ k,laws_FnExactSymbolNamed.f k a0_0 a0_1 l0_2 a1=some true
theorem laws_FnExactSymbolNamed.walk (P:laws_FnExactSymbolNamed.Pure) (a0_0:ByteArray) (a0_1:ByteArray) (a0_2:Option Addr) (cap0_2:Nat) (l0_2:List (S78)) (a1:ByteArray) (w:World) (w0_0:a0_0.size≤maxLen) (w0_1:a0_1.size≤maxLen) (r0_2:Kd.C k78 w a0_2 l0_2.length l0_2) (c0_2:l0_2.length≤cap0_2) (m0_2:l0_2.length≤maxLen) (f0_2 : ∀ x∈l0_2,x.f0.size≤maxLen∧(Lit.int .i64 x.f1).wf=true∧(Lit.int .i64 x.f2).wf=true∧(Lit.int .i64 x.f3).wf=true∧(Lit.int .i64 x.f4).wf=true) (w1:a1.size≤140737488351232) :
    Calls Try.prog 3 #[.agg #[.string a0_0,.string a0_1,.slice a0_2 l0_2.length cap0_2],.string a1] w fun e w'=>e=.returned (.bool true)∧Below w.heap.size w w':=by
 obtain ⟨k,h⟩:=P a0_0 a0_1 l0_2 a1 w0_0 w0_1 m0_2 f0_2 w1
 refine (laws_FnExactSymbolNamed.calls k a0_0 a0_1 _ _ l0_2 a1 true rfl w r0_2 c0_2 h).mono ?_
 rintro e w' ⟨rfl,hd⟩
 exact ⟨rfl,hd⟩
end Go.Proofs.Ythepmdlpjdlajaa.PFnExactLintImage
