-- Written by a program for this claim.
import Derived.Test.YthepmdlpjdlajaaZFnExactImageTexta
import Derived.Test.YthepmdlpjdlajaaPFnExactLintImagex2
import Derived.Test.YthepmdlpjdlajaaPFnExactLintImagex3
import Derived.Test.YthepmdlpjdlajaaPFnExactLintImagex16
import Derived.Test.YthepmdlpjdlajaaPFnExactLintImagex24
import Derived.Test.YthepmdlpjdlajaaPFnExactImageTextx30
import Derived.Test.YthepmdlpjdlajaaPFnExactImageTextx31
import Derived.Test.YthepmdlpjdlajaaPFnExactImageTextx32
import Derived.Test.YthepmdlpjdlajaaPFnExactImageTextx33
namespace Go.Proofs.Ythepmdlpjdlajaa.PFnExactLintImage
open Go.RowKit Go.Proofs.YthepmdlpjdlajaaW.PrintWords Go.Proofs.YthepmdlpjdlajaaW.PrintLast Go.Proofs.YthepmdlpjdlajaaW.PrintMore
attribute [local go_sem] max2_int min2_int max_two min_two max_three min_three max_four min_four   -- for this text's walks alone
set_option linter.unusedVariables false
set_option linter.unusedSimpArgs false
def laws_FnExactImageText.j0:Nat→Bool→ByteArray→ByteArray→List (S78)→ByteArray→ByteArray→List (S54)→Option (Bool)
  | 0,_,_,_,_,_,_,_=>none
  | k+1,x34,x541000,x541001,x541002,x555000,x555001,x555002=>if x34=true then (some false) else ((laws_toImage.f k x541000 x541001 x541002).bind fun bt557=>((laws_eqImage.f k x555000 x555001 x555002 bt557.1 bt557.2.1 bt557.2.2).bind fun t562=>(if t562=true then (some true) else (some false))))
def laws_FnExactImageText.f (k:Nat) (a0_0:ByteArray) (a0_1:ByteArray) (l0_2:List (S78)):Option (Bool):=(laws_szImage.f k a0_0 a0_1 l0_2 1048576).bind fun t541=>(if t541 < 0 then (some true) else ((laws_toImage.f k a0_0 a0_1 l0_2).bind fun bt542=>((spec_ImageText.f k bt542.1 bt542.2.1 bt542.2.2).bind fun bt547=>((laws_toImage.f k a0_0 a0_1 l0_2).bind fun bt549=>((impl_ImageText.f k bt549.1 bt549.2.1 bt549.2.2).bind fun bt555=>(if bt555.1.toList=bt547.1.toList then (laws_FnExactImageText.j0 k (bt555.2 != bt547.2) a0_0 a0_1 l0_2 bt549.1 bt549.2.1 bt549.2.2) else (laws_FnExactImageText.j0 k true a0_0 a0_1 l0_2 bt549.1 bt549.2.1 bt549.2.2)))))))
theorem laws_FnExactImageText.mono_l : ∀ k,(∀ y0 y1 y2 y3 y4 y5 y6,LeO (laws_FnExactImageText.j0 k y0 y1 y2 y3 y4 y5 y6) (laws_FnExactImageText.j0 (k+1) y0 y1 y2 y3 y4 y5 y6))
  | 0=>fun _ _ _ _ _ _ _ r h=>by simp [laws_FnExactImageText.j0] at h
  | k+1=>by
    have ih0:=laws_FnExactImageText.mono_l k
    · intro y0 y1 y2 y3 y4 y5 y6
      unfold laws_FnExactImageText.j0
      repeat' (with_reducible first|apply ih0|apply impl_ImageText.mono|apply laws_eqImage.mono|apply laws_szImage.mono|apply laws_toImage.mono|apply spec_ImageText.mono|apply LeO.refl|apply LeO.none|apply LeO.ite|refine LeO.bind ?_ (fun _=>?_))
theorem laws_FnExactImageText.mono : ∀ a0 a1 a2 k,LeO (laws_FnExactImageText.f k a0 a1 a2) (laws_FnExactImageText.f (k+1) a0 a1 a2):=by
 intro a0 a1 a2 k
 have ih0:=laws_FnExactImageText.mono_l k
 unfold laws_FnExactImageText.f
 repeat' (with_reducible first|apply ih0|apply impl_ImageText.mono|apply laws_eqImage.mono|apply laws_szImage.mono|apply laws_toImage.mono|apply spec_ImageText.mono|apply LeO.refl|apply LeO.none|apply LeO.ite|refine LeO.bind ?_ (fun _=>?_))
set_option maxHeartbeats 8000000 in
set_option maxRecDepth 100000 in
theorem laws_FnExactImageText.calls (k:Nat) (a0_0:ByteArray) (a0_1:ByteArray) (A0_2:Option Addr) (c0_2:Nat) (l0_2:List (S78)) (r:Bool) (hT:r=true) (w:World) (hr0_2:Kd.C k78 w A0_2 l0_2.length l0_2) (hc0_2:l0_2.length≤c0_2) (h:laws_FnExactImageText.f k a0_0 a0_1 l0_2=some r) :
    Calls Try.prog 4 #[.agg #[.string a0_0,.string a0_1,.slice A0_2 l0_2.length c0_2]] w fun e w'=>e=.returned (.bool r)∧Below w.heap.size w w':=by
 have HT:=Aside0.mk hT
 clear hT
 have hu24:=Try.underlying24
 have hu30:=Try.underlying30
 have HR0_2:=Aside0.mk hr0_2
 have HC0_2:=Aside0.mk hc0_2
 clear hr0_2 hc0_2
 have HB:=Aside0.mk (Below.refl w.heap.size w)
 have H:((laws_szImage.f k a0_0 a0_1 l0_2 1048576).bind fun t541=>(if t541 < 0 then (some true) else ((laws_toImage.f k a0_0 a0_1 l0_2).bind fun bt542=>((spec_ImageText.f k bt542.1 bt542.2.1 bt542.2.2).bind fun bt547=>((laws_toImage.f k a0_0 a0_1 l0_2).bind fun bt549=>((impl_ImageText.f k bt549.1 bt549.2.1 bt549.2.2).bind fun bt555=>(if bt555.1.toList=bt547.1.toList then (laws_FnExactImageText.j0 k (bt555.2 != bt547.2) a0_0 a0_1 l0_2 bt549.1 bt549.2.1 bt549.2.2) else (laws_FnExactImageText.j0 k true a0_0 a0_1 l0_2 bt549.1 bt549.2.1 bt549.2.2))))))))=some r:=h
 clear h
 obtain ⟨t541,A2,H⟩:=bindA H
 by_cases c3:t541 < 0
 ·rw [if_pos c3] at H
  have c3b0:decide (t541 < 0)=true:=decide_eq_true c3
  clear c3
  obtain rfl:=Option.some.inj H
  go_enter Try.func4,Try.ntmps4
  go_wp2_with (first|(refine bv 1 #[.string a0_0,.string a0_1,.slice A0_2 l0_2.length c0_2] 24 ?_;intro gb540 hg w4 hbox hb;obtain ⟨n0_,n2_⟩:=bx0 hbx hb hg;have n1_:=Aside0.mk (hbox);clear HB;have HB:=n0_;have BK540:=n1_;have GW540:=n2_;have GE540:=n2_;clear n0_ n1_ n2_;clear hb hbox hg;obtain ⟨Z5_0,Z5_1,Z5_2,Y5_0,Y5_1,Y5_2⟩:=cel3 BK540.out)|(refine gl 11 11 Try.func11 #[.agg #[.string a0_0,.string a0_1,.slice A0_2 l0_2.length c0_2],.int .i64 1048576] ?_;(with_reducible refine (laws_szImage.calls k a0_0 a0_1 _ _ l0_2 1048576 t541 _ ?side1 ?side2 A2.out).mono ?_);(case side1=>exact kc HR0_2.out);(case side2=>exact HC0_2.out);rintro e w6 ⟨rfl,hb⟩;refine ⟨_,rfl,?_⟩;have n0_:=Aside0.mk (blk_below (qx BK540.out) hb);replace HB:=Aside0.mk (below_step (hb1 GE540.out) hb);clear BK540;have BK540:=n0_;clear n0_;(try clear hb);(try clear hb2);(try clear hk);(try clear hi)))
  go_ret
  exact ⟨rf,hb1 GE540.out⟩
 rw [if_neg c3] at H
 have c3b0:decide (t541 < 0)=false:=decide_eq_false c3
 clear c3
 obtain ⟨⟨t542,t543,t544⟩,A7,H⟩:=bindA H
 try dsimp only at H
 obtain ⟨⟨t547,t548⟩,A8,H⟩:=bindA H
 try dsimp only at H
 obtain ⟨⟨t549,t550,t551⟩,A9,H⟩:=bindA H
 try dsimp only at H
 obtain ⟨⟨t555,t556⟩,A10,H⟩:=bindA H
 try dsimp only at H
 have HC11:=Aside0.mk H
 clear H
 go_enter Try.func4,Try.ntmps4
 go_upto_region 8 with (first|(refine bv 1 #[.string a0_0,.string a0_1,.slice A0_2 l0_2.length c0_2] 24 ?_;intro gb540 hg w12 hbox hb;obtain ⟨n0_,n2_⟩:=bx0 hbx hb hg;have n1_:=Aside0.mk (hbox);clear HB;have HB:=n0_;have BK540:=n1_;have GW540:=n2_;have GE540:=n2_;clear n0_ n1_ n2_;clear hb hbox hg;obtain ⟨Z13_0,Z13_1,Z13_2,Y13_0,Y13_1,Y13_2⟩:=cel3 BK540.out)|((with_reducible refine gate_callee (f:=11) rfl ?_);refine gl 11 11 Try.func11 #[.agg #[.string a0_0,.string a0_1,.slice A0_2 l0_2.length c0_2],.int .i64 1048576] ?_;(with_reducible refine (laws_szImage.calls k a0_0 a0_1 _ _ l0_2 1048576 t541 _ ?side1 ?side2 A2.out).mono ?_);(case side1=>exact kc HR0_2.out);(case side2=>exact HC0_2.out);rintro e w14 ⟨rfl,hb⟩;refine ⟨_,rfl,?_⟩;have n0_:=Aside0.mk (blk_below (qx BK540.out) hb);replace HB:=Aside0.mk (below_step (hb1 GE540.out) hb);clear BK540;have BK540:=n0_;clear n0_;(try clear hb);(try clear hb2);(try clear hk);(try clear hi);obtain ⟨Z15_0,Z15_1,Z15_2,Y15_0,Y15_1,Y15_2⟩:=cel3 BK540.out)|((with_reducible refine gate_callee (f:=13) rfl ?_);refine gl 13 16 Try.func13 #[.agg #[.string a0_0,.string a0_1,.slice A0_2 l0_2.length c0_2]] ?_;(with_reducible refine (laws_toImage.calls k a0_0 a0_1 _ _ l0_2 t542 t543 t544 _ ?side1 ?side2 A7.out).mono ?_);(case side1=>exact kc HR0_2.out);(case side2=>exact HC0_2.out);rintro e w16 ⟨v545,rfl,ho0,hb⟩;refine ⟨_,rfl,?_⟩;have n0_:=Aside0.mk (Kd.R_lower ho0 (below_size (hb1 GE540.out)));have n1_:=Aside0.mk (blk_below (qx BK540.out) hb);replace HB:=Aside0.mk (below_step (hb1 GE540.out) hb);clear BK540;have HO546:=n0_;have BK540:=n1_;clear n0_ n1_;(try clear hb);(try clear hb2);(try clear hk);(try clear hi);(try clear ho0);obtain ⟨Ao17,co17,eo17⟩:=Kd.R_slice HO546.out;subst eo17)|((with_reducible refine gate_callee (f:=16) rfl ?_);refine gl 16 17 Try.func16 #[.agg #[.string t542,.string t543,.slice Ao17 t544.length co17]] ?_;(with_reducible refine (spec_ImageText.calls k t542 t543 _ _ t544 t547 t548 _ ?side1 ?side2 A8.out).mono ?_);(case side1=>repeat (first|exact (Kd.R_reads' HO546.out).2.2|(with_reducible refine Kd.C_alloc ?_ _)|(with_reducible refine Kd.C_drewN ?_ _)|(with_reducible refine Kd.C_drew ?_)));(case side2=>exact (Kd.R_reads' HO546.out).2.1);rintro e w18 ⟨rfl,hb⟩;refine ⟨_,rfl,?_⟩;have n0_:=Aside0.mk (Kd.R_below (kr HO546.out) hb);have n1_:=Aside0.mk (blk_below (qx BK540.out) hb);replace HB:=Aside0.mk (below_step (hb1 GE540.out) hb);clear HO546;clear BK540;have HO546:=n0_;have BK540:=n1_;clear n0_ n1_;(try clear hb);(try clear hb2);(try clear hk);(try clear hi);obtain ⟨Z19_0,Z19_1,Z19_2,Y19_0,Y19_1,Y19_2⟩:=cel3 BK540.out)|((with_reducible refine gate_callee (f:=13) rfl ?_);refine gl 13 21 Try.func13 #[.agg #[.string a0_0,.string a0_1,.slice A0_2 l0_2.length c0_2]] ?_;(with_reducible refine (laws_toImage.calls k a0_0 a0_1 _ _ l0_2 t549 t550 t551 _ ?side1 ?side2 A9.out).mono ?_);(case side1=>exact kc HR0_2.out);(case side2=>exact HC0_2.out);rintro e w20 ⟨v552,rfl,ho0,hb⟩;refine ⟨_,rfl,?_⟩;have n0_:=Aside0.mk (Kd.R_elder' (kr HO546.out) (Kd.R_base ho0) hb);have n1_:=Aside0.mk (Kd.R_lower (Kd.R_new' ho0 (Kd.R_lt (kr HO546.out))) (below_size (hb1 GE540.out)));have n2_:=Aside0.mk (blk_below (qx BK540.out) hb);replace HB:=Aside0.mk (below_step (hb1 GE540.out) hb);clear HO546;clear BK540;have HO546:=n0_;have HO553:=n1_;have BK540:=n2_;clear n0_ n1_ n2_;(try clear hb);(try clear hb2);(try clear hk);(try clear hi);(try clear ho0))|(refine bv 6 #[.string (⟨#[]⟩:ByteArray),.string (⟨#[]⟩:ByteArray),.slice none 0 0] 30 ?_;intro gb554 hg w21 hbox hb;obtain ⟨n3_,n5_⟩:=bx0 (hb1 GE540.out) hb hg;have n0_:=Aside0.mk (Kd.R_below (kr HO546.out) hb);have n1_:=Aside0.mk (Kd.R_below (kr HO553.out) hb);obtain ⟨n2_,n7_,n8_⟩:=bx3 (qx BK540.out) hb hg;have n4_:=Aside0.mk (hbox);clear HO546;clear HO553;clear BK540;clear HB;have HO546:=n0_;have HO553:=n1_;have BK540:=n2_;have HB:=n3_;have BK554:=n4_;have GW554:=n5_;have GE554:=n5_;have NB540_554:=n7_;have NB554_540:=n8_;clear n0_ n1_ n2_ n3_ n4_ n5_ n7_ n8_;clear hb hbox hg;have hnb22:=NB554_540.out;have hnc22:=NB540_554.out;obtain ⟨Z23_0,Z23_1,Z23_2,Y23_0,Y23_1,Y23_2⟩:=cel3 BK554.out;obtain ⟨Ao24,co24,eo24⟩:=Kd.R_slice HO553.out;subst eo24)|((with_reducible refine gate_callee (f:=17) rfl ?_);refine gl 17 24 Try.func17 #[.agg #[.string t549,.string t550,.slice Ao24 t551.length co24]] ?_;(with_reducible refine (impl_ImageText.calls k t549 t550 _ _ t551 t555 t556 _ ?side1 ?side2 A10.out).mono ?_);(case side1=>refine (Kd.R_reads' (e:=54) (base:=w.heap.size) (ok:=fun k_=>(True∧some k_≠(.slice Ao17 t544.length co17:Value).ownBlock)) (n:=t551.length) (c:=co24) ?_).2.2;exact (by (with_reducible repeat (first|apply Kd.R_alloc|apply Kd.R_drewN|apply Kd.R_drew));exact (Kd.R_mono (Kd.R_far (p:=⟨gb554,2,none⟩) (Kd.R_far (p:=⟨gb554,1,none⟩) (Kd.R_far (p:=⟨gb554,0,none⟩) (Kd.R_types HO553.out BK554.out (by decide)) (fun _ hk=>hk.2) (.string t549)) (fun _ hk=>hk.2) (.string t550)) (fun _ hk=>hk.2) (.slice Ao24 t551.length co24)) (fun _ h_=>h_.1))));(case side2=>exact (Kd.R_reads' HO553.out).2.1);rintro e w25 ⟨rfl,hb⟩;refine ⟨_,rfl,?_⟩;have n0_:=Aside0.mk (Kd.R_below (by (with_reducible repeat (first|apply Kd.R_alloc|apply Kd.R_drewN|apply Kd.R_drew));exact (Kd.R_mono (Kd.R_far (p:=⟨gb554,2,none⟩) (Kd.R_far (p:=⟨gb554,1,none⟩) (Kd.R_far (p:=⟨gb554,0,none⟩) (Kd.R_types HO546.out BK554.out (by decide)) (fun _ hk=>hk.2) (.string t549)) (fun _ hk=>hk.2) (.string t550)) (fun _ hk=>hk.2) (.slice Ao24 t551.length co24)) (fun _ h_=>h_.1))) hb);have n1_:=Aside0.mk (Kd.R_below (by (with_reducible repeat (first|apply Kd.R_alloc|apply Kd.R_drewN|apply Kd.R_drew));exact (Kd.R_mono (Kd.R_far (p:=⟨gb554,2,none⟩) (Kd.R_far (p:=⟨gb554,1,none⟩) (Kd.R_far (p:=⟨gb554,0,none⟩) (Kd.R_types HO553.out BK554.out (by decide)) (fun _ hk=>hk.2) (.string t549)) (fun _ hk=>hk.2) (.string t550)) (fun _ hk=>hk.2) (.slice Ao24 t551.length co24)) (fun _ h_=>h_.1))) hb);have n2_:=Aside0.mk (blk_below (g:=gb540) (o:=.cells #[.string a0_0,.string a0_1,.slice A0_2 l0_2.length c0_2] 24 (0,0)) (by (with_reducible repeat first|apply Q1|apply Q2|apply Q3);refine blk_far ?_ NB540_554.out _;(with_reducible repeat first|apply Q1|apply Q2|apply Q3);refine blk_far ?_ NB540_554.out _;(with_reducible repeat first|apply Q1|apply Q2|apply Q3);refine blk_far ?_ NB540_554.out _;(with_reducible repeat first|apply Q1|apply Q2|apply Q3);exact BK540.out) hb);have n3_:=Aside0.mk (blk_below (g:=gb554) (o:=.cells #[.string t549,.string t550,.slice Ao24 t551.length co24] 30 (0,0)) (by (with_reducible repeat first|apply Q1|apply Q2|apply Q3);refine blk_put (cs:=#[.string t549,.string t550,.slice none 0 0]) ?_ 2 _ rfl;(with_reducible repeat first|apply Q1|apply Q2|apply Q3);refine blk_put (cs:=#[.string t549,.string (⟨#[]⟩:ByteArray),.slice none 0 0]) ?_ 1 _ rfl;(with_reducible repeat first|apply Q1|apply Q2|apply Q3);refine blk_put (cs:=#[.string (⟨#[]⟩:ByteArray),.string (⟨#[]⟩:ByteArray),.slice none 0 0]) ?_ 0 _ rfl;(with_reducible repeat first|apply Q1|apply Q2|apply Q3);exact BK554.out) hb);replace HB:=Aside0.mk (below_step (hb2 GE540.out GE554.out) hb);clear HO546;clear HO553;clear BK540;clear BK554;have HO546:=n0_;have HO553:=n1_;have BK540:=n2_;have BK554:=n3_;clear n0_ n1_ n2_ n3_;(try clear hb);(try clear hb2);(try clear hk);(try clear hi)))
 (try simp only [Act.put,List.setIfInBounds_toArray,List.set_cons_zero,List.set_cons_succ])
 go_cut [34] (fun v34 wc=>∃ (kq:Nat) (x34_10:Bool),v34=.bool x34_10∧Aside0 (laws_FnExactImageText.j0 kq x34_10 a0_0 a0_1 l0_2 t549 t550 t551=some r)∧Aside0 (kq≤k)∧Aside0 (Kd.R k54 54 wc w.heap.size (fun _=>True) (.slice Ao24 t551.length co24) t551)∧Aside0 (wc.heap[gb540]?=some (.cells #[.string a0_0,.string a0_1,(.slice A0_2 l0_2.length c0_2)] 24 (0,0)))∧Aside0 (wc.heap[gb554]?=some (.cells #[.string t549,.string t550,(.slice Ao24 t551.length co24)] 30 (0,0)))∧Aside0 (Below w.heap.size w wc))
 case first=>
  have H:=HC11.out
  clear HC11
  by_cases c26:t555.toList=t547.toList
  ·rw [if_pos c26] at H
   obtain ⟨c26b0,c26b1⟩:=eqP c26
   clear c26
   (first|rw [c26b0]|(simp only [i64_w,i32_w];rw [c26b0])|skip)
   have H':=Aside0.mk H
   clear H
   go_wp2
   go_meet
   case rel=>exact ⟨_,((t556 != t548)),rs,H',⟨by first|omega|exact Nat.le_refl _⟩,⟨by (with_reducible repeat (first|apply Kd.R_alloc|apply Kd.R_drewN|apply Kd.R_drew));exact Kd.R_mono HO553.out (fun _ hk=>trivial)⟩,⟨qx BK540.out⟩,⟨qx BK554.out⟩,⟨hb2 GE540.out GE554.out⟩⟩
  rw [if_neg c26] at H
  obtain ⟨c26b0,c26b1⟩:=eqN c26
  (first|rw [c26b0]|(simp only [i64_w,i32_w];rw [c26b0])|skip)
  have H':=Aside0.mk H
  clear H
  go_wp2
  go_meet
  case rel=>exact ⟨_,(true),rs,H',⟨by first|omega|exact Nat.le_refl _⟩,⟨by (with_reducible repeat (first|apply Kd.R_alloc|apply Kd.R_drewN|apply Kd.R_drew));exact Kd.R_mono HO553.out (fun _ hk=>trivial)⟩,⟨qx BK540.out⟩,⟨qx BK554.out⟩,⟨hb2 GE540.out GE554.out⟩⟩
 clear HC11
 try clear c3b0
 try clear Z13_0 Z13_1 Z13_2
 try clear Z15_0 Z15_1 Z15_2
 try clear Z19_0 Z19_1 Z19_2
 try clear Z23_0 Z23_1 Z23_2
 try clear Y13_0 Y13_1 Y13_2
 try clear Y15_0 Y15_1 Y15_2
 try clear Y19_0 Y19_1 Y19_2
 try clear Y23_0 Y23_1 Y23_2
 obtain ⟨kq,x34_10,rfl,HA,HJ10,HO_555002,BK540,BK554,HB⟩:=hcut
 cases kq with
 | zero=>exact absurd HA.out (by simp [laws_FnExactImageText.j0])
 | succ kj10 =>
  have H:=HA.out
  clear HA
  simp only [laws_FnExactImageText.j0] at H
  by_cases c27:x34_10=true
  ·subst c27
   rw [if_pos rfl] at H
   exact absurd ((Option.some.inj H).trans HT.out) (by decide)
  replace c27:=Bool.eq_false_iff.mpr c27
  subst c27
  rw [if_neg (show ¬ (false=true) by decide)] at H
  obtain ⟨⟨t557,t558,t559⟩,A28,H⟩:=bindA H
  try dsimp only at H
  obtain ⟨t562,A29,H⟩:=bindA H
  by_cases c30:t562=true
  ·subst c30
   rw [if_pos rfl] at H
   obtain rfl:=Option.some.inj H
   try go_wp2
   replace HO_555002:=Aside0.mk (Kd.R_drew HO_555002.out);replace BK540:=Aside0.mk (blk_drew BK540.out);replace BK554:=Aside0.mk (blk_drew BK554.out);replace HB:=Aside0.mk (below_drew1 HB.out)
   refine start_ (n:=5) (S:=fun w'=>w'.cell? ⟨gb554,0,none⟩=some (.string t549)∧w'.cell? ⟨gb554,1,none⟩=some (.string t550)∧w'.cell? ⟨gb554,2,none⟩=some (.slice Ao24 t551.length co24)∧w'.cell? ⟨gb540,0,none⟩=some (.string a0_0)∧w'.cell? ⟨gb540,1,none⟩=some (.string a0_1)∧w'.cell? ⟨gb540,2,none⟩=some (.slice A0_2 l0_2.length c0_2)) (ds:=[]) #[false,false,false,false,false] (by kernel_rfl) rfl rfl ⟨(blk_cell BK554.out 0).trans rfl,(blk_cell BK554.out 1).trans rfl,(blk_cell BK554.out 2).trans rfl,(blk_cell BK540.out 0).trans rfl,(blk_cell BK540.out 1).trans rfl,(blk_cell BK540.out 2).trans rfl⟩ (fun hHeld=>?_)
   generalize wc.drew=w31 at HO_555002 BK540 BK554 HB hHeld ⊢
   refine tk6 0 35 #[true,false,false,false,false] hHeld ?_
   refine tk6 1 36 #[true,true,false,false,false] hHeld ?_
   refine one_ (i:=2) (N:=some 37) #[true,true,true,false,false] rfl rfl (by kernel_rfl) (by decide) (fun K hK=>?_)
   refine goes_ Try.func13 (by kernel_rfl) rfl #[.agg #[.string a0_0,.string a0_1,.slice A0_2 l0_2.length c0_2]] (by rfl) rfl rfl (mp_ rfl) ?_
   with_reducible refine (laws_toImage.calls kj10 a0_0 a0_1 _ _ l0_2 t557 t558 t559 _ ?side1 ?side2 A28.out).mono ?_
   (case side1=>exact kc HR0_2.out)
   (case side2=>exact HC0_2.out)
   rintro e w32 ⟨v560,rfl,ho0,hb⟩
   refine ⟨_,rfl,?_⟩
   have n0_:=Aside0.mk (Kd.R_elder' (kr HO_555002.out) (Kd.R_base ho0) hb)
   have n1_:=Aside0.mk (Kd.R_lower (Kd.R_new' ho0 (Kd.R_lt (kr HO_555002.out))) (below_size (hb2 GE540.out GE554.out)))
   have n2_:=Aside0.mk (blk_below (qx BK540.out) hb)
   have n3_:=Aside0.mk (blk_below (qx BK554.out) hb)
   have n4_:=Aside0.mk (below_step (hb2 GE540.out GE554.out) hb)
   clear HO_555002
   clear BK540
   clear BK554
   clear HB
   have HO_555002:=n0_
   have HO561:=n1_
   have BK540:=n2_
   have BK554:=n3_
   have HB:=n4_
   clear n0_ n1_ n2_ n3_ n4_
   try clear hb hb2
   try clear hk
   try clear hi
   try clear ho0
   obtain ⟨Ao33,co33,eo33⟩:=Kd.R_slice HO561.out
   (first|subst eo33|(injection eo33 with f1_ f2_ f3_;have f4_:=f1_.symm;have f5_:=f3_.symm;clear f1_ f2_ f3_;subst f4_;subst f5_))
   refine hK.out _ _ ⟨(blk_cell BK554.out 0).trans rfl,(blk_cell BK554.out 1).trans rfl,(blk_cell BK554.out 2).trans rfl,(blk_cell BK540.out 0).trans rfl,(blk_cell BK540.out 1).trans rfl,(blk_cell BK540.out 2).trans rfl⟩ (fun hHeld=>?_)
   clear hK K
   refine norm_ (a':=?_) ?_ ?_
   rotate_left
   ·show Act.put _ (some 37) _=_
    simp only [Act.put,List.setIfInBounds_toArray,List.set_cons_zero,List.set_cons_succ,i64_w,i32_w]
    rfl
   refine one_ (i:=3) (N:=some 38) #[true,true,true,true,false] rfl rfl (by kernel_rfl) (by decide) (fun K hK=>?_)
   refine goes_ Try.func15 (by kernel_rfl) rfl #[.agg #[.string t549,.string t550,.slice Ao24 t551.length co24],.agg #[.string t557,.string t558,.slice Ao33 t559.length co33]] (by rfl) rfl rfl (mp_ rfl) ?_
   with_reducible refine (laws_eqImage.calls kj10 t549 t550 _ _ t551 t557 t558 _ _ t559 true _ ?side1 ?side2 ?side3 ?side4 A29.out).mono ?_
   (case side1=>repeat (first|exact (Kd.R_reads' HO_555002.out).2.2|(with_reducible refine Kd.C_alloc ?_ _)|(with_reducible refine Kd.C_drewN ?_ _)|(with_reducible refine Kd.C_drew ?_)))
   (case side2=>exact (Kd.R_reads' HO_555002.out).2.1)
   (case side3=>repeat (first|exact (Kd.R_reads' HO561.out).2.2|(with_reducible refine Kd.C_alloc ?_ _)|(with_reducible refine Kd.C_drewN ?_ _)|(with_reducible refine Kd.C_drew ?_)))
   (case side4=>exact (Kd.R_reads' HO561.out).2.1)
   rintro e w34 ⟨rfl,hb⟩
   refine ⟨_,rfl,?_⟩
   replace HO_555002:=Aside0.mk (Kd.R_below (kr HO_555002.out) hb);replace HO561:=Aside0.mk (Kd.R_below (kr HO561.out) hb);replace BK540:=Aside0.mk (blk_below (qx BK540.out) hb);replace BK554:=Aside0.mk (blk_below (qx BK554.out) hb);replace HB:=Aside0.mk (below_step (hb2 GE540.out GE554.out) hb)
   try clear hb
   refine hK.out _ _ ⟨(blk_cell BK554.out 0).trans rfl,(blk_cell BK554.out 1).trans rfl,(blk_cell BK554.out 2).trans rfl,(blk_cell BK540.out 0).trans rfl,(blk_cell BK540.out 1).trans rfl,(blk_cell BK540.out 2).trans rfl⟩ (fun hHeld=>?_)
   clear hK K
   refine norm_ (a':=?_) ?_ ?_
   rotate_left
   ·show Act.put _ (some 38) _=_
    simp only [Act.put,List.setIfInBounds_toArray,List.set_cons_zero,List.set_cons_succ,i64_w,i32_w]
    rfl
   refine pu 4 39 #[true,true,true,true,true] ?_
   refine done_ (by kernel_rfl) ?_
   try go_wp2
   go_ret
   exact ⟨rf,hb2 GE540.out GE554.out⟩
  replace c30:=Bool.eq_false_iff.mpr c30
  subst c30
  rw [if_neg (show ¬ (false=true) by decide)] at H
  exact absurd ((Option.some.inj H).trans HT.out) (by decide)
def laws_FnExactImageText.Pure:Prop:=∀ (a0_0:ByteArray) (a0_1:ByteArray) (l0_2:List (S78)),a0_0.size≤maxLen→a0_1.size≤maxLen→l0_2.length≤maxLen→(∀ x∈l0_2,x.f0.size≤maxLen∧(Lit.int .i64 x.f1).wf=true∧(Lit.int .i64 x.f2).wf=true∧(Lit.int .i64 x.f3).wf=true∧(Lit.int .i64 x.f4).wf=true)→∃ k,laws_FnExactImageText.f k a0_0 a0_1 l0_2=some true
theorem laws_FnExactImageText.walk (P:laws_FnExactImageText.Pure) (a0_0:ByteArray) (a0_1:ByteArray) (a0_2:Option Addr) (cap0_2:Nat) (l0_2:List (S78)) (w:World) (w0_0:a0_0.size≤maxLen) (w0_1:a0_1.size≤maxLen) (r0_2:Kd.C k78 w a0_2 l0_2.length l0_2) (c0_2:l0_2.length≤cap0_2) (m0_2:l0_2.length≤maxLen) (f0_2 : ∀ x∈l0_2,x.f0.size≤maxLen∧(Lit.int .i64 x.f1).wf=true∧(Lit.int .i64 x.f2).wf=true∧(Lit.int .i64 x.f3).wf=true∧(Lit.int .i64 x.f4).wf=true) :
    Calls Try.prog 4 #[.agg #[.string a0_0,.string a0_1,.slice a0_2 l0_2.length cap0_2]] w fun e w'=>e=.returned (.bool true)∧Below w.heap.size w w':=by
 obtain ⟨k,h⟩:=P a0_0 a0_1 l0_2 w0_0 w0_1 m0_2 f0_2
 refine (laws_FnExactImageText.calls k a0_0 a0_1 _ _ l0_2 true rfl w r0_2 c0_2 h).mono ?_
 rintro e w' ⟨rfl,hd⟩
 exact ⟨rfl,hd⟩
end Go.Proofs.Ythepmdlpjdlajaa.PFnExactLintImage
