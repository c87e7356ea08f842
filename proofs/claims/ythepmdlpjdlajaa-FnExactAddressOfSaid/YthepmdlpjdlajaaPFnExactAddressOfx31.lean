-- Written by a program for this claim.
import Derived.Test.YthepmdlpjdlajaaZFnExactLintImagea
import Derived.Test.YthepmdlpjdlajaaProg
import Derived.Below
import Derived.Deep.Draws
import Derived.Deep.AppendLies
import Derived.Maps.AppendAt
import Derived.OwnWalk
import Derived.Laws.BytesArg
import Derived.Laws.MakeOwn
import Derived.Laws.OwnMore
import Derived.Deep.OwnRows
import Derived.Tactics
import Derived.Lib.ConvBytes
import Derived.Laws.Slices
import Derived.WalkKit
import Derived.KernelRfl
import Derived.RowKit3
import Derived.Deep.LoopGhost
import Derived.Deep.QuietTactic
import Derived.BigQuiet
import Derived.WideLaws
import Derived.Deep.DeepCutAuto
import Derived.Deep.CutBlock
import Derived.Deep.RegionHeld3
import Derived.Laws.Rows
import Derived.Lib.AppendStr
import Derived.ArgAppend
import Derived.Laws.IdiomCopy
import Derived.OrdersHeld
import Derived.Laws.BitsLemmas
import Derived.StillTailTactics
import Derived.RowKit
import Derived.Test.YthepmdlpjdlajaaPFnExactLintImagex25
import Derived.Test.YthepmdlpjdlajaaPFnExactAddressOfx30
namespace Go.Proofs.Ythepmdlpjdlajaa.PFnExactLintImage
open Go.RowKit Go.Proofs.YthepmdlpjdlajaaW.PrintWords Go.Proofs.YthepmdlpjdlajaaW.PrintLast Go.Proofs.YthepmdlpjdlajaaW.PrintMore
attribute [local go_sem] max2_int min2_int max_two min_two max_three min_three max_four min_four   -- for this text's walks alone
set_option linter.unusedVariables false
set_option linter.unusedSimpArgs false
def laws_FnExactAddressOf.j0:Nat→Bool→ByteArray→ByteArray→List (S78)→ByteArray→ByteArray→List (S54)→Option (Bool)
  | 0,_,_,_,_,_,_,_=>none
  | k+1,x38,x507000,x507001,x507002,x521000,x521001,x521002=>if x38=true then (some false) else ((laws_toImage.f k x507000 x507001 x507002).bind fun bt523=>((laws_eqImage.f k x521000 x521001 x521002 bt523.1 bt523.2.1 bt523.2.2).bind fun t528=>(if t528=true then (some true) else (some false))))
def laws_FnExactAddressOf.f (k:Nat) (a0_0:ByteArray) (a0_1:ByteArray) (l0_2:List (S78)) (a1:Int):Option (Bool):=(laws_szImage.f k a0_0 a0_1 l0_2 1048576).bind fun t507=>(if t507 < 0 then (some true) else ((laws_toImage.f k a0_0 a0_1 l0_2).bind fun bt508=>((spec_AddressOf.f k bt508.1 bt508.2.1 bt508.2.2 a1).bind fun bt513=>((laws_toImage.f k a0_0 a0_1 l0_2).bind fun bt515=>((impl_AddressOf.f k bt515.1 bt515.2.1 bt515.2.2 a1).bind fun bt521=>(if bt521.1=bt513.1 then (laws_FnExactAddressOf.j0 k (bt521.2 != bt513.2) a0_0 a0_1 l0_2 bt515.1 bt515.2.1 bt515.2.2) else (laws_FnExactAddressOf.j0 k true a0_0 a0_1 l0_2 bt515.1 bt515.2.1 bt515.2.2)))))))
theorem laws_FnExactAddressOf.mono_l : ∀ k,(∀ y0 y1 y2 y3 y4 y5 y6,LeO (laws_FnExactAddressOf.j0 k y0 y1 y2 y3 y4 y5 y6) (laws_FnExactAddressOf.j0 (k+1) y0 y1 y2 y3 y4 y5 y6))
  | 0=>fun _ _ _ _ _ _ _ r h=>by simp [laws_FnExactAddressOf.j0] at h
  | k+1=>by
    have ih0:=laws_FnExactAddressOf.mono_l k
    · intro y0 y1 y2 y3 y4 y5 y6
      unfold laws_FnExactAddressOf.j0
      repeat' (with_reducible first|apply ih0|apply impl_AddressOf.mono|apply laws_eqImage.mono|apply laws_szImage.mono|apply laws_toImage.mono|apply spec_AddressOf.mono|apply LeO.refl|apply LeO.none|apply LeO.ite|refine LeO.bind ?_ (fun _=>?_))
theorem laws_FnExactAddressOf.mono : ∀ a0 a1 a2 a3 k,LeO (laws_FnExactAddressOf.f k a0 a1 a2 a3) (laws_FnExactAddressOf.f (k+1) a0 a1 a2 a3):=by
 intro a0 a1 a2 a3 k
 have ih0:=laws_FnExactAddressOf.mono_l k
 unfold laws_FnExactAddressOf.f
 repeat' (with_reducible first|apply ih0|apply impl_AddressOf.mono|apply laws_eqImage.mono|apply laws_szImage.mono|apply laws_toImage.mono|apply spec_AddressOf.mono|apply LeO.refl|apply LeO.none|apply LeO.ite|refine LeO.bind ?_ (fun _=>?_))
set_option maxHeartbeats 8000000 in
set_option maxRecDepth 100000 in
theorem laws_FnExactAddressOf.calls (k:Nat) (a0_0:ByteArray) (a0_1:ByteArray) (A0_2:Option Addr) (c0_2:Nat) (l0_2:List (S78)) (a1:Int) (r:Bool) (hT:r=true) (w:World) (hr0_2:Kd.C k78 w A0_2 l0_2.length l0_2) (hc0_2:l0_2.length≤c0_2) (h:laws_FnExactAddressOf.f k a0_0 a0_1 l0_2 a1=some r) :
    Calls Try.prog 9 #[.agg #[.string a0_0,.string a0_1,.slice A0_2 l0_2.length c0_2],.int .i64 a1] w fun e w'=>e=.returned (.bool r)∧Below w.heap.size w w':=by
 have HT:=Aside0.mk hT
 clear hT
 have hu24:=Try.underlying24
 have hu30:=Try.underlying30
 have HR0_2:=Aside0.mk hr0_2
 have HC0_2:=Aside0.mk hc0_2
 clear hr0_2 hc0_2
 have HB:=Aside0.mk (Below.refl w.heap.size w)
 have H:((laws_szImage.f k a0_0 a0_1 l0_2 1048576).bind fun t507=>(if t507 < 0 then (some true) else ((laws_toImage.f k a0_0 a0_1 l0_2).bind fun bt508=>((spec_AddressOf.f k bt508.1 bt508.2.1 bt508.2.2 a1).bind fun bt513=>((laws_toImage.f k a0_0 a0_1 l0_2).bind fun bt515=>((impl_AddressOf.f k bt515.1 bt515.2.1 bt515.2.2 a1).bind fun bt521=>(if bt521.1=bt513.1 then (laws_FnExactAddressOf.j0 k (bt521.2 != bt513.2) a0_0 a0_1 l0_2 bt515.1 bt515.2.1 bt515.2.2) else (laws_FnExactAddressOf.j0 k true a0_0 a0_1 l0_2 bt515.1 bt515.2.1 bt515.2.2))))))))=some r:=h
 clear h
 obtain ⟨t507,A3,H⟩:=bindA H
 by_cases c4:t507 < 0
 ·rw [if_pos c4] at H
  have c4b0:decide (t507 < 0)=true:=decide_eq_true c4
  clear c4
  obtain rfl:=Option.some.inj H
  go_enter Try.func9,Try.ntmps9
  go_wp2_with (first|(refine bv 2 #[.string a0_0,.string a0_1,.slice A0_2 l0_2.length c0_2] 24 ?_;intro gb506 hg w5 hbox hb;obtain ⟨n0_,n2_⟩:=bx0 hbx hb hg;have n1_:=Aside0.mk (hbox);clear HB;have HB:=n0_;have BK506:=n1_;have GW506:=n2_;have GE506:=n2_;clear n0_ n1_ n2_;clear hb hbox hg;obtain ⟨Z6_0,Z6_1,Z6_2,Y6_0,Y6_1,Y6_2⟩:=cel3 BK506.out)|(refine gl 11 13 Try.func11 #[.agg #[.string a0_0,.string a0_1,.slice A0_2 l0_2.length c0_2],.int .i64 1048576] ?_;(with_reducible refine (laws_szImage.calls k a0_0 a0_1 _ _ l0_2 1048576 t507 _ ?side1 ?side2 A3.out).mono ?_);(case side1=>exact kc HR0_2.out);(case side2=>exact HC0_2.out);rintro e w7 ⟨rfl,hb⟩;refine ⟨_,rfl,?_⟩;have n0_:=Aside0.mk (blk_below (qx BK506.out) hb);replace HB:=Aside0.mk (below_step (hb1 GE506.out) hb);clear BK506;have BK506:=n0_;clear n0_;(try clear hb);(try clear hb2);(try clear hk);(try clear hi)))
  go_ret
  exact ⟨rf,hb1 GE506.out⟩
 rw [if_neg c4] at H
 have c4b0:decide (t507 < 0)=false:=decide_eq_false c4
 clear c4
 obtain ⟨⟨t508,t509,t510⟩,A8,H⟩:=bindA H
 try dsimp only at H
 obtain ⟨⟨t513,t514⟩,A9,H⟩:=bindA H
 try dsimp only at H
 obtain ⟨⟨t515,t516,t517⟩,A10,H⟩:=bindA H
 try dsimp only at H
 obtain ⟨⟨t521,t522⟩,A11,H⟩:=bindA H
 try dsimp only at H
 have HC12:=Aside0.mk H
 clear H
 go_enter Try.func9,Try.ntmps9
 go_upto_region 8 with (first|(refine bv 2 #[.string a0_0,.string a0_1,.slice A0_2 l0_2.length c0_2] 24 ?_;intro gb506 hg w13 hbox hb;obtain ⟨n0_,n2_⟩:=bx0 hbx hb hg;have n1_:=Aside0.mk (hbox);clear HB;have HB:=n0_;have BK506:=n1_;have GW506:=n2_;have GE506:=n2_;clear n0_ n1_ n2_;clear hb hbox hg;obtain ⟨Z14_0,Z14_1,Z14_2,Y14_0,Y14_1,Y14_2⟩:=cel3 BK506.out)|((with_reducible refine gate_callee (f:=11) rfl ?_);refine gl 11 13 Try.func11 #[.agg #[.string a0_0,.string a0_1,.slice A0_2 l0_2.length c0_2],.int .i64 1048576] ?_;(with_reducible refine (laws_szImage.calls k a0_0 a0_1 _ _ l0_2 1048576 t507 _ ?side1 ?side2 A3.out).mono ?_);(case side1=>exact kc HR0_2.out);(case side2=>exact HC0_2.out);rintro e w15 ⟨rfl,hb⟩;refine ⟨_,rfl,?_⟩;have n0_:=Aside0.mk (blk_below (qx BK506.out) hb);replace HB:=Aside0.mk (below_step (hb1 GE506.out) hb);clear BK506;have BK506:=n0_;clear n0_;(try clear hb);(try clear hb2);(try clear hk);(try clear hi);obtain ⟨Z16_0,Z16_1,Z16_2,Y16_0,Y16_1,Y16_2⟩:=cel3 BK506.out)|((with_reducible refine gate_callee (f:=13) rfl ?_);refine gl 13 18 Try.func13 #[.agg #[.string a0_0,.string a0_1,.slice A0_2 l0_2.length c0_2]] ?_;(with_reducible refine (laws_toImage.calls k a0_0 a0_1 _ _ l0_2 t508 t509 t510 _ ?side1 ?side2 A8.out).mono ?_);(case side1=>exact kc HR0_2.out);(case side2=>exact HC0_2.out);rintro e w17 ⟨v511,rfl,ho0,hb⟩;refine ⟨_,rfl,?_⟩;have n0_:=Aside0.mk (Kd.R_lower ho0 (below_size (hb1 GE506.out)));have n1_:=Aside0.mk (blk_below (qx BK506.out) hb);replace HB:=Aside0.mk (below_step (hb1 GE506.out) hb);clear BK506;have HO512:=n0_;have BK506:=n1_;clear n0_ n1_;(try clear hb);(try clear hb2);(try clear hk);(try clear hi);(try clear ho0);obtain ⟨Ao18,co18,eo18⟩:=Kd.R_slice HO512.out;subst eo18)|((with_reducible refine gate_callee (f:=30) rfl ?_);refine gl 30 20 Try.func30 #[.agg #[.string t508,.string t509,.slice Ao18 t510.length co18],.int .i64 a1] ?_;(with_reducible refine (spec_AddressOf.calls k t508 t509 _ _ t510 a1 t513 t514 _ ?side1 ?side2 A9.out).mono ?_);(case side1=>repeat (first|exact (Kd.R_reads' HO512.out).2.2|(with_reducible refine Kd.C_alloc ?_ _)|(with_reducible refine Kd.C_drewN ?_ _)|(with_reducible refine Kd.C_drew ?_)));(case side2=>exact (Kd.R_reads' HO512.out).2.1);rintro e w19 ⟨rfl,hb⟩;refine ⟨_,rfl,?_⟩;have n0_:=Aside0.mk (Kd.R_below (kr HO512.out) hb);have n1_:=Aside0.mk (blk_below (qx BK506.out) hb);replace HB:=Aside0.mk (below_step (hb1 GE506.out) hb);clear HO512;clear BK506;have HO512:=n0_;have BK506:=n1_;clear n0_ n1_;(try clear hb);(try clear hb2);(try clear hk);(try clear hi);obtain ⟨Z20_0,Z20_1,Z20_2,Y20_0,Y20_1,Y20_2⟩:=cel3 BK506.out)|((with_reducible refine gate_callee (f:=13) rfl ?_);refine gl 13 24 Try.func13 #[.agg #[.string a0_0,.string a0_1,.slice A0_2 l0_2.length c0_2]] ?_;(with_reducible refine (laws_toImage.calls k a0_0 a0_1 _ _ l0_2 t515 t516 t517 _ ?side1 ?side2 A10.out).mono ?_);(case side1=>exact kc HR0_2.out);(case side2=>exact HC0_2.out);rintro e w21 ⟨v518,rfl,ho0,hb⟩;refine ⟨_,rfl,?_⟩;have n0_:=Aside0.mk (Kd.R_elder' (kr HO512.out) (Kd.R_base ho0) hb);have n1_:=Aside0.mk (Kd.R_lower (Kd.R_new' ho0 (Kd.R_lt (kr HO512.out))) (below_size (hb1 GE506.out)));have n2_:=Aside0.mk (blk_below (qx BK506.out) hb);replace HB:=Aside0.mk (below_step (hb1 GE506.out) hb);clear HO512;clear BK506;have HO512:=n0_;have HO519:=n1_;have BK506:=n2_;clear n0_ n1_ n2_;(try clear hb);(try clear hb2);(try clear hk);(try clear hi);(try clear ho0))|(refine bv 8 #[.string (⟨#[]⟩:ByteArray),.string (⟨#[]⟩:ByteArray),.slice none 0 0] 30 ?_;intro gb520 hg w22 hbox hb;obtain ⟨n3_,n5_⟩:=bx0 (hb1 GE506.out) hb hg;have n0_:=Aside0.mk (Kd.R_below (kr HO512.out) hb);have n1_:=Aside0.mk (Kd.R_below (kr HO519.out) hb);obtain ⟨n2_,n7_,n8_⟩:=bx3 (qx BK506.out) hb hg;have n4_:=Aside0.mk (hbox);clear HO512;clear HO519;clear BK506;clear HB;have HO512:=n0_;have HO519:=n1_;have BK506:=n2_;have HB:=n3_;have BK520:=n4_;have GW520:=n5_;have GE520:=n5_;have NB506_520:=n7_;have NB520_506:=n8_;clear n0_ n1_ n2_ n3_ n4_ n5_ n7_ n8_;clear hb hbox hg;have hnb23:=NB520_506.out;have hnc23:=NB506_520.out;obtain ⟨Z24_0,Z24_1,Z24_2,Y24_0,Y24_1,Y24_2⟩:=cel3 BK520.out;obtain ⟨Ao25,co25,eo25⟩:=Kd.R_slice HO519.out;subst eo25)|((with_reducible refine gate_callee (f:=31) rfl ?_);refine gl 31 28 Try.func31 #[.agg #[.string t515,.string t516,.slice Ao25 t517.length co25],.int .i64 a1] ?_;(with_reducible refine (impl_AddressOf.calls k t515 t516 _ _ t517 a1 t521 t522 _ ?side1 ?side2 A11.out).mono ?_);(case side1=>refine (Kd.R_reads' (e:=54) (base:=w.heap.size) (ok:=fun k_=>(True∧some k_≠(.slice Ao18 t510.length co18:Value).ownBlock)) (n:=t517.length) (c:=co25) ?_).2.2;exact (by (with_reducible repeat (first|apply Kd.R_alloc|apply Kd.R_drewN|apply Kd.R_drew));exact (Kd.R_mono (Kd.R_far (p:=⟨gb520,2,none⟩) (Kd.R_far (p:=⟨gb520,1,none⟩) (Kd.R_far (p:=⟨gb520,0,none⟩) (Kd.R_types HO519.out BK520.out (by decide)) (fun _ hk=>hk.2) (.string t515)) (fun _ hk=>hk.2) (.string t516)) (fun _ hk=>hk.2) (.slice Ao25 t517.length co25)) (fun _ h_=>h_.1))));(case side2=>exact (Kd.R_reads' HO519.out).2.1);rintro e w26 ⟨rfl,hb⟩;refine ⟨_,rfl,?_⟩;have n0_:=Aside0.mk (Kd.R_below (by (with_reducible repeat (first|apply Kd.R_alloc|apply Kd.R_drewN|apply Kd.R_drew));exact (Kd.R_mono (Kd.R_far (p:=⟨gb520,2,none⟩) (Kd.R_far (p:=⟨gb520,1,none⟩) (Kd.R_far (p:=⟨gb520,0,none⟩) (Kd.R_types HO512.out BK520.out (by decide)) (fun _ hk=>hk.2) (.string t515)) (fun _ hk=>hk.2) (.string t516)) (fun _ hk=>hk.2) (.slice Ao25 t517.length co25)) (fun _ h_=>h_.1))) hb);have n1_:=Aside0.mk (Kd.R_below (by (with_reducible repeat (first|apply Kd.R_alloc|apply Kd.R_drewN|apply Kd.R_drew));exact (Kd.R_mono (Kd.R_far (p:=⟨gb520,2,none⟩) (Kd.R_far (p:=⟨gb520,1,none⟩) (Kd.R_far (p:=⟨gb520,0,none⟩) (Kd.R_types HO519.out BK520.out (by decide)) (fun _ hk=>hk.2) (.string t515)) (fun _ hk=>hk.2) (.string t516)) (fun _ hk=>hk.2) (.slice Ao25 t517.length co25)) (fun _ h_=>h_.1))) hb);have n2_:=Aside0.mk (blk_below (g:=gb506) (o:=.cells #[.string a0_0,.string a0_1,.slice A0_2 l0_2.length c0_2] 24 (0,0)) (by (with_reducible repeat first|apply Q1|apply Q2|apply Q3);refine blk_far ?_ NB506_520.out _;(with_reducible repeat first|apply Q1|apply Q2|apply Q3);refine blk_far ?_ NB506_520.out _;(with_reducible repeat first|apply Q1|apply Q2|apply Q3);refine blk_far ?_ NB506_520.out _;(with_reducible repeat first|apply Q1|apply Q2|apply Q3);exact BK506.out) hb);have n3_:=Aside0.mk (blk_below (g:=gb520) (o:=.cells #[.string t515,.string t516,.slice Ao25 t517.length co25] 30 (0,0)) (by (with_reducible repeat first|apply Q1|apply Q2|apply Q3);refine blk_put (cs:=#[.string t515,.string t516,.slice none 0 0]) ?_ 2 _ rfl;(with_reducible repeat first|apply Q1|apply Q2|apply Q3);refine blk_put (cs:=#[.string t515,.string (⟨#[]⟩:ByteArray),.slice none 0 0]) ?_ 1 _ rfl;(with_reducible repeat first|apply Q1|apply Q2|apply Q3);refine blk_put (cs:=#[.string (⟨#[]⟩:ByteArray),.string (⟨#[]⟩:ByteArray),.slice none 0 0]) ?_ 0 _ rfl;(with_reducible repeat first|apply Q1|apply Q2|apply Q3);exact BK520.out) hb);replace HB:=Aside0.mk (below_step (hb2 GE506.out GE520.out) hb);clear HO512;clear HO519;clear BK506;clear BK520;have HO512:=n0_;have HO519:=n1_;have BK506:=n2_;have BK520:=n3_;clear n0_ n1_ n2_ n3_;(try clear hb);(try clear hb2);(try clear hk);(try clear hi)))
 (try simp only [Act.put,List.setIfInBounds_toArray,List.set_cons_zero,List.set_cons_succ])
 go_cut [38] (fun v38 wc=>∃ (kq:Nat) (x38_11:Bool),v38=.bool x38_11∧Aside0 (laws_FnExactAddressOf.j0 kq x38_11 a0_0 a0_1 l0_2 t515 t516 t517=some r)∧Aside0 (kq≤k)∧Aside0 (Kd.R k54 54 wc w.heap.size (fun _=>True) (.slice Ao25 t517.length co25) t517)∧Aside0 (wc.heap[gb506]?=some (.cells #[.string a0_0,.string a0_1,(.slice A0_2 l0_2.length c0_2)] 24 (0,0)))∧Aside0 (wc.heap[gb520]?=some (.cells #[.string t515,.string t516,(.slice Ao25 t517.length co25)] 30 (0,0)))∧Aside0 (Below w.heap.size w wc))
 case first=>
  have H:=HC12.out
  clear HC12
  by_cases c27:t521=t513
  ·rw [if_pos c27] at H
   obtain ⟨c27b0,c27b1⟩:=eqP c27
   clear c27
   (first|rw [c27b0]|(simp only [i64_w,i32_w];rw [c27b0])|skip)
   have H':=Aside0.mk H
   clear H
   go_wp2
   go_meet
   case rel=>exact ⟨_,((t522 != t514)),rs,H',⟨by first|omega|exact Nat.le_refl _⟩,⟨by (with_reducible repeat (first|apply Kd.R_alloc|apply Kd.R_drewN|apply Kd.R_drew));exact Kd.R_mono HO519.out (fun _ hk=>trivial)⟩,⟨qx BK506.out⟩,⟨qx BK520.out⟩,⟨hb2 GE506.out GE520.out⟩⟩
  rw [if_neg c27] at H
  obtain ⟨c27b0,c27b1⟩:=eqN c27
  (first|rw [c27b0]|(simp only [i64_w,i32_w];rw [c27b0])|skip)
  have H':=Aside0.mk H
  clear H
  go_wp2
  go_meet
  case rel=>exact ⟨_,(true),rs,H',⟨by first|omega|exact Nat.le_refl _⟩,⟨by (with_reducible repeat (first|apply Kd.R_alloc|apply Kd.R_drewN|apply Kd.R_drew));exact Kd.R_mono HO519.out (fun _ hk=>trivial)⟩,⟨qx BK506.out⟩,⟨qx BK520.out⟩,⟨hb2 GE506.out GE520.out⟩⟩
 clear HC12
 try clear c4b0
 try clear Z14_0 Z14_1 Z14_2
 try clear Z16_0 Z16_1 Z16_2
 try clear Z20_0 Z20_1 Z20_2
 try clear Z24_0 Z24_1 Z24_2
 try clear Y14_0 Y14_1 Y14_2
 try clear Y16_0 Y16_1 Y16_2
 try clear Y20_0 Y20_1 Y20_2
 try clear Y24_0 Y24_1 Y24_2
 obtain ⟨kq,x38_11,rfl,HA,HJ11,HO_521002,BK506,BK520,HB⟩:=hcut
 cases kq with
 | zero=>exact absurd HA.out (by simp [laws_FnExactAddressOf.j0])
 | succ kj11 =>
  have H:=HA.out
  clear HA
  simp only [laws_FnExactAddressOf.j0] at H
  by_cases c28:x38_11=true
  ·subst c28
   rw [if_pos rfl] at H
   exact absurd ((Option.some.inj H).trans HT.out) (by decide)
  replace c28:=Bool.eq_false_iff.mpr c28
  subst c28
  rw [if_neg (show ¬ (false=true) by decide)] at H
  obtain ⟨⟨t523,t524,t525⟩,A29,H⟩:=bindA H
  try dsimp only at H
  obtain ⟨t528,A30,H⟩:=bindA H
  by_cases c31:t528=true
  ·subst c31
   rw [if_pos rfl] at H
   obtain rfl:=Option.some.inj H
   try go_wp2
   replace HO_521002:=Aside0.mk (Kd.R_drew HO_521002.out);replace BK506:=Aside0.mk (blk_drew BK506.out);replace BK520:=Aside0.mk (blk_drew BK520.out);replace HB:=Aside0.mk (below_drew1 HB.out)
   refine start_ (n:=5) (S:=fun w'=>w'.cell? ⟨gb520,0,none⟩=some (.string t515)∧w'.cell? ⟨gb520,1,none⟩=some (.string t516)∧w'.cell? ⟨gb520,2,none⟩=some (.slice Ao25 t517.length co25)∧w'.cell? ⟨gb506,0,none⟩=some (.string a0_0)∧w'.cell? ⟨gb506,1,none⟩=some (.string a0_1)∧w'.cell? ⟨gb506,2,none⟩=some (.slice A0_2 l0_2.length c0_2)) (ds:=[]) #[false,false,false,false,false] (by kernel_rfl) rfl rfl ⟨(blk_cell BK520.out 0).trans rfl,(blk_cell BK520.out 1).trans rfl,(blk_cell BK520.out 2).trans rfl,(blk_cell BK506.out 0).trans rfl,(blk_cell BK506.out 1).trans rfl,(blk_cell BK506.out 2).trans rfl⟩ (fun hHeld=>?_)
   generalize wc.drew=w32 at HO_521002 BK506 BK520 HB hHeld ⊢
   refine tk6 0 39 #[true,false,false,false,false] hHeld ?_
   refine tk6 1 40 #[true,true,false,false,false] hHeld ?_
   refine one_ (i:=2) (N:=some 41) #[true,true,true,false,false] rfl rfl (by kernel_rfl) (by decide) (fun K hK=>?_)
   refine goes_ Try.func13 (by kernel_rfl) rfl #[.agg #[.string a0_0,.string a0_1,.slice A0_2 l0_2.length c0_2]] (by rfl) rfl rfl (mp_ rfl) ?_
   with_reducible refine (laws_toImage.calls kj11 a0_0 a0_1 _ _ l0_2 t523 t524 t525 _ ?side1 ?side2 A29.out).mono ?_
   (case side1=>exact kc HR0_2.out)
   (case side2=>exact HC0_2.out)
   rintro e w33 ⟨v526,rfl,ho0,hb⟩
   refine ⟨_,rfl,?_⟩
   have n0_:=Aside0.mk (Kd.R_elder' (kr HO_521002.out) (Kd.R_base ho0) hb)
   have n1_:=Aside0.mk (Kd.R_lower (Kd.R_new' ho0 (Kd.R_lt (kr HO_521002.out))) (below_size (hb2 GE506.out GE520.out)))
   have n2_:=Aside0.mk (blk_below (qx BK506.out) hb)
   have n3_:=Aside0.mk (blk_below (qx BK520.out) hb)
   have n4_:=Aside0.mk (below_step (hb2 GE506.out GE520.out) hb)
   clear HO_521002
   clear BK506
   clear BK520
   clear HB
   have HO_521002:=n0_
   have HO527:=n1_
   have BK506:=n2_
   have BK520:=n3_
   have HB:=n4_
   clear n0_ n1_ n2_ n3_ n4_
   try clear hb hb2
   try clear hk
   try clear hi
   try clear ho0
   obtain ⟨Ao34,co34,eo34⟩:=Kd.R_slice HO527.out
   (first|subst eo34|(injection eo34 with f1_ f2_ f3_;have f4_:=f1_.symm;have f5_:=f3_.symm;clear f1_ f2_ f3_;subst f4_;subst f5_))
   refine hK.out _ _ ⟨(blk_cell BK520.out 0).trans rfl,(blk_cell BK520.out 1).trans rfl,(blk_cell BK520.out 2).trans rfl,(blk_cell BK506.out 0).trans rfl,(blk_cell BK506.out 1).trans rfl,(blk_cell BK506.out 2).trans rfl⟩ (fun hHeld=>?_)
   clear hK K
   refine norm_ (a':=?_) ?_ ?_
   rotate_left
   ·show Act.put _ (some 41) _=_
    simp only [Act.put,List.setIfInBounds_toArray,List.set_cons_zero,List.set_cons_succ,i64_w,i32_w]
    rfl
   refine one_ (i:=3) (N:=some 42) #[true,true,true,true,false] rfl rfl (by kernel_rfl) (by decide) (fun K hK=>?_)
   refine goes_ Try.func15 (by kernel_rfl) rfl #[.agg #[.string t515,.string t516,.slice Ao25 t517.length co25],.agg #[.string t523,.string t524,.slice Ao34 t525.length co34]] (by rfl) rfl rfl (mp_ rfl) ?_
   with_reducible refine (laws_eqImage.calls kj11 t515 t516 _ _ t517 t523 t524 _ _ t525 true _ ?side1 ?side2 ?side3 ?side4 A30.out).mono ?_
   (case side1=>repeat (first|exact (Kd.R_reads' HO_521002.out).2.2|(with_reducible refine Kd.C_alloc ?_ _)|(with_reducible refine Kd.C_drewN ?_ _)|(with_reducible refine Kd.C_drew ?_)))
   (case side2=>exact (Kd.R_reads' HO_521002.out).2.1)
   (case side3=>repeat (first|exact (Kd.R_reads' HO527.out).2.2|(with_reducible refine Kd.C_alloc ?_ _)|(with_reducible refine Kd.C_drewN ?_ _)|(with_reducible refine Kd.C_drew ?_)))
   (case side4=>exact (Kd.R_reads' HO527.out).2.1)
   rintro e w35 ⟨rfl,hb⟩
   refine ⟨_,rfl,?_⟩
   replace HO_521002:=Aside0.mk (Kd.R_below (kr HO_521002.out) hb);replace HO527:=Aside0.mk (Kd.R_below (kr HO527.out) hb);replace BK506:=Aside0.mk (blk_below (qx BK506.out) hb);replace BK520:=Aside0.mk (blk_below (qx BK520.out) hb);replace HB:=Aside0.mk (below_step (hb2 GE506.out GE520.out) hb)
   try clear hb
   refine hK.out _ _ ⟨(blk_cell BK520.out 0).trans rfl,(blk_cell BK520.out 1).trans rfl,(blk_cell BK520.out 2).trans rfl,(blk_cell BK506.out 0).trans rfl,(blk_cell BK506.out 1).trans rfl,(blk_cell BK506.out 2).trans rfl⟩ (fun hHeld=>?_)
   clear hK K
   refine norm_ (a':=?_) ?_ ?_
   rotate_left
   ·show Act.put _ (some 42) _=_
    simp only [Act.put,List.setIfInBounds_toArray,List.set_cons_zero,List.set_cons_succ,i64_w,i32_w]
    rfl
   refine pu 4 43 #[true,true,true,true,true] ?_
   refine done_ (by kernel_rfl) ?_
   try go_wp2
   go_ret
   exact ⟨rf,hb2 GE506.out GE520.out⟩
  replace c31:=Bool.eq_false_iff.mpr c31
  subst c31
  rw [if_neg (show ¬ (false=true) by decide)] at H
  exact absurd ((Option.some.inj H).trans HT.out) (by decide)
def laws_FnExactAddressOf.Pure:Prop:=∀ (a0_0:ByteArray) (a0_1:ByteArray) (l0_2:List (S78)) (a1:Int),a0_0.size≤maxLen→a0_1.size≤maxLen→l0_2.length≤maxLen→(∀ x∈l0_2,x.f0.size≤maxLen∧(Lit.int .i64 x.f1).wf=true∧(Lit.int .i64 x.f2).wf=true∧(Lit.int .i64 x.f3).wf=true∧(Lit.int .i64 x.f4).wf=true)→(Lit.int .i64 a1).wf=true→∃ k,laws_FnExactAddressOf.f k a0_0 a0_1 l0_2 a1=some true
theorem laws_FnExactAddressOf.walk (P:laws_FnExactAddressOf.Pure) (a0_0:ByteArray) (a0_1:ByteArray) (a0_2:Option Addr) (cap0_2:Nat) (l0_2:List (S78)) (a1:Int) (w:World) (w0_0:a0_0.size≤maxLen) (w0_1:a0_1.size≤maxLen) (r0_2:Kd.C k78 w a0_2 l0_2.length l0_2) (c0_2:l0_2.length≤cap0_2) (m0_2:l0_2.length≤maxLen) (f0_2 : ∀ x∈l0_2,x.f0.size≤maxLen∧(Lit.int .i64 x.f1).wf=true∧(Lit.int .i64 x.f2).wf=true∧(Lit.int .i64 x.f3).wf=true∧(Lit.int .i64 x.f4).wf=true) (w1:(Lit.int .i64 a1).wf=true) :
    Calls Try.prog 9 #[.agg #[.string a0_0,.string a0_1,.slice a0_2 l0_2.length cap0_2],.int .i64 a1] w fun e w'=>e=.returned (.bool true)∧Below w.heap.size w w':=by
 obtain ⟨k,h⟩:=P a0_0 a0_1 l0_2 a1 w0_0 w0_1 m0_2 f0_2 w1
 refine (laws_FnExactAddressOf.calls k a0_0 a0_1 _ _ l0_2 a1 true rfl w r0_2 c0_2 h).mono ?_
 rintro e w' ⟨rfl,hd⟩
 exact ⟨rfl,hd⟩
end Go.Proofs.Ythepmdlpjdlajaa.PFnExactLintImage
