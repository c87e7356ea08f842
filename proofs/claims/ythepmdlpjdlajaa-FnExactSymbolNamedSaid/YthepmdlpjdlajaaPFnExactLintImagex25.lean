-- Written by a program for this claim.
import Derived.Test.YthepmdlpjdlajaaPFnExactLintImagex0
import Derived.Test.YthepmdlpjdlajaaPFnExactLintImagex2
import Derived.Test.YthepmdlpjdlajaaPFnExactLintImagex3
import Derived.Test.YthepmdlpjdlajaaPFnExactLintImagex16
import Derived.Test.YthepmdlpjdlajaaPFnExactLintImagex24
namespace Go.Proofs.Ythepmdlpjdlajaa.PFnExactLintImage
open Go.RowKit Go.Proofs.YthepmdlpjdlajaaW.PrintWords Go.Proofs.YthepmdlpjdlajaaW.PrintLast Go.Proofs.YthepmdlpjdlajaaW.PrintMore
attribute [local go_sem] max2_int min2_int max_two min_two max_three min_three max_four min_four   -- for this text's walks alone
set_option linter.unusedVariables false
set_option linter.unusedSimpArgs false
def laws_FnExactLintImage.j0:Nat→Bool→ByteArray→ByteArray→List (S78)→ByteArray→ByteArray→List (S54)→Option (Bool)
  | 0,_,_,_,_,_,_,_=>none
  | k+1,x43,x494000,x494001,x494002,x509000,x509001,x509002=>if x43=true then (some false) else ((laws_toImage.f k x494000 x494001 x494002).bind fun bt512=>((laws_eqImage.f k x509000 x509001 x509002 bt512.1 bt512.2.1 bt512.2.2).bind fun t517=>(if t517=true then (some true) else (some false))))
def laws_FnExactLintImage.f (k:Nat) (a0_0:ByteArray) (a0_1:ByteArray) (l0_2:List (S78)):Option (Bool):=(laws_szImage.f k a0_0 a0_1 l0_2 1048576).bind fun t494=>(if t494 < 0 then (some true) else ((laws_toImage.f k a0_0 a0_1 l0_2).bind fun bt495=>((spec_LintImage.f k bt495.1 bt495.2.1 bt495.2.2).bind fun bt500=>((laws_toImage.f k a0_0 a0_1 l0_2).bind fun bt503=>((impl_LintImage.f k bt503.1 bt503.2.1 bt503.2.2).bind fun bt509=>(if bt509.1=bt500.1 then (if bt509.2.1=bt500.2.1 then (laws_FnExactLintImage.j0 k (bt509.2.2 != bt500.2.2) a0_0 a0_1 l0_2 bt503.1 bt503.2.1 bt503.2.2) else (laws_FnExactLintImage.j0 k true a0_0 a0_1 l0_2 bt503.1 bt503.2.1 bt503.2.2)) else (laws_FnExactLintImage.j0 k true a0_0 a0_1 l0_2 bt503.1 bt503.2.1 bt503.2.2)))))))
theorem laws_FnExactLintImage.mono_l : ∀ k,(∀ y0 y1 y2 y3 y4 y5 y6,LeO (laws_FnExactLintImage.j0 k y0 y1 y2 y3 y4 y5 y6) (laws_FnExactLintImage.j0 (k+1) y0 y1 y2 y3 y4 y5 y6))
  | 0=>fun _ _ _ _ _ _ _ r h=>by simp [laws_FnExactLintImage.j0] at h
  | k+1=>by
    have ih0:=laws_FnExactLintImage.mono_l k
    · intro y0 y1 y2 y3 y4 y5 y6
      unfold laws_FnExactLintImage.j0
      repeat' (with_reducible first|apply ih0|apply impl_LintImage.mono|apply laws_eqImage.mono|apply laws_szImage.mono|apply laws_toImage.mono|apply spec_LintImage.mono|apply LeO.refl|apply LeO.none|apply LeO.ite|refine LeO.bind ?_ (fun _=>?_))
theorem laws_FnExactLintImage.mono : ∀ a0 a1 a2 k,LeO (laws_FnExactLintImage.f k a0 a1 a2) (laws_FnExactLintImage.f (k+1) a0 a1 a2):=by
 intro a0 a1 a2 k
 have ih0:=laws_FnExactLintImage.mono_l k
 unfold laws_FnExactLintImage.f
 repeat' (with_reducible first|apply ih0|apply impl_LintImage.mono|apply laws_eqImage.mono|apply laws_szImage.mono|apply laws_toImage.mono|apply spec_LintImage.mono|apply LeO.refl|apply LeO.none|apply LeO.ite|refine LeO.bind ?_ (fun _=>?_))
set_option maxHeartbeats 8000000 in
set_option maxRecDepth 100000 in
theorem laws_FnExactLintImage.calls (k:Nat) (a0_0:ByteArray) (a0_1:ByteArray) (A0_2:Option Addr) (c0_2:Nat) (l0_2:List (S78)) (r:Bool) (hT:r=true) (w:World) (hr0_2:Kd.C k78 w A0_2 l0_2.length l0_2) (hc0_2:l0_2.length≤c0_2) (h:laws_FnExactLintImage.f k a0_0 a0_1 l0_2=some r) :
    Calls Try.prog 7 #[.agg #[.string a0_0,.string a0_1,.slice A0_2 l0_2.length c0_2]] w fun e w'=>e=.returned (.bool r)∧Below w.heap.size w w':=by
 have HT:=Aside0.mk hT
 clear hT
 have hu24:=Try.underlying24
 have hu30:=Try.underlying30
 have HR0_2:=Aside0.mk hr0_2
 have HC0_2:=Aside0.mk hc0_2
 clear hr0_2 hc0_2
 have HB:=Aside0.mk (Below.refl w.heap.size w)
 have H:((laws_szImage.f k a0_0 a0_1 l0_2 1048576).bind fun t494=>(if t494 < 0 then (some true) else ((laws_toImage.f k a0_0 a0_1 l0_2).bind fun bt495=>((spec_LintImage.f k bt495.1 bt495.2.1 bt495.2.2).bind fun bt500=>((laws_toImage.f k a0_0 a0_1 l0_2).bind fun bt503=>((impl_LintImage.f k bt503.1 bt503.2.1 bt503.2.2).bind fun bt509=>(if bt509.1=bt500.1 then (if bt509.2.1=bt500.2.1 then (laws_FnExactLintImage.j0 k (bt509.2.2 != bt500.2.2) a0_0 a0_1 l0_2 bt503.1 bt503.2.1 bt503.2.2) else (laws_FnExactLintImage.j0 k true a0_0 a0_1 l0_2 bt503.1 bt503.2.1 bt503.2.2)) else (laws_FnExactLintImage.j0 k true a0_0 a0_1 l0_2 bt503.1 bt503.2.1 bt503.2.2))))))))=some r:=h
 clear h
 obtain ⟨t494,A2,H⟩:=bindA H
 by_cases c3:t494 < 0
 ·rw [if_pos c3] at H
  have c3b0:decide (t494 < 0)=true:=decide_eq_true c3
  clear c3
  obtain rfl:=Option.some.inj H
  go_enter Try.func7,Try.ntmps7
  go_wp2_with (first|(refine bv 1 #[.string a0_0,.string a0_1,.slice A0_2 l0_2.length c0_2] 24 ?_;intro gb493 hg w4 hbox hb;obtain ⟨n0_,n2_⟩:=bx0 hbx hb hg;have n1_:=Aside0.mk (hbox);clear HB;have HB:=n0_;have BK493:=n1_;have GW493:=n2_;have GE493:=n2_;clear n0_ n1_ n2_;clear hb hbox hg;obtain ⟨Z5_0,Z5_1,Z5_2,Y5_0,Y5_1,Y5_2⟩:=cel3 BK493.out)|(refine gl 11 13 Try.func11 #[.agg #[.string a0_0,.string a0_1,.slice A0_2 l0_2.length c0_2],.int .i64 1048576] ?_;(with_reducible refine (laws_szImage.calls k a0_0 a0_1 _ _ l0_2 1048576 t494 _ ?side1 ?side2 A2.out).mono ?_);(case side1=>exact kc HR0_2.out);(case side2=>exact HC0_2.out);rintro e w6 ⟨rfl,hb⟩;refine ⟨_,rfl,?_⟩;have n0_:=Aside0.mk (blk_below (qx BK493.out) hb);replace HB:=Aside0.mk (below_step (hb1 GE493.out) hb);clear BK493;have BK493:=n0_;clear n0_;(try clear hb);(try clear hb2);(try clear hk);(try clear hi)))
  go_ret
  exact ⟨rf,hb1 GE493.out⟩
 rw [if_neg c3] at H
 have c3b0:decide (t494 < 0)=false:=decide_eq_false c3
 clear c3
 obtain ⟨⟨t495,t496,t497⟩,A7,H⟩:=bindA H
 try dsimp only at H
 obtain ⟨⟨t500,t501,t502⟩,A8,H⟩:=bindA H
 try dsimp only at H
 obtain ⟨⟨t503,t504,t505⟩,A9,H⟩:=bindA H
 try dsimp only at H
 obtain ⟨⟨t509,t510,t511⟩,A10,H⟩:=bindA H
 try dsimp only at H
 have HC11:=Aside0.mk H
 clear H
 go_enter Try.func7,Try.ntmps7
 go_upto_region 8 with (first|(refine bv 1 #[.string a0_0,.string a0_1,.slice A0_2 l0_2.length c0_2] 24 ?_;intro gb493 hg w12 hbox hb;obtain ⟨n0_,n2_⟩:=bx0 hbx hb hg;have n1_:=Aside0.mk (hbox);clear HB;have HB:=n0_;have BK493:=n1_;have GW493:=n2_;have GE493:=n2_;clear n0_ n1_ n2_;clear hb hbox hg;obtain ⟨Z13_0,Z13_1,Z13_2,Y13_0,Y13_1,Y13_2⟩:=cel3 BK493.out)|((with_reducible refine gate_callee (f:=11) rfl ?_);refine gl 11 13 Try.func11 #[.agg #[.string a0_0,.string a0_1,.slice A0_2 l0_2.length c0_2],.int .i64 1048576] ?_;(with_reducible refine (laws_szImage.calls k a0_0 a0_1 _ _ l0_2 1048576 t494 _ ?side1 ?side2 A2.out).mono ?_);(case side1=>exact kc HR0_2.out);(case side2=>exact HC0_2.out);rintro e w14 ⟨rfl,hb⟩;refine ⟨_,rfl,?_⟩;have n0_:=Aside0.mk (blk_below (qx BK493.out) hb);replace HB:=Aside0.mk (below_step (hb1 GE493.out) hb);clear BK493;have BK493:=n0_;clear n0_;(try clear hb);(try clear hb2);(try clear hk);(try clear hi);obtain ⟨Z15_0,Z15_1,Z15_2,Y15_0,Y15_1,Y15_2⟩:=cel3 BK493.out)|((with_reducible refine gate_callee (f:=13) rfl ?_);refine gl 13 18 Try.func13 #[.agg #[.string a0_0,.string a0_1,.slice A0_2 l0_2.length c0_2]] ?_;(with_reducible refine (laws_toImage.calls k a0_0 a0_1 _ _ l0_2 t495 t496 t497 _ ?side1 ?side2 A7.out).mono ?_);(case side1=>exact kc HR0_2.out);(case side2=>exact HC0_2.out);rintro e w16 ⟨v498,rfl,ho0,hb⟩;refine ⟨_,rfl,?_⟩;have n0_:=Aside0.mk (Kd.R_lower ho0 (below_size (hb1 GE493.out)));have n1_:=Aside0.mk (blk_below (qx BK493.out) hb);replace HB:=Aside0.mk (below_step (hb1 GE493.out) hb);clear BK493;have HO499:=n0_;have BK493:=n1_;clear n0_ n1_;(try clear hb);(try clear hb2);(try clear hk);(try clear hi);(try clear ho0);obtain ⟨Ao17,co17,eo17⟩:=Kd.R_slice HO499.out;subst eo17)|((with_reducible refine gate_callee (f:=26) rfl ?_);refine gl 26 19 Try.func26 #[.agg #[.string t495,.string t496,.slice Ao17 t497.length co17]] ?_;(with_reducible refine (spec_LintImage.calls k t495 t496 _ _ t497 t500 t501 t502 _ ?side1 ?side2 A8.out).mono ?_);(case side1=>repeat (first|exact (Kd.R_reads' HO499.out).2.2|(with_reducible refine Kd.C_alloc ?_ _)|(with_reducible refine Kd.C_drewN ?_ _)|(with_reducible refine Kd.C_drew ?_)));(case side2=>exact (Kd.R_reads' HO499.out).2.1);rintro e w18 ⟨rfl,hb⟩;refine ⟨_,rfl,?_⟩;have n0_:=Aside0.mk (Kd.R_below (kr HO499.out) hb);have n1_:=Aside0.mk (blk_below (qx BK493.out) hb);replace HB:=Aside0.mk (below_step (hb1 GE493.out) hb);clear HO499;clear BK493;have HO499:=n0_;have BK493:=n1_;clear n0_ n1_;(try clear hb);(try clear hb2);(try clear hk);(try clear hi);obtain ⟨Z19_0,Z19_1,Z19_2,Y19_0,Y19_1,Y19_2⟩:=cel3 BK493.out)|((with_reducible refine gate_callee (f:=13) rfl ?_);refine gl 13 24 Try.func13 #[.agg #[.string a0_0,.string a0_1,.slice A0_2 l0_2.length c0_2]] ?_;(with_reducible refine (laws_toImage.calls k a0_0 a0_1 _ _ l0_2 t503 t504 t505 _ ?side1 ?side2 A9.out).mono ?_);(case side1=>exact kc HR0_2.out);(case side2=>exact HC0_2.out);rintro e w20 ⟨v506,rfl,ho0,hb⟩;refine ⟨_,rfl,?_⟩;have n0_:=Aside0.mk (Kd.R_elder' (kr HO499.out) (Kd.R_base ho0) hb);have n1_:=Aside0.mk (Kd.R_lower (Kd.R_new' ho0 (Kd.R_lt (kr HO499.out))) (below_size (hb1 GE493.out)));have n2_:=Aside0.mk (blk_below (qx BK493.out) hb);replace HB:=Aside0.mk (below_step (hb1 GE493.out) hb);clear HO499;clear BK493;have HO499:=n0_;have HO507:=n1_;have BK493:=n2_;clear n0_ n1_ n2_;(try clear hb);(try clear hb2);(try clear hk);(try clear hi);(try clear ho0))|(refine bv 7 #[.string (⟨#[]⟩:ByteArray),.string (⟨#[]⟩:ByteArray),.slice none 0 0] 30 ?_;intro gb508 hg w21 hbox hb;obtain ⟨n3_,n5_⟩:=bx0 (hb1 GE493.out) hb hg;have n0_:=Aside0.mk (Kd.R_below (kr HO499.out) hb);have n1_:=Aside0.mk (Kd.R_below (kr HO507.out) hb);obtain ⟨n2_,n7_,n8_⟩:=bx3 (qx BK493.out) hb hg;have n4_:=Aside0.mk (hbox);clear HO499;clear HO507;clear BK493;clear HB;have HO499:=n0_;have HO507:=n1_;have BK493:=n2_;have HB:=n3_;have BK508:=n4_;have GW508:=n5_;have GE508:=n5_;have NB493_508:=n7_;have NB508_493:=n8_;clear n0_ n1_ n2_ n3_ n4_ n5_ n7_ n8_;clear hb hbox hg;have hnb22:=NB508_493.out;have hnc22:=NB493_508.out;obtain ⟨Z23_0,Z23_1,Z23_2,Y23_0,Y23_1,Y23_2⟩:=cel3 BK508.out;obtain ⟨Ao24,co24,eo24⟩:=Kd.R_slice HO507.out;subst eo24)|((with_reducible refine gate_callee (f:=27) rfl ?_);refine gl 27 27 Try.func27 #[.agg #[.string t503,.string t504,.slice Ao24 t505.length co24]] ?_;(with_reducible refine (impl_LintImage.calls k t503 t504 _ _ t505 t509 t510 t511 _ ?side1 ?side2 A10.out).mono ?_);(case side1=>refine (Kd.R_reads' (e:=54) (base:=w.heap.size) (ok:=fun k_=>(True∧some k_≠(.slice Ao17 t497.length co17:Value).ownBlock)) (n:=t505.length) (c:=co24) ?_).2.2;exact (by (with_reducible repeat (first|apply Kd.R_alloc|apply Kd.R_drewN|apply Kd.R_drew));exact (Kd.R_mono (Kd.R_far (p:=⟨gb508,2,none⟩) (Kd.R_far (p:=⟨gb508,1,none⟩) (Kd.R_far (p:=⟨gb508,0,none⟩) (Kd.R_types HO507.out BK508.out (by decide)) (fun _ hk=>hk.2) (.string t503)) (fun _ hk=>hk.2) (.string t504)) (fun _ hk=>hk.2) (.slice Ao24 t505.length co24)) (fun _ h_=>h_.1))));(case side2=>exact (Kd.R_reads' HO507.out).2.1);rintro e w25 ⟨rfl,hb⟩;refine ⟨_,rfl,?_⟩;have n0_:=Aside0.mk (Kd.R_below (by (with_reducible repeat (first|apply Kd.R_alloc|apply Kd.R_drewN|apply Kd.R_drew));exact (Kd.R_mono (Kd.R_far (p:=⟨gb508,2,none⟩) (Kd.R_far (p:=⟨gb508,1,none⟩) (Kd.R_far (p:=⟨gb508,0,none⟩) (Kd.R_types HO499.out BK508.out (by decide)) (fun _ hk=>hk.2) (.string t503)) (fun _ hk=>hk.2) (.string t504)) (fun _ hk=>hk.2) (.slice Ao24 t505.length co24)) (fun _ h_=>h_.1))) hb);have n1_:=Aside0.mk (Kd.R_below (by (with_reducible repeat (first|apply Kd.R_alloc|apply Kd.R_drewN|apply Kd.R_drew));exact (Kd.R_mono (Kd.R_far (p:=⟨gb508,2,none⟩) (Kd.R_far (p:=⟨gb508,1,none⟩) (Kd.R_far (p:=⟨gb508,0,none⟩) (Kd.R_types HO507.out BK508.out (by decide)) (fun _ hk=>hk.2) (.string t503)) (fun _ hk=>hk.2) (.string t504)) (fun _ hk=>hk.2) (.slice Ao24 t505.length co24)) (fun _ h_=>h_.1))) hb);have n2_:=Aside0.mk (blk_below (g:=gb493) (o:=.cells #[.string a0_0,.string a0_1,.slice A0_2 l0_2.length c0_2] 24 (0,0)) (by (with_reducible repeat first|apply Q1|apply Q2|apply Q3);refine blk_far ?_ NB493_508.out _;(with_reducible repeat first|apply Q1|apply Q2|apply Q3);refine blk_far ?_ NB493_508.out _;(with_reducible repeat first|apply Q1|apply Q2|apply Q3);refine blk_far ?_ NB493_508.out _;(with_reducible repeat first|apply Q1|apply Q2|apply Q3);exact BK493.out) hb);have n3_:=Aside0.mk (blk_below (g:=gb508) (o:=.cells #[.string t503,.string t504,.slice Ao24 t505.length co24] 30 (0,0)) (by (with_reducible repeat first|apply Q1|apply Q2|apply Q3);refine blk_put (cs:=#[.string t503,.string t504,.slice none 0 0]) ?_ 2 _ rfl;(with_reducible repeat first|apply Q1|apply Q2|apply Q3);refine blk_put (cs:=#[.string t503,.string (⟨#[]⟩:ByteArray),.slice none 0 0]) ?_ 1 _ rfl;(with_reducible repeat first|apply Q1|apply Q2|apply Q3);refine blk_put (cs:=#[.string (⟨#[]⟩:ByteArray),.string (⟨#[]⟩:ByteArray),.slice none 0 0]) ?_ 0 _ rfl;(with_reducible repeat first|apply Q1|apply Q2|apply Q3);exact BK508.out) hb);replace HB:=Aside0.mk (below_step (hb2 GE493.out GE508.out) hb);clear HO499;clear HO507;clear BK493;clear BK508;have HO499:=n0_;have HO507:=n1_;have BK493:=n2_;have BK508:=n3_;clear n0_ n1_ n2_ n3_;(try clear hb);(try clear hb2);(try clear hk);(try clear hi)))
 (try simp only [Act.put,List.setIfInBounds_toArray,List.set_cons_zero,List.set_cons_succ])
 go_cut [43] (fun v43 wc=>∃ (kq:Nat) (x43_10:Bool),v43=.bool x43_10∧Aside0 (laws_FnExactLintImage.j0 kq x43_10 a0_0 a0_1 l0_2 t503 t504 t505=some r)∧Aside0 (kq≤k)∧Aside0 (Kd.R k54 54 wc w.heap.size (fun _=>True) (.slice Ao24 t505.length co24) t505)∧Aside0 (wc.heap[gb493]?=some (.cells #[.string a0_0,.string a0_1,(.slice A0_2 l0_2.length c0_2)] 24 (0,0)))∧Aside0 (wc.heap[gb508]?=some (.cells #[.string t503,.string t504,(.slice Ao24 t505.length co24)] 30 (0,0)))∧Aside0 (Below w.heap.size w wc))
 case first=>
  have H:=HC11.out
  clear HC11
  by_cases c26:t509=t500
  ·rw [if_pos c26] at H
   obtain ⟨c26b0,c26b1⟩:=eqP c26
   clear c26
   (first|rw [c26b0]|(simp only [i64_w,i32_w];rw [c26b0])|skip)
   by_cases c27:t510=t501
   ·rw [if_pos c27] at H
    obtain ⟨c27b0,c27b1⟩:=eqP c27
    clear c27
    have H':=Aside0.mk H
    clear H
    go_wp2
    go_meet
    case rel=>exact ⟨_,((t511 != t502)),rs,H',⟨by first|omega|exact Nat.le_refl _⟩,⟨by (with_reducible repeat (first|apply Kd.R_alloc|apply Kd.R_drewN|apply Kd.R_drew));exact Kd.R_mono HO507.out (fun _ hk=>trivial)⟩,⟨qx BK493.out⟩,⟨qx BK508.out⟩,⟨hb2 GE493.out GE508.out⟩⟩
   rw [if_neg c27] at H
   obtain ⟨c27b0,c27b1⟩:=eqN c27
   have H':=Aside0.mk H
   clear H
   go_wp2
   go_meet
   case rel=>exact ⟨_,(true),rs,H',⟨by first|omega|exact Nat.le_refl _⟩,⟨by (with_reducible repeat (first|apply Kd.R_alloc|apply Kd.R_drewN|apply Kd.R_drew));exact Kd.R_mono HO507.out (fun _ hk=>trivial)⟩,⟨qx BK493.out⟩,⟨qx BK508.out⟩,⟨hb2 GE493.out GE508.out⟩⟩
  rw [if_neg c26] at H
  obtain ⟨c26b0,c26b1⟩:=eqN c26
  (first|rw [c26b0]|(simp only [i64_w,i32_w];rw [c26b0])|skip)
  have H':=Aside0.mk H
  clear H
  go_wp2
  go_meet
  case rel=>exact ⟨_,(true),rs,H',⟨by first|omega|exact Nat.le_refl _⟩,⟨by (with_reducible repeat (first|apply Kd.R_alloc|apply Kd.R_drewN|apply Kd.R_drew));exact Kd.R_mono HO507.out (fun _ hk=>trivial)⟩,⟨qx BK493.out⟩,⟨qx BK508.out⟩,⟨hb2 GE493.out GE508.out⟩⟩
 clear HC11
 try clear c3b0
 try clear Z13_0 Z13_1 Z13_2
 try clear Z15_0 Z15_1 Z15_2
 try clear Z19_0 Z19_1 Z19_2
 try clear Z23_0 Z23_1 Z23_2
 try clear Y13_0 Y13_1 Y13_2
 try clear Y15_0 Y15_1 Y15_2
 try clear Y19_0 Y19_1 Y19_2
 try clear Y23_0 Y23_1 Y23_2
 obtain ⟨kq,x43_10,rfl,HA,HJ10,HO_509002,BK493,BK508,HB⟩:=hcut
 cases kq with
 | zero=>exact absurd HA.out (by simp [laws_FnExactLintImage.j0])
 | succ kj10 =>
  have H:=HA.out
  clear HA
  simp only [laws_FnExactLintImage.j0] at H
  by_cases c28:x43_10=true
  ·subst c28
   rw [if_pos rfl] at H
   exact absurd ((Option.some.inj H).trans HT.out) (by decide)
  replace c28:=Bool.eq_false_iff.mpr c28
  subst c28
  rw [if_neg (show ¬ (false=true) by decide)] at H
  obtain ⟨⟨t512,t513,t514⟩,A29,H⟩:=bindA H
  try dsimp only at H
  obtain ⟨t517,A30,H⟩:=bindA H
  by_cases c31:t517=true
  ·subst c31
   rw [if_pos rfl] at H
   obtain rfl:=Option.some.inj H
   try go_wp2
   replace HO_509002:=Aside0.mk (Kd.R_drew HO_509002.out);replace BK493:=Aside0.mk (blk_drew BK493.out);replace BK508:=Aside0.mk (blk_drew BK508.out);replace HB:=Aside0.mk (below_drew1 HB.out)
   refine start_ (n:=5) (S:=fun w'=>w'.cell? ⟨gb508,0,none⟩=some (.string t503)∧w'.cell? ⟨gb508,1,none⟩=some (.string t504)∧w'.cell? ⟨gb508,2,none⟩=some (.slice Ao24 t505.length co24)∧w'.cell? ⟨gb493,0,none⟩=some (.string a0_0)∧w'.cell? ⟨gb493,1,none⟩=some (.string a0_1)∧w'.cell? ⟨gb493,2,none⟩=some (.slice A0_2 l0_2.length c0_2)) (ds:=[]) #[false,false,false,false,false] (by kernel_rfl) rfl rfl ⟨(blk_cell BK508.out 0).trans rfl,(blk_cell BK508.out 1).trans rfl,(blk_cell BK508.out 2).trans rfl,(blk_cell BK493.out 0).trans rfl,(blk_cell BK493.out 1).trans rfl,(blk_cell BK493.out 2).trans rfl⟩ (fun hHeld=>?_)
   generalize wc.drew=w32 at HO_509002 BK493 BK508 HB hHeld ⊢
   refine tk6 0 44 #[true,false,false,false,false] hHeld ?_
   refine tk6 1 45 #[true,true,false,false,false] hHeld ?_
   refine one_ (i:=2) (N:=some 46) #[true,true,true,false,false] rfl rfl (by kernel_rfl) (by decide) (fun K hK=>?_)
   refine goes_ Try.func13 (by kernel_rfl) rfl #[.agg #[.string a0_0,.string a0_1,.slice A0_2 l0_2.length c0_2]] (by rfl) rfl rfl (mp_ rfl) ?_
   with_reducible refine (laws_toImage.calls kj10 a0_0 a0_1 _ _ l0_2 t512 t513 t514 _ ?side1 ?side2 A29.out).mono ?_
   (case side1=>exact kc HR0_2.out)
   (case side2=>exact HC0_2.out)
   rintro e w33 ⟨v515,rfl,ho0,hb⟩
   refine ⟨_,rfl,?_⟩
   have n0_:=Aside0.mk (Kd.R_elder' (kr HO_509002.out) (Kd.R_base ho0) hb)
   have n1_:=Aside0.mk (Kd.R_lower (Kd.R_new' ho0 (Kd.R_lt (kr HO_509002.out))) (below_size (hb2 GE493.out GE508.out)))
   have n2_:=Aside0.mk (blk_below (qx BK493.out) hb)
   have n3_:=Aside0.mk (blk_below (qx BK508.out) hb)
   have n4_:=Aside0.mk (below_step (hb2 GE493.out GE508.out) hb)
   clear HO_509002
   clear BK493
   clear BK508
   clear HB
   have HO_509002:=n0_
   have HO516:=n1_
   have BK493:=n2_
   have BK508:=n3_
   have HB:=n4_
   clear n0_ n1_ n2_ n3_ n4_
   try clear hb hb2
   try clear hk
   try clear hi
   try clear ho0
   obtain ⟨Ao34,co34,eo34⟩:=Kd.R_slice HO516.out
   (first|subst eo34|(injection eo34 with f1_ f2_ f3_;have f4_:=f1_.symm;have f5_:=f3_.symm;clear f1_ f2_ f3_;subst f4_;subst f5_))
   refine hK.out _ _ ⟨(blk_cell BK508.out 0).trans rfl,(blk_cell BK508.out 1).trans rfl,(blk_cell BK508.out 2).trans rfl,(blk_cell BK493.out 0).trans rfl,(blk_cell BK493.out 1).trans rfl,(blk_cell BK493.out 2).trans rfl⟩ (fun hHeld=>?_)
   clear hK K
   refine norm_ (a':=?_) ?_ ?_
   rotate_left
   ·show Act.put _ (some 46) _=_
    simp only [Act.put,List.setIfInBounds_toArray,List.set_cons_zero,List.set_cons_succ,i64_w,i32_w]
    rfl
   refine one_ (i:=3) (N:=some 47) #[true,true,true,true,false] rfl rfl (by kernel_rfl) (by decide) (fun K hK=>?_)
   refine goes_ Try.func15 (by kernel_rfl) rfl #[.agg #[.string t503,.string t504,.slice Ao24 t505.length co24],.agg #[.string t512,.string t513,.slice Ao34 t514.length co34]] (by rfl) rfl rfl (mp_ rfl) ?_
   with_reducible refine (laws_eqImage.calls kj10 t503 t504 _ _ t505 t512 t513 _ _ t514 true _ ?side1 ?side2 ?side3 ?side4 A30.out).mono ?_
   (case side1=>repeat (first|exact (Kd.R_reads' HO_509002.out).2.2|(with_reducible refine Kd.C_alloc ?_ _)|(with_reducible refine Kd.C_drewN ?_ _)|(with_reducible refine Kd.C_drew ?_)))
   (case side2=>exact (Kd.R_reads' HO_509002.out).2.1)
   (case side3=>repeat (first|exact (Kd.R_reads' HO516.out).2.2|(with_reducible refine Kd.C_alloc ?_ _)|(with_reducible refine Kd.C_drewN ?_ _)|(with_reducible refine Kd.C_drew ?_)))
   (case side4=>exact (Kd.R_reads' HO516.out).2.1)
   rintro e w35 ⟨rfl,hb⟩
   refine ⟨_,rfl,?_⟩
   replace HO_509002:=Aside0.mk (Kd.R_below (kr HO_509002.out) hb);replace HO516:=Aside0.mk (Kd.R_below (kr HO516.out) hb);replace BK493:=Aside0.mk (blk_below (qx BK493.out) hb);replace BK508:=Aside0.mk (blk_below (qx BK508.out) hb);replace HB:=Aside0.mk (below_step (hb2 GE493.out GE508.out) hb)
   try clear hb
   refine hK.out _ _ ⟨(blk_cell BK508.out 0).trans rfl,(blk_cell BK508.out 1).trans rfl,(blk_cell BK508.out 2).trans rfl,(blk_cell BK493.out 0).trans rfl,(blk_cell BK493.out 1).trans rfl,(blk_cell BK493.out 2).trans rfl⟩ (fun hHeld=>?_)
   clear hK K
   refine norm_ (a':=?_) ?_ ?_
   rotate_left
   ·show Act.put _ (some 47) _=_
    simp only [Act.put,List.setIfInBounds_toArray,List.set_cons_zero,List.set_cons_succ,i64_w,i32_w]
    rfl
   refine pu 4 48 #[true,true,true,true,true] ?_
   refine done_ (by kernel_rfl) ?_
   try go_wp2
   go_ret
   exact ⟨rf,hb2 GE493.out GE508.out⟩
  replace c31:=Bool.eq_false_iff.mpr c31
  subst c31
  rw [if_neg (show ¬ (false=true) by decide)] at H
  exact absurd ((Option.some.inj H).trans HT.out) (by decide)
def laws_FnExactLintImage.Pure:Prop:=∀ (a0_0:ByteArray) (a0_1:ByteArray) (l0_2:List (S78)),a0_0.size≤maxLen→a0_1.size≤maxLen→l0_2.length≤maxLen→(∀ x∈l0_2,x.f0.size≤maxLen∧(Lit.int .i64 x.f1).wf=true∧(Lit.int .i64 x.f2).wf=true∧(Lit.int .i64 x.f3).wf=true∧(Lit.int .i64 x.f4).wf=true)→∃ k,laws_FnExactLintImage.f k a0_0 a0_1 l0_2=some true
theorem laws_FnExactLintImage.walk (P:laws_FnExactLintImage.Pure) (a0_0:ByteArray) (a0_1:ByteArray) (a0_2:Option Addr) (cap0_2:Nat) (l0_2:List (S78)) (w:World) (w0_0:a0_0.size≤maxLen) (w0_1:a0_1.size≤maxLen) (r0_2:Kd.C k78 w a0_2 l0_2.length l0_2) (c0_2:l0_2.length≤cap0_2) (m0_2:l0_2.length≤maxLen) (f0_2 : ∀ x∈l0_2,x.f0.size≤maxLen∧(Lit.int .i64 x.f1).wf=true∧(Lit.int .i64 x.f2).wf=true∧(Lit.int .i64 x.f3).wf=true∧(Lit.int .i64 x.f4).wf=true) :
    Calls Try.prog 7 #[.agg #[.string a0_0,.string a0_1,.slice a0_2 l0_2.length cap0_2]] w fun e w'=>e=.returned (.bool true)∧Below w.heap.size w w':=by
 obtain ⟨k,h⟩:=P a0_0 a0_1 l0_2 w0_0 w0_1 m0_2 f0_2
 refine (laws_FnExactLintImage.calls k a0_0 a0_1 _ _ l0_2 true rfl w r0_2 c0_2 h).mono ?_
 rintro e w' ⟨rfl,hd⟩
 exact ⟨rfl,hd⟩
end Go.Proofs.Ythepmdlpjdlajaa.PFnExactLintImage
