-- Written by a program for this claim.
import Derived.Test.YthepmdlpjdlajaaZFnExactLintImagea
import Derived.Test.YthepmdlpjdlajaaProg
import Derived.Below
import Derived.Deep.Draws
import Derived.Deep.AppendLies
import Derived.Maps.AppendAt
import Derived.OwnWalk
import Derived.Laws.BytesArg
import Derived.Laws.MakeOwn
import Derived.Laws.OwnMore
import Derived.Deep.OwnRows
import Derived.Tactics
import Derived.Lib.ConvBytes
import Derived.Laws.Slices
import Derived.WalkKit
import Derived.KernelRfl
import Derived.RowKit3
import Derived.Deep.LoopGhost
import Derived.Deep.QuietTactic
import Derived.BigQuiet
import Derived.WideLaws
import Derived.Deep.DeepCutAuto
import Derived.Deep.CutBlock
import Derived.Deep.RegionHeld3
import Derived.Laws.Rows
import Derived.Lib.AppendStr
import Derived.ArgAppend
import Derived.Laws.IdiomCopy
import Derived.OrdersHeld
import Derived.Laws.BitsLemmas
import Derived.StillTailTactics
import Derived.RowKit
import Derived.Test.YthepmdlpjdlajaaPFnExactLintImagex25
import Derived.Test.YthepmdlpjdlajaaPFnExactSymbolAtx30
import Derived.Test.YthepmdlpjdlajaaPFnExactSymbolAtx31
namespace Go.Proofs.Ythepmdlpjdlajaa.PFnExactLintImage
open Go.RowKit Go.Proofs.YthepmdlpjdlajaaW.PrintWords Go.Proofs.YthepmdlpjdlajaaW.PrintLast Go.Proofs.YthepmdlpjdlajaaW.PrintMore
attribute [local go_sem] max2_int min2_int max_two min_two max_three min_three max_four min_four   -- for this text's walks alone
set_option linter.unusedVariables false
set_option linter.unusedSimpArgs false
def laws_FnExactSymbolAt.j0:Nat→Bool→ByteArray→ByteArray→List (S78)→ByteArray→ByteArray→List (S54)→Option (Bool)
  | 0,_,_,_,_,_,_,_=>none
  | k+1,x47,x509000,x509001,x509002,x524000,x524001,x524002=>if x47=true then (some false) else ((laws_toImage.f k x509000 x509001 x509002).bind fun bt527=>((laws_eqImage.f k x524000 x524001 x524002 bt527.1 bt527.2.1 bt527.2.2).bind fun t532=>(if t532=true then (some true) else (some false))))
def laws_FnExactSymbolAt.f (k:Nat) (a0_0:ByteArray) (a0_1:ByteArray) (l0_2:List (S78)) (a1:Int):Option (Bool):=(laws_szImage.f k a0_0 a0_1 l0_2 1048576).bind fun t509=>(if t509 < 0 then (some true) else ((laws_toImage.f k a0_0 a0_1 l0_2).bind fun bt510=>((spec_SymbolAt.f k bt510.1 bt510.2.1 bt510.2.2 a1).bind fun bt515=>((laws_toImage.f k a0_0 a0_1 l0_2).bind fun bt518=>((impl_SymbolAt.f k bt518.1 bt518.2.1 bt518.2.2 a1).bind fun bt524=>(if bt524.1=bt515.1 then (if bt524.2.1=bt515.2.1 then (laws_FnExactSymbolAt.j0 k (bt524.2.2 != bt515.2.2) a0_0 a0_1 l0_2 bt518.1 bt518.2.1 bt518.2.2) else (laws_FnExactSymbolAt.j0 k true a0_0 a0_1 l0_2 bt518.1 bt518.2.1 bt518.2.2)) else (laws_FnExactSymbolAt.j0 k true a0_0 a0_1 l0_2 bt518.1 bt518.2.1 bt518.2.2)))))))
theorem laws_FnExactSymbolAt.mono_l : ∀ k,(∀ y0 y1 y2 y3 y4 y5 y6,LeO (laws_FnExactSymbolAt.j0 k y0 y1 y2 y3 y4 y5 y6) (laws_FnExactSymbolAt.j0 (k+1) y0 y1 y2 y3 y4 y5 y6))
  | 0=>fun _ _ _ _ _ _ _ r h=>by simp [laws_FnExactSymbolAt.j0] at h
  | k+1=>by
    have ih0:=laws_FnExactSymbolAt.mono_l k
    · intro y0 y1 y2 y3 y4 y5 y6
      unfold laws_FnExactSymbolAt.j0
      repeat' (with_reducible first|apply ih0|apply impl_SymbolAt.mono|apply laws_eqImage.mono|apply laws_szImage.mono|apply laws_toImage.mono|apply spec_SymbolAt.mono|apply LeO.refl|apply LeO.none|apply LeO.ite|refine LeO.bind ?_ (fun _=>?_))
theorem laws_FnExactSymbolAt.mono : ∀ a0 a1 a2 a3 k,LeO (laws_FnExactSymbolAt.f k a0 a1 a2 a3) (laws_FnExactSymbolAt.f (k+1) a0 a1 a2 a3):=by
 intro a0 a1 a2 a3 k
 have ih0:=laws_FnExactSymbolAt.mono_l k
 unfold laws_FnExactSymbolAt.f
 repeat' (with_reducible first|apply ih0|apply impl_SymbolAt.mono|apply laws_eqImage.mono|apply laws_szImage.mono|apply laws_toImage.mono|apply spec_SymbolAt.mono|apply LeO.refl|apply LeO.none|apply LeO.ite|refine LeO.bind ?_ (fun _=>?_))
set_option maxHeartbeats 8000000 in
set_option maxRecDepth 100000 in
theorem laws_FnExactSymbolAt.calls (k:Nat) (a0_0:ByteArray) (a0_1:ByteArray) (A0_2:Option Addr) (c0_2:Nat) (l0_2:List (S78)) (a1:Int) (r:Bool) (hT:r=true) (w:World) (hr0_2:Kd.C k78 w A0_2 l0_2.length l0_2) (hc0_2:l0_2.length≤c0_2) (h:laws_FnExactSymbolAt.f k a0_0 a0_1 l0_2 a1=some r) :
    Calls Try.prog 10 #[.agg #[.string a0_0,.string a0_1,.slice A0_2 l0_2.length c0_2],.int .i64 a1] w fun e w'=>e=.returned (.bool r)∧Below w.heap.size w w':=by
 have HT:=Aside0.mk hT
 clear hT
 have hu24:=Try.underlying24
 have hu30:=Try.underlying30
 have HR0_2:=Aside0.mk hr0_2
 have HC0_2:=Aside0.mk hc0_2
 clear hr0_2 hc0_2
 have HB:=Aside0.mk (Below.refl w.heap.size w)
 have H:((laws_szImage.f k a0_0 a0_1 l0_2 1048576).bind fun t509=>(if t509 < 0 then (some true) else ((laws_toImage.f k a0_0 a0_1 l0_2).bind fun bt510=>((spec_SymbolAt.f k bt510.1 bt510.2.1 bt510.2.2 a1).bind fun bt515=>((laws_toImage.f k a0_0 a0_1 l0_2).bind fun bt518=>((impl_SymbolAt.f k bt518.1 bt518.2.1 bt518.2.2 a1).bind fun bt524=>(if bt524.1=bt515.1 then (if bt524.2.1=bt515.2.1 then (laws_FnExactSymbolAt.j0 k (bt524.2.2 != bt515.2.2) a0_0 a0_1 l0_2 bt518.1 bt518.2.1 bt518.2.2) else (laws_FnExactSymbolAt.j0 k true a0_0 a0_1 l0_2 bt518.1 bt518.2.1 bt518.2.2)) else (laws_FnExactSymbolAt.j0 k true a0_0 a0_1 l0_2 bt518.1 bt518.2.1 bt518.2.2))))))))=some r:=h
 clear h
 obtain ⟨t509,A3,H⟩:=bindA H
 by_cases c4:t509 < 0
 ·rw [if_pos c4] at H
  have c4b0:decide (t509 < 0)=true:=decide_eq_true c4
  clear c4
  obtain rfl:=Option.some.inj H
  go_enter Try.func10,Try.ntmps10
  go_wp2_with (first|(refine bv 2 #[.string a0_0,.string a0_1,.slice A0_2 l0_2.length c0_2] 24 ?_;intro gb508 hg w5 hbox hb;obtain ⟨n0_,n2_⟩:=bx0 hbx hb hg;have n1_:=Aside0.mk (hbox);clear HB;have HB:=n0_;have BK508:=n1_;have GW508:=n2_;have GE508:=n2_;clear n0_ n1_ n2_;clear hb hbox hg;obtain ⟨Z6_0,Z6_1,Z6_2,Y6_0,Y6_1,Y6_2⟩:=cel3 BK508.out)|(refine gl 11 15 Try.func11 #[.agg #[.string a0_0,.string a0_1,.slice A0_2 l0_2.length c0_2],.int .i64 1048576] ?_;(with_reducible refine (laws_szImage.calls k a0_0 a0_1 _ _ l0_2 1048576 t509 _ ?side1 ?side2 A3.out).mono ?_);(case side1=>exact kc HR0_2.out);(case side2=>exact HC0_2.out);rintro e w7 ⟨rfl,hb⟩;refine ⟨_,rfl,?_⟩;have n0_:=Aside0.mk (blk_below (qx BK508.out) hb);replace HB:=Aside0.mk (below_step (hb1 GE508.out) hb);clear BK508;have BK508:=n0_;clear n0_;(try clear hb);(try clear hb2);(try clear hk);(try clear hi)))
  go_ret
  exact ⟨rf,hb1 GE508.out⟩
 rw [if_neg c4] at H
 have c4b0:decide (t509 < 0)=false:=decide_eq_false c4
 clear c4
 obtain ⟨⟨t510,t511,t512⟩,A8,H⟩:=bindA H
 try dsimp only at H
 obtain ⟨⟨t515,t516,t517⟩,A9,H⟩:=bindA H
 try dsimp only at H
 obtain ⟨⟨t518,t519,t520⟩,A10,H⟩:=bindA H
 try dsimp only at H
 obtain ⟨⟨t524,t525,t526⟩,A11,H⟩:=bindA H
 try dsimp only at H
 have HC12:=Aside0.mk H
 clear H
 go_enter Try.func10,Try.ntmps10
 go_upto_region 8 with (first|(refine bv 2 #[.string a0_0,.string a0_1,.slice A0_2 l0_2.length c0_2] 24 ?_;intro gb508 hg w13 hbox hb;obtain ⟨n0_,n2_⟩:=bx0 hbx hb hg;have n1_:=Aside0.mk (hbox);clear HB;have HB:=n0_;have BK508:=n1_;have GW508:=n2_;have GE508:=n2_;clear n0_ n1_ n2_;clear hb hbox hg;obtain ⟨Z14_0,Z14_1,Z14_2,Y14_0,Y14_1,Y14_2⟩:=cel3 BK508.out)|((with_reducible refine gate_callee (f:=11) rfl ?_);refine gl 11 15 Try.func11 #[.agg #[.string a0_0,.string a0_1,.slice A0_2 l0_2.length c0_2],.int .i64 1048576] ?_;(with_reducible refine (laws_szImage.calls k a0_0 a0_1 _ _ l0_2 1048576 t509 _ ?side1 ?side2 A3.out).mono ?_);(case side1=>exact kc HR0_2.out);(case side2=>exact HC0_2.out);rintro e w15 ⟨rfl,hb⟩;refine ⟨_,rfl,?_⟩;have n0_:=Aside0.mk (blk_below (qx BK508.out) hb);replace HB:=Aside0.mk (below_step (hb1 GE508.out) hb);clear BK508;have BK508:=n0_;clear n0_;(try clear hb);(try clear hb2);(try clear hk);(try clear hi);obtain ⟨Z16_0,Z16_1,Z16_2,Y16_0,Y16_1,Y16_2⟩:=cel3 BK508.out)|((with_reducible refine gate_callee (f:=13) rfl ?_);refine gl 13 20 Try.func13 #[.agg #[.string a0_0,.string a0_1,.slice A0_2 l0_2.length c0_2]] ?_;(with_reducible refine (laws_toImage.calls k a0_0 a0_1 _ _ l0_2 t510 t511 t512 _ ?side1 ?side2 A8.out).mono ?_);(case side1=>exact kc HR0_2.out);(case side2=>exact HC0_2.out);rintro e w17 ⟨v513,rfl,ho0,hb⟩;refine ⟨_,rfl,?_⟩;have n0_:=Aside0.mk (Kd.R_lower ho0 (below_size (hb1 GE508.out)));have n1_:=Aside0.mk (blk_below (qx BK508.out) hb);replace HB:=Aside0.mk (below_step (hb1 GE508.out) hb);clear BK508;have HO514:=n0_;have BK508:=n1_;clear n0_ n1_;(try clear hb);(try clear hb2);(try clear hk);(try clear hi);(try clear ho0);obtain ⟨Ao18,co18,eo18⟩:=Kd.R_slice HO514.out;subst eo18)|((with_reducible refine gate_callee (f:=32) rfl ?_);refine gl 32 22 Try.func32 #[.agg #[.string t510,.string t511,.slice Ao18 t512.length co18],.int .i64 a1] ?_;(with_reducible refine (spec_SymbolAt.calls k t510 t511 _ _ t512 a1 t515 t516 t517 _ ?side1 ?side2 A9.out).mono ?_);(case side1=>repeat (first|exact (Kd.R_reads' HO514.out).2.2|(with_reducible refine Kd.C_alloc ?_ _)|(with_reducible refine Kd.C_drewN ?_ _)|(with_reducible refine Kd.C_drew ?_)));(case side2=>exact (Kd.R_reads' HO514.out).2.1);rintro e w19 ⟨rfl,hb⟩;refine ⟨_,rfl,?_⟩;have n0_:=Aside0.mk (Kd.R_below (kr HO514.out) hb);have n1_:=Aside0.mk (blk_below (qx BK508.out) hb);replace HB:=Aside0.mk (below_step (hb1 GE508.out) hb);clear HO514;clear BK508;have HO514:=n0_;have BK508:=n1_;clear n0_ n1_;(try clear hb);(try clear hb2);(try clear hk);(try clear hi);obtain ⟨Z20_0,Z20_1,Z20_2,Y20_0,Y20_1,Y20_2⟩:=cel3 BK508.out)|((with_reducible refine gate_callee (f:=13) rfl ?_);refine gl 13 27 Try.func13 #[.agg #[.string a0_0,.string a0_1,.slice A0_2 l0_2.length c0_2]] ?_;(with_reducible refine (laws_toImage.calls k a0_0 a0_1 _ _ l0_2 t518 t519 t520 _ ?side1 ?side2 A10.out).mono ?_);(case side1=>exact kc HR0_2.out);(case side2=>exact HC0_2.out);rintro e w21 ⟨v521,rfl,ho0,hb⟩;refine ⟨_,rfl,?_⟩;have n0_:=Aside0.mk (Kd.R_elder' (kr HO514.out) (Kd.R_base ho0) hb);have n1_:=Aside0.mk (Kd.R_lower (Kd.R_new' ho0 (Kd.R_lt (kr HO514.out))) (below_size (hb1 GE508.out)));have n2_:=Aside0.mk (blk_below (qx BK508.out) hb);replace HB:=Aside0.mk (below_step (hb1 GE508.out) hb);clear HO514;clear BK508;have HO514:=n0_;have HO522:=n1_;have BK508:=n2_;clear n0_ n1_ n2_;(try clear hb);(try clear hb2);(try clear hk);(try clear hi);(try clear ho0))|(refine bv 9 #[.string (⟨#[]⟩:ByteArray),.string (⟨#[]⟩:ByteArray),.slice none 0 0] 30 ?_;intro gb523 hg w22 hbox hb;obtain ⟨n3_,n5_⟩:=bx0 (hb1 GE508.out) hb hg;have n0_:=Aside0.mk (Kd.R_below (kr HO514.out) hb);have n1_:=Aside0.mk (Kd.R_below (kr HO522.out) hb);obtain ⟨n2_,n7_,n8_⟩:=bx3 (qx BK508.out) hb hg;have n4_:=Aside0.mk (hbox);clear HO514;clear HO522;clear BK508;clear HB;have HO514:=n0_;have HO522:=n1_;have BK508:=n2_;have HB:=n3_;have BK523:=n4_;have GW523:=n5_;have GE523:=n5_;have NB508_523:=n7_;have NB523_508:=n8_;clear n0_ n1_ n2_ n3_ n4_ n5_ n7_ n8_;clear hb hbox hg;have hnb23:=NB523_508.out;have hnc23:=NB508_523.out;obtain ⟨Z24_0,Z24_1,Z24_2,Y24_0,Y24_1,Y24_2⟩:=cel3 BK523.out;obtain ⟨Ao25,co25,eo25⟩:=Kd.R_slice HO522.out;subst eo25)|((with_reducible refine gate_callee (f:=33) rfl ?_);refine gl 33 31 Try.func33 #[.agg #[.string t518,.string t519,.slice Ao25 t520.length co25],.int .i64 a1] ?_;(with_reducible refine (impl_SymbolAt.calls k t518 t519 _ _ t520 a1 t524 t525 t526 _ ?side1 ?side2 A11.out).mono ?_);(case side1=>refine (Kd.R_reads' (e:=54) (base:=w.heap.size) (ok:=fun k_=>(True∧some k_≠(.slice Ao18 t512.length co18:Value).ownBlock)) (n:=t520.length) (c:=co25) ?_).2.2;exact (by (with_reducible repeat (first|apply Kd.R_alloc|apply Kd.R_drewN|apply Kd.R_drew));exact (Kd.R_mono (Kd.R_far (p:=⟨gb523,2,none⟩) (Kd.R_far (p:=⟨gb523,1,none⟩) (Kd.R_far (p:=⟨gb523,0,none⟩) (Kd.R_types HO522.out BK523.out (by decide)) (fun _ hk=>hk.2) (.string t518)) (fun _ hk=>hk.2) (.string t519)) (fun _ hk=>hk.2) (.slice Ao25 t520.length co25)) (fun _ h_=>h_.1))));(case side2=>exact (Kd.R_reads' HO522.out).2.1);rintro e w26 ⟨rfl,hb⟩;refine ⟨_,rfl,?_⟩;have n0_:=Aside0.mk (Kd.R_below (by (with_reducible repeat (first|apply Kd.R_alloc|apply Kd.R_drewN|apply Kd.R_drew));exact (Kd.R_mono (Kd.R_far (p:=⟨gb523,2,none⟩) (Kd.R_far (p:=⟨gb523,1,none⟩) (Kd.R_far (p:=⟨gb523,0,none⟩) (Kd.R_types HO514.out BK523.out (by decide)) (fun _ hk=>hk.2) (.string t518)) (fun _ hk=>hk.2) (.string t519)) (fun _ hk=>hk.2) (.slice Ao25 t520.length co25)) (fun _ h_=>h_.1))) hb);have n1_:=Aside0.mk (Kd.R_below (by (with_reducible repeat (first|apply Kd.R_alloc|apply Kd.R_drewN|apply Kd.R_drew));exact (Kd.R_mono (Kd.R_far (p:=⟨gb523,2,none⟩) (Kd.R_far (p:=⟨gb523,1,none⟩) (Kd.R_far (p:=⟨gb523,0,none⟩) (Kd.R_types HO522.out BK523.out (by decide)) (fun _ hk=>hk.2) (.string t518)) (fun _ hk=>hk.2) (.string t519)) (fun _ hk=>hk.2) (.slice Ao25 t520.length co25)) (fun _ h_=>h_.1))) hb);have n2_:=Aside0.mk (blk_below (g:=gb508) (o:=.cells #[.string a0_0,.string a0_1,.slice A0_2 l0_2.length c0_2] 24 (0,0)) (by (with_reducible repeat first|apply Q1|apply Q2|apply Q3);refine blk_far ?_ NB508_523.out _;(with_reducible repeat first|apply Q1|apply Q2|apply Q3);refine blk_far ?_ NB508_523.out _;(with_reducible repeat first|apply Q1|apply Q2|apply Q3);refine blk_far ?_ NB508_523.out _;(with_reducible repeat first|apply Q1|apply Q2|apply Q3);exact BK508.out) hb);have n3_:=Aside0.mk (blk_below (g:=gb523) (o:=.cells #[.string t518,.string t519,.slice Ao25 t520.length co25] 30 (0,0)) (by (with_reducible repeat first|apply Q1|apply Q2|apply Q3);refine blk_put (cs:=#[.string t518,.string t519,.slice none 0 0]) ?_ 2 _ rfl;(with_reducible repeat first|apply Q1|apply Q2|apply Q3);refine blk_put (cs:=#[.string t518,.string (⟨#[]⟩:ByteArray),.slice none 0 0]) ?_ 1 _ rfl;(with_reducible repeat first|apply Q1|apply Q2|apply Q3);refine blk_put (cs:=#[.string (⟨#[]⟩:ByteArray),.string (⟨#[]⟩:ByteArray),.slice none 0 0]) ?_ 0 _ rfl;(with_reducible repeat first|apply Q1|apply Q2|apply Q3);exact BK523.out) hb);replace HB:=Aside0.mk (below_step (hb2 GE508.out GE523.out) hb);clear HO514;clear HO522;clear BK508;clear BK523;have HO514:=n0_;have HO522:=n1_;have BK508:=n2_;have BK523:=n3_;clear n0_ n1_ n2_ n3_;(try clear hb);(try clear hb2);(try clear hk);(try clear hi)))
 (try simp only [Act.put,List.setIfInBounds_toArray,List.set_cons_zero,List.set_cons_succ])
 go_cut [47] (fun v47 wc=>∃ (kq:Nat) (x47_11:Bool),v47=.bool x47_11∧Aside0 (laws_FnExactSymbolAt.j0 kq x47_11 a0_0 a0_1 l0_2 t518 t519 t520=some r)∧Aside0 (kq≤k)∧Aside0 (Kd.R k54 54 wc w.heap.size (fun _=>True) (.slice Ao25 t520.length co25) t520)∧Aside0 (wc.heap[gb508]?=some (.cells #[.string a0_0,.string a0_1,(.slice A0_2 l0_2.length c0_2)] 24 (0,0)))∧Aside0 (wc.heap[gb523]?=some (.cells #[.string t518,.string t519,(.slice Ao25 t520.length co25)] 30 (0,0)))∧Aside0 (Below w.heap.size w wc))
 case first=>
  have H:=HC12.out
  clear HC12
  by_cases c27:t524=t515
  ·rw [if_pos c27] at H
   obtain ⟨c27b0,c27b1⟩:=eqP c27
   clear c27
   (first|rw [c27b0]|(simp only [i64_w,i32_w];rw [c27b0])|skip)
   by_cases c28:t525=t516
   ·rw [if_pos c28] at H
    obtain ⟨c28b0,c28b1⟩:=eqP c28
    clear c28
    have H':=Aside0.mk H
    clear H
    go_wp2
    go_meet
    case rel=>exact ⟨_,((t526 != t517)),rs,H',⟨by first|omega|exact Nat.le_refl _⟩,⟨by (with_reducible repeat (first|apply Kd.R_alloc|apply Kd.R_drewN|apply Kd.R_drew));exact Kd.R_mono HO522.out (fun _ hk=>trivial)⟩,⟨qx BK508.out⟩,⟨qx BK523.out⟩,⟨hb2 GE508.out GE523.out⟩⟩
   rw [if_neg c28] at H
   obtain ⟨c28b0,c28b1⟩:=eqN c28
   have H':=Aside0.mk H
   clear H
   go_wp2
   go_meet
   case rel=>exact ⟨_,(true),rs,H',⟨by first|omega|exact Nat.le_refl _⟩,⟨by (with_reducible repeat (first|apply Kd.R_alloc|apply Kd.R_drewN|apply Kd.R_drew));exact Kd.R_mono HO522.out (fun _ hk=>trivial)⟩,⟨qx BK508.out⟩,⟨qx BK523.out⟩,⟨hb2 GE508.out GE523.out⟩⟩
  rw [if_neg c27] at H
  obtain ⟨c27b0,c27b1⟩:=eqN c27
  (first|rw [c27b0]|(simp only [i64_w,i32_w];rw [c27b0])|skip)
  have H':=Aside0.mk H
  clear H
  go_wp2
  go_meet
  case rel=>exact ⟨_,(true),rs,H',⟨by first|omega|exact Nat.le_refl _⟩,⟨by (with_reducible repeat (first|apply Kd.R_alloc|apply Kd.R_drewN|apply Kd.R_drew));exact Kd.R_mono HO522.out (fun _ hk=>trivial)⟩,⟨qx BK508.out⟩,⟨qx BK523.out⟩,⟨hb2 GE508.out GE523.out⟩⟩
 clear HC12
 try clear c4b0
 try clear Z14_0 Z14_1 Z14_2
 try clear Z16_0 Z16_1 Z16_2
 try clear Z20_0 Z20_1 Z20_2
 try clear Z24_0 Z24_1 Z24_2
 try clear Y14_0 Y14_1 Y14_2
 try clear Y16_0 Y16_1 Y16_2
 try clear Y20_0 Y20_1 Y20_2
 try clear Y24_0 Y24_1 Y24_2
 obtain ⟨kq,x47_11,rfl,HA,HJ11,HO_524002,BK508,BK523,HB⟩:=hcut
 cases kq with
 | zero=>exact absurd HA.out (by simp [laws_FnExactSymbolAt.j0])
 | succ kj11 =>
  have H:=HA.out
  clear HA
  simp only [laws_FnExactSymbolAt.j0] at H
  by_cases c29:x47_11=true
  ·subst c29
   rw [if_pos rfl] at H
   exact absurd ((Option.some.inj H).trans HT.out) (by decide)
  replace c29:=Bool.eq_false_iff.mpr c29
  subst c29
  rw [if_neg (show ¬ (false=true) by decide)] at H
  obtain ⟨⟨t527,t528,t529⟩,A30,H⟩:=bindA H
  try dsimp only at H
  obtain ⟨t532,A31,H⟩:=bindA H
  by_cases c32:t532=true
  ·subst c32
   rw [if_pos rfl] at H
   obtain rfl:=Option.some.inj H
   try go_wp2
   replace HO_524002:=Aside0.mk (Kd.R_drew HO_524002.out);replace BK508:=Aside0.mk (blk_drew BK508.out);replace BK523:=Aside0.mk (blk_drew BK523.out);replace HB:=Aside0.mk (below_drew1 HB.out)
   refine start_ (n:=5) (S:=fun w'=>w'.cell? ⟨gb523,0,none⟩=some (.string t518)∧w'.cell? ⟨gb523,1,none⟩=some (.string t519)∧w'.cell? ⟨gb523,2,none⟩=some (.slice Ao25 t520.length co25)∧w'.cell? ⟨gb508,0,none⟩=some (.string a0_0)∧w'.cell? ⟨gb508,1,none⟩=some (.string a0_1)∧w'.cell? ⟨gb508,2,none⟩=some (.slice A0_2 l0_2.length c0_2)) (ds:=[]) #[false,false,false,false,false] (by kernel_rfl) rfl rfl ⟨(blk_cell BK523.out 0).trans rfl,(blk_cell BK523.out 1).trans rfl,(blk_cell BK523.out 2).trans rfl,(blk_cell BK508.out 0).trans rfl,(blk_cell BK508.out 1).trans rfl,(blk_cell BK508.out 2).trans rfl⟩ (fun hHeld=>?_)
   generalize wc.drew=w33 at HO_524002 BK508 BK523 HB hHeld ⊢
   refine tk6 0 48 #[true,false,false,false,false] hHeld ?_
   refine tk6 1 49 #[true,true,false,false,false] hHeld ?_
   refine one_ (i:=2) (N:=some 50) #[true,true,true,false,false] rfl rfl (by kernel_rfl) (by decide) (fun K hK=>?_)
   refine goes_ Try.func13 (by kernel_rfl) rfl #[.agg #[.string a0_0,.string a0_1,.slice A0_2 l0_2.length c0_2]] (by rfl) rfl rfl (mp_ rfl) ?_
   with_reducible refine (laws_toImage.calls kj11 a0_0 a0_1 _ _ l0_2 t527 t528 t529 _ ?side1 ?side2 A30.out).mono ?_
   (case side1=>exact kc HR0_2.out)
   (case side2=>exact HC0_2.out)
   rintro e w34 ⟨v530,rfl,ho0,hb⟩
   refine ⟨_,rfl,?_⟩
   have n0_:=Aside0.mk (Kd.R_elder' (kr HO_524002.out) (Kd.R_base ho0) hb)
   have n1_:=Aside0.mk (Kd.R_lower (Kd.R_new' ho0 (Kd.R_lt (kr HO_524002.out))) (below_size (hb2 GE508.out GE523.out)))
   have n2_:=Aside0.mk (blk_below (qx BK508.out) hb)
   have n3_:=Aside0.mk (blk_below (qx BK523.out) hb)
   have n4_:=Aside0.mk (below_step (hb2 GE508.out GE523.out) hb)
   clear HO_524002
   clear BK508
   clear BK523
   clear HB
   have HO_524002:=n0_
   have HO531:=n1_
   have BK508:=n2_
   have BK523:=n3_
   have HB:=n4_
   clear n0_ n1_ n2_ n3_ n4_
   try clear hb hb2
   try clear hk
   try clear hi
   try clear ho0
   obtain ⟨Ao35,co35,eo35⟩:=Kd.R_slice HO531.out
   (first|subst eo35|(injection eo35 with f1_ f2_ f3_;have f4_:=f1_.symm;have f5_:=f3_.symm;clear f1_ f2_ f3_;subst f4_;subst f5_))
   refine hK.out _ _ ⟨(blk_cell BK523.out 0).trans rfl,(blk_cell BK523.out 1).trans rfl,(blk_cell BK523.out 2).trans rfl,(blk_cell BK508.out 0).trans rfl,(blk_cell BK508.out 1).trans rfl,(blk_cell BK508.out 2).trans rfl⟩ (fun hHeld=>?_)
   clear hK K
   refine norm_ (a':=?_) ?_ ?_
   rotate_left
   ·show Act.put _ (some 50) _=_
    simp only [Act.put,List.setIfInBounds_toArray,List.set_cons_zero,List.set_cons_succ,i64_w,i32_w]
    rfl
   refine one_ (i:=3) (N:=some 51) #[true,true,true,true,false] rfl rfl (by kernel_rfl) (by decide) (fun K hK=>?_)
   refine goes_ Try.func15 (by kernel_rfl) rfl #[.agg #[.string t518,.string t519,.slice Ao25 t520.length co25],.agg #[.string t527,.string t528,.slice Ao35 t529.length co35]] (by rfl) rfl rfl (mp_ rfl) ?_
   with_reducible refine (laws_eqImage.calls kj11 t518 t519 _ _ t520 t527 t528 _ _ t529 true _ ?side1 ?side2 ?side3 ?side4 A31.out).mono ?_
   (case side1=>repeat (first|exact (Kd.R_reads' HO_524002.out).2.2|(with_reducible refine Kd.C_alloc ?_ _)|(with_reducible refine Kd.C_drewN ?_ _)|(with_reducible refine Kd.C_drew ?_)))
   (case side2=>exact (Kd.R_reads' HO_524002.out).2.1)
   (case side3=>repeat (first|exact (Kd.R_reads' HO531.out).2.2|(with_reducible refine Kd.C_alloc ?_ _)|(with_reducible refine Kd.C_drewN ?_ _)|(with_reducible refine Kd.C_drew ?_)))
   (case side4=>exact (Kd.R_reads' HO531.out).2.1)
   rintro e w36 ⟨rfl,hb⟩
   refine ⟨_,rfl,?_⟩
   replace HO_524002:=Aside0.mk (Kd.R_below (kr HO_524002.out) hb);replace HO531:=Aside0.mk (Kd.R_below (kr HO531.out) hb);replace BK508:=Aside0.mk (blk_below (qx BK508.out) hb);replace BK523:=Aside0.mk (blk_below (qx BK523.out) hb);replace HB:=Aside0.mk (below_step (hb2 GE508.out GE523.out) hb)
   try clear hb
   refine hK.out _ _ ⟨(blk_cell BK523.out 0).trans rfl,(blk_cell BK523.out 1).trans rfl,(blk_cell BK523.out 2).trans rfl,(blk_cell BK508.out 0).trans rfl,(blk_cell BK508.out 1).trans rfl,(blk_cell BK508.out 2).trans rfl⟩ (fun hHeld=>?_)
   clear hK K
   refine norm_ (a':=?_) ?_ ?_
   rotate_left
   ·show Act.put _ (some 51) _=_
    simp only [Act.put,List.setIfInBounds_toArray,List.set_cons_zero,List.set_cons_succ,i64_w,i32_w]
    rfl
   refine pu 4 52 #[true,true,true,true,true] ?_
   refine done_ (by kernel_rfl) ?_
   try go_wp2
   go_ret
   exact ⟨rf,hb2 GE508.out GE523.out⟩
  replace c32:=Bool.eq_false_iff.mpr c32
  subst c32
  rw [if_neg (show ¬ (false=true) by decide)] at H
  exact absurd ((Option.some.inj H).trans HT.out) (by decide)
def laws_FnExactSymbolAt.Pure:Prop:=∀ (a0_0:ByteArray) (a0_1:ByteArray) (l0_2:List (S78)) (a1:Int),a0_0.size≤maxLen→a0_1.size≤maxLen→l0_2.length≤maxLen→(∀ x∈l0_2,x.f0.size≤maxLen∧(Lit.int .i64 x.f1).wf=true∧(Lit.int .i64 x.f2).wf=true∧(Lit.int .i64 x.f3).wf=true∧(Lit.int .i64 x.f4).wf=true)→(Lit.int .i64 a1).wf=true→∃ k,laws_FnExactSymbolAt.f k a0_0 a0_1 l0_2 a1=some true
theorem laws_FnExactSymbolAt.walk (P:laws_FnExactSymbolAt.Pure) (a0_0:ByteArray) (a0_1:ByteArray) (a0_2:Option Addr) (cap0_2:Nat) (l0_2:List (S78)) (a1:Int) (w:World) (w0_0:a0_0.size≤maxLen) (w0_1:a0_1.size≤maxLen) (r0_2:Kd.C k78 w a0_2 l0_2.length l0_2) (c0_2:l0_2.length≤cap0_2) (m0_2:l0_2.length≤maxLen) (f0_2 : ∀ x∈l0_2,x.f0.size≤maxLen∧(Lit.int .i64 x.f1).wf=true∧(Lit.int .i64 x.f2).wf=true∧(Lit.int .i64 x.f3).wf=true∧(Lit.int .i64 x.f4).wf=true) (w1:(Lit.int .i64 a1).wf=true) :
    Calls Try.prog 10 #[.agg #[.string a0_0,.string a0_1,.slice a0_2 l0_2.length cap0_2],.int .i64 a1] w fun e w'=>e=.returned (.bool true)∧Below w.heap.size w w':=by
 obtain ⟨k,h⟩:=P a0_0 a0_1 l0_2 a1 w0_0 w0_1 m0_2 f0_2 w1
 refine (laws_FnExactSymbolAt.calls k a0_0 a0_1 _ _ l0_2 a1 true rfl w r0_2 c0_2 h).mono ?_
 rintro e w' ⟨rfl,hd⟩
 exact ⟨rfl,hd⟩
end Go.Proofs.Ythepmdlpjdlajaa.PFnExactLintImage
