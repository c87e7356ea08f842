-- Written by a program for this claim.
import Derived.Test.YthepmdlpjdlajaaPFnExactLintImagex0
import Derived.Test.YthepmdlpjdlajaaPFnExactLintImagex3
import Derived.Test.YthepmdlpjdlajaaPFnExactLintImagex4
import Derived.Test.YthepmdlpjdlajaaPFnExactLintImagex5
import Derived.Test.YthepmdlpjdlajaaPFnExactLintImagex7
namespace Go.Proofs.Ythepmdlpjdlajaa.PFnExactLintImage
open Go.RowKit Go.Proofs.YthepmdlpjdlajaaW.PrintWords Go.Proofs.YthepmdlpjdlajaaW.PrintLast Go.Proofs.YthepmdlpjdlajaaW.PrintMore
attribute [local go_sem] max2_int min2_int max_two min_two max_three min_three max_four min_four   -- for this text's walks alone
set_option linter.unusedVariables false
set_option linter.unusedSimpArgs false
mutual
def spec_l02Decode.l0:Nat→Int→Int→Option (Int × Int × Int × Int × Int × Bool)
  | 0,_,_=>none
  | k+1,x0,x4=>if x4≤64 then ((spec_l02Shape.f x4).bind fun bt220=>(if bt220.2.1=(Int.tmod x0 128) then ((spec_l01In.f bt220.1 3 8).bind fun t225=>(if t225=true then (spec_l02Decode.j1 k x0 x4 (bt220.2.2.1 != (Int.tmod (wrap64 (Int.tdiv x0 4096)) 8))) else (spec_l02Decode.j1 k x0 x4 false))) else (spec_l02Decode.j1 k x0 x4 true))) else (some (0,0,0,0,0,false))
def spec_l02Decode.j1:Nat→Int→Int→Bool→Option (Int × Int × Int × Int × Int × Bool)
  | 0,_,_,_=>none
  | k+1,x0,x4,x30=>if x30=true then (spec_l02Decode.l0 k x0 (wrap64 (x4+1))) else ((spec_l02Taken.f k x4 x0).bind fun bt226=>((spec_l02Right.f k bt226.1 bt226.2.1 bt226.2.2.1 bt226.2.2.2.1 bt226.2.2.2.2).bind fun t232=>(if t232=true then ((spec_l02Encode.f k bt226.1 bt226.2.1 bt226.2.2.1 bt226.2.2.2.1 bt226.2.2.2.2).bind fun t233=>(if t233=x0 then (some (bt226.1,bt226.2.1,bt226.2.2.1,bt226.2.2.2.1,bt226.2.2.2.2,true)) else (spec_l02Decode.l0 k x0 (wrap64 (x4+1))))) else (spec_l02Decode.l0 k x0 (wrap64 (x4+1))))))
end
def spec_l02Decode.f (k:Nat) (a0:Int):Option (Int × Int × Int × Int × Int × Bool):=spec_l02Decode.l0 k a0 1
theorem spec_l02Decode.mono_l : ∀ k,(∀ y0 y1,LeO (spec_l02Decode.l0 k y0 y1) (spec_l02Decode.l0 (k+1) y0 y1))∧(∀ y0 y1 y2,LeO (spec_l02Decode.j1 k y0 y1 y2) (spec_l02Decode.j1 (k+1) y0 y1 y2))
  | 0=>⟨fun _ _ r h=>by simp [spec_l02Decode.l0] at h,fun _ _ _ r h=>by simp [spec_l02Decode.j1] at h⟩
  | k+1=>by
    obtain ⟨ih0,ih1⟩:=spec_l02Decode.mono_l k
    refine ⟨?_,?_⟩<;>intros<;>(first|unfold spec_l02Decode.l0|unfold spec_l02Decode.j1)<;>repeat' (with_reducible first|apply ih0|apply ih1|apply spec_l02Encode.mono|apply spec_l02Right.mono|apply spec_l02Taken.mono|apply LeO.refl|apply LeO.none|apply LeO.ite|refine LeO.bind ?_ (fun _=>?_))
theorem spec_l02Decode.mono : ∀ a0 k,LeO (spec_l02Decode.f k a0) (spec_l02Decode.f (k+1) a0):=by
 intro a0 k
 obtain ⟨ih0,ih1⟩:=spec_l02Decode.mono_l k
 unfold spec_l02Decode.f
 repeat' (with_reducible first|apply ih0|apply ih1|apply spec_l02Encode.mono|apply spec_l02Right.mono|apply spec_l02Taken.mono|apply LeO.refl|apply LeO.none|apply LeO.ite|refine LeO.bind ?_ (fun _=>?_))
set_option maxHeartbeats 8000000 in
set_option maxRecDepth 100000 in
theorem spec_l02Decode.calls (k:Nat) (a0:Int) (r1:Int) (r2:Int) (r3:Int) (r4:Int) (r5:Int) (r6:Bool) (w:World) (h:spec_l02Decode.f k a0=some (r1,r2,r3,r4,r5,r6)) :
    Calls Try.prog 76 #[.int .i64 a0] w fun e w'=>e=.returned (.tuple #[.agg #[.int .i64 r1,.int .i64 r2,.int .i64 r3,.int .i64 r4,.int .i64 r5],.bool r6])∧Below w.heap.size w w':=by
 have hu86:=Try.underlying86
 have hu109:=Try.underlying109
 have HB:=Aside0.mk (Below.refl w.heap.size w)
 have H:(spec_l02Decode.l0 k a0 1)=some (r1,r2,r3,r4,r5,r6):=h
 clear h
 have H':=Aside0.mk H
 clear H
 go_enter Try.func76,Try.ntmps76
 go_wp2_with (first|(refine bv 2 #[.int .i64 0,.int .i64 0,.int .i64 0,.int .i64 0,.int .i64 0] 86 ?_;intro gb219 hg w2 hbox hb;obtain ⟨n0_,n2_⟩:=bx0 hbx hb hg;have n1_:=Aside0.mk (hbox);clear HB;have HB:=n0_;have BK219:=n1_;have GW219:=n2_;have GE219:=n2_;clear n0_ n1_ n2_;clear hb hbox hg))
 go_loopg [4] k (fun kq v4 w'=>∃ (x4_1:Int) (x220000_1:Int) (x220001_1:Int) (x220002_1:Int) (x220003_1:Int) (x220004_1:Int),v4=.int .i64 x4_1∧Aside0 (spec_l02Decode.l0 kq a0 x4_1=some (r1,r2,r3,r4,r5,r6))∧Aside0 (kq≤k)∧Aside0 (w'.heap[gb219]?=some (.cells #[.int .i64 x220000_1,.int .i64 x220001_1,.int .i64 x220002_1,.int .i64 x220003_1,.int .i64 x220004_1] 86 (0,0)))∧Aside0 (Below w.heap.size w w'))
 case atStart=>exact ⟨(1),(0),(0),(0),(0),(0),rs,H',⟨Nat.le_refl _⟩,⟨qx BK219.out⟩,⟨hb1 GE219.out⟩⟩
 clear H'
 obtain ⟨x4_1,x220000_1,x220001_1,x220002_1,x220003_1,x220004_1,rfl,HA,HK1,BK219,HB⟩:=hrel
 cases gk with
 | zero=>exact absurd HA.out (by simp [spec_l02Decode.l0])
 | succ k1 =>
  have H:=HA.out
  clear HA
  simp only [spec_l02Decode.l0] at H
  by_cases c3:x4_1≤64
  ·rw [if_pos c3] at H
   have c3b0:decide (x4_1≤64)=true:=decide_eq_true c3
   clear c3
   obtain ⟨⟨t220,t221,t222,t223⟩,A4,H⟩:=bindA H
   try dsimp only at H
   have HC5:=Aside0.mk H
   clear H
   go_upto_region 5 with (first|(refine gl 88 12 Try.func88 #[.int .i64 x4_1] ?_;(with_reducible refine (spec_l02Shape.calls x4_1 t220 t221 t222 t223 _ A4.out).mono ?_);rintro e w6 ⟨rfl,hb⟩;refine ⟨_,rfl,?_⟩;have n0_:=Aside0.mk (blk_below (qx BK219.out) hb);replace HB:=Aside0.mk (below_step (hb1 GE219.out) hb);clear BK219;have BK219:=n0_;clear n0_;(try clear hb);(try clear hb2);(try clear hk);(try clear hi))|(refine bv 5 #[.int .i64 0,.int .i64 0,.int .i64 0,.int .i64 0] 109 ?_;intro gb224 hg w7 hbox hb;obtain ⟨n1_,n3_⟩:=bx0 (hb1 GE219.out) hb hg;obtain ⟨n0_,n5_,n6_⟩:=bx3 (qx BK219.out) hb hg;have n2_:=Aside0.mk (hbox);clear BK219;clear HB;have BK219:=n0_;have HB:=n1_;have BK224:=n2_;have GW224:=n3_;have GE224:=n3_;have NB219_224:=n5_;have NB224_219:=n6_;clear n0_ n1_ n2_ n3_ n5_ n6_;clear hb hbox hg;have hnb8:=NB224_219.out;have hnc8:=NB219_224.out;obtain ⟨Z9_0,Z9_1,Z9_2,Z9_3,Y9_0,Y9_1,Y9_2,Y9_3⟩:=cel4 BK224.out))
   (try simp only [Act.put,List.setIfInBounds_toArray,List.set_cons_zero,List.set_cons_succ])
   go_cut [30] (fun v30 wc=>∃ (kq:Nat) (x30_4:Bool),v30=.bool x30_4∧Aside0 (spec_l02Decode.j1 kq a0 x4_1 x30_4=some (r1,r2,r3,r4,r5,r6))∧Aside0 (kq≤k1)∧Aside0 (wc.heap[gb219]?=some (.cells #[.int .i64 x220000_1,.int .i64 x220001_1,.int .i64 x220002_1,.int .i64 x220003_1,.int .i64 x220004_1] 86 (0,0)))∧Aside0 (wc.heap[gb224]?=some (.cells #[.int .i64 t220,.int .i64 t221,.int .i64 t222,.int .i64 t223] 109 (0,0)))∧Aside0 (Below w.heap.size w wc))
   case first=>
    have H:=HC5.out
    clear HC5
    by_cases c10:t221=(Int.tmod a0 128)
    ·rw [if_pos c10] at H
     obtain ⟨c10b0,c10b1⟩:=eqP c10
     clear c10
     (first|rw [c10b0]|(simp only [i64_w,i32_w];rw [c10b0])|skip)
     obtain ⟨t225,A11,H⟩:=bindA H
     by_cases c12:t225=true
     ·subst c12
      rw [if_pos rfl] at H
      have H':=Aside0.mk H
      clear H
      have hnb13:=NB224_219.out
      have hnc13:=NB219_224.out
      obtain ⟨Z14_0,Z14_1,Z14_2,Z14_3,Y14_0,Y14_1,Y14_2,Y14_3⟩:=cel4 BK224.out
      go_wp2_with (first|(go_at_call 44;(with_reducible refine (spec_l01In.calls t220 3 8 true _ A11.out).mono ?_);rintro e w' ⟨rfl,⟨nd,rfl⟩⟩))
      go_meet
      case rel=>exact ⟨_,((t222 != (Int.tmod (wrap64 (Int.tdiv a0 4096)) 8))),rs,H',⟨om HK1.out⟩,⟨by (with_reducible repeat first|apply Q1|apply Q2|apply Q3);refine blk_far ?_ NB219_224.out _;(with_reducible repeat first|apply Q1|apply Q2|apply Q3);refine blk_far ?_ NB219_224.out _;(with_reducible repeat first|apply Q1|apply Q2|apply Q3);refine blk_far ?_ NB219_224.out _;(with_reducible repeat first|apply Q1|apply Q2|apply Q3);refine blk_far ?_ NB219_224.out _;(with_reducible repeat first|apply Q1|apply Q2|apply Q3);exact BK219.out⟩,⟨by (with_reducible repeat first|apply Q1|apply Q2|apply Q3);refine blk_put (cs:=#[.int .i64 t220,.int .i64 t221,.int .i64 t222,.int .i64 0]) ?_ 3 _ rfl;(with_reducible repeat first|apply Q1|apply Q2|apply Q3);refine blk_put (cs:=#[.int .i64 t220,.int .i64 t221,.int .i64 0,.int .i64 0]) ?_ 2 _ rfl;(with_reducible repeat first|apply Q1|apply Q2|apply Q3);refine blk_put (cs:=#[.int .i64 t220,.int .i64 0,.int .i64 0,.int .i64 0]) ?_ 1 _ rfl;(with_reducible repeat first|apply Q1|apply Q2|apply Q3);refine blk_put (cs:=#[.int .i64 0,.int .i64 0,.int .i64 0,.int .i64 0]) ?_ 0 _ rfl;(with_reducible repeat first|apply Q1|apply Q2|apply Q3);exact BK224.out⟩,⟨hb2 GE219.out GE224.out⟩⟩
     replace c12:=Bool.eq_false_iff.mpr c12
     subst c12
     rw [if_neg (show ¬ (false=true) by decide)] at H
     have H':=Aside0.mk H
     clear H
     have hnb15:=NB224_219.out
     have hnc15:=NB219_224.out
     obtain ⟨Z16_0,Z16_1,Z16_2,Z16_3,Y16_0,Y16_1,Y16_2,Y16_3⟩:=cel4 BK224.out
     go_wp2_with (first|(go_at_call 44;(with_reducible refine (spec_l01In.calls t220 3 8 false _ A11.out).mono ?_);rintro e w' ⟨rfl,⟨nd,rfl⟩⟩))
     go_meet
     case rel=>exact ⟨_,(false),rs,H',⟨om HK1.out⟩,⟨by (with_reducible repeat first|apply Q1|apply Q2|apply Q3);refine blk_far ?_ NB219_224.out _;(with_reducible repeat first|apply Q1|apply Q2|apply Q3);refine blk_far ?_ NB219_224.out _;(with_reducible repeat first|apply Q1|apply Q2|apply Q3);refine blk_far ?_ NB219_224.out _;(with_reducible repeat first|apply Q1|apply Q2|apply Q3);refine blk_far ?_ NB219_224.out _;(with_reducible repeat first|apply Q1|apply Q2|apply Q3);exact BK219.out⟩,⟨by (with_reducible repeat first|apply Q1|apply Q2|apply Q3);refine blk_put (cs:=#[.int .i64 t220,.int .i64 t221,.int .i64 t222,.int .i64 0]) ?_ 3 _ rfl;(with_reducible repeat first|apply Q1|apply Q2|apply Q3);refine blk_put (cs:=#[.int .i64 t220,.int .i64 t221,.int .i64 0,.int .i64 0]) ?_ 2 _ rfl;(with_reducible repeat first|apply Q1|apply Q2|apply Q3);refine blk_put (cs:=#[.int .i64 t220,.int .i64 0,.int .i64 0,.int .i64 0]) ?_ 1 _ rfl;(with_reducible repeat first|apply Q1|apply Q2|apply Q3);refine blk_put (cs:=#[.int .i64 0,.int .i64 0,.int .i64 0,.int .i64 0]) ?_ 0 _ rfl;(with_reducible repeat first|apply Q1|apply Q2|apply Q3);exact BK224.out⟩,⟨hb2 GE219.out GE224.out⟩⟩
    rw [if_neg c10] at H
    obtain ⟨c10b0,c10b1⟩:=eqN c10
    (first|rw [c10b0]|(simp only [i64_w,i32_w];rw [c10b0])|skip)
    have H':=Aside0.mk H
    clear H
    have hnb17:=NB224_219.out
    have hnc17:=NB219_224.out
    obtain ⟨Z18_0,Z18_1,Z18_2,Z18_3,Y18_0,Y18_1,Y18_2,Y18_3⟩:=cel4 BK224.out
    go_wp2
    go_meet
    case rel=>exact ⟨_,(true),rs,H',⟨om HK1.out⟩,⟨by (with_reducible repeat first|apply Q1|apply Q2|apply Q3);refine blk_far ?_ NB219_224.out _;(with_reducible repeat first|apply Q1|apply Q2|apply Q3);refine blk_far ?_ NB219_224.out _;(with_reducible repeat first|apply Q1|apply Q2|apply Q3);refine blk_far ?_ NB219_224.out _;(with_reducible repeat first|apply Q1|apply Q2|apply Q3);refine blk_far ?_ NB219_224.out _;(with_reducible repeat first|apply Q1|apply Q2|apply Q3);exact BK219.out⟩,⟨by (with_reducible repeat first|apply Q1|apply Q2|apply Q3);refine blk_put (cs:=#[.int .i64 t220,.int .i64 t221,.int .i64 t222,.int .i64 0]) ?_ 3 _ rfl;(with_reducible repeat first|apply Q1|apply Q2|apply Q3);refine blk_put (cs:=#[.int .i64 t220,.int .i64 t221,.int .i64 0,.int .i64 0]) ?_ 2 _ rfl;(with_reducible repeat first|apply Q1|apply Q2|apply Q3);refine blk_put (cs:=#[.int .i64 t220,.int .i64 0,.int .i64 0,.int .i64 0]) ?_ 1 _ rfl;(with_reducible repeat first|apply Q1|apply Q2|apply Q3);refine blk_put (cs:=#[.int .i64 0,.int .i64 0,.int .i64 0,.int .i64 0]) ?_ 0 _ rfl;(with_reducible repeat first|apply Q1|apply Q2|apply Q3);exact BK224.out⟩,⟨hb2 GE219.out GE224.out⟩⟩
   clear HC5
   try clear c3b0
   try clear Z9_0 Z9_1 Z9_2 Z9_3 Y9_0 Y9_1 Y9_2 Y9_3
   obtain ⟨kq,x30_4,rfl,HA,HJ4,BK219,BK224,HB⟩:=hcut
   cases kq with
   | zero=>exact absurd HA.out (by simp [spec_l02Decode.j1])
   | succ kj4 =>
    have H:=HA.out
    clear HA
    simp only [spec_l02Decode.j1] at H
    by_cases c19:x30_4=true
    ·subst c19
     rw [if_pos rfl] at H
     have H':=Aside0.mk H
     clear H
     go_wp2
     go_roundg kj4
     case measure=>have:=HK1.out;have:=HJ4.out;omega
     case rel=>exact ⟨(wrap64 (x4_1+1)),(x220000_1),(x220001_1),(x220002_1),(x220003_1),(x220004_1),rs,H',⟨by have:=HK1.out;have:=HJ4.out;omega⟩,⟨qx BK219.out⟩,⟨hb2 GE219.out GE224.out⟩⟩
    replace c19:=Bool.eq_false_iff.mpr c19
    subst c19
    rw [if_neg (show ¬ (false=true) by decide)] at H
    obtain ⟨⟨t226,t227,t228,t229,t230⟩,A20,H⟩:=bindA H
    try dsimp only at H
    obtain ⟨t232,A21,H⟩:=bindA H
    by_cases c22:t232=true
    ·subst c22
     rw [if_pos rfl] at H
     obtain ⟨t233,A23,H⟩:=bindA H
     by_cases c24:t233=a0
     ·rw [if_pos c24] at H
      obtain ⟨c24b0,c24b1⟩:=eqP c24
      clear c24
      simp only [Option.some.injEq,Prod.mk.injEq] at H
      obtain ⟨rfl,rfl,rfl,rfl,rfl,rfl⟩:=H
      go_wp2_with (first|(refine gl 97 33 Try.func97 #[.int .i64 x4_1,.int .i64 a0] ?_;(with_reducible refine (spec_l02Taken.calls kj4 x4_1 a0 t226 t227 t228 t229 t230 _ A20.out).mono ?_);rintro e w25 ⟨rfl,hb⟩;refine ⟨_,rfl,?_⟩;have n0_:=Aside0.mk (blk_below (qx BK219.out) hb);have n1_:=Aside0.mk (blk_below (qx BK224.out) hb);replace HB:=Aside0.mk (below_step (hb2 GE219.out GE224.out) hb);clear BK219;clear BK224;have BK219:=n0_;have BK224:=n1_;clear n0_ n1_;(try clear hb);(try clear hb2);(try clear hk);(try clear hi))|(refine bv 6 #[.int .i64 0,.int .i64 0,.int .i64 0,.int .i64 0,.int .i64 0] 86 ?_;intro gb231 hg w26 hbox hb;obtain ⟨n2_,n4_⟩:=bx0 (hb2 GE219.out GE224.out) hb hg;obtain ⟨n0_,n6_,n7_⟩:=bx3 (qx BK219.out) hb hg;obtain ⟨n1_,n8_,n9_⟩:=bx3 (qx BK224.out) hb hg;have n3_:=Aside0.mk (hbox);clear BK219;clear BK224;clear HB;have BK219:=n0_;have BK224:=n1_;have HB:=n2_;have BK231:=n3_;have GW231:=n4_;have GE231:=n4_;have NB219_231:=n6_;have NB231_219:=n7_;have NB224_231:=n8_;have NB231_224:=n9_;clear n0_ n1_ n2_ n3_ n4_ n6_ n7_ n8_ n9_;clear hb hbox hg;have hnb27:=NB231_219.out;have hnc27:=NB219_231.out;have hnb28:=NB231_224.out;have hnc28:=NB224_231.out;obtain ⟨Z29_0,Z29_1,Z29_2,Z29_3,Z29_4,Y29_0,Y29_1,Y29_2,Y29_3,Y29_4⟩:=cel5 BK231.out)|(refine gl 98 35 Try.func98 #[.agg #[.int .i64 t226,.int .i64 t227,.int .i64 t228,.int .i64 t229,.int .i64 t230]] ?_;(with_reducible refine (spec_l02Right.calls kj4 t226 t227 t228 t229 t230 true _ A21.out).mono ?_);rintro e w30 ⟨rfl,hb⟩;refine ⟨_,rfl,?_⟩;have n0_:=Aside0.mk (blk_below (qg NB219_231.out BK219.out) hb);have n1_:=Aside0.mk (blk_below (qg NB224_231.out BK224.out) hb);have n2_:=Aside0.mk (blk_below (qp BK231.out) hb);replace HB:=Aside0.mk (below_step (hb3 GE219.out GE224.out GE231.out) hb);clear BK219;clear BK224;clear BK231;have BK219:=n0_;have BK224:=n1_;have BK231:=n2_;clear n0_ n1_ n2_;(try clear hb);(try clear hb2);(try clear hk);(try clear hi);obtain ⟨Z31_0,Z31_1,Z31_2,Z31_3,Z31_4,Y31_0,Y31_1,Y31_2,Y31_3,Y31_4⟩:=cel5 BK231.out)|(go_at_call 99;(with_reducible refine (spec_l02Encode.calls kj4 t226 t227 t228 t229 t230 t233 _ A23.out).mono ?_);rintro e w32 ⟨rfl,hb⟩;have n0_:=Aside0.mk (blk_below (qx BK219.out) hb);have n1_:=Aside0.mk (blk_below (qx BK224.out) hb);have n2_:=Aside0.mk (blk_below (qx BK231.out) hb);replace HB:=Aside0.mk (below_step (hb3 GE219.out GE224.out GE231.out) hb);clear BK219;clear BK224;clear BK231;have BK219:=n0_;have BK224:=n1_;have BK231:=n2_;clear n0_ n1_ n2_;(try clear hb);(try clear hb2);(try clear hk);(try clear hi);obtain ⟨Z33_0,Z33_1,Z33_2,Z33_3,Z33_4,Y33_0,Y33_1,Y33_2,Y33_3,Y33_4⟩:=cel5 BK231.out;have hnb34:=NB219_224.out;have hnc34:=NB224_219.out;obtain ⟨Z35_0,Z35_1,Z35_2,Z35_3,Z35_4,Y35_0,Y35_1,Y35_2,Y35_3,Y35_4⟩:=cel5 BK219.out))
      refine bodyPost_ret (results_ct rfl _ _ gb219 86 #[.int .i64 t226,.int .i64 t227,.int .i64 t228,.int .i64 t229,.int .i64 t230] (0,0) _ rfl (qp BK219.out) Try.underlying86 rfl (by kernel_rfl)) rfl ?_
      exact ⟨rf,hb3 GE219.out GE224.out GE231.out⟩
     rw [if_neg c24] at H
     obtain ⟨c24b0,c24b1⟩:=eqN c24
     have H':=Aside0.mk H
     clear H
     go_wp2_with (first|(refine gl 97 33 Try.func97 #[.int .i64 x4_1,.int .i64 a0] ?_;(with_reducible refine (spec_l02Taken.calls kj4 x4_1 a0 t226 t227 t228 t229 t230 _ A20.out).mono ?_);rintro e w36 ⟨rfl,hb⟩;refine ⟨_,rfl,?_⟩;have n0_:=Aside0.mk (blk_below (qx BK219.out) hb);have n1_:=Aside0.mk (blk_below (qx BK224.out) hb);replace HB:=Aside0.mk (below_step (hb2 GE219.out GE224.out) hb);clear BK219;clear BK224;have BK219:=n0_;have BK224:=n1_;clear n0_ n1_;(try clear hb);(try clear hb2);(try clear hk);(try clear hi))|(refine bv 6 #[.int .i64 0,.int .i64 0,.int .i64 0,.int .i64 0,.int .i64 0] 86 ?_;intro gb231 hg w37 hbox hb;obtain ⟨n2_,n4_⟩:=bx0 (hb2 GE219.out GE224.out) hb hg;obtain ⟨n0_,n6_,n7_⟩:=bx3 (qx BK219.out) hb hg;obtain ⟨n1_,n8_,n9_⟩:=bx3 (qx BK224.out) hb hg;have n3_:=Aside0.mk (hbox);clear BK219;clear BK224;clear HB;have BK219:=n0_;have BK224:=n1_;have HB:=n2_;have BK231:=n3_;have GW231:=n4_;have GE231:=n4_;have NB219_231:=n6_;have NB231_219:=n7_;have NB224_231:=n8_;have NB231_224:=n9_;clear n0_ n1_ n2_ n3_ n4_ n6_ n7_ n8_ n9_;clear hb hbox hg;have hnb38:=NB231_219.out;have hnc38:=NB219_231.out;have hnb39:=NB231_224.out;have hnc39:=NB224_231.out;obtain ⟨Z40_0,Z40_1,Z40_2,Z40_3,Z40_4,Y40_0,Y40_1,Y40_2,Y40_3,Y40_4⟩:=cel5 BK231.out)|(refine gl 98 35 Try.func98 #[.agg #[.int .i64 t226,.int .i64 t227,.int .i64 t228,.int .i64 t229,.int .i64 t230]] ?_;(with_reducible refine (spec_l02Right.calls kj4 t226 t227 t228 t229 t230 true _ A21.out).mono ?_);rintro e w41 ⟨rfl,hb⟩;refine ⟨_,rfl,?_⟩;have n0_:=Aside0.mk (blk_below (qg NB219_231.out BK219.out) hb);have n1_:=Aside0.mk (blk_below (qg NB224_231.out BK224.out) hb);have n2_:=Aside0.mk (blk_below (qp BK231.out) hb);replace HB:=Aside0.mk (below_step (hb3 GE219.out GE224.out GE231.out) hb);clear BK219;clear BK224;clear BK231;have BK219:=n0_;have BK224:=n1_;have BK231:=n2_;clear n0_ n1_ n2_;(try clear hb);(try clear hb2);(try clear hk);(try clear hi);obtain ⟨Z42_0,Z42_1,Z42_2,Z42_3,Z42_4,Y42_0,Y42_1,Y42_2,Y42_3,Y42_4⟩:=cel5 BK231.out)|(go_at_call 99;(with_reducible refine (spec_l02Encode.calls kj4 t226 t227 t228 t229 t230 t233 _ A23.out).mono ?_);rintro e w43 ⟨rfl,hb⟩;have n0_:=Aside0.mk (blk_below (qx BK219.out) hb);have n1_:=Aside0.mk (blk_below (qx BK224.out) hb);have n2_:=Aside0.mk (blk_below (qx BK231.out) hb);replace HB:=Aside0.mk (below_step (hb3 GE219.out GE224.out GE231.out) hb);clear BK219;clear BK224;clear BK231;have BK219:=n0_;have BK224:=n1_;have BK231:=n2_;clear n0_ n1_ n2_;(try clear hb);(try clear hb2);(try clear hk);(try clear hi)))
     go_roundg kj4
     case measure=>have:=HK1.out;have:=HJ4.out;omega
     case rel=>exact ⟨(wrap64 (x4_1+1)),(x220000_1),(x220001_1),(x220002_1),(x220003_1),(x220004_1),rs,H',⟨by have:=HK1.out;have:=HJ4.out;omega⟩,⟨qx BK219.out⟩,⟨hb3 GE219.out GE224.out GE231.out⟩⟩
    replace c22:=Bool.eq_false_iff.mpr c22
    subst c22
    rw [if_neg (show ¬ (false=true) by decide)] at H
    have H':=Aside0.mk H
    clear H
    go_wp2_with (first|(refine gl 97 33 Try.func97 #[.int .i64 x4_1,.int .i64 a0] ?_;(with_reducible refine (spec_l02Taken.calls kj4 x4_1 a0 t226 t227 t228 t229 t230 _ A20.out).mono ?_);rintro e w44 ⟨rfl,hb⟩;refine ⟨_,rfl,?_⟩;have n0_:=Aside0.mk (blk_below (qx BK219.out) hb);have n1_:=Aside0.mk (blk_below (qx BK224.out) hb);replace HB:=Aside0.mk (below_step (hb2 GE219.out GE224.out) hb);clear BK219;clear BK224;have BK219:=n0_;have BK224:=n1_;clear n0_ n1_;(try clear hb);(try clear hb2);(try clear hk);(try clear hi))|(refine bv 6 #[.int .i64 0,.int .i64 0,.int .i64 0,.int .i64 0,.int .i64 0] 86 ?_;intro gb231 hg w45 hbox hb;obtain ⟨n2_,n4_⟩:=bx0 (hb2 GE219.out GE224.out) hb hg;obtain ⟨n0_,n6_,n7_⟩:=bx3 (qx BK219.out) hb hg;obtain ⟨n1_,n8_,n9_⟩:=bx3 (qx BK224.out) hb hg;have n3_:=Aside0.mk (hbox);clear BK219;clear BK224;clear HB;have BK219:=n0_;have BK224:=n1_;have HB:=n2_;have BK231:=n3_;have GW231:=n4_;have GE231:=n4_;have NB219_231:=n6_;have NB231_219:=n7_;have NB224_231:=n8_;have NB231_224:=n9_;clear n0_ n1_ n2_ n3_ n4_ n6_ n7_ n8_ n9_;clear hb hbox hg;have hnb46:=NB231_219.out;have hnc46:=NB219_231.out;have hnb47:=NB231_224.out;have hnc47:=NB224_231.out;obtain ⟨Z48_0,Z48_1,Z48_2,Z48_3,Z48_4,Y48_0,Y48_1,Y48_2,Y48_3,Y48_4⟩:=cel5 BK231.out)|(refine gl 98 35 Try.func98 #[.agg #[.int .i64 t226,.int .i64 t227,.int .i64 t228,.int .i64 t229,.int .i64 t230]] ?_;(with_reducible refine (spec_l02Right.calls kj4 t226 t227 t228 t229 t230 false _ A21.out).mono ?_);rintro e w49 ⟨rfl,hb⟩;refine ⟨_,rfl,?_⟩;have n0_:=Aside0.mk (blk_below (qg NB219_231.out BK219.out) hb);have n1_:=Aside0.mk (blk_below (qg NB224_231.out BK224.out) hb);have n2_:=Aside0.mk (blk_below (qp BK231.out) hb);replace HB:=Aside0.mk (below_step (hb3 GE219.out GE224.out GE231.out) hb);clear BK219;clear BK224;clear BK231;have BK219:=n0_;have BK224:=n1_;have BK231:=n2_;clear n0_ n1_ n2_;(try clear hb);(try clear hb2);(try clear hk);(try clear hi)))
    go_roundg kj4
    case measure=>have:=HK1.out;have:=HJ4.out;omega
    case rel=>exact ⟨(wrap64 (x4_1+1)),(x220000_1),(x220001_1),(x220002_1),(x220003_1),(x220004_1),rs,H',⟨by have:=HK1.out;have:=HJ4.out;omega⟩,⟨qx BK219.out⟩,⟨hb3 GE219.out GE224.out GE231.out⟩⟩
  rw [if_neg c3] at H
  have c3b0:decide (x4_1≤64)=false:=decide_eq_false c3
  clear c3
  simp only [Option.some.injEq,Prod.mk.injEq] at H
  obtain ⟨rfl,rfl,rfl,rfl,rfl,rfl⟩:=H
  obtain ⟨Z50_0,Z50_1,Z50_2,Z50_3,Z50_4,Y50_0,Y50_1,Y50_2,Y50_3,Y50_4⟩:=cel5 BK219.out
  go_wp2
  refine bodyPost_ret (results_ct rfl _ _ gb219 86 #[.int .i64 0,.int .i64 0,.int .i64 0,.int .i64 0,.int .i64 0] (0,0) _ rfl (qp BK219.out) Try.underlying86 rfl (by kernel_rfl)) rfl ?_
  exact ⟨rf,hb1 GE219.out⟩
def spec_l01Take.l0:Nat→ByteArray→Int→Int→Int→Option (Int)
  | 0,_,_,_,_=>none
  | k+1,x0,x1,x7,x8=>if x8≥0 then (if 0≤(wrap64 (x1+x8)) then (if (wrap64 (x1+x8)) < (x0.size:Int) then (spec_l01Take.l0 k x0 x1 (IntKind.u64.wrap ((IntKind.u64.wrap (256*x7))+(IntKind.u64.wrap (bt x0 (wrap64 (x1+x8)))))) (wrap64 (x8 - 1))) else (none)) else (none)) else (some (wrap64 (x7)))
def spec_l01Take.f (k:Nat) (a0:ByteArray) (a1:Int) (a2:Int):Option (Int):=spec_l01Take.l0 k a0 a1 0 (wrap64 (a2 - 1))
theorem spec_l01Take.mono_l : ∀ k,(∀ y0 y1 y2 y3,LeO (spec_l01Take.l0 k y0 y1 y2 y3) (spec_l01Take.l0 (k+1) y0 y1 y2 y3))
  | 0=>fun _ _ _ _ r h=>by simp [spec_l01Take.l0] at h
  | k+1=>by
    have ih0:=spec_l01Take.mono_l k
    · intro y0 y1 y2 y3
      unfold spec_l01Take.l0
      repeat' (with_reducible first|apply ih0|apply LeO.refl|apply LeO.none|apply LeO.ite|refine LeO.bind ?_ (fun _=>?_))
theorem spec_l01Take.mono : ∀ a0 a1 a2 k,LeO (spec_l01Take.f k a0 a1 a2) (spec_l01Take.f (k+1) a0 a1 a2):=by
 intro a0 a1 a2 k
 have ih0:=spec_l01Take.mono_l k
 unfold spec_l01Take.f
 repeat' (with_reducible first|apply ih0|apply LeO.refl|apply LeO.none|apply LeO.ite|refine LeO.bind ?_ (fun _=>?_))
set_option maxHeartbeats 8000000 in
set_option maxRecDepth 100000 in
theorem spec_l01Take.calls (k:Nat) (a0:ByteArray) (a1:Int) (a2:Int) (r:Int) (w:World) (h:spec_l01Take.f k a0 a1 a2=some r) :
    Calls Try.prog 77 #[.string a0,.int .i64 a1,.int .i64 a2] w fun e w'=>e=.returned (.int .i64 r)∧Drawn0 w w':=by
 have H:(spec_l01Take.l0 k a0 a1 0 (wrap64 (a2 - 1)))=some r:=h
 clear h
 have H':=Aside0.mk H
 clear H
 go_enter Try.func77,Try.ntmps77
 go_wp2
 go_loopg [7,8] k (fun kq v7 v8 w'=>∃ (x7_1:Int) (x8_1:Int),v7=.int .u64 x7_1∧v8=.int .i64 x8_1∧Aside0 (spec_l01Take.l0 kq a0 a1 x7_1 x8_1=some r)∧Aside0 (kq≤k)∧Drawn0 w w')
 case atStart=>exact ⟨(0),(wrap64 (a2 - 1)),rs,rs,H',⟨Nat.le_refl _⟩,dr⟩
 clear H'
 obtain ⟨x7_1,x8_1,rfl,rfl,HA,HK1,⟨m1,rfl⟩⟩:=hrel
 cases gk with
 | zero=>exact absurd HA.out (by simp [spec_l01Take.l0])
 | succ k1 =>
  have H:=HA.out
  clear HA
  simp only [spec_l01Take.l0] at H
  by_cases c4:x8_1≥0
  ·rw [if_pos c4] at H
   have c4b0:decide (0≤x8_1)=true:=decide_eq_true c4
   clear c4
   obtain ⟨ji5,hji5⟩ : ∃ j_:Int,(wrap64 (a1+x8_1))=j_:=⟨_,rfl⟩
   replace H:(if 0≤(ji5) then (if (ji5) < (a0.size:Int) then (spec_l01Take.l0 k1 a0 a1 (IntKind.u64.wrap ((IntKind.u64.wrap (256*x7_1))+(IntKind.u64.wrap (bt a0 (ji5))))) (wrap64 (x8_1 - 1))) else (none)) else (none))=some r:=by first|(rw [hji5] at H;exact H)|(simp only [hji5] at H ⊢;exact H)
   have hji5w:(IntKind.i64.wrap (a1+x8_1))=ji5:=(i64_w _).trans hji5
   by_cases c6:0≤(ji5)
   ·rw [if_pos c6] at H
    have c6b0:decide (0≤(ji5))=true:=decide_eq_true c6
    clear c6
    by_cases c7:(ji5) < (a0.size:Int)
    ·rw [if_pos c7] at H
     have c7b0:decide ((ji5) < (a0.size:Int))=true:=decide_eq_true c7
     clear c7
     have H':=Aside0.mk H
     clear H
     have p8:0≤((ji5):Int):=od
     have q8:(ji5) < (a0.size:Int):=od
     have hx8:=bt_at a0 (ji5)
     replace p8:=eq_true p8
     replace q8:=eq_true q8
     go_wp2
     go_roundg k1
     case measure=>have:=HK1.out;omega
     case rel=>exact ⟨(IntKind.u64.wrap ((IntKind.u64.wrap (256*x7_1))+(IntKind.u64.wrap (bt a0 (ji5))))),(wrap64 (x8_1 - 1)),(by first|rfl|(simp;done)|(simp only [← hji5]<;>(first|rfl|simp))|(simp [*];done)),rs,H',⟨by have:=HK1.out;omega⟩,dr⟩
    rw [if_neg c7] at H
    exact absurd H (by simp)
   rw [if_neg c6] at H
   exact absurd H (by simp)
  rw [if_neg c4] at H
  have c4b0:decide (0≤x8_1)=false:=decide_eq_false c4
  clear c4
  obtain rfl:=Option.some.inj H
  go_wp2
  go_ret
  exact ⟨rs,dr⟩
def spec_l06Instrs.l0:Nat→ByteArray→List (S86)→Int→Option ((List (S86)) × Int)
  | 0,_,_,_=>none
  | k+1,x0,x4,x5=>if (wrap64 (4*x5)) < (x0.size:Int) then ((spec_l01Take.f k x0 (wrap64 (4*x5)) 4).bind fun t237=>((spec_l02Decode.f k t237).bind fun bt238=>(if bt238.2.2.2.2.2=true then (if x4.length < 3518437208883 then (spec_l06Instrs.l0 k x0 (x4 ++ [(⟨bt238.1,bt238.2.1,bt238.2.2.1,bt238.2.2.2.1,bt238.2.2.2.2.1⟩:S86)]) (wrap64 (x5+1))) else (none)) else (some ((([]:List (S86))),x5))))) else (some (x4,(-1)))
def spec_l06Instrs.f (k:Nat) (a0:ByteArray):Option ((List (S86)) × Int):=spec_l06Instrs.l0 k a0 (([]:List (S86))) 0
theorem spec_l06Instrs.mono_l : ∀ k,(∀ y0 y1 y2,LeO (spec_l06Instrs.l0 k y0 y1 y2) (spec_l06Instrs.l0 (k+1) y0 y1 y2))
  | 0=>fun _ _ _ r h=>by simp [spec_l06Instrs.l0] at h
  | k+1=>by
    have ih0:=spec_l06Instrs.mono_l k
    · intro y0 y1 y2
      unfold spec_l06Instrs.l0
      repeat' (with_reducible first|apply ih0|apply spec_l01Take.mono|apply spec_l02Decode.mono|apply LeO.refl|apply LeO.none|apply LeO.ite|refine LeO.bind ?_ (fun _=>?_))
theorem spec_l06Instrs.mono : ∀ a0 k,LeO (spec_l06Instrs.f k a0) (spec_l06Instrs.f (k+1) a0):=by
 intro a0 k
 have ih0:=spec_l06Instrs.mono_l k
 unfold spec_l06Instrs.f
 repeat' (with_reducible first|apply ih0|apply spec_l01Take.mono|apply spec_l02Decode.mono|apply LeO.refl|apply LeO.none|apply LeO.ite|refine LeO.bind ?_ (fun _=>?_))
set_option maxHeartbeats 8000000 in
set_option maxRecDepth 100000 in
theorem spec_l06Instrs.calls (k:Nat) (a0:ByteArray) (r1:List (S86)) (r2:Int) (w:World) (h:spec_l06Instrs.f k a0=some (r1,r2)) :
    Calls Try.prog 46 #[.string a0] w fun e w'=>∃ v0_:Value,e=.returned (.tuple #[v0_,.int .i64 r2])∧Kd.R k86 86 w' w.heap.size (fun _=>True) v0_ r1∧Below w.heap.size w w':=by
 have hu86:=Try.underlying86
 have HB:=Aside0.mk (Below.refl w.heap.size w)
 have H:(spec_l06Instrs.l0 k a0 (([]:List (S86))) 0)=some (r1,r2):=h
 clear h
 obtain ⟨y234,hy234⟩ : ∃ y_:List (S86),y_=(([]:List (S86))):=⟨_,rfl⟩
 replace H:(spec_l06Instrs.l0 k a0 y234 0)=some (r1,r2):=by first|(rw [hy234];with_reducible exact H)|(have H2_:=(Option.bind_some _ _).symm.trans H;rw [hy234];with_reducible exact H2_)|(have H2_:=(Option.bind_some _ _).symm.trans H;with_reducible exact H2_)|with_reducible exact H|(rw [hy234];exact H)|exact H
 have Ny234:=Aside0.mk hy234
 clear hy234
 have H':=Aside0.mk H
 clear H
 go_enter Try.func46,Try.ntmps46
 go_wp2_with (first|((with_reducible refine gate_dst (N:=8) rfl ?_);refine Kd.R_lit k86 _ 86 ?hg (N:=8) ?hd (xs:=([]:List (S86))) (inner:=[]) (ok:=fun _=>True) (okp:=fun _=>True) ?hr ?hp (fun _ hk=>hk) trivial (Below.refl _ _) (Nat.le_refl _) (by simp) ?_;(case hd=>rfl);(case hg=>rfl);(case hr=>first|(go_simp;done)|(go_simp;rfl));(case hp=>exact (Reps.none _ _));intro v235 w2 ho3 hb hg_ hnew_;clear hg_ hnew_;(first|rw [← Ny234.out] at ho3|(simp only [Int.reduceToNat] at ho3;rw [← Ny234.out] at ho3));have n0_:=Aside0.mk (Kd.R_lower ho3 (below_size hbx));have n1_:=Aside0.mk (below_step hbx hb);clear HB;have HO236:=n0_;have HB:=n1_;clear n0_ n1_;clear hb ho3))
 go_loopg [4,5] k (fun kq v4 v5 w'=>∃ (x4_1:List (S86)) (x5_1:Int),v5=.int .i64 x5_1∧Aside0 (spec_l06Instrs.l0 kq a0 x4_1 x5_1=some (r1,r2))∧Aside0 (kq≤k)∧Aside0 (Kd.R k86 86 w' w.heap.size (fun _=>True) v4 x4_1)∧Aside0 (Below w.heap.size w w'))
 case atStart=>exact ⟨(y234),(0),rs,H',⟨Nat.le_refl _⟩,⟨kr HO236.out⟩,⟨hbx⟩⟩
 clear H'
 obtain ⟨x4_1,x5_1,rfl,HA,HK1,HO_4,HB⟩:=hrel
 cases gk with
 | zero=>exact absurd HA.out (by simp [spec_l06Instrs.l0])
 | succ k1 =>
  have H:=HA.out
  clear HA
  simp only [spec_l06Instrs.l0] at H
  by_cases c4:(wrap64 (4*x5_1)) < (a0.size:Int)
  ·rw [if_pos c4] at H
   have c4b0:decide ((wrap64 (4*x5_1)) < (a0.size:Int))=true:=decide_eq_true c4
   clear c4
   obtain ⟨t237,A5,H⟩:=bindA H
   obtain ⟨⟨t238,t239,t240,t241,t242,t243⟩,A6,H⟩:=bindA H
   try dsimp only at H
   by_cases c7:t243=true
   ·subst c7
    rw [if_pos rfl] at H
    by_cases c8:x4_1.length < 3518437208883
    ·rw [if_pos c8] at H
     have LMc8:=Aside0.mk c8
     clear c8
     obtain ⟨y245,hy245⟩ : ∃ y_:List (S86),y_=(x4_1 ++ [(⟨t238,t239,t240,t241,t242⟩:S86)]):=⟨_,rfl⟩
     replace H:(spec_l06Instrs.l0 k1 a0 y245 (wrap64 (x5_1+1)))=some (r1,r2):=by first|(rw [hy245];with_reducible exact H)|(have H2_:=(Option.bind_some _ _).symm.trans H;rw [hy245];with_reducible exact H2_)|(have H2_:=(Option.bind_some _ _).symm.trans H;with_reducible exact H2_)|with_reducible exact H|(rw [hy245];exact H)|exact H
     have Ny245:=Aside0.mk hy245
     clear hy245
     have H':=Aside0.mk H
     clear H
     go_wp2_with (first|(refine gd 77 20 Try.func77 #[.string a0,.int .i64 (wrap64 (4*x5_1)),.int .i64 4] (spec_l01Take.calls k1 a0 (wrap64 (4*x5_1)) 4 t237 _ A5.out) ?_;intro nd;(try (rw [drewN_self wr];generalize hq_:World.drewN wr _=wr;replace HO_4:Aside0 (Kd.R k86 86 wr w.heap.size (fun _=>True) u4 x4_1):=⟨by rw [← hq_];exact (kr HO_4.out)⟩;replace HB:Aside0 (Below w.heap.size w wr):=⟨by rw [← hq_];exact hbx⟩;clear hq_)))|(refine gl 76 21 Try.func76 #[.int .i64 t237] ?_;(with_reducible refine (spec_l02Decode.calls k1 t237 t238 t239 t240 t241 t242 true _ A6.out).mono ?_);rintro e w9 ⟨rfl,hb⟩;refine ⟨_,rfl,?_⟩;have n0_:=Aside0.mk (Kd.R_below (kr HO_4.out) hb);replace HB:=Aside0.mk (below_step hbx hb);clear HO_4;have HO_4:=n0_;clear n0_;(try clear hb);(try clear hb2);(try clear hk);(try clear hi))|(refine bv 6 #[.int .i64 0,.int .i64 0,.int .i64 0,.int .i64 0,.int .i64 0] 86 ?_;intro gb244 hg w10 hbox hb;obtain ⟨n1_,n3_⟩:=bx0 hbx hb hg;have n0_:=Aside0.mk (Kd.R_below (Kd.R_elderB (kr HO_4.out) gb244 (Nat.le_of_eq hg.symm)) hb);have n2_:=Aside0.mk (hbox);clear HO_4;clear HB;have HO_4:=n0_;have HB:=n1_;have BK244:=n2_;have GW244:=n3_;have GE244:=n3_;clear n0_ n1_ n2_ n3_;clear hb hbox hg;obtain ⟨Z11_0,Z11_1,Z11_2,Z11_3,Z11_4,Y11_0,Y11_1,Y11_2,Y11_3,Y11_4⟩:=cel5 BK244.out)|((with_reducible refine gate_builtin (b:=.append) (xs:=#[.tmp 28,.tmp 30]) rfl ?_);at_builtin;refine Kd.R_append k86 (w0:=w) w.heap.size rfl (.tmp 28) (.tmp 30) 63 86 (.agg #[(.int .i64 0),(.int .i64 0),(.int .i64 0),(.int .i64 0),(.int .i64 0)]) 40 rfl Try.underlying63 info86 rfl (by decide) (by omega) u4 x4_1 (⟨t238,t239,t240,t241,t242⟩:S86) [.int .i64 t238,.int .i64 t239,.int .i64 t240,.int .i64 t241,.int .i64 t242] (fun k_=>k_≠gb244) (fun _=>False) rfl (by first|(go_simp;done)|(go_simp;rfl)) ?aP (fun _ hk=>hk.elim) ?aF ?aO ?aB ?aS ?aL ?_;(case aP=>exact k86_mkM _ _ _ (⟨t238,t239,t240,t241,t242⟩:S86));(case aB=>exact (hb1 GE244.out));(case aF=>exact (fun k_ hk=>Kd.freshB (g:=gb244) (o:=.cells #[.int .i64 t238,.int .i64 t239,.int .i64 t240,.int .i64 t241,.int .i64 t242] 86 (0,0)) (qp BK244.out) k_ hk));(case aO=>exact (by (with_reducible repeat (first|apply Kd.R_alloc|apply Kd.R_drewN|apply Kd.R_drew));exact Kd.R_mono (Kd.R_far (p:=⟨gb244,4,none⟩) (Kd.R_far (p:=⟨gb244,3,none⟩) (Kd.R_far (p:=⟨gb244,2,none⟩) (Kd.R_far (p:=⟨gb244,1,none⟩) (Kd.R_far (p:=⟨gb244,0,none⟩) (Kd.R_mono HO_4.out (fun k_ hk=>(⟨hk,hk.2⟩:_∧k_≠gb244))) (fun _ hk=>hk.2) (.int .i64 t238)) (fun _ hk=>hk.2) (.int .i64 t239)) (fun _ hk=>hk.2) (.int .i64 t240)) (fun _ hk=>hk.2) (.int .i64 t241)) (fun _ hk=>hk.2) (.int .i64 t242)) (fun _ hk=>hk.1.2)));(case aS=>exact (below_size (hb1 GE244.out)));(case aL=>have:=LMc8.out;omega);intro v246 w12 ho hb hg hat;rw [← Ny245.out] at ho;have n0_:=Aside0.mk (blk_grown (g:=gb244) (o:=.cells #[.int .i64 t238,.int .i64 t239,.int .i64 t240,.int .i64 t241,.int .i64 t242] 86 (0,0)) (qp BK244.out) hg (Kd.R_away HO_4.out (fun _ hk=>hk.2)));have n1_:=Aside0.mk (hb);have n2_:=Aside0.mk (ho);clear BK244;clear HB;clear HO_4;have BK244:=n0_;have HB:=n1_;have HO247:=n2_;clear n0_ n1_ n2_;clear ho hb hg hat))
     go_roundg k1
     case measure=>have:=HK1.out;omega
     case rel=>exact ⟨(y245),(wrap64 (x5_1+1)),rs,H',⟨by have:=HK1.out;omega⟩,⟨by (with_reducible repeat (first|apply Kd.R_alloc|apply Kd.R_drewN|apply Kd.R_drew));exact Kd.R_mono HO247.out (fun _ hk=>trivial)⟩,⟨hb1 GE244.out⟩⟩
    rw [if_neg c8] at H
    exact absurd H (by simp)
   replace c7:=Bool.eq_false_iff.mpr c7
   subst c7
   rw [if_neg (show ¬ (false=true) by decide)] at H
   obtain ⟨y248,hy248⟩ : ∃ y_:List (S86),y_=(([]:List (S86))):=⟨_,rfl⟩
   replace H:(some (y248,x5_1))=some (r1,r2):=by first|(rw [hy248];with_reducible exact H)|(have H2_:=(Option.bind_some _ _).symm.trans H;rw [hy248];with_reducible exact H2_)|(have H2_:=(Option.bind_some _ _).symm.trans H;with_reducible exact H2_)|with_reducible exact H|(rw [hy248];exact H)|exact H
   have Ny248:=Aside0.mk hy248
   clear hy248
   simp only [Option.some.injEq,Prod.mk.injEq] at H
   obtain ⟨rfl,rfl⟩:=H
   go_wp2_with (first|(refine gd 77 20 Try.func77 #[.string a0,.int .i64 (wrap64 (4*x5_1)),.int .i64 4] (spec_l01Take.calls k1 a0 (wrap64 (4*x5_1)) 4 t237 _ A5.out) ?_;intro nd;(try (rw [drewN_self wr];generalize hq_:World.drewN wr _=wr;replace HO_4:Aside0 (Kd.R k86 86 wr w.heap.size (fun _=>True) u4 x4_1):=⟨by rw [← hq_];exact (kr HO_4.out)⟩;replace HB:Aside0 (Below w.heap.size w wr):=⟨by rw [← hq_];exact hbx⟩;clear hq_)))|(refine gl 76 21 Try.func76 #[.int .i64 t237] ?_;(with_reducible refine (spec_l02Decode.calls k1 t237 t238 t239 t240 t241 t242 false _ A6.out).mono ?_);rintro e w13 ⟨rfl,hb⟩;refine ⟨_,rfl,?_⟩;have n0_:=Aside0.mk (Kd.R_below (kr HO_4.out) hb);replace HB:=Aside0.mk (below_step hbx hb);clear HO_4;have HO_4:=n0_;clear n0_;(try clear hb);(try clear hb2);(try clear hk);(try clear hi))|(refine bv 6 #[.int .i64 0,.int .i64 0,.int .i64 0,.int .i64 0,.int .i64 0] 86 ?_;intro gb244 hg w14 hbox hb;obtain ⟨n1_,n3_⟩:=bx0 hbx hb hg;have n0_:=Aside0.mk (Kd.R_below (Kd.R_elderB (kr HO_4.out) gb244 (Nat.le_of_eq hg.symm)) hb);have n2_:=Aside0.mk (hbox);clear HO_4;clear HB;have HO_4:=n0_;have HB:=n1_;have BK244:=n2_;have GW244:=n3_;have GE244:=n3_;clear n0_ n1_ n2_ n3_;clear hb hbox hg;obtain ⟨Z15_0,Z15_1,Z15_2,Z15_3,Z15_4,Y15_0,Y15_1,Y15_2,Y15_3,Y15_4⟩:=cel5 BK244.out)|((with_reducible refine gate_dst (N:=26) rfl ?_);refine Kd.R_lit k86 _ 86 ?hg (N:=26) ?hd (xs:=([]:List (S86))) (inner:=[]) (ok:=fun _=>True) (okp:=fun _=>True) ?hr ?hp (fun _ hk=>hk) trivial (Below.refl _ _) (Nat.le_refl _) (by simp) ?_;(case hd=>rfl);(case hg=>rfl);(case hr=>first|(go_simp;done)|(go_simp;rfl));(case hp=>exact (Reps.none _ _));intro v249 w16 ho17 hb hg_ hnew_;clear hg_ hnew_;(first|rw [← Ny248.out] at ho17|(simp only [Int.reduceToNat] at ho17;rw [← Ny248.out] at ho17));have n0_:=Aside0.mk (Kd.R_elder' (by (with_reducible repeat (first|apply Kd.R_alloc|apply Kd.R_drewN|apply Kd.R_drew));exact (Kd.R_mono (Kd.R_far (p:=⟨gb244,4,none⟩) (Kd.R_far (p:=⟨gb244,3,none⟩) (Kd.R_far (p:=⟨gb244,2,none⟩) (Kd.R_far (p:=⟨gb244,1,none⟩) (Kd.R_far (p:=⟨gb244,0,none⟩) (Kd.R_mono HO_4.out (fun k_ hk=>(⟨hk,hk.2⟩:_∧k_≠gb244))) (fun _ hk=>hk.2) (.int .i64 t238)) (fun _ hk=>hk.2) (.int .i64 t239)) (fun _ hk=>hk.2) (.int .i64 t240)) (fun _ hk=>hk.2) (.int .i64 t241)) (fun _ hk=>hk.2) (.int .i64 t242)) (fun _ h_=>h_.1))) (Kd.R_base ho17) hb);have n1_:=Aside0.mk (Kd.R_lower (Kd.R_newB (Kd.R_new' ho17 (Kd.R_lt (by (with_reducible repeat (first|apply Kd.R_alloc|apply Kd.R_drewN|apply Kd.R_drew));exact (Kd.R_mono (Kd.R_far (p:=⟨gb244,4,none⟩) (Kd.R_far (p:=⟨gb244,3,none⟩) (Kd.R_far (p:=⟨gb244,2,none⟩) (Kd.R_far (p:=⟨gb244,1,none⟩) (Kd.R_far (p:=⟨gb244,0,none⟩) (Kd.R_mono HO_4.out (fun k_ hk=>(⟨hk,hk.2⟩:_∧k_≠gb244))) (fun _ hk=>hk.2) (.int .i64 t238)) (fun _ hk=>hk.2) (.int .i64 t239)) (fun _ hk=>hk.2) (.int .i64 t240)) (fun _ hk=>hk.2) (.int .i64 t241)) (fun _ hk=>hk.2) (.int .i64 t242)) (fun _ h_=>h_.1))))) (g:=gb244) (o:=.cells #[.int .i64 t238,.int .i64 t239,.int .i64 t240,.int .i64 t241,.int .i64 t242] 86 (0,0)) (qp BK244.out)) (below_size (hb1 GE244.out)));have n2_:=Aside0.mk (blk_below (qp BK244.out) hb);replace HB:=Aside0.mk (below_step (hb1 GE244.out) hb);clear HO_4;clear BK244;have HO_4:=n0_;have HO250:=n1_;have BK244:=n2_;clear n0_ n1_ n2_;clear hb ho17))
   go_ret2
   exact ⟨_,rf,by (with_reducible repeat (first|apply Kd.R_alloc|apply Kd.R_drewN|apply Kd.R_drew));exact Kd.R_mono HO250.out (fun _ hk=>trivial),hb1 GE244.out⟩
  rw [if_neg c4] at H
  have c4b0:decide ((wrap64 (4*x5_1)) < (a0.size:Int))=false:=decide_eq_false c4
  clear c4
  simp only [Option.some.injEq,Prod.mk.injEq] at H
  obtain ⟨rfl,rfl⟩:=H
  go_wp2
  go_ret2
  exact ⟨_,rf,by (with_reducible repeat (first|apply Kd.R_alloc|apply Kd.R_drewN|apply Kd.R_drew));exact HO_4.out,hbx⟩
def spec_FrameOK.f (a0:Int):Option (Bool):=(spec_l01In.f a0 16 128).bind fun t251=>(if t251=true then (some ((Int.tmod a0 16)==0)) else (some false))
set_option maxHeartbeats 8000000 in
set_option maxRecDepth 100000 in
theorem spec_FrameOK.calls (a0:Int) (r:Bool) (w:World) (h:spec_FrameOK.f a0=some r) :
    Calls Try.prog 66 #[.int .i64 a0] w fun e w'=>e=.returned (.bool r)∧Drawn0 w w':=by
 have H:((spec_l01In.f a0 16 128).bind fun t251=>(if t251=true then (some ((Int.tmod a0 16)==0)) else (some false)))=some r:=h
 clear h
 obtain ⟨t251,A2,H⟩:=bindA H
 by_cases c3:t251=true
 ·subst c3
  rw [if_pos rfl] at H
  obtain rfl:=Option.some.inj H
  go_enter Try.func66,Try.ntmps66
  go_wp2_with (first|(refine gd 44 4 Try.func44 #[.int .i64 a0,.int .i64 16,.int .i64 128] (spec_l01In.calls a0 16 128 true _ A2.out) ?_;intro nd))
  go_ret
  exact ⟨rs,dr⟩
 replace c3:=Bool.eq_false_iff.mpr c3
 subst c3
 rw [if_neg (show ¬ (false=true) by decide)] at H
 obtain rfl:=Option.some.inj H
 go_enter Try.func66,Try.ntmps66
 go_wp2_with (first|(refine gd 44 4 Try.func44 #[.int .i64 a0,.int .i64 16,.int .i64 128] (spec_l01In.calls a0 16 128 false _ A2.out) ?_;intro nd))
 go_ret
 exact ⟨rs,dr⟩
def spec_l06Prologue.f (a0:Int):Option ((List (S86))):=some (([(⟨22,2,2,0,wrap64 (-a0)⟩:S86),(⟨21,0,2,1,wrap64 (a0 - 8)⟩:S86)]:List (S86)))
set_option maxHeartbeats 8000000 in
set_option maxRecDepth 100000 in
theorem spec_l06Prologue.calls (a0:Int) (r:List (S86)) (w:World) (h:spec_l06Prologue.f a0=some r) :
    Calls Try.prog 67 #[.int .i64 a0] w fun e w'=>∃ v0_:Value,e=.returned (v0_)∧Kd.R k86 86 w' w.heap.size (fun _=>True) v0_ r∧Below w.heap.size w w':=by
 have hu86:=Try.underlying86
 have HB:=Aside0.mk (Below.refl w.heap.size w)
 have H:(some (([(⟨22,2,2,0,wrap64 (-a0)⟩:S86),(⟨21,0,2,1,wrap64 (a0 - 8)⟩:S86)]:List (S86))))=some r:=h
 clear h
 obtain ⟨y252,hy252⟩ : ∃ y_:List (S86),y_=(([(⟨22,2,2,0,wrap64 (-a0)⟩:S86),(⟨21,0,2,1,wrap64 (a0 - 8)⟩:S86)]:List (S86))):=⟨_,rfl⟩
 replace H:(some y252)=some r:=by first|(rw [hy252];with_reducible exact H)|(have H2_:=(Option.bind_some _ _).symm.trans H;rw [hy252];with_reducible exact H2_)|(have H2_:=(Option.bind_some _ _).symm.trans H;with_reducible exact H2_)|with_reducible exact H|(rw [hy252];exact H)|exact H
 have Ny252:=Aside0.mk hy252
 clear hy252
 obtain rfl:=Option.some.inj H
 go_enter Try.func67,Try.ntmps67
 go_wp2_with (first|((with_reducible refine gate_dst (N:=9) rfl ?_);refine Kd.R_lit k86 _ 86 ?hg (N:=9) ?hd (xs:=([(⟨22,2,2,0,wrap64 (-a0)⟩:S86),(⟨21,0,2,1,wrap64 (a0 - 8)⟩:S86)]:List (S86))) (inner:=[.int .i64 22,.int .i64 2,.int .i64 2,.int .i64 0,.int .i64 (wrap64 (-a0)),.int .i64 21,.int .i64 0,.int .i64 2,.int .i64 1,.int .i64 (wrap64 (a0 - 8))]) (ok:=fun _=>True) (okp:=fun _=>True) ?hr ?hp (fun _ hk=>hk) trivial (Below.refl _ _) (Nat.le_refl _) (by simp) ?_;(case hd=>rfl);(case hg=>rfl);(case hr=>first|(go_simp;done)|(go_simp;rfl));(case hp=>exact (Reps.c5 (show Kd.M k86 _ _ _ (⟨22,2,2,0,wrap64 (-a0)⟩:S86) [.int .i64 22,.int .i64 2,.int .i64 2,.int .i64 0,.int .i64 (wrap64 (-a0))] from (k86_mkM _ _ _ (⟨22,2,2,0,wrap64 (-a0)⟩:S86) )) (Reps.c5 (show Kd.M k86 _ _ _ (⟨21,0,2,1,wrap64 (a0 - 8)⟩:S86) [.int .i64 21,.int .i64 0,.int .i64 2,.int .i64 1,.int .i64 (wrap64 (a0 - 8))] from (k86_mkM _ _ _ (⟨21,0,2,1,wrap64 (a0 - 8)⟩:S86) )) (Reps.none _ _))));intro v253 w2 ho3 hb hg_ hnew_;clear hg_ hnew_;(first|rw [← Ny252.out] at ho3|(simp only [Int.reduceToNat] at ho3;rw [← Ny252.out] at ho3));have n0_:=Aside0.mk (Kd.R_lower ho3 (below_size hbx));have n1_:=Aside0.mk (below_step hbx hb);clear HB;have HO254:=n0_;have HB:=n1_;clear n0_ n1_;clear hb ho3))
 go_ret
 exact ⟨_,rf,by (with_reducible repeat (first|apply Kd.R_alloc|apply Kd.R_drewN|apply Kd.R_drew));exact HO254.out,hbx⟩
def spec_l06HasInt.l0:Nat→List Int→Int→Int→Option (Bool)
  | 0,_,_,_=>none
  | k+1,x0,x1,x5=>if x5 < (x0.length:Int) then (if 0≤x5 then (if (rd x0 x5)=x1 then (some true) else (spec_l06HasInt.l0 k x0 x1 (wrap64 (x5+1)))) else (none)) else (some false)
def spec_l06HasInt.f (k:Nat) (l0:List Int) (a1:Int):Option (Bool):=spec_l06HasInt.l0 k l0 a1 0
theorem spec_l06HasInt.mono_l : ∀ k,(∀ y0 y1 y2,LeO (spec_l06HasInt.l0 k y0 y1 y2) (spec_l06HasInt.l0 (k+1) y0 y1 y2))
  | 0=>fun _ _ _ r h=>by simp [spec_l06HasInt.l0] at h
  | k+1=>by
    have ih0:=spec_l06HasInt.mono_l k
    · intro y0 y1 y2
      unfold spec_l06HasInt.l0
      repeat' (with_reducible first|apply ih0|apply LeO.refl|apply LeO.none|apply LeO.ite|refine LeO.bind ?_ (fun _=>?_))
theorem spec_l06HasInt.mono : ∀ a0 a1 k,LeO (spec_l06HasInt.f k a0 a1) (spec_l06HasInt.f (k+1) a0 a1):=by
 intro a0 a1 k
 have ih0:=spec_l06HasInt.mono_l k
 unfold spec_l06HasInt.f
 repeat' (with_reducible first|apply ih0|apply LeO.refl|apply LeO.none|apply LeO.ite|refine LeO.bind ?_ (fun _=>?_))
set_option maxHeartbeats 8000000 in
set_option maxRecDepth 100000 in
theorem spec_l06HasInt.calls (k:Nat) (A0:Option Addr) (c0:Nat) (l0:List Int) (a1:Int) (r:Bool) (w:World) (hr0:Kd.C (Kd.int .i64) w A0 l0.length l0) (hc0:l0.length≤c0) (h:spec_l06HasInt.f k l0 a1=some r) :
    Calls Try.prog 78 #[.slice A0 l0.length c0,.int .i64 a1] w fun e w'=>e=.returned (.bool r)∧Drawn0 w w':=by
 have HR0:=Aside0.mk hr0
 have HC0:=Aside0.mk hc0
 clear hr0 hc0
 have H:(spec_l06HasInt.l0 k l0 a1 0)=some r:=h
 clear h
 have H':=Aside0.mk H
 clear H
 go_enter Try.func78,Try.ntmps78
 go_wp2
 go_loopg [5] k (fun kq v5 w'=>∃ (x5_1:Int),v5=.int .i64 x5_1∧Aside0 (spec_l06HasInt.l0 kq l0 a1 x5_1=some r)∧Aside0 (kq≤k)∧Drawn0 w w')
 case atStart=>exact ⟨(0),rs,H',⟨Nat.le_refl _⟩,dr⟩
 clear H'
 obtain ⟨x5_1,rfl,HA,HK1,⟨m1,rfl⟩⟩:=hrel
 cases gk with
 | zero=>exact absurd HA.out (by simp [spec_l06HasInt.l0])
 | succ k1 =>
  have H:=HA.out
  clear HA
  simp only [spec_l06HasInt.l0] at H
  by_cases c3:x5_1 < (l0.length:Int)
  ·rw [if_pos c3] at H
   have c3b0:decide (x5_1 < (l0.length:Int))=true:=decide_eq_true c3
   clear c3
   by_cases c4:0≤x5_1
   ·rw [if_pos c4] at H
    have c4b0:decide (0≤x5_1)=true:=decide_eq_true c4
    clear c4
    by_cases c5:(rd l0 x5_1)=a1
    ·rw [if_pos c5] at H
     obtain ⟨c5b0,c5b1⟩:=eqP c5
     clear c5
     obtain rfl:=Option.some.inj H
     have p255:0≤(x5_1:Int):=od
     have q255:x5_1 < (l0.length:Int):=od
     obtain ⟨ad255,e255,hx255_0⟩:=Kd.at_int HR0.out x5_1 p255 q255
     cases e255
     replace p255:=eq_true p255
     replace q255:=eq_true q255
     go_wp2
     go_ret
     exact ⟨rs,dr⟩
    rw [if_neg c5] at H
    obtain ⟨c5b0,c5b1⟩:=eqN c5
    have H':=Aside0.mk H
    clear H
    have p255:0≤(x5_1:Int):=od
    have q255:x5_1 < (l0.length:Int):=od
    obtain ⟨ad255,e255,hx255_0⟩:=Kd.at_int HR0.out x5_1 p255 q255
    cases e255
    replace p255:=eq_true p255
    replace q255:=eq_true q255
    go_wp2
    go_roundg k1
    case measure=>have:=HK1.out;omega
    case rel=>exact ⟨(wrap64 (x5_1+1)),rs,H',⟨by have:=HK1.out;omega⟩,dr⟩
   rw [if_neg c4] at H
   exact absurd H (by simp)
  rw [if_neg c3] at H
  have c3b0:decide (x5_1 < (l0.length:Int))=false:=decide_eq_false c3
  clear c3
  obtain rfl:=Option.some.inj H
  go_wp2
  go_ret
  exact ⟨rs,dr⟩
end Go.Proofs.Ythepmdlpjdlajaa.PFnExactLintImage
