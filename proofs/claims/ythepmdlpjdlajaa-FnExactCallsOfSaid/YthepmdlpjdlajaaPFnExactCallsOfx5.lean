/- The walk of FnExactCallsOf: each Go function that the law reaches as a plain Lean function, with the proof that a call does what it says; no conditions. Written by a program for this claim. -/
import Derived.Test.YthepmdlpjdlajaaPFnExactCallsOfx0
import Derived.Test.YthepmdlpjdlajaaPFnExactCallsOfx1
import Derived.Test.YthepmdlpjdlajaaPFnExactCallsOfx2
import Derived.Test.YthepmdlpjdlajaaPFnExactCallsOfx4
namespace Go.Proofs.Ythepmdlpjdlajaa.PFnExactCallsOf
open Go.RowKit Go.Proofs.YthepmdlpjdlajaaW.PrintWords Go.Proofs.YthepmdlpjdlajaaW.PrintLast Go.Proofs.YthepmdlpjdlajaaW.PrintMore
attribute [local go_sem] max2_int min2_int max_two min_two max_three min_three max_four min_four   -- for this text's walks alone
set_option linter.unusedVariables false
set_option linter.unusedSimpArgs false
mutual
def spec_l02Decode.l0:Nat→Int→Int→Option (Int × Int × Int × Int × Int × Bool)
  | 0,_,_=>none
  | k+1,x0,x4=>if x4≤64 then ((spec_l02Shape.f x4).bind fun bt190=>(if bt190.2.1=(Int.tmod x0 128) then ((spec_l01In.f bt190.1 3 8).bind fun t195=>(if t195=true then (spec_l02Decode.j1 k x0 x4 (bt190.2.2.1 != (Int.tmod (wrap64 (Int.tdiv x0 4096)) 8))) else (spec_l02Decode.j1 k x0 x4 false))) else (spec_l02Decode.j1 k x0 x4 true))) else (some (0,0,0,0,0,false))
def spec_l02Decode.j1:Nat→Int→Int→Bool→Option (Int × Int × Int × Int × Int × Bool)
  | 0,_,_,_=>none
  | k+1,x0,x4,x30=>if x30=true then (spec_l02Decode.l0 k x0 (wrap64 (x4+1))) else ((spec_l02Taken.f k x4 x0).bind fun bt196=>((spec_l02Right.f k bt196.1 bt196.2.1 bt196.2.2.1 bt196.2.2.2.1 bt196.2.2.2.2).bind fun t202=>(if t202=true then ((spec_l02Encode.f k bt196.1 bt196.2.1 bt196.2.2.1 bt196.2.2.2.1 bt196.2.2.2.2).bind fun t203=>(if t203=x0 then (some (bt196.1,bt196.2.1,bt196.2.2.1,bt196.2.2.2.1,bt196.2.2.2.2,true)) else (spec_l02Decode.l0 k x0 (wrap64 (x4+1))))) else (spec_l02Decode.l0 k x0 (wrap64 (x4+1))))))
end
def spec_l02Decode.f (k:Nat) (a0:Int):Option (Int × Int × Int × Int × Int × Bool):=spec_l02Decode.l0 k a0 1
theorem spec_l02Decode.mono_l : ∀ k,(∀ y0 y1,LeO (spec_l02Decode.l0 k y0 y1) (spec_l02Decode.l0 (k+1) y0 y1))∧(∀ y0 y1 y2,LeO (spec_l02Decode.j1 k y0 y1 y2) (spec_l02Decode.j1 (k+1) y0 y1 y2))
  | 0=>⟨fun _ _ r h=>by simp [spec_l02Decode.l0] at h,fun _ _ _ r h=>by simp [spec_l02Decode.j1] at h⟩
  | k+1=>by
    obtain ⟨ih0,ih1⟩:=spec_l02Decode.mono_l k
    refine ⟨?_,?_⟩<;>intros<;>(first|unfold spec_l02Decode.l0|unfold spec_l02Decode.j1)<;>repeat' (with_reducible first|apply ih0|apply ih1|apply spec_l02Encode.mono|apply spec_l02Right.mono|apply spec_l02Taken.mono|apply LeO.refl|apply LeO.none|apply LeO.ite|refine LeO.bind ?_ (fun _=>?_))
theorem spec_l02Decode.mono : ∀ a0 k,LeO (spec_l02Decode.f k a0) (spec_l02Decode.f (k+1) a0):=by
 intro a0 k
 obtain ⟨ih0,ih1⟩:=spec_l02Decode.mono_l k
 unfold spec_l02Decode.f
 repeat' (with_reducible first|apply ih0|apply ih1|apply spec_l02Encode.mono|apply spec_l02Right.mono|apply spec_l02Taken.mono|apply LeO.refl|apply LeO.none|apply LeO.ite|refine LeO.bind ?_ (fun _=>?_))
set_option maxHeartbeats 8000000 in
set_option maxRecDepth 100000 in
theorem spec_l02Decode.calls (k:Nat) (a0:Int) (r1:Int) (r2:Int) (r3:Int) (r4:Int) (r5:Int) (r6:Bool) (w:World) (h:spec_l02Decode.f k a0=some (r1,r2,r3,r4,r5,r6)) :
    Calls Try.prog 76 #[.int .i64 a0] w fun e w'=>e=.returned (.tuple #[.agg #[.int .i64 r1,.int .i64 r2,.int .i64 r3,.int .i64 r4,.int .i64 r5],.bool r6])∧Below w.heap.size w w':=by
 have hu86:=Try.underlying86
 have hu109:=Try.underlying109
 have HB:=Aside0.mk (Below.refl w.heap.size w)
 have H:(spec_l02Decode.l0 k a0 1)=some (r1,r2,r3,r4,r5,r6):=h
 clear h
 have H':=Aside0.mk H
 clear H
 go_enter Try.func76,Try.ntmps76
 go_wp2_with (first|((with_reducible refine gate_dst (N:=2) rfl ?_);refine box_event ?hg (N:=2) ?hd (cs:=#[.int .i64 0,.int .i64 0,.int .i64 0,.int .i64 0,.int .i64 0]) (t:=86) ?hr ?_;(case hd=>rfl);(case hg=>rfl);(case hr=>first|(go_simp;done)|(go_simp;rfl));intro gb189 hg w2 hbox hb;have n0_:=Aside0.mk (below_step (by repeat (with_reducible first|exact HB.out|apply Q4|apply Q5|apply Q6)) hb);have n1_:=Aside0.mk (hbox);have n2_:=Aside0.mk ((by rw [hg];exact (below_size (by repeat (with_reducible first|exact HB.out|apply Q4|apply Q5|apply Q6))):w.heap.size≤gb189));have n3_:=Aside0.mk ((by rw [hg];exact (below_size (by repeat (with_reducible first|exact HB.out|apply Q4|apply Q5|apply Q6))):w.heap.size≤gb189));clear HB;have HB:=n0_;have BK189:=n1_;have GW189:=n2_;have GE189:=n3_;clear n0_ n1_ n2_ n3_;clear hb hbox hg))
 go_loopg [4] k (fun kq v4 w'=>∃ (x4_1:Int) (x190000_1:Int) (x190001_1:Int) (x190002_1:Int) (x190003_1:Int) (x190004_1:Int),v4=.int .i64 x4_1∧Aside0 (spec_l02Decode.l0 kq a0 x4_1=some (r1,r2,r3,r4,r5,r6))∧Aside0 (kq≤k)∧Aside0 (w'.heap[gb189]?=some (.cells #[.int .i64 x190000_1,.int .i64 x190001_1,.int .i64 x190002_1,.int .i64 x190003_1,.int .i64 x190004_1] 86 (0,0)))∧Aside0 (Below w.heap.size w w'))
 case atStart=>exact ⟨(1),(0),(0),(0),(0),(0),(by first|rfl|(simp;done)|(simp [*];done)),H',⟨Nat.le_refl _⟩,⟨by (with_reducible repeat first|apply Q1|apply Q2|apply Q3);exact BK189.out⟩,⟨by repeat (with_reducible first|exact HB.out|apply Q4|apply Q5|apply Q6|apply Q7 GE189.out)⟩⟩
 clear H'
 obtain ⟨x4_1,x190000_1,x190001_1,x190002_1,x190003_1,x190004_1,rfl,HA,HK1,BK189,HB⟩:=hrel
 cases gk with
 | zero=>exact absurd HA.out (by simp [spec_l02Decode.l0])
 | succ k1 =>
  have H:=HA.out
  clear HA
  simp only [spec_l02Decode.l0] at H
  by_cases c3:x4_1≤64
  ·rw [if_pos c3] at H
   have c3b0:decide (x4_1≤64)=true:=decide_eq_true c3
   clear c3
   obtain ⟨⟨t190,t191,t192,t193⟩,A4,H⟩:=bindA H
   try dsimp only at H
   have HC5:=Aside0.mk H
   clear H
   go_upto_region 5 with (first|((with_reducible refine gate_callee (f:=88) rfl ?_);refine goesL_ (some 12) rfl rfl Try.func88 (by kernel_rfl) rfl #[.int .i64 x4_1] rfl (by (try simp only [List.map_toArray,List.map_cons,List.map_nil]);first|done|rfl|(simp only [List.length_drop,List.length_take];rfl)) ?_;(with_reducible refine (spec_l02Shape.calls x4_1 t190 t191 t192 t193 _ A4.out).mono ?_);rintro e w6 ⟨rfl,hb⟩;refine ⟨_,rfl,?_⟩;have n0_:=Aside0.mk (blk_below (g:=gb189) (o:=.cells #[.int .i64 x190000_1,.int .i64 x190001_1,.int .i64 x190002_1,.int .i64 x190003_1,.int .i64 x190004_1] 86 (0,0)) (by (with_reducible repeat first|apply Q1|apply Q2|apply Q3);exact BK189.out) hb);have n1_:=Aside0.mk (below_step (by repeat (with_reducible first|exact HB.out|apply Q4|apply Q5|apply Q6|apply Q7 GE189.out)) hb);clear BK189;clear HB;have BK189:=n0_;have HB:=n1_;clear n0_ n1_;(try clear hb);(try clear hb2);(try clear hk);(try clear hi))|((with_reducible refine gate_dst (N:=5) rfl ?_);refine box_event ?hg (N:=5) ?hd (cs:=#[.int .i64 0,.int .i64 0,.int .i64 0,.int .i64 0]) (t:=109) ?hr ?_;(case hd=>rfl);(case hg=>rfl);(case hr=>first|(go_simp;done)|(go_simp;rfl));intro gb194 hg w7 hbox hb;have n0_:=Aside0.mk (blk_below (g:=gb189) (o:=.cells #[.int .i64 x190000_1,.int .i64 x190001_1,.int .i64 x190002_1,.int .i64 x190003_1,.int .i64 x190004_1] 86 (0,0)) (by (with_reducible repeat first|apply Q1|apply Q2|apply Q3);exact BK189.out) hb);have n1_:=Aside0.mk (below_step (by repeat (with_reducible first|exact HB.out|apply Q4|apply Q5|apply Q6|apply Q7 GE189.out)) hb);have n2_:=Aside0.mk (hbox);have n3_:=Aside0.mk ((by rw [hg];exact (below_size (by repeat (with_reducible first|exact HB.out|apply Q4|apply Q5|apply Q6|apply Q7 GE189.out))):w.heap.size≤gb194));have n4_:=Aside0.mk ((by rw [hg];exact (below_size (by repeat (with_reducible first|exact HB.out|apply Q4|apply Q5|apply Q6|apply Q7 GE189.out))):w.heap.size≤gb194));have n5_:=Aside0.mk ((by rw [hg];exact Nat.ne_of_lt (blk_lt (g:=gb189) (o:=.cells #[.int .i64 x190000_1,.int .i64 x190001_1,.int .i64 x190002_1,.int .i64 x190003_1,.int .i64 x190004_1] 86 (0,0)) (by (with_reducible repeat first|apply Q1|apply Q2|apply Q3);exact BK189.out)):gb189≠gb194));have n6_:=Aside0.mk ((by rw [hg];exact Nat.ne_of_gt (blk_lt (g:=gb189) (o:=.cells #[.int .i64 x190000_1,.int .i64 x190001_1,.int .i64 x190002_1,.int .i64 x190003_1,.int .i64 x190004_1] 86 (0,0)) (by (with_reducible repeat first|apply Q1|apply Q2|apply Q3);exact BK189.out)):gb194≠gb189));clear BK189;clear HB;have BK189:=n0_;have HB:=n1_;have BK194:=n2_;have GW194:=n3_;have GE194:=n4_;have NB189_194:=n5_;have NB194_189:=n6_;clear n0_ n1_ n2_ n3_ n4_ n5_ n6_;clear hb hbox hg;have hnb8:=NB194_189.out;have hnc8:=NB189_194.out;have hcz9_0:w7.cell? ⟨gb194,0,none⟩=some (.int .i64 0):=(blk_cell BK194.out 0).trans rfl;have hcz9_1:w7.cell? ⟨gb194,1,none⟩=some (.int .i64 0):=(blk_cell BK194.out 1).trans rfl;have hcz9_2:w7.cell? ⟨gb194,2,none⟩=some (.int .i64 0):=(blk_cell BK194.out 2).trans rfl;have hcz9_3:w7.cell? ⟨gb194,3,none⟩=some (.int .i64 0):=(blk_cell BK194.out 3).trans rfl;have hfz9_0:=blk_frozen BK194.out 0;have hfz9_1:=blk_frozen BK194.out 1;have hfz9_2:=blk_frozen BK194.out 2;have hfz9_3:=blk_frozen BK194.out 3))
   (try simp only [Act.put,List.setIfInBounds_toArray,List.set_cons_zero,List.set_cons_succ])
   go_cut [30] (fun v30 wc=>∃ (kq:Nat) (x30_4:Bool),v30=.bool x30_4∧Aside0 (spec_l02Decode.j1 kq a0 x4_1 x30_4=some (r1,r2,r3,r4,r5,r6))∧Aside0 (kq≤k1)∧Aside0 (wc.heap[gb189]?=some (.cells #[.int .i64 x190000_1,.int .i64 x190001_1,.int .i64 x190002_1,.int .i64 x190003_1,.int .i64 x190004_1] 86 (0,0)))∧Aside0 (wc.heap[gb194]?=some (.cells #[.int .i64 t190,.int .i64 t191,.int .i64 t192,.int .i64 t193] 109 (0,0)))∧Aside0 (Below w.heap.size w wc))
   case first=>
    have H:=HC5.out
    clear HC5
    by_cases c10:t191=(Int.tmod a0 128)
    ·rw [if_pos c10] at H
     obtain ⟨c10b0,c10b1⟩:=eqP c10
     clear c10
     (first|rw [c10b0]|(simp only [i64_w,i32_w];rw [c10b0])|skip)
     obtain ⟨t195,A11,H⟩:=bindA H
     by_cases c12:t195=true
     ·subst c12
      rw [if_pos rfl] at H
      have H':=Aside0.mk H
      clear H
      have hnb13:=NB194_189.out
      have hnc13:=NB189_194.out
      have hcz14_0:w7.cell? ⟨gb194,0,none⟩=some (.int .i64 0):=(blk_cell BK194.out 0).trans rfl
      have hcz14_1:w7.cell? ⟨gb194,1,none⟩=some (.int .i64 0):=(blk_cell BK194.out 1).trans rfl
      have hcz14_2:w7.cell? ⟨gb194,2,none⟩=some (.int .i64 0):=(blk_cell BK194.out 2).trans rfl
      have hcz14_3:w7.cell? ⟨gb194,3,none⟩=some (.int .i64 0):=(blk_cell BK194.out 3).trans rfl
      have hfz14_0:=blk_frozen BK194.out 0
      have hfz14_1:=blk_frozen BK194.out 1
      have hfz14_2:=blk_frozen BK194.out 2
      have hfz14_3:=blk_frozen BK194.out 3
      go_wp2_with (first|(go_at_call 44;(with_reducible refine (spec_l01In.calls t190 3 8 true _ A11.out).mono ?_);rintro e w' ⟨rfl,⟨nd,rfl⟩⟩))
      go_meet
      case rel=>exact ⟨_,((t192 != (Int.tmod (wrap64 (Int.tdiv a0 4096)) 8))),(by first|rfl|(simp;done)|(simp [*];done)),H',⟨by have:=HK1.out;first|omega|exact Nat.le_refl _⟩,⟨by (with_reducible repeat first|apply Q1|apply Q2|apply Q3);refine blk_far ?_ NB189_194.out _;(with_reducible repeat first|apply Q1|apply Q2|apply Q3);refine blk_far ?_ NB189_194.out _;(with_reducible repeat first|apply Q1|apply Q2|apply Q3);refine blk_far ?_ NB189_194.out _;(with_reducible repeat first|apply Q1|apply Q2|apply Q3);refine blk_far ?_ NB189_194.out _;(with_reducible repeat first|apply Q1|apply Q2|apply Q3);exact BK189.out⟩,⟨by (with_reducible repeat first|apply Q1|apply Q2|apply Q3);refine blk_put (cs:=#[.int .i64 t190,.int .i64 t191,.int .i64 t192,.int .i64 0]) ?_ 3 _ rfl;(with_reducible repeat first|apply Q1|apply Q2|apply Q3);refine blk_put (cs:=#[.int .i64 t190,.int .i64 t191,.int .i64 0,.int .i64 0]) ?_ 2 _ rfl;(with_reducible repeat first|apply Q1|apply Q2|apply Q3);refine blk_put (cs:=#[.int .i64 t190,.int .i64 0,.int .i64 0,.int .i64 0]) ?_ 1 _ rfl;(with_reducible repeat first|apply Q1|apply Q2|apply Q3);refine blk_put (cs:=#[.int .i64 0,.int .i64 0,.int .i64 0,.int .i64 0]) ?_ 0 _ rfl;(with_reducible repeat first|apply Q1|apply Q2|apply Q3);exact BK194.out⟩,⟨by repeat (with_reducible first|exact HB.out|apply Q4|apply Q5|apply Q6|apply Q7 GE189.out|apply Q7 GE194.out)⟩⟩
     replace c12:=Bool.eq_false_iff.mpr c12
     subst c12
     rw [if_neg (show ¬ (false=true) by decide)] at H
     have H':=Aside0.mk H
     clear H
     have hnb15:=NB194_189.out
     have hnc15:=NB189_194.out
     have hcz16_0:w7.cell? ⟨gb194,0,none⟩=some (.int .i64 0):=(blk_cell BK194.out 0).trans rfl
     have hcz16_1:w7.cell? ⟨gb194,1,none⟩=some (.int .i64 0):=(blk_cell BK194.out 1).trans rfl
     have hcz16_2:w7.cell? ⟨gb194,2,none⟩=some (.int .i64 0):=(blk_cell BK194.out 2).trans rfl
     have hcz16_3:w7.cell? ⟨gb194,3,none⟩=some (.int .i64 0):=(blk_cell BK194.out 3).trans rfl
     have hfz16_0:=blk_frozen BK194.out 0
     have hfz16_1:=blk_frozen BK194.out 1
     have hfz16_2:=blk_frozen BK194.out 2
     have hfz16_3:=blk_frozen BK194.out 3
     go_wp2_with (first|(go_at_call 44;(with_reducible refine (spec_l01In.calls t190 3 8 false _ A11.out).mono ?_);rintro e w' ⟨rfl,⟨nd,rfl⟩⟩))
     go_meet
     case rel=>exact ⟨_,(false),(by first|rfl|(simp;done)|(simp [*];done)),H',⟨by have:=HK1.out;first|omega|exact Nat.le_refl _⟩,⟨by (with_reducible repeat first|apply Q1|apply Q2|apply Q3);refine blk_far ?_ NB189_194.out _;(with_reducible repeat first|apply Q1|apply Q2|apply Q3);refine blk_far ?_ NB189_194.out _;(with_reducible repeat first|apply Q1|apply Q2|apply Q3);refine blk_far ?_ NB189_194.out _;(with_reducible repeat first|apply Q1|apply Q2|apply Q3);refine blk_far ?_ NB189_194.out _;(with_reducible repeat first|apply Q1|apply Q2|apply Q3);exact BK189.out⟩,⟨by (with_reducible repeat first|apply Q1|apply Q2|apply Q3);refine blk_put (cs:=#[.int .i64 t190,.int .i64 t191,.int .i64 t192,.int .i64 0]) ?_ 3 _ rfl;(with_reducible repeat first|apply Q1|apply Q2|apply Q3);refine blk_put (cs:=#[.int .i64 t190,.int .i64 t191,.int .i64 0,.int .i64 0]) ?_ 2 _ rfl;(with_reducible repeat first|apply Q1|apply Q2|apply Q3);refine blk_put (cs:=#[.int .i64 t190,.int .i64 0,.int .i64 0,.int .i64 0]) ?_ 1 _ rfl;(with_reducible repeat first|apply Q1|apply Q2|apply Q3);refine blk_put (cs:=#[.int .i64 0,.int .i64 0,.int .i64 0,.int .i64 0]) ?_ 0 _ rfl;(with_reducible repeat first|apply Q1|apply Q2|apply Q3);exact BK194.out⟩,⟨by repeat (with_reducible first|exact HB.out|apply Q4|apply Q5|apply Q6|apply Q7 GE189.out|apply Q7 GE194.out)⟩⟩
    rw [if_neg c10] at H
    obtain ⟨c10b0,c10b1⟩:=eqN c10
    (first|rw [c10b0]|(simp only [i64_w,i32_w];rw [c10b0])|skip)
    have H':=Aside0.mk H
    clear H
    have hnb17:=NB194_189.out
    have hnc17:=NB189_194.out
    have hcz18_0:w7.cell? ⟨gb194,0,none⟩=some (.int .i64 0):=(blk_cell BK194.out 0).trans rfl
    have hcz18_1:w7.cell? ⟨gb194,1,none⟩=some (.int .i64 0):=(blk_cell BK194.out 1).trans rfl
    have hcz18_2:w7.cell? ⟨gb194,2,none⟩=some (.int .i64 0):=(blk_cell BK194.out 2).trans rfl
    have hcz18_3:w7.cell? ⟨gb194,3,none⟩=some (.int .i64 0):=(blk_cell BK194.out 3).trans rfl
    have hfz18_0:=blk_frozen BK194.out 0
    have hfz18_1:=blk_frozen BK194.out 1
    have hfz18_2:=blk_frozen BK194.out 2
    have hfz18_3:=blk_frozen BK194.out 3
    go_wp2
    go_meet
    case rel=>exact ⟨_,(true),(by first|rfl|(simp;done)|(simp [*];done)),H',⟨by have:=HK1.out;first|omega|exact Nat.le_refl _⟩,⟨by (with_reducible repeat first|apply Q1|apply Q2|apply Q3);refine blk_far ?_ NB189_194.out _;(with_reducible repeat first|apply Q1|apply Q2|apply Q3);refine blk_far ?_ NB189_194.out _;(with_reducible repeat first|apply Q1|apply Q2|apply Q3);refine blk_far ?_ NB189_194.out _;(with_reducible repeat first|apply Q1|apply Q2|apply Q3);refine blk_far ?_ NB189_194.out _;(with_reducible repeat first|apply Q1|apply Q2|apply Q3);exact BK189.out⟩,⟨by (with_reducible repeat first|apply Q1|apply Q2|apply Q3);refine blk_put (cs:=#[.int .i64 t190,.int .i64 t191,.int .i64 t192,.int .i64 0]) ?_ 3 _ rfl;(with_reducible repeat first|apply Q1|apply Q2|apply Q3);refine blk_put (cs:=#[.int .i64 t190,.int .i64 t191,.int .i64 0,.int .i64 0]) ?_ 2 _ rfl;(with_reducible repeat first|apply Q1|apply Q2|apply Q3);refine blk_put (cs:=#[.int .i64 t190,.int .i64 0,.int .i64 0,.int .i64 0]) ?_ 1 _ rfl;(with_reducible repeat first|apply Q1|apply Q2|apply Q3);refine blk_put (cs:=#[.int .i64 0,.int .i64 0,.int .i64 0,.int .i64 0]) ?_ 0 _ rfl;(with_reducible repeat first|apply Q1|apply Q2|apply Q3);exact BK194.out⟩,⟨by repeat (with_reducible first|exact HB.out|apply Q4|apply Q5|apply Q6|apply Q7 GE189.out|apply Q7 GE194.out)⟩⟩
   clear HC5
   try clear c3b0
   try clear hcz9_0 hcz9_1 hcz9_2 hcz9_3 hfz9_0 hfz9_1 hfz9_2 hfz9_3
   obtain ⟨kq,x30_4,rfl,HA,HJ4,BK189,BK194,HB⟩:=hcut
   cases kq with
   | zero=>exact absurd HA.out (by simp [spec_l02Decode.j1])
   | succ kj4 =>
    have H:=HA.out
    clear HA
    simp only [spec_l02Decode.j1] at H
    by_cases c19:x30_4=true
    ·subst c19
     rw [if_pos rfl] at H
     have H':=Aside0.mk H
     clear H
     go_wp2
     go_roundg kj4
     case measure=>have:=HK1.out;have:=HJ4.out;omega
     case rel=>exact ⟨(wrap64 (x4_1+1)),(x190000_1),(x190001_1),(x190002_1),(x190003_1),(x190004_1),(by first|rfl|(simp;done)|(simp [*];done)),H',⟨by have:=HK1.out;have:=HJ4.out;omega⟩,⟨by (with_reducible repeat first|apply Q1|apply Q2|apply Q3);exact BK189.out⟩,⟨by repeat (with_reducible first|exact HB.out|apply Q4|apply Q5|apply Q6|apply Q7 GE189.out|apply Q7 GE194.out)⟩⟩
    replace c19:=Bool.eq_false_iff.mpr c19
    subst c19
    rw [if_neg (show ¬ (false=true) by decide)] at H
    obtain ⟨⟨t196,t197,t198,t199,t200⟩,A20,H⟩:=bindA H
    try dsimp only at H
    obtain ⟨t202,A21,H⟩:=bindA H
    by_cases c22:t202=true
    ·subst c22
     rw [if_pos rfl] at H
     obtain ⟨t203,A23,H⟩:=bindA H
     by_cases c24:t203=a0
     ·rw [if_pos c24] at H
      obtain ⟨c24b0,c24b1⟩:=eqP c24
      clear c24
      simp only [Option.some.injEq,Prod.mk.injEq] at H
      obtain ⟨rfl,rfl,rfl,rfl,rfl,rfl⟩:=H
      go_wp2_with (first|((with_reducible refine gate_callee (f:=97) rfl ?_);refine goesL_ (some 33) rfl rfl Try.func97 (by kernel_rfl) rfl #[.int .i64 x4_1,.int .i64 a0] rfl (by (try simp only [List.map_toArray,List.map_cons,List.map_nil]);first|done|rfl|(simp only [List.length_drop,List.length_take];rfl)) ?_;(with_reducible refine (spec_l02Taken.calls kj4 x4_1 a0 t196 t197 t198 t199 t200 _ A20.out).mono ?_);rintro e w25 ⟨rfl,hb⟩;refine ⟨_,rfl,?_⟩;have n0_:=Aside0.mk (blk_below (g:=gb189) (o:=.cells #[.int .i64 x190000_1,.int .i64 x190001_1,.int .i64 x190002_1,.int .i64 x190003_1,.int .i64 x190004_1] 86 (0,0)) (by (with_reducible repeat first|apply Q1|apply Q2|apply Q3);exact BK189.out) hb);have n1_:=Aside0.mk (blk_below (g:=gb194) (o:=.cells #[.int .i64 t190,.int .i64 t191,.int .i64 t192,.int .i64 t193] 109 (0,0)) (by (with_reducible repeat first|apply Q1|apply Q2|apply Q3);exact BK194.out) hb);have n2_:=Aside0.mk (below_step (by repeat (with_reducible first|exact HB.out|apply Q4|apply Q5|apply Q6|apply Q7 GE189.out|apply Q7 GE194.out)) hb);clear BK189;clear BK194;clear HB;have BK189:=n0_;have BK194:=n1_;have HB:=n2_;clear n0_ n1_ n2_;(try clear hb);(try clear hb2);(try clear hk);(try clear hi))|((with_reducible refine gate_dst (N:=6) rfl ?_);refine box_event ?hg (N:=6) ?hd (cs:=#[.int .i64 0,.int .i64 0,.int .i64 0,.int .i64 0,.int .i64 0]) (t:=86) ?hr ?_;(case hd=>rfl);(case hg=>rfl);(case hr=>first|(go_simp;done)|(go_simp;rfl));intro gb201 hg w26 hbox hb;have n0_:=Aside0.mk (blk_below (g:=gb189) (o:=.cells #[.int .i64 x190000_1,.int .i64 x190001_1,.int .i64 x190002_1,.int .i64 x190003_1,.int .i64 x190004_1] 86 (0,0)) (by (with_reducible repeat first|apply Q1|apply Q2|apply Q3);exact BK189.out) hb);have n1_:=Aside0.mk (blk_below (g:=gb194) (o:=.cells #[.int .i64 t190,.int .i64 t191,.int .i64 t192,.int .i64 t193] 109 (0,0)) (by (with_reducible repeat first|apply Q1|apply Q2|apply Q3);exact BK194.out) hb);have n2_:=Aside0.mk (below_step (by repeat (with_reducible first|exact HB.out|apply Q4|apply Q5|apply Q6|apply Q7 GE189.out|apply Q7 GE194.out)) hb);have n3_:=Aside0.mk (hbox);have n4_:=Aside0.mk ((by rw [hg];exact (below_size (by repeat (with_reducible first|exact HB.out|apply Q4|apply Q5|apply Q6|apply Q7 GE189.out|apply Q7 GE194.out))):w.heap.size≤gb201));have n5_:=Aside0.mk ((by rw [hg];exact (below_size (by repeat (with_reducible first|exact HB.out|apply Q4|apply Q5|apply Q6|apply Q7 GE189.out|apply Q7 GE194.out))):w.heap.size≤gb201));have n6_:=Aside0.mk ((by rw [hg];exact Nat.ne_of_lt (blk_lt (g:=gb189) (o:=.cells #[.int .i64 x190000_1,.int .i64 x190001_1,.int .i64 x190002_1,.int .i64 x190003_1,.int .i64 x190004_1] 86 (0,0)) (by (with_reducible repeat first|apply Q1|apply Q2|apply Q3);exact BK189.out)):gb189≠gb201));have n7_:=Aside0.mk ((by rw [hg];exact Nat.ne_of_gt (blk_lt (g:=gb189) (o:=.cells #[.int .i64 x190000_1,.int .i64 x190001_1,.int .i64 x190002_1,.int .i64 x190003_1,.int .i64 x190004_1] 86 (0,0)) (by (with_reducible repeat first|apply Q1|apply Q2|apply Q3);exact BK189.out)):gb201≠gb189));have n8_:=Aside0.mk ((by rw [hg];exact Nat.ne_of_lt (blk_lt (g:=gb194) (o:=.cells #[.int .i64 t190,.int .i64 t191,.int .i64 t192,.int .i64 t193] 109 (0,0)) (by (with_reducible repeat first|apply Q1|apply Q2|apply Q3);exact BK194.out)):gb194≠gb201));have n9_:=Aside0.mk ((by rw [hg];exact Nat.ne_of_gt (blk_lt (g:=gb194) (o:=.cells #[.int .i64 t190,.int .i64 t191,.int .i64 t192,.int .i64 t193] 109 (0,0)) (by (with_reducible repeat first|apply Q1|apply Q2|apply Q3);exact BK194.out)):gb201≠gb194));clear BK189;clear BK194;clear HB;have BK189:=n0_;have BK194:=n1_;have HB:=n2_;have BK201:=n3_;have GW201:=n4_;have GE201:=n5_;have NB189_201:=n6_;have NB201_189:=n7_;have NB194_201:=n8_;have NB201_194:=n9_;clear n0_ n1_ n2_ n3_ n4_ n5_ n6_ n7_ n8_ n9_;clear hb hbox hg;have hnb27:=NB201_189.out;have hnc27:=NB189_201.out;have hnb28:=NB201_194.out;have hnc28:=NB194_201.out;have hcz29_0:w26.cell? ⟨gb201,0,none⟩=some (.int .i64 0):=(blk_cell BK201.out 0).trans rfl;have hcz29_1:w26.cell? ⟨gb201,1,none⟩=some (.int .i64 0):=(blk_cell BK201.out 1).trans rfl;have hcz29_2:w26.cell? ⟨gb201,2,none⟩=some (.int .i64 0):=(blk_cell BK201.out 2).trans rfl;have hcz29_3:w26.cell? ⟨gb201,3,none⟩=some (.int .i64 0):=(blk_cell BK201.out 3).trans rfl;have hcz29_4:w26.cell? ⟨gb201,4,none⟩=some (.int .i64 0):=(blk_cell BK201.out 4).trans rfl;have hfz29_0:=blk_frozen BK201.out 0;have hfz29_1:=blk_frozen BK201.out 1;have hfz29_2:=blk_frozen BK201.out 2;have hfz29_3:=blk_frozen BK201.out 3;have hfz29_4:=blk_frozen BK201.out 4)|((with_reducible refine gate_callee (f:=98) rfl ?_);refine goesL_ (some 35) rfl rfl Try.func98 (by kernel_rfl) rfl #[.agg #[.int .i64 t196,.int .i64 t197,.int .i64 t198,.int .i64 t199,.int .i64 t200]] rfl (by (try simp only [List.map_toArray,List.map_cons,List.map_nil]);first|done|rfl|(simp only [List.length_drop,List.length_take];rfl)) ?_;(with_reducible refine (spec_l02Right.calls kj4 t196 t197 t198 t199 t200 true _ A21.out).mono ?_);rintro e w30 ⟨rfl,hb⟩;refine ⟨_,rfl,?_⟩;have n0_:=Aside0.mk (blk_below (g:=gb189) (o:=.cells #[.int .i64 x190000_1,.int .i64 x190001_1,.int .i64 x190002_1,.int .i64 x190003_1,.int .i64 x190004_1] 86 (0,0)) (by (with_reducible repeat first|apply Q1|apply Q2|apply Q3);refine blk_far ?_ NB189_201.out _;(with_reducible repeat first|apply Q1|apply Q2|apply Q3);refine blk_far ?_ NB189_201.out _;(with_reducible repeat first|apply Q1|apply Q2|apply Q3);refine blk_far ?_ NB189_201.out _;(with_reducible repeat first|apply Q1|apply Q2|apply Q3);refine blk_far ?_ NB189_201.out _;(with_reducible repeat first|apply Q1|apply Q2|apply Q3);refine blk_far ?_ NB189_201.out _;(with_reducible repeat first|apply Q1|apply Q2|apply Q3);exact BK189.out) hb);have n1_:=Aside0.mk (blk_below (g:=gb194) (o:=.cells #[.int .i64 t190,.int .i64 t191,.int .i64 t192,.int .i64 t193] 109 (0,0)) (by (with_reducible repeat first|apply Q1|apply Q2|apply Q3);refine blk_far ?_ NB194_201.out _;(with_reducible repeat first|apply Q1|apply Q2|apply Q3);refine blk_far ?_ NB194_201.out _;(with_reducible repeat first|apply Q1|apply Q2|apply Q3);refine blk_far ?_ NB194_201.out _;(with_reducible repeat first|apply Q1|apply Q2|apply Q3);refine blk_far ?_ NB194_201.out _;(with_reducible repeat first|apply Q1|apply Q2|apply Q3);refine blk_far ?_ NB194_201.out _;(with_reducible repeat first|apply Q1|apply Q2|apply Q3);exact BK194.out) hb);have n2_:=Aside0.mk (blk_below (g:=gb201) (o:=.cells #[.int .i64 t196,.int .i64 t197,.int .i64 t198,.int .i64 t199,.int .i64 t200] 86 (0,0)) (by (with_reducible repeat first|apply Q1|apply Q2|apply Q3);refine blk_put (cs:=#[.int .i64 t196,.int .i64 t197,.int .i64 t198,.int .i64 t199,.int .i64 0]) ?_ 4 _ rfl;(with_reducible repeat first|apply Q1|apply Q2|apply Q3);refine blk_put (cs:=#[.int .i64 t196,.int .i64 t197,.int .i64 t198,.int .i64 0,.int .i64 0]) ?_ 3 _ rfl;(with_reducible repeat first|apply Q1|apply Q2|apply Q3);refine blk_put (cs:=#[.int .i64 t196,.int .i64 t197,.int .i64 0,.int .i64 0,.int .i64 0]) ?_ 2 _ rfl;(with_reducible repeat first|apply Q1|apply Q2|apply Q3);refine blk_put (cs:=#[.int .i64 t196,.int .i64 0,.int .i64 0,.int .i64 0,.int .i64 0]) ?_ 1 _ rfl;(with_reducible repeat first|apply Q1|apply Q2|apply Q3);refine blk_put (cs:=#[.int .i64 0,.int .i64 0,.int .i64 0,.int .i64 0,.int .i64 0]) ?_ 0 _ rfl;(with_reducible repeat first|apply Q1|apply Q2|apply Q3);exact BK201.out) hb);have n3_:=Aside0.mk (below_step (by repeat (with_reducible first|exact HB.out|apply Q4|apply Q5|apply Q6|apply Q7 GE189.out|apply Q7 GE194.out|apply Q7 GE201.out)) hb);clear BK189;clear BK194;clear BK201;clear HB;have BK189:=n0_;have BK194:=n1_;have BK201:=n2_;have HB:=n3_;clear n0_ n1_ n2_ n3_;(try clear hb);(try clear hb2);(try clear hk);(try clear hi);have hcz31_0:w30.cell? ⟨gb201,0,none⟩=some (.int .i64 t196):=(blk_cell BK201.out 0).trans rfl;have hcz31_1:w30.cell? ⟨gb201,1,none⟩=some (.int .i64 t197):=(blk_cell BK201.out 1).trans rfl;have hcz31_2:w30.cell? ⟨gb201,2,none⟩=some (.int .i64 t198):=(blk_cell BK201.out 2).trans rfl;have hcz31_3:w30.cell? ⟨gb201,3,none⟩=some (.int .i64 t199):=(blk_cell BK201.out 3).trans rfl;have hcz31_4:w30.cell? ⟨gb201,4,none⟩=some (.int .i64 t200):=(blk_cell BK201.out 4).trans rfl;have hfz31_0:=blk_frozen BK201.out 0;have hfz31_1:=blk_frozen BK201.out 1;have hfz31_2:=blk_frozen BK201.out 2;have hfz31_3:=blk_frozen BK201.out 3;have hfz31_4:=blk_frozen BK201.out 4)|(go_at_call 99;(with_reducible refine (spec_l02Encode.calls kj4 t196 t197 t198 t199 t200 t203 _ A23.out).mono ?_);rintro e w32 ⟨rfl,hb⟩;have n0_:=Aside0.mk (blk_below (g:=gb189) (o:=.cells #[.int .i64 x190000_1,.int .i64 x190001_1,.int .i64 x190002_1,.int .i64 x190003_1,.int .i64 x190004_1] 86 (0,0)) (by (with_reducible repeat first|apply Q1|apply Q2|apply Q3);exact BK189.out) hb);have n1_:=Aside0.mk (blk_below (g:=gb194) (o:=.cells #[.int .i64 t190,.int .i64 t191,.int .i64 t192,.int .i64 t193] 109 (0,0)) (by (with_reducible repeat first|apply Q1|apply Q2|apply Q3);exact BK194.out) hb);have n2_:=Aside0.mk (blk_below (g:=gb201) (o:=.cells #[.int .i64 t196,.int .i64 t197,.int .i64 t198,.int .i64 t199,.int .i64 t200] 86 (0,0)) (by (with_reducible repeat first|apply Q1|apply Q2|apply Q3);exact BK201.out) hb);have n3_:=Aside0.mk (below_step (by repeat (with_reducible first|exact HB.out|apply Q4|apply Q5|apply Q6|apply Q7 GE189.out|apply Q7 GE194.out|apply Q7 GE201.out)) hb);clear BK189;clear BK194;clear BK201;clear HB;have BK189:=n0_;have BK194:=n1_;have BK201:=n2_;have HB:=n3_;clear n0_ n1_ n2_ n3_;(try clear hb);(try clear hb2);(try clear hk);(try clear hi);have hcz33_0:w32.cell? ⟨gb201,0,none⟩=some (.int .i64 t196):=(blk_cell BK201.out 0).trans rfl;have hcz33_1:w32.cell? ⟨gb201,1,none⟩=some (.int .i64 t197):=(blk_cell BK201.out 1).trans rfl;have hcz33_2:w32.cell? ⟨gb201,2,none⟩=some (.int .i64 t198):=(blk_cell BK201.out 2).trans rfl;have hcz33_3:w32.cell? ⟨gb201,3,none⟩=some (.int .i64 t199):=(blk_cell BK201.out 3).trans rfl;have hcz33_4:w32.cell? ⟨gb201,4,none⟩=some (.int .i64 t200):=(blk_cell BK201.out 4).trans rfl;have hfz33_0:=blk_frozen BK201.out 0;have hfz33_1:=blk_frozen BK201.out 1;have hfz33_2:=blk_frozen BK201.out 2;have hfz33_3:=blk_frozen BK201.out 3;have hfz33_4:=blk_frozen BK201.out 4;have hnb34:=NB189_194.out;have hnc34:=NB194_189.out;have hcz35_0:w32.cell? ⟨gb189,0,none⟩=some (.int .i64 x190000_1):=(blk_cell BK189.out 0).trans rfl;have hcz35_1:w32.cell? ⟨gb189,1,none⟩=some (.int .i64 x190001_1):=(blk_cell BK189.out 1).trans rfl;have hcz35_2:w32.cell? ⟨gb189,2,none⟩=some (.int .i64 x190002_1):=(blk_cell BK189.out 2).trans rfl;have hcz35_3:w32.cell? ⟨gb189,3,none⟩=some (.int .i64 x190003_1):=(blk_cell BK189.out 3).trans rfl;have hcz35_4:w32.cell? ⟨gb189,4,none⟩=some (.int .i64 x190004_1):=(blk_cell BK189.out 4).trans rfl;have hfz35_0:=blk_frozen BK189.out 0;have hfz35_1:=blk_frozen BK189.out 1;have hfz35_2:=blk_frozen BK189.out 2;have hfz35_3:=blk_frozen BK189.out 3;have hfz35_4:=blk_frozen BK189.out 4))
      refine bodyPost_ret (results_ct rfl _ _ gb189 86 #[.int .i64 t196,.int .i64 t197,.int .i64 t198,.int .i64 t199,.int .i64 t200] (0,0) _ rfl (by (with_reducible repeat first|apply Q1|apply Q2|apply Q3);refine blk_put (cs:=#[.int .i64 t196,.int .i64 t197,.int .i64 t198,.int .i64 t199,.int .i64 x190004_1]) ?_ 4 _ rfl;(with_reducible repeat first|apply Q1|apply Q2|apply Q3);refine blk_put (cs:=#[.int .i64 t196,.int .i64 t197,.int .i64 t198,.int .i64 x190003_1,.int .i64 x190004_1]) ?_ 3 _ rfl;(with_reducible repeat first|apply Q1|apply Q2|apply Q3);refine blk_put (cs:=#[.int .i64 t196,.int .i64 t197,.int .i64 x190002_1,.int .i64 x190003_1,.int .i64 x190004_1]) ?_ 2 _ rfl;(with_reducible repeat first|apply Q1|apply Q2|apply Q3);refine blk_put (cs:=#[.int .i64 t196,.int .i64 x190001_1,.int .i64 x190002_1,.int .i64 x190003_1,.int .i64 x190004_1]) ?_ 1 _ rfl;(with_reducible repeat first|apply Q1|apply Q2|apply Q3);refine blk_put (cs:=#[.int .i64 x190000_1,.int .i64 x190001_1,.int .i64 x190002_1,.int .i64 x190003_1,.int .i64 x190004_1]) ?_ 0 _ rfl;(with_reducible repeat first|apply Q1|apply Q2|apply Q3);exact BK189.out) Try.underlying86 rfl (by kernel_rfl)) rfl ?_
      exact ⟨by first|rfl|(simp [errW_none,errW_some]<;>rfl)|(simp [*,errW_none,errW_some]<;>rfl),by repeat (with_reducible first|exact HB.out|apply Q4|apply Q5|apply Q6|apply Q7 GE189.out|apply Q7 GE194.out|apply Q7 GE201.out)⟩
     rw [if_neg c24] at H
     obtain ⟨c24b0,c24b1⟩:=eqN c24
     have H':=Aside0.mk H
     clear H
     go_wp2_with (first|((with_reducible refine gate_callee (f:=97) rfl ?_);refine goesL_ (some 33) rfl rfl Try.func97 (by kernel_rfl) rfl #[.int .i64 x4_1,.int .i64 a0] rfl (by (try simp only [List.map_toArray,List.map_cons,List.map_nil]);first|done|rfl|(simp only [List.length_drop,List.length_take];rfl)) ?_;(with_reducible refine (spec_l02Taken.calls kj4 x4_1 a0 t196 t197 t198 t199 t200 _ A20.out).mono ?_);rintro e w36 ⟨rfl,hb⟩;refine ⟨_,rfl,?_⟩;have n0_:=Aside0.mk (blk_below (g:=gb189) (o:=.cells #[.int .i64 x190000_1,.int .i64 x190001_1,.int .i64 x190002_1,.int .i64 x190003_1,.int .i64 x190004_1] 86 (0,0)) (by (with_reducible repeat first|apply Q1|apply Q2|apply Q3);exact BK189.out) hb);have n1_:=Aside0.mk (blk_below (g:=gb194) (o:=.cells #[.int .i64 t190,.int .i64 t191,.int .i64 t192,.int .i64 t193] 109 (0,0)) (by (with_reducible repeat first|apply Q1|apply Q2|apply Q3);exact BK194.out) hb);have n2_:=Aside0.mk (below_step (by repeat (with_reducible first|exact HB.out|apply Q4|apply Q5|apply Q6|apply Q7 GE189.out|apply Q7 GE194.out)) hb);clear BK189;clear BK194;clear HB;have BK189:=n0_;have BK194:=n1_;have HB:=n2_;clear n0_ n1_ n2_;(try clear hb);(try clear hb2);(try clear hk);(try clear hi))|((with_reducible refine gate_dst (N:=6) rfl ?_);refine box_event ?hg (N:=6) ?hd (cs:=#[.int .i64 0,.int .i64 0,.int .i64 0,.int .i64 0,.int .i64 0]) (t:=86) ?hr ?_;(case hd=>rfl);(case hg=>rfl);(case hr=>first|(go_simp;done)|(go_simp;rfl));intro gb201 hg w37 hbox hb;have n0_:=Aside0.mk (blk_below (g:=gb189) (o:=.cells #[.int .i64 x190000_1,.int .i64 x190001_1,.int .i64 x190002_1,.int .i64 x190003_1,.int .i64 x190004_1] 86 (0,0)) (by (with_reducible repeat first|apply Q1|apply Q2|apply Q3);exact BK189.out) hb);have n1_:=Aside0.mk (blk_below (g:=gb194) (o:=.cells #[.int .i64 t190,.int .i64 t191,.int .i64 t192,.int .i64 t193] 109 (0,0)) (by (with_reducible repeat first|apply Q1|apply Q2|apply Q3);exact BK194.out) hb);have n2_:=Aside0.mk (below_step (by repeat (with_reducible first|exact HB.out|apply Q4|apply Q5|apply Q6|apply Q7 GE189.out|apply Q7 GE194.out)) hb);have n3_:=Aside0.mk (hbox);have n4_:=Aside0.mk ((by rw [hg];exact (below_size (by repeat (with_reducible first|exact HB.out|apply Q4|apply Q5|apply Q6|apply Q7 GE189.out|apply Q7 GE194.out))):w.heap.size≤gb201));have n5_:=Aside0.mk ((by rw [hg];exact (below_size (by repeat (with_reducible first|exact HB.out|apply Q4|apply Q5|apply Q6|apply Q7 GE189.out|apply Q7 GE194.out))):w.heap.size≤gb201));have n6_:=Aside0.mk ((by rw [hg];exact Nat.ne_of_lt (blk_lt (g:=gb189) (o:=.cells #[.int .i64 x190000_1,.int .i64 x190001_1,.int .i64 x190002_1,.int .i64 x190003_1,.int .i64 x190004_1] 86 (0,0)) (by (with_reducible repeat first|apply Q1|apply Q2|apply Q3);exact BK189.out)):gb189≠gb201));have n7_:=Aside0.mk ((by rw [hg];exact Nat.ne_of_gt (blk_lt (g:=gb189) (o:=.cells #[.int .i64 x190000_1,.int .i64 x190001_1,.int .i64 x190002_1,.int .i64 x190003_1,.int .i64 x190004_1] 86 (0,0)) (by (with_reducible repeat first|apply Q1|apply Q2|apply Q3);exact BK189.out)):gb201≠gb189));have n8_:=Aside0.mk ((by rw [hg];exact Nat.ne_of_lt (blk_lt (g:=gb194) (o:=.cells #[.int .i64 t190,.int .i64 t191,.int .i64 t192,.int .i64 t193] 109 (0,0)) (by (with_reducible repeat first|apply Q1|apply Q2|apply Q3);exact BK194.out)):gb194≠gb201));have n9_:=Aside0.mk ((by rw [hg];exact Nat.ne_of_gt (blk_lt (g:=gb194) (o:=.cells #[.int .i64 t190,.int .i64 t191,.int .i64 t192,.int .i64 t193] 109 (0,0)) (by (with_reducible repeat first|apply Q1|apply Q2|apply Q3);exact BK194.out)):gb201≠gb194));clear BK189;clear BK194;clear HB;have BK189:=n0_;have BK194:=n1_;have HB:=n2_;have BK201:=n3_;have GW201:=n4_;have GE201:=n5_;have NB189_201:=n6_;have NB201_189:=n7_;have NB194_201:=n8_;have NB201_194:=n9_;clear n0_ n1_ n2_ n3_ n4_ n5_ n6_ n7_ n8_ n9_;clear hb hbox hg;have hnb38:=NB201_189.out;have hnc38:=NB189_201.out;have hnb39:=NB201_194.out;have hnc39:=NB194_201.out;have hcz40_0:w37.cell? ⟨gb201,0,none⟩=some (.int .i64 0):=(blk_cell BK201.out 0).trans rfl;have hcz40_1:w37.cell? ⟨gb201,1,none⟩=some (.int .i64 0):=(blk_cell BK201.out 1).trans rfl;have hcz40_2:w37.cell? ⟨gb201,2,none⟩=some (.int .i64 0):=(blk_cell BK201.out 2).trans rfl;have hcz40_3:w37.cell? ⟨gb201,3,none⟩=some (.int .i64 0):=(blk_cell BK201.out 3).trans rfl;have hcz40_4:w37.cell? ⟨gb201,4,none⟩=some (.int .i64 0):=(blk_cell BK201.out 4).trans rfl;have hfz40_0:=blk_frozen BK201.out 0;have hfz40_1:=blk_frozen BK201.out 1;have hfz40_2:=blk_frozen BK201.out 2;have hfz40_3:=blk_frozen BK201.out 3;have hfz40_4:=blk_frozen BK201.out 4)|((with_reducible refine gate_callee (f:=98) rfl ?_);refine goesL_ (some 35) rfl rfl Try.func98 (by kernel_rfl) rfl #[.agg #[.int .i64 t196,.int .i64 t197,.int .i64 t198,.int .i64 t199,.int .i64 t200]] rfl (by (try simp only [List.map_toArray,List.map_cons,List.map_nil]);first|done|rfl|(simp only [List.length_drop,List.length_take];rfl)) ?_;(with_reducible refine (spec_l02Right.calls kj4 t196 t197 t198 t199 t200 true _ A21.out).mono ?_);rintro e w41 ⟨rfl,hb⟩;refine ⟨_,rfl,?_⟩;have n0_:=Aside0.mk (blk_below (g:=gb189) (o:=.cells #[.int .i64 x190000_1,.int .i64 x190001_1,.int .i64 x190002_1,.int .i64 x190003_1,.int .i64 x190004_1] 86 (0,0)) (by (with_reducible repeat first|apply Q1|apply Q2|apply Q3);refine blk_far ?_ NB189_201.out _;(with_reducible repeat first|apply Q1|apply Q2|apply Q3);refine blk_far ?_ NB189_201.out _;(with_reducible repeat first|apply Q1|apply Q2|apply Q3);refine blk_far ?_ NB189_201.out _;(with_reducible repeat first|apply Q1|apply Q2|apply Q3);refine blk_far ?_ NB189_201.out _;(with_reducible repeat first|apply Q1|apply Q2|apply Q3);refine blk_far ?_ NB189_201.out _;(with_reducible repeat first|apply Q1|apply Q2|apply Q3);exact BK189.out) hb);have n1_:=Aside0.mk (blk_below (g:=gb194) (o:=.cells #[.int .i64 t190,.int .i64 t191,.int .i64 t192,.int .i64 t193] 109 (0,0)) (by (with_reducible repeat first|apply Q1|apply Q2|apply Q3);refine blk_far ?_ NB194_201.out _;(with_reducible repeat first|apply Q1|apply Q2|apply Q3);refine blk_far ?_ NB194_201.out _;(with_reducible repeat first|apply Q1|apply Q2|apply Q3);refine blk_far ?_ NB194_201.out _;(with_reducible repeat first|apply Q1|apply Q2|apply Q3);refine blk_far ?_ NB194_201.out _;(with_reducible repeat first|apply Q1|apply Q2|apply Q3);refine blk_far ?_ NB194_201.out _;(with_reducible repeat first|apply Q1|apply Q2|apply Q3);exact BK194.out) hb);have n2_:=Aside0.mk (blk_below (g:=gb201) (o:=.cells #[.int .i64 t196,.int .i64 t197,.int .i64 t198,.int .i64 t199,.int .i64 t200] 86 (0,0)) (by (with_reducible repeat first|apply Q1|apply Q2|apply Q3);refine blk_put (cs:=#[.int .i64 t196,.int .i64 t197,.int .i64 t198,.int .i64 t199,.int .i64 0]) ?_ 4 _ rfl;(with_reducible repeat first|apply Q1|apply Q2|apply Q3);refine blk_put (cs:=#[.int .i64 t196,.int .i64 t197,.int .i64 t198,.int .i64 0,.int .i64 0]) ?_ 3 _ rfl;(with_reducible repeat first|apply Q1|apply Q2|apply Q3);refine blk_put (cs:=#[.int .i64 t196,.int .i64 t197,.int .i64 0,.int .i64 0,.int .i64 0]) ?_ 2 _ rfl;(with_reducible repeat first|apply Q1|apply Q2|apply Q3);refine blk_put (cs:=#[.int .i64 t196,.int .i64 0,.int .i64 0,.int .i64 0,.int .i64 0]) ?_ 1 _ rfl;(with_reducible repeat first|apply Q1|apply Q2|apply Q3);refine blk_put (cs:=#[.int .i64 0,.int .i64 0,.int .i64 0,.int .i64 0,.int .i64 0]) ?_ 0 _ rfl;(with_reducible repeat first|apply Q1|apply Q2|apply Q3);exact BK201.out) hb);have n3_:=Aside0.mk (below_step (by repeat (with_reducible first|exact HB.out|apply Q4|apply Q5|apply Q6|apply Q7 GE189.out|apply Q7 GE194.out|apply Q7 GE201.out)) hb);clear BK189;clear BK194;clear BK201;clear HB;have BK189:=n0_;have BK194:=n1_;have BK201:=n2_;have HB:=n3_;clear n0_ n1_ n2_ n3_;(try clear hb);(try clear hb2);(try clear hk);(try clear hi);have hcz42_0:w41.cell? ⟨gb201,0,none⟩=some (.int .i64 t196):=(blk_cell BK201.out 0).trans rfl;have hcz42_1:w41.cell? ⟨gb201,1,none⟩=some (.int .i64 t197):=(blk_cell BK201.out 1).trans rfl;have hcz42_2:w41.cell? ⟨gb201,2,none⟩=some (.int .i64 t198):=(blk_cell BK201.out 2).trans rfl;have hcz42_3:w41.cell? ⟨gb201,3,none⟩=some (.int .i64 t199):=(blk_cell BK201.out 3).trans rfl;have hcz42_4:w41.cell? ⟨gb201,4,none⟩=some (.int .i64 t200):=(blk_cell BK201.out 4).trans rfl;have hfz42_0:=blk_frozen BK201.out 0;have hfz42_1:=blk_frozen BK201.out 1;have hfz42_2:=blk_frozen BK201.out 2;have hfz42_3:=blk_frozen BK201.out 3;have hfz42_4:=blk_frozen BK201.out 4)|(go_at_call 99;(with_reducible refine (spec_l02Encode.calls kj4 t196 t197 t198 t199 t200 t203 _ A23.out).mono ?_);rintro e w43 ⟨rfl,hb⟩;have n0_:=Aside0.mk (blk_below (g:=gb189) (o:=.cells #[.int .i64 x190000_1,.int .i64 x190001_1,.int .i64 x190002_1,.int .i64 x190003_1,.int .i64 x190004_1] 86 (0,0)) (by (with_reducible repeat first|apply Q1|apply Q2|apply Q3);exact BK189.out) hb);have n1_:=Aside0.mk (blk_below (g:=gb194) (o:=.cells #[.int .i64 t190,.int .i64 t191,.int .i64 t192,.int .i64 t193] 109 (0,0)) (by (with_reducible repeat first|apply Q1|apply Q2|apply Q3);exact BK194.out) hb);have n2_:=Aside0.mk (blk_below (g:=gb201) (o:=.cells #[.int .i64 t196,.int .i64 t197,.int .i64 t198,.int .i64 t199,.int .i64 t200] 86 (0,0)) (by (with_reducible repeat first|apply Q1|apply Q2|apply Q3);exact BK201.out) hb);have n3_:=Aside0.mk (below_step (by repeat (with_reducible first|exact HB.out|apply Q4|apply Q5|apply Q6|apply Q7 GE189.out|apply Q7 GE194.out|apply Q7 GE201.out)) hb);clear BK189;clear BK194;clear BK201;clear HB;have BK189:=n0_;have BK194:=n1_;have BK201:=n2_;have HB:=n3_;clear n0_ n1_ n2_ n3_;(try clear hb);(try clear hb2);(try clear hk);(try clear hi)))
     go_roundg kj4
     case measure=>have:=HK1.out;have:=HJ4.out;omega
     case rel=>exact ⟨(wrap64 (x4_1+1)),(x190000_1),(x190001_1),(x190002_1),(x190003_1),(x190004_1),(by first|rfl|(simp;done)|(simp [*];done)),H',⟨by have:=HK1.out;have:=HJ4.out;omega⟩,⟨by (with_reducible repeat first|apply Q1|apply Q2|apply Q3);exact BK189.out⟩,⟨by repeat (with_reducible first|exact HB.out|apply Q4|apply Q5|apply Q6|apply Q7 GE189.out|apply Q7 GE194.out|apply Q7 GE201.out)⟩⟩
    replace c22:=Bool.eq_false_iff.mpr c22
    subst c22
    rw [if_neg (show ¬ (false=true) by decide)] at H
    have H':=Aside0.mk H
    clear H
    go_wp2_with (first|((with_reducible refine gate_callee (f:=97) rfl ?_);refine goesL_ (some 33) rfl rfl Try.func97 (by kernel_rfl) rfl #[.int .i64 x4_1,.int .i64 a0] rfl (by (try simp only [List.map_toArray,List.map_cons,List.map_nil]);first|done|rfl|(simp only [List.length_drop,List.length_take];rfl)) ?_;(with_reducible refine (spec_l02Taken.calls kj4 x4_1 a0 t196 t197 t198 t199 t200 _ A20.out).mono ?_);rintro e w44 ⟨rfl,hb⟩;refine ⟨_,rfl,?_⟩;have n0_:=Aside0.mk (blk_below (g:=gb189) (o:=.cells #[.int .i64 x190000_1,.int .i64 x190001_1,.int .i64 x190002_1,.int .i64 x190003_1,.int .i64 x190004_1] 86 (0,0)) (by (with_reducible repeat first|apply Q1|apply Q2|apply Q3);exact BK189.out) hb);have n1_:=Aside0.mk (blk_below (g:=gb194) (o:=.cells #[.int .i64 t190,.int .i64 t191,.int .i64 t192,.int .i64 t193] 109 (0,0)) (by (with_reducible repeat first|apply Q1|apply Q2|apply Q3);exact BK194.out) hb);have n2_:=Aside0.mk (below_step (by repeat (with_reducible first|exact HB.out|apply Q4|apply Q5|apply Q6|apply Q7 GE189.out|apply Q7 GE194.out)) hb);clear BK189;clear BK194;clear HB;have BK189:=n0_;have BK194:=n1_;have HB:=n2_;clear n0_ n1_ n2_;(try clear hb);(try clear hb2);(try clear hk);(try clear hi))|((with_reducible refine gate_dst (N:=6) rfl ?_);refine box_event ?hg (N:=6) ?hd (cs:=#[.int .i64 0,.int .i64 0,.int .i64 0,.int .i64 0,.int .i64 0]) (t:=86) ?hr ?_;(case hd=>rfl);(case hg=>rfl);(case hr=>first|(go_simp;done)|(go_simp;rfl));intro gb201 hg w45 hbox hb;have n0_:=Aside0.mk (blk_below (g:=gb189) (o:=.cells #[.int .i64 x190000_1,.int .i64 x190001_1,.int .i64 x190002_1,.int .i64 x190003_1,.int .i64 x190004_1] 86 (0,0)) (by (with_reducible repeat first|apply Q1|apply Q2|apply Q3);exact BK189.out) hb);have n1_:=Aside0.mk (blk_below (g:=gb194) (o:=.cells #[.int .i64 t190,.int .i64 t191,.int .i64 t192,.int .i64 t193] 109 (0,0)) (by (with_reducible repeat first|apply Q1|apply Q2|apply Q3);exact BK194.out) hb);have n2_:=Aside0.mk (below_step (by repeat (with_reducible first|exact HB.out|apply Q4|apply Q5|apply Q6|apply Q7 GE189.out|apply Q7 GE194.out)) hb);have n3_:=Aside0.mk (hbox);have n4_:=Aside0.mk ((by rw [hg];exact (below_size (by repeat (with_reducible first|exact HB.out|apply Q4|apply Q5|apply Q6|apply Q7 GE189.out|apply Q7 GE194.out))):w.heap.size≤gb201));have n5_:=Aside0.mk ((by rw [hg];exact (below_size (by repeat (with_reducible first|exact HB.out|apply Q4|apply Q5|apply Q6|apply Q7 GE189.out|apply Q7 GE194.out))):w.heap.size≤gb201));have n6_:=Aside0.mk ((by rw [hg];exact Nat.ne_of_lt (blk_lt (g:=gb189) (o:=.cells #[.int .i64 x190000_1,.int .i64 x190001_1,.int .i64 x190002_1,.int .i64 x190003_1,.int .i64 x190004_1] 86 (0,0)) (by (with_reducible repeat first|apply Q1|apply Q2|apply Q3);exact BK189.out)):gb189≠gb201));have n7_:=Aside0.mk ((by rw [hg];exact Nat.ne_of_gt (blk_lt (g:=gb189) (o:=.cells #[.int .i64 x190000_1,.int .i64 x190001_1,.int .i64 x190002_1,.int .i64 x190003_1,.int .i64 x190004_1] 86 (0,0)) (by (with_reducible repeat first|apply Q1|apply Q2|apply Q3);exact BK189.out)):gb201≠gb189));have n8_:=Aside0.mk ((by rw [hg];exact Nat.ne_of_lt (blk_lt (g:=gb194) (o:=.cells #[.int .i64 t190,.int .i64 t191,.int .i64 t192,.int .i64 t193] 109 (0,0)) (by (with_reducible repeat first|apply Q1|apply Q2|apply Q3);exact BK194.out)):gb194≠gb201));have n9_:=Aside0.mk ((by rw [hg];exact Nat.ne_of_gt (blk_lt (g:=gb194) (o:=.cells #[.int .i64 t190,.int .i64 t191,.int .i64 t192,.int .i64 t193] 109 (0,0)) (by (with_reducible repeat first|apply Q1|apply Q2|apply Q3);exact BK194.out)):gb201≠gb194));clear BK189;clear BK194;clear HB;have BK189:=n0_;have BK194:=n1_;have HB:=n2_;have BK201:=n3_;have GW201:=n4_;have GE201:=n5_;have NB189_201:=n6_;have NB201_189:=n7_;have NB194_201:=n8_;have NB201_194:=n9_;clear n0_ n1_ n2_ n3_ n4_ n5_ n6_ n7_ n8_ n9_;clear hb hbox hg;have hnb46:=NB201_189.out;have hnc46:=NB189_201.out;have hnb47:=NB201_194.out;have hnc47:=NB194_201.out;have hcz48_0:w45.cell? ⟨gb201,0,none⟩=some (.int .i64 0):=(blk_cell BK201.out 0).trans rfl;have hcz48_1:w45.cell? ⟨gb201,1,none⟩=some (.int .i64 0):=(blk_cell BK201.out 1).trans rfl;have hcz48_2:w45.cell? ⟨gb201,2,none⟩=some (.int .i64 0):=(blk_cell BK201.out 2).trans rfl;have hcz48_3:w45.cell? ⟨gb201,3,none⟩=some (.int .i64 0):=(blk_cell BK201.out 3).trans rfl;have hcz48_4:w45.cell? ⟨gb201,4,none⟩=some (.int .i64 0):=(blk_cell BK201.out 4).trans rfl;have hfz48_0:=blk_frozen BK201.out 0;have hfz48_1:=blk_frozen BK201.out 1;have hfz48_2:=blk_frozen BK201.out 2;have hfz48_3:=blk_frozen BK201.out 3;have hfz48_4:=blk_frozen BK201.out 4)|((with_reducible refine gate_callee (f:=98) rfl ?_);refine goesL_ (some 35) rfl rfl Try.func98 (by kernel_rfl) rfl #[.agg #[.int .i64 t196,.int .i64 t197,.int .i64 t198,.int .i64 t199,.int .i64 t200]] rfl (by (try simp only [List.map_toArray,List.map_cons,List.map_nil]);first|done|rfl|(simp only [List.length_drop,List.length_take];rfl)) ?_;(with_reducible refine (spec_l02Right.calls kj4 t196 t197 t198 t199 t200 false _ A21.out).mono ?_);rintro e w49 ⟨rfl,hb⟩;refine ⟨_,rfl,?_⟩;have n0_:=Aside0.mk (blk_below (g:=gb189) (o:=.cells #[.int .i64 x190000_1,.int .i64 x190001_1,.int .i64 x190002_1,.int .i64 x190003_1,.int .i64 x190004_1] 86 (0,0)) (by (with_reducible repeat first|apply Q1|apply Q2|apply Q3);refine blk_far ?_ NB189_201.out _;(with_reducible repeat first|apply Q1|apply Q2|apply Q3);refine blk_far ?_ NB189_201.out _;(with_reducible repeat first|apply Q1|apply Q2|apply Q3);refine blk_far ?_ NB189_201.out _;(with_reducible repeat first|apply Q1|apply Q2|apply Q3);refine blk_far ?_ NB189_201.out _;(with_reducible repeat first|apply Q1|apply Q2|apply Q3);refine blk_far ?_ NB189_201.out _;(with_reducible repeat first|apply Q1|apply Q2|apply Q3);exact BK189.out) hb);have n1_:=Aside0.mk (blk_below (g:=gb194) (o:=.cells #[.int .i64 t190,.int .i64 t191,.int .i64 t192,.int .i64 t193] 109 (0,0)) (by (with_reducible repeat first|apply Q1|apply Q2|apply Q3);refine blk_far ?_ NB194_201.out _;(with_reducible repeat first|apply Q1|apply Q2|apply Q3);refine blk_far ?_ NB194_201.out _;(with_reducible repeat first|apply Q1|apply Q2|apply Q3);refine blk_far ?_ NB194_201.out _;(with_reducible repeat first|apply Q1|apply Q2|apply Q3);refine blk_far ?_ NB194_201.out _;(with_reducible repeat first|apply Q1|apply Q2|apply Q3);refine blk_far ?_ NB194_201.out _;(with_reducible repeat first|apply Q1|apply Q2|apply Q3);exact BK194.out) hb);have n2_:=Aside0.mk (blk_below (g:=gb201) (o:=.cells #[.int .i64 t196,.int .i64 t197,.int .i64 t198,.int .i64 t199,.int .i64 t200] 86 (0,0)) (by (with_reducible repeat first|apply Q1|apply Q2|apply Q3);refine blk_put (cs:=#[.int .i64 t196,.int .i64 t197,.int .i64 t198,.int .i64 t199,.int .i64 0]) ?_ 4 _ rfl;(with_reducible repeat first|apply Q1|apply Q2|apply Q3);refine blk_put (cs:=#[.int .i64 t196,.int .i64 t197,.int .i64 t198,.int .i64 0,.int .i64 0]) ?_ 3 _ rfl;(with_reducible repeat first|apply Q1|apply Q2|apply Q3);refine blk_put (cs:=#[.int .i64 t196,.int .i64 t197,.int .i64 0,.int .i64 0,.int .i64 0]) ?_ 2 _ rfl;(with_reducible repeat first|apply Q1|apply Q2|apply Q3);refine blk_put (cs:=#[.int .i64 t196,.int .i64 0,.int .i64 0,.int .i64 0,.int .i64 0]) ?_ 1 _ rfl;(with_reducible repeat first|apply Q1|apply Q2|apply Q3);refine blk_put (cs:=#[.int .i64 0,.int .i64 0,.int .i64 0,.int .i64 0,.int .i64 0]) ?_ 0 _ rfl;(with_reducible repeat first|apply Q1|apply Q2|apply Q3);exact BK201.out) hb);have n3_:=Aside0.mk (below_step (by repeat (with_reducible first|exact HB.out|apply Q4|apply Q5|apply Q6|apply Q7 GE189.out|apply Q7 GE194.out|apply Q7 GE201.out)) hb);clear BK189;clear BK194;clear BK201;clear HB;have BK189:=n0_;have BK194:=n1_;have BK201:=n2_;have HB:=n3_;clear n0_ n1_ n2_ n3_;(try clear hb);(try clear hb2);(try clear hk);(try clear hi)))
    go_roundg kj4
    case measure=>have:=HK1.out;have:=HJ4.out;omega
    case rel=>exact ⟨(wrap64 (x4_1+1)),(x190000_1),(x190001_1),(x190002_1),(x190003_1),(x190004_1),(by first|rfl|(simp;done)|(simp [*];done)),H',⟨by have:=HK1.out;have:=HJ4.out;omega⟩,⟨by (with_reducible repeat first|apply Q1|apply Q2|apply Q3);exact BK189.out⟩,⟨by repeat (with_reducible first|exact HB.out|apply Q4|apply Q5|apply Q6|apply Q7 GE189.out|apply Q7 GE194.out|apply Q7 GE201.out)⟩⟩
  rw [if_neg c3] at H
  have c3b0:decide (x4_1≤64)=false:=decide_eq_false c3
  clear c3
  simp only [Option.some.injEq,Prod.mk.injEq] at H
  obtain ⟨rfl,rfl,rfl,rfl,rfl,rfl⟩:=H
  have hcz50_0:wr.cell? ⟨gb189,0,none⟩=some (.int .i64 x190000_1):=(blk_cell BK189.out 0).trans rfl
  have hcz50_1:wr.cell? ⟨gb189,1,none⟩=some (.int .i64 x190001_1):=(blk_cell BK189.out 1).trans rfl
  have hcz50_2:wr.cell? ⟨gb189,2,none⟩=some (.int .i64 x190002_1):=(blk_cell BK189.out 2).trans rfl
  have hcz50_3:wr.cell? ⟨gb189,3,none⟩=some (.int .i64 x190003_1):=(blk_cell BK189.out 3).trans rfl
  have hcz50_4:wr.cell? ⟨gb189,4,none⟩=some (.int .i64 x190004_1):=(blk_cell BK189.out 4).trans rfl
  have hfz50_0:=blk_frozen BK189.out 0
  have hfz50_1:=blk_frozen BK189.out 1
  have hfz50_2:=blk_frozen BK189.out 2
  have hfz50_3:=blk_frozen BK189.out 3
  have hfz50_4:=blk_frozen BK189.out 4
  go_wp2
  refine bodyPost_ret (results_ct rfl _ _ gb189 86 #[.int .i64 0,.int .i64 0,.int .i64 0,.int .i64 0,.int .i64 0] (0,0) _ rfl (by (with_reducible repeat first|apply Q1|apply Q2|apply Q3);refine blk_put (cs:=#[.int .i64 0,.int .i64 0,.int .i64 0,.int .i64 0,.int .i64 x190004_1]) ?_ 4 _ rfl;(with_reducible repeat first|apply Q1|apply Q2|apply Q3);refine blk_put (cs:=#[.int .i64 0,.int .i64 0,.int .i64 0,.int .i64 x190003_1,.int .i64 x190004_1]) ?_ 3 _ rfl;(with_reducible repeat first|apply Q1|apply Q2|apply Q3);refine blk_put (cs:=#[.int .i64 0,.int .i64 0,.int .i64 x190002_1,.int .i64 x190003_1,.int .i64 x190004_1]) ?_ 2 _ rfl;(with_reducible repeat first|apply Q1|apply Q2|apply Q3);refine blk_put (cs:=#[.int .i64 0,.int .i64 x190001_1,.int .i64 x190002_1,.int .i64 x190003_1,.int .i64 x190004_1]) ?_ 1 _ rfl;(with_reducible repeat first|apply Q1|apply Q2|apply Q3);refine blk_put (cs:=#[.int .i64 x190000_1,.int .i64 x190001_1,.int .i64 x190002_1,.int .i64 x190003_1,.int .i64 x190004_1]) ?_ 0 _ rfl;(with_reducible repeat first|apply Q1|apply Q2|apply Q3);exact BK189.out) Try.underlying86 rfl (by kernel_rfl)) rfl ?_
  exact ⟨by first|rfl|(simp [errW_none,errW_some]<;>rfl)|(simp [*,errW_none,errW_some]<;>rfl),by repeat (with_reducible first|exact HB.out|apply Q4|apply Q5|apply Q6|apply Q7 GE189.out)⟩
def spec_l01Take.l0:Nat→ByteArray→Int→Int→Int→Option (Int)
  | 0,_,_,_,_=>none
  | k+1,x0,x1,x7,x8=>if x8≥0 then (if 0≤(wrap64 (x1+x8)) then (if (wrap64 (x1+x8)) < (x0.size:Int) then (spec_l01Take.l0 k x0 x1 (IntKind.u64.wrap ((IntKind.u64.wrap (256*x7))+(IntKind.u64.wrap (bt x0 (wrap64 (x1+x8)))))) (wrap64 (x8 - 1))) else (none)) else (none)) else (some (wrap64 (x7)))
def spec_l01Take.f (k:Nat) (a0:ByteArray) (a1:Int) (a2:Int):Option (Int):=spec_l01Take.l0 k a0 a1 0 (wrap64 (a2 - 1))
theorem spec_l01Take.mono_l : ∀ k,(∀ y0 y1 y2 y3,LeO (spec_l01Take.l0 k y0 y1 y2 y3) (spec_l01Take.l0 (k+1) y0 y1 y2 y3))
  | 0=>fun _ _ _ _ r h=>by simp [spec_l01Take.l0] at h
  | k+1=>by
    have ih0:=spec_l01Take.mono_l k
    · intro y0 y1 y2 y3
      unfold spec_l01Take.l0
      repeat' (with_reducible first|apply ih0|apply LeO.refl|apply LeO.none|apply LeO.ite|refine LeO.bind ?_ (fun _=>?_))
theorem spec_l01Take.mono : ∀ a0 a1 a2 k,LeO (spec_l01Take.f k a0 a1 a2) (spec_l01Take.f (k+1) a0 a1 a2):=by
 intro a0 a1 a2 k
 have ih0:=spec_l01Take.mono_l k
 unfold spec_l01Take.f
 repeat' (with_reducible first|apply ih0|apply LeO.refl|apply LeO.none|apply LeO.ite|refine LeO.bind ?_ (fun _=>?_))
set_option maxHeartbeats 8000000 in
set_option maxRecDepth 100000 in
theorem spec_l01Take.calls (k:Nat) (a0:ByteArray) (a1:Int) (a2:Int) (r:Int) (w:World) (h:spec_l01Take.f k a0 a1 a2=some r) :
    Calls Try.prog 77 #[.string a0,.int .i64 a1,.int .i64 a2] w fun e w'=>e=.returned (.int .i64 r)∧Drawn0 w w':=by
 have H:(spec_l01Take.l0 k a0 a1 0 (wrap64 (a2 - 1)))=some r:=h
 clear h
 have H':=Aside0.mk H
 clear H
 go_enter Try.func77,Try.ntmps77
 go_wp2
 go_loopg [7,8] k (fun kq v7 v8 w'=>∃ (x7_1:Int) (x8_1:Int),v7=.int .u64 x7_1∧v8=.int .i64 x8_1∧Aside0 (spec_l01Take.l0 kq a0 a1 x7_1 x8_1=some r)∧Aside0 (kq≤k)∧Drawn0 w w')
 case atStart=>exact ⟨(0),(wrap64 (a2 - 1)),(by first|rfl|(simp;done)|(simp [*];done)),(by first|rfl|(simp;done)|(simp [*];done)),H',⟨Nat.le_refl _⟩,by repeat (first|exact Drawn0.refl _|apply Drawn0.step)⟩
 clear H'
 obtain ⟨x7_1,x8_1,rfl,rfl,HA,HK1,⟨m1,rfl⟩⟩:=hrel
 cases gk with
 | zero=>exact absurd HA.out (by simp [spec_l01Take.l0])
 | succ k1 =>
  have H:=HA.out
  clear HA
  simp only [spec_l01Take.l0] at H
  by_cases c4:x8_1≥0
  ·rw [if_pos c4] at H
   have c4b0:decide (0≤x8_1)=true:=decide_eq_true c4
   clear c4
   obtain ⟨ji5,hji5⟩ : ∃ j_:Int,(wrap64 (a1+x8_1))=j_:=⟨_,rfl⟩
   replace H:(if 0≤(ji5) then (if (ji5) < (a0.size:Int) then (spec_l01Take.l0 k1 a0 a1 (IntKind.u64.wrap ((IntKind.u64.wrap (256*x7_1))+(IntKind.u64.wrap (bt a0 (ji5))))) (wrap64 (x8_1 - 1))) else (none)) else (none))=some r:=by first|(rw [hji5] at H;exact H)|(simp only [hji5] at H ⊢;exact H)
   have hji5w:(IntKind.i64.wrap (a1+x8_1))=ji5:=(i64_w _).trans hji5
   by_cases c6:0≤(ji5)
   ·rw [if_pos c6] at H
    have c6b0:decide (0≤(ji5))=true:=decide_eq_true c6
    clear c6
    by_cases c7:(ji5) < (a0.size:Int)
    ·rw [if_pos c7] at H
     have c7b0:decide ((ji5) < (a0.size:Int))=true:=decide_eq_true c7
     clear c7
     have H':=Aside0.mk H
     clear H
     have p8:0≤((ji5):Int):=of_decide_eq_true (by first|(with_reducible assumption)|assumption)
     have q8:(ji5) < (a0.size:Int):=of_decide_eq_true (by first|(with_reducible assumption)|assumption)
     have hx8:=bt_at a0 (ji5)
     replace p8:=eq_true p8
     replace q8:=eq_true q8
     go_wp2
     go_roundg k1
     case measure=>have:=HK1.out;omega
     case rel=>exact ⟨(IntKind.u64.wrap ((IntKind.u64.wrap (256*x7_1))+(IntKind.u64.wrap (bt a0 (ji5))))),(wrap64 (x8_1 - 1)),(by first|rfl|(simp;done)|(simp only [← hji5]<;>(first|rfl|simp))|(simp [*];done)),(by first|rfl|(simp;done)|(simp [*];done)),H',⟨by have:=HK1.out;omega⟩,by repeat (first|exact Drawn0.refl _|apply Drawn0.step)⟩
    rw [if_neg c7] at H
    exact absurd H (by simp)
   rw [if_neg c6] at H
   exact absurd H (by simp)
  rw [if_neg c4] at H
  have c4b0:decide (0≤x8_1)=false:=decide_eq_false c4
  clear c4
  obtain rfl:=Option.some.inj H
  go_wp2
  go_ret
  exact ⟨by first|rfl|(simp;done)|(simp [*];done),by repeat (first|exact Drawn0.refl _|apply Drawn0.step)⟩
def spec_l06Instrs.l0:Nat→ByteArray→List (S86)→Int→Option ((List (S86)) × Int)
  | 0,_,_,_=>none
  | k+1,x0,x4,x5=>if (wrap64 (4*x5)) < (x0.size:Int) then ((spec_l01Take.f k x0 (wrap64 (4*x5)) 4).bind fun t207=>((spec_l02Decode.f k t207).bind fun bt208=>(if bt208.2.2.2.2.2=true then (if x4.length < 3518437208883 then (spec_l06Instrs.l0 k x0 (x4 ++ [(⟨bt208.1,bt208.2.1,bt208.2.2.1,bt208.2.2.2.1,bt208.2.2.2.2.1⟩:S86)]) (wrap64 (x5+1))) else (none)) else (some ((([]:List (S86))),x5))))) else (some (x4,(-1)))
def spec_l06Instrs.f (k:Nat) (a0:ByteArray):Option ((List (S86)) × Int):=spec_l06Instrs.l0 k a0 (([]:List (S86))) 0
theorem spec_l06Instrs.mono_l : ∀ k,(∀ y0 y1 y2,LeO (spec_l06Instrs.l0 k y0 y1 y2) (spec_l06Instrs.l0 (k+1) y0 y1 y2))
  | 0=>fun _ _ _ r h=>by simp [spec_l06Instrs.l0] at h
  | k+1=>by
    have ih0:=spec_l06Instrs.mono_l k
    · intro y0 y1 y2
      unfold spec_l06Instrs.l0
      repeat' (with_reducible first|apply ih0|apply spec_l01Take.mono|apply spec_l02Decode.mono|apply LeO.refl|apply LeO.none|apply LeO.ite|refine LeO.bind ?_ (fun _=>?_))
theorem spec_l06Instrs.mono : ∀ a0 k,LeO (spec_l06Instrs.f k a0) (spec_l06Instrs.f (k+1) a0):=by
 intro a0 k
 have ih0:=spec_l06Instrs.mono_l k
 unfold spec_l06Instrs.f
 repeat' (with_reducible first|apply ih0|apply spec_l01Take.mono|apply spec_l02Decode.mono|apply LeO.refl|apply LeO.none|apply LeO.ite|refine LeO.bind ?_ (fun _=>?_))
set_option maxHeartbeats 8000000 in
set_option maxRecDepth 100000 in
theorem spec_l06Instrs.calls (k:Nat) (a0:ByteArray) (r1:List (S86)) (r2:Int) (w:World) (h:spec_l06Instrs.f k a0=some (r1,r2)) :
    Calls Try.prog 46 #[.string a0] w fun e w'=>∃ v0_:Value,e=.returned (.tuple #[v0_,.int .i64 r2])∧Kd.R k86 86 w' w.heap.size (fun _=>True) v0_ r1∧Below w.heap.size w w':=by
 have hu86:=Try.underlying86
 have HB:=Aside0.mk (Below.refl w.heap.size w)
 have H:(spec_l06Instrs.l0 k a0 (([]:List (S86))) 0)=some (r1,r2):=h
 clear h
 obtain ⟨y204,hy204⟩ : ∃ y_:List (S86),y_=(([]:List (S86))):=⟨_,rfl⟩
 replace H:(spec_l06Instrs.l0 k a0 y204 0)=some (r1,r2):=by first|(rw [hy204];with_reducible exact H)|(have H2_:=(Option.bind_some _ _).symm.trans H;rw [hy204];with_reducible exact H2_)|(have H2_:=(Option.bind_some _ _).symm.trans H;with_reducible exact H2_)|with_reducible exact H|(rw [hy204];exact H)|exact H
 have Ny204:=Aside0.mk hy204
 clear hy204
 have H':=Aside0.mk H
 clear H
 go_enter Try.func46,Try.ntmps46
 go_wp2_with (first|((with_reducible refine gate_dst (N:=8) rfl ?_);refine Kd.R_lit k86 _ 86 ?hg (N:=8) ?hd (xs:=([]:List (S86))) (inner:=[]) (ok:=fun _=>True) (okp:=fun _=>True) ?hr ?hp (fun _ hk=>hk) trivial (Below.refl _ _) (Nat.le_refl _) (by simp) ?_;(case hd=>rfl);(case hg=>rfl);(case hr=>first|(go_simp;done)|(go_simp;rfl));(case hp=>exact (Reps.none _ _));intro v205 w2 ho3 hb hg_ hnew_;clear hg_ hnew_;(first|rw [← Ny204.out] at ho3|(simp only [Int.reduceToNat] at ho3;rw [← Ny204.out] at ho3));have n0_:=Aside0.mk (Kd.R_lower ho3 (below_size (by repeat (with_reducible first|exact HB.out|apply Q4|apply Q5|apply Q6))));have n1_:=Aside0.mk (below_step (by repeat (with_reducible first|exact HB.out|apply Q4|apply Q5|apply Q6)) hb);clear HB;have HO206:=n0_;have HB:=n1_;clear n0_ n1_;clear hb ho3))
 go_loopg [4,5] k (fun kq v4 v5 w'=>∃ (x4_1:List (S86)) (x5_1:Int),v5=.int .i64 x5_1∧Aside0 (spec_l06Instrs.l0 kq a0 x4_1 x5_1=some (r1,r2))∧Aside0 (kq≤k)∧Aside0 (Kd.R k86 86 w' w.heap.size (fun _=>True) v4 x4_1)∧Aside0 (Below w.heap.size w w'))
 case atStart=>exact ⟨(y204),(0),(by first|rfl|(simp;done)|(simp [*];done)),H',⟨Nat.le_refl _⟩,⟨by (with_reducible repeat (first|apply Kd.R_alloc|apply Kd.R_drewN|apply Kd.R_drew));exact HO206.out⟩,⟨by repeat (with_reducible first|exact HB.out|apply Q4|apply Q5|apply Q6)⟩⟩
 clear H'
 obtain ⟨x4_1,x5_1,rfl,HA,HK1,HO_4,HB⟩:=hrel
 cases gk with
 | zero=>exact absurd HA.out (by simp [spec_l06Instrs.l0])
 | succ k1 =>
  have H:=HA.out
  clear HA
  simp only [spec_l06Instrs.l0] at H
  by_cases c4:(wrap64 (4*x5_1)) < (a0.size:Int)
  ·rw [if_pos c4] at H
   have c4b0:decide ((wrap64 (4*x5_1)) < (a0.size:Int))=true:=decide_eq_true c4
   clear c4
   obtain ⟨t207,A5,H⟩:=bindA H
   obtain ⟨⟨t208,t209,t210,t211,t212,t213⟩,A6,H⟩:=bindA H
   try dsimp only at H
   by_cases c7:t213=true
   ·subst c7
    rw [if_pos rfl] at H
    by_cases c8:x4_1.length < 3518437208883
    ·rw [if_pos c8] at H
     have LMc8:=Aside0.mk c8
     clear c8
     obtain ⟨y215,hy215⟩ : ∃ y_:List (S86),y_=(x4_1 ++ [(⟨t208,t209,t210,t211,t212⟩:S86)]):=⟨_,rfl⟩
     replace H:(spec_l06Instrs.l0 k1 a0 y215 (wrap64 (x5_1+1)))=some (r1,r2):=by first|(rw [hy215];with_reducible exact H)|(have H2_:=(Option.bind_some _ _).symm.trans H;rw [hy215];with_reducible exact H2_)|(have H2_:=(Option.bind_some _ _).symm.trans H;with_reducible exact H2_)|with_reducible exact H|(rw [hy215];exact H)|exact H
     have Ny215:=Aside0.mk hy215
     clear hy215
     have H':=Aside0.mk H
     clear H
     go_wp2_with (first|((with_reducible refine gate_callee (f:=77) rfl ?_);refine goesL_ (some 20) rfl rfl Try.func77 (by kernel_rfl) rfl #[.string a0,.int .i64 (wrap64 (4*x5_1)),.int .i64 4] rfl (by (try simp only [List.map_toArray,List.map_cons,List.map_nil]);first|done|rfl|(simp only [List.length_drop,List.length_take];rfl)) ?_;(with_reducible refine (spec_l01Take.calls k1 a0 (wrap64 (4*x5_1)) 4 t207 _ A5.out).mono ?_);rintro e w' ⟨rfl,⟨nd,rfl⟩⟩;refine ⟨_,rfl,?_⟩;(try (rw [drewN_self wr];generalize hq_:World.drewN wr _=wr;have n0_:Aside0 (Kd.R k86 86 wr w.heap.size (fun _=>True) u4 x4_1):=⟨by rw [← hq_];exact (by (with_reducible repeat (first|apply Kd.R_alloc|apply Kd.R_drewN|apply Kd.R_drew));exact HO_4.out)⟩;have n1_:Aside0 (Below w.heap.size w wr):=⟨by rw [← hq_];exact (by repeat (with_reducible first|exact HB.out|apply Q4|apply Q5|apply Q6))⟩;clear HO_4 HB hq_;have HO_4:=n0_;have HB:=n1_;clear n0_ n1_)))|((with_reducible refine gate_callee (f:=76) rfl ?_);refine goesL_ (some 21) rfl rfl Try.func76 (by kernel_rfl) rfl #[.int .i64 t207] rfl (by (try simp only [List.map_toArray,List.map_cons,List.map_nil]);first|done|rfl|(simp only [List.length_drop,List.length_take];rfl)) ?_;(with_reducible refine (spec_l02Decode.calls k1 t207 t208 t209 t210 t211 t212 true _ A6.out).mono ?_);rintro e w9 ⟨rfl,hb⟩;refine ⟨_,rfl,?_⟩;have n0_:=Aside0.mk (Kd.R_below (by (with_reducible repeat (first|apply Kd.R_alloc|apply Kd.R_drewN|apply Kd.R_drew));exact HO_4.out) hb);have n1_:=Aside0.mk (below_step (by repeat (with_reducible first|exact HB.out|apply Q4|apply Q5|apply Q6)) hb);clear HO_4;clear HB;have HO_4:=n0_;have HB:=n1_;clear n0_ n1_;(try clear hb);(try clear hb2);(try clear hk);(try clear hi))|((with_reducible refine gate_dst (N:=6) rfl ?_);refine box_event ?hg (N:=6) ?hd (cs:=#[.int .i64 0,.int .i64 0,.int .i64 0,.int .i64 0,.int .i64 0]) (t:=86) ?hr ?_;(case hd=>rfl);(case hg=>rfl);(case hr=>first|(go_simp;done)|(go_simp;rfl));intro gb214 hg w10 hbox hb;have n0_:=Aside0.mk (Kd.R_below (Kd.R_elderB (by (with_reducible repeat (first|apply Kd.R_alloc|apply Kd.R_drewN|apply Kd.R_drew));exact HO_4.out) gb214 (Nat.le_of_eq hg.symm)) hb);have n1_:=Aside0.mk (below_step (by repeat (with_reducible first|exact HB.out|apply Q4|apply Q5|apply Q6)) hb);have n2_:=Aside0.mk (hbox);have n3_:=Aside0.mk ((by rw [hg];exact (below_size (by repeat (with_reducible first|exact HB.out|apply Q4|apply Q5|apply Q6))):w.heap.size≤gb214));have n4_:=Aside0.mk ((by rw [hg];exact (below_size (by repeat (with_reducible first|exact HB.out|apply Q4|apply Q5|apply Q6))):w.heap.size≤gb214));clear HO_4;clear HB;have HO_4:=n0_;have HB:=n1_;have BK214:=n2_;have GW214:=n3_;have GE214:=n4_;clear n0_ n1_ n2_ n3_ n4_;clear hb hbox hg;have hcz11_0:w10.cell? ⟨gb214,0,none⟩=some (.int .i64 0):=(blk_cell BK214.out 0).trans rfl;have hcz11_1:w10.cell? ⟨gb214,1,none⟩=some (.int .i64 0):=(blk_cell BK214.out 1).trans rfl;have hcz11_2:w10.cell? ⟨gb214,2,none⟩=some (.int .i64 0):=(blk_cell BK214.out 2).trans rfl;have hcz11_3:w10.cell? ⟨gb214,3,none⟩=some (.int .i64 0):=(blk_cell BK214.out 3).trans rfl;have hcz11_4:w10.cell? ⟨gb214,4,none⟩=some (.int .i64 0):=(blk_cell BK214.out 4).trans rfl;have hfz11_0:=blk_frozen BK214.out 0;have hfz11_1:=blk_frozen BK214.out 1;have hfz11_2:=blk_frozen BK214.out 2;have hfz11_3:=blk_frozen BK214.out 3;have hfz11_4:=blk_frozen BK214.out 4)|((with_reducible refine gate_builtin (b:=.append) (xs:=#[.tmp 28,.tmp 30]) rfl ?_);at_builtin;refine Kd.R_append k86 (w0:=w) w.heap.size rfl (.tmp 28) (.tmp 30) 63 86 (.agg #[(.int .i64 0),(.int .i64 0),(.int .i64 0),(.int .i64 0),(.int .i64 0)]) 40 rfl Try.underlying63 info86 rfl (by decide) (by omega) u4 x4_1 (⟨t208,t209,t210,t211,t212⟩:S86) [.int .i64 t208,.int .i64 t209,.int .i64 t210,.int .i64 t211,.int .i64 t212] (fun k_=>k_≠gb214) (fun _=>False) rfl (by first|(go_simp;done)|(go_simp;rfl)) ?aP (fun _ hk=>hk.elim) ?aF ?aO ?aB ?aS ?aL ?_;(case aP=>exact k86_mkM _ _ _ (⟨t208,t209,t210,t211,t212⟩:S86));(case aB=>exact (by repeat (with_reducible first|exact HB.out|apply Q4|apply Q5|apply Q6|apply Q7 GE214.out)));(case aF=>exact (fun k_ hk=>Kd.freshB (g:=gb214) (o:=.cells #[.int .i64 t208,.int .i64 t209,.int .i64 t210,.int .i64 t211,.int .i64 t212] 86 (0,0)) (by (with_reducible repeat first|apply Q1|apply Q2|apply Q3);refine blk_put (cs:=#[.int .i64 t208,.int .i64 t209,.int .i64 t210,.int .i64 t211,.int .i64 0]) ?_ 4 _ rfl;(with_reducible repeat first|apply Q1|apply Q2|apply Q3);refine blk_put (cs:=#[.int .i64 t208,.int .i64 t209,.int .i64 t210,.int .i64 0,.int .i64 0]) ?_ 3 _ rfl;(with_reducible repeat first|apply Q1|apply Q2|apply Q3);refine blk_put (cs:=#[.int .i64 t208,.int .i64 t209,.int .i64 0,.int .i64 0,.int .i64 0]) ?_ 2 _ rfl;(with_reducible repeat first|apply Q1|apply Q2|apply Q3);refine blk_put (cs:=#[.int .i64 t208,.int .i64 0,.int .i64 0,.int .i64 0,.int .i64 0]) ?_ 1 _ rfl;(with_reducible repeat first|apply Q1|apply Q2|apply Q3);refine blk_put (cs:=#[.int .i64 0,.int .i64 0,.int .i64 0,.int .i64 0,.int .i64 0]) ?_ 0 _ rfl;(with_reducible repeat first|apply Q1|apply Q2|apply Q3);exact BK214.out) k_ hk));(case aO=>exact (by (with_reducible repeat (first|apply Kd.R_alloc|apply Kd.R_drewN|apply Kd.R_drew));exact Kd.R_mono (Kd.R_far (p:=⟨gb214,4,none⟩) (Kd.R_far (p:=⟨gb214,3,none⟩) (Kd.R_far (p:=⟨gb214,2,none⟩) (Kd.R_far (p:=⟨gb214,1,none⟩) (Kd.R_far (p:=⟨gb214,0,none⟩) (Kd.R_mono HO_4.out (fun k_ hk=>(⟨hk,hk.2⟩:_∧k_≠gb214))) (fun _ hk=>hk.2) (.int .i64 t208)) (fun _ hk=>hk.2) (.int .i64 t209)) (fun _ hk=>hk.2) (.int .i64 t210)) (fun _ hk=>hk.2) (.int .i64 t211)) (fun _ hk=>hk.2) (.int .i64 t212)) (fun _ hk=>hk.1.2)));(case aS=>exact (below_size (by repeat (with_reducible first|exact HB.out|apply Q4|apply Q5|apply Q6|apply Q7 GE214.out))));(case aL=>have:=LMc8.out;omega);intro v216 w12 ho hb hg hat;rw [← Ny215.out] at ho;have n0_:=Aside0.mk (blk_grown (g:=gb214) (o:=.cells #[.int .i64 t208,.int .i64 t209,.int .i64 t210,.int .i64 t211,.int .i64 t212] 86 (0,0)) (by (with_reducible repeat first|apply Q1|apply Q2|apply Q3);refine blk_put (cs:=#[.int .i64 t208,.int .i64 t209,.int .i64 t210,.int .i64 t211,.int .i64 0]) ?_ 4 _ rfl;(with_reducible repeat first|apply Q1|apply Q2|apply Q3);refine blk_put (cs:=#[.int .i64 t208,.int .i64 t209,.int .i64 t210,.int .i64 0,.int .i64 0]) ?_ 3 _ rfl;(with_reducible repeat first|apply Q1|apply Q2|apply Q3);refine blk_put (cs:=#[.int .i64 t208,.int .i64 t209,.int .i64 0,.int .i64 0,.int .i64 0]) ?_ 2 _ rfl;(with_reducible repeat first|apply Q1|apply Q2|apply Q3);refine blk_put (cs:=#[.int .i64 t208,.int .i64 0,.int .i64 0,.int .i64 0,.int .i64 0]) ?_ 1 _ rfl;(with_reducible repeat first|apply Q1|apply Q2|apply Q3);refine blk_put (cs:=#[.int .i64 0,.int .i64 0,.int .i64 0,.int .i64 0,.int .i64 0]) ?_ 0 _ rfl;(with_reducible repeat first|apply Q1|apply Q2|apply Q3);exact BK214.out) hg (Kd.R_away HO_4.out (fun _ hk=>hk.2)));have n1_:=Aside0.mk (hb);have n2_:=Aside0.mk (ho);clear BK214;clear HB;clear HO_4;have BK214:=n0_;have HB:=n1_;have HO217:=n2_;clear n0_ n1_ n2_;clear ho hb hg hat))
     go_roundg k1
     case measure=>have:=HK1.out;omega
     case rel=>exact ⟨(y215),(wrap64 (x5_1+1)),(by first|rfl|(simp;done)|(simp [*];done)),H',⟨by have:=HK1.out;omega⟩,⟨by (with_reducible repeat (first|apply Kd.R_alloc|apply Kd.R_drewN|apply Kd.R_drew));exact Kd.R_mono HO217.out (fun _ hk=>trivial)⟩,⟨by repeat (with_reducible first|exact HB.out|apply Q4|apply Q5|apply Q6|apply Q7 GE214.out)⟩⟩
    rw [if_neg c8] at H
    exact absurd H (by simp)
   replace c7:=Bool.eq_false_iff.mpr c7
   subst c7
   rw [if_neg (show ¬ (false=true) by decide)] at H
   obtain ⟨y218,hy218⟩ : ∃ y_:List (S86),y_=(([]:List (S86))):=⟨_,rfl⟩
   replace H:(some (y218,x5_1))=some (r1,r2):=by first|(rw [hy218];with_reducible exact H)|(have H2_:=(Option.bind_some _ _).symm.trans H;rw [hy218];with_reducible exact H2_)|(have H2_:=(Option.bind_some _ _).symm.trans H;with_reducible exact H2_)|with_reducible exact H|(rw [hy218];exact H)|exact H
   have Ny218:=Aside0.mk hy218
   clear hy218
   simp only [Option.some.injEq,Prod.mk.injEq] at H
   obtain ⟨rfl,rfl⟩:=H
   go_wp2_with (first|((with_reducible refine gate_callee (f:=77) rfl ?_);refine goesL_ (some 20) rfl rfl Try.func77 (by kernel_rfl) rfl #[.string a0,.int .i64 (wrap64 (4*x5_1)),.int .i64 4] rfl (by (try simp only [List.map_toArray,List.map_cons,List.map_nil]);first|done|rfl|(simp only [List.length_drop,List.length_take];rfl)) ?_;(with_reducible refine (spec_l01Take.calls k1 a0 (wrap64 (4*x5_1)) 4 t207 _ A5.out).mono ?_);rintro e w' ⟨rfl,⟨nd,rfl⟩⟩;refine ⟨_,rfl,?_⟩;(try (rw [drewN_self wr];generalize hq_:World.drewN wr _=wr;have n0_:Aside0 (Kd.R k86 86 wr w.heap.size (fun _=>True) u4 x4_1):=⟨by rw [← hq_];exact (by (with_reducible repeat (first|apply Kd.R_alloc|apply Kd.R_drewN|apply Kd.R_drew));exact HO_4.out)⟩;have n1_:Aside0 (Below w.heap.size w wr):=⟨by rw [← hq_];exact (by repeat (with_reducible first|exact HB.out|apply Q4|apply Q5|apply Q6))⟩;clear HO_4 HB hq_;have HO_4:=n0_;have HB:=n1_;clear n0_ n1_)))|((with_reducible refine gate_callee (f:=76) rfl ?_);refine goesL_ (some 21) rfl rfl Try.func76 (by kernel_rfl) rfl #[.int .i64 t207] rfl (by (try simp only [List.map_toArray,List.map_cons,List.map_nil]);first|done|rfl|(simp only [List.length_drop,List.length_take];rfl)) ?_;(with_reducible refine (spec_l02Decode.calls k1 t207 t208 t209 t210 t211 t212 false _ A6.out).mono ?_);rintro e w13 ⟨rfl,hb⟩;refine ⟨_,rfl,?_⟩;have n0_:=Aside0.mk (Kd.R_below (by (with_reducible repeat (first|apply Kd.R_alloc|apply Kd.R_drewN|apply Kd.R_drew));exact HO_4.out) hb);have n1_:=Aside0.mk (below_step (by repeat (with_reducible first|exact HB.out|apply Q4|apply Q5|apply Q6)) hb);clear HO_4;clear HB;have HO_4:=n0_;have HB:=n1_;clear n0_ n1_;(try clear hb);(try clear hb2);(try clear hk);(try clear hi))|((with_reducible refine gate_dst (N:=6) rfl ?_);refine box_event ?hg (N:=6) ?hd (cs:=#[.int .i64 0,.int .i64 0,.int .i64 0,.int .i64 0,.int .i64 0]) (t:=86) ?hr ?_;(case hd=>rfl);(case hg=>rfl);(case hr=>first|(go_simp;done)|(go_simp;rfl));intro gb214 hg w14 hbox hb;have n0_:=Aside0.mk (Kd.R_below (Kd.R_elderB (by (with_reducible repeat (first|apply Kd.R_alloc|apply Kd.R_drewN|apply Kd.R_drew));exact HO_4.out) gb214 (Nat.le_of_eq hg.symm)) hb);have n1_:=Aside0.mk (below_step (by repeat (with_reducible first|exact HB.out|apply Q4|apply Q5|apply Q6)) hb);have n2_:=Aside0.mk (hbox);have n3_:=Aside0.mk ((by rw [hg];exact (below_size (by repeat (with_reducible first|exact HB.out|apply Q4|apply Q5|apply Q6))):w.heap.size≤gb214));have n4_:=Aside0.mk ((by rw [hg];exact (below_size (by repeat (with_reducible first|exact HB.out|apply Q4|apply Q5|apply Q6))):w.heap.size≤gb214));clear HO_4;clear HB;have HO_4:=n0_;have HB:=n1_;have BK214:=n2_;have GW214:=n3_;have GE214:=n4_;clear n0_ n1_ n2_ n3_ n4_;clear hb hbox hg;have hcz15_0:w14.cell? ⟨gb214,0,none⟩=some (.int .i64 0):=(blk_cell BK214.out 0).trans rfl;have hcz15_1:w14.cell? ⟨gb214,1,none⟩=some (.int .i64 0):=(blk_cell BK214.out 1).trans rfl;have hcz15_2:w14.cell? ⟨gb214,2,none⟩=some (.int .i64 0):=(blk_cell BK214.out 2).trans rfl;have hcz15_3:w14.cell? ⟨gb214,3,none⟩=some (.int .i64 0):=(blk_cell BK214.out 3).trans rfl;have hcz15_4:w14.cell? ⟨gb214,4,none⟩=some (.int .i64 0):=(blk_cell BK214.out 4).trans rfl;have hfz15_0:=blk_frozen BK214.out 0;have hfz15_1:=blk_frozen BK214.out 1;have hfz15_2:=blk_frozen BK214.out 2;have hfz15_3:=blk_frozen BK214.out 3;have hfz15_4:=blk_frozen BK214.out 4)|((with_reducible refine gate_dst (N:=26) rfl ?_);refine Kd.R_lit k86 _ 86 ?hg (N:=26) ?hd (xs:=([]:List (S86))) (inner:=[]) (ok:=fun _=>True) (okp:=fun _=>True) ?hr ?hp (fun _ hk=>hk) trivial (Below.refl _ _) (Nat.le_refl _) (by simp) ?_;(case hd=>rfl);(case hg=>rfl);(case hr=>first|(go_simp;done)|(go_simp;rfl));(case hp=>exact (Reps.none _ _));intro v219 w16 ho17 hb hg_ hnew_;clear hg_ hnew_;(first|rw [← Ny218.out] at ho17|(simp only [Int.reduceToNat] at ho17;rw [← Ny218.out] at ho17));have n0_:=Aside0.mk (Kd.R_elder' (by (with_reducible repeat (first|apply Kd.R_alloc|apply Kd.R_drewN|apply Kd.R_drew));exact (Kd.R_mono (Kd.R_far (p:=⟨gb214,4,none⟩) (Kd.R_far (p:=⟨gb214,3,none⟩) (Kd.R_far (p:=⟨gb214,2,none⟩) (Kd.R_far (p:=⟨gb214,1,none⟩) (Kd.R_far (p:=⟨gb214,0,none⟩) (Kd.R_mono HO_4.out (fun k_ hk=>(⟨hk,hk.2⟩:_∧k_≠gb214))) (fun _ hk=>hk.2) (.int .i64 t208)) (fun _ hk=>hk.2) (.int .i64 t209)) (fun _ hk=>hk.2) (.int .i64 t210)) (fun _ hk=>hk.2) (.int .i64 t211)) (fun _ hk=>hk.2) (.int .i64 t212)) (fun _ h_=>h_.1))) (Kd.R_base ho17) hb);have n1_:=Aside0.mk (Kd.R_lower (Kd.R_newB (Kd.R_new' ho17 (Kd.R_lt (by (with_reducible repeat (first|apply Kd.R_alloc|apply Kd.R_drewN|apply Kd.R_drew));exact (Kd.R_mono (Kd.R_far (p:=⟨gb214,4,none⟩) (Kd.R_far (p:=⟨gb214,3,none⟩) (Kd.R_far (p:=⟨gb214,2,none⟩) (Kd.R_far (p:=⟨gb214,1,none⟩) (Kd.R_far (p:=⟨gb214,0,none⟩) (Kd.R_mono HO_4.out (fun k_ hk=>(⟨hk,hk.2⟩:_∧k_≠gb214))) (fun _ hk=>hk.2) (.int .i64 t208)) (fun _ hk=>hk.2) (.int .i64 t209)) (fun _ hk=>hk.2) (.int .i64 t210)) (fun _ hk=>hk.2) (.int .i64 t211)) (fun _ hk=>hk.2) (.int .i64 t212)) (fun _ h_=>h_.1))))) (g:=gb214) (o:=.cells #[.int .i64 t208,.int .i64 t209,.int .i64 t210,.int .i64 t211,.int .i64 t212] 86 (0,0)) (by (with_reducible repeat first|apply Q1|apply Q2|apply Q3);refine blk_put (cs:=#[.int .i64 t208,.int .i64 t209,.int .i64 t210,.int .i64 t211,.int .i64 0]) ?_ 4 _ rfl;(with_reducible repeat first|apply Q1|apply Q2|apply Q3);refine blk_put (cs:=#[.int .i64 t208,.int .i64 t209,.int .i64 t210,.int .i64 0,.int .i64 0]) ?_ 3 _ rfl;(with_reducible repeat first|apply Q1|apply Q2|apply Q3);refine blk_put (cs:=#[.int .i64 t208,.int .i64 t209,.int .i64 0,.int .i64 0,.int .i64 0]) ?_ 2 _ rfl;(with_reducible repeat first|apply Q1|apply Q2|apply Q3);refine blk_put (cs:=#[.int .i64 t208,.int .i64 0,.int .i64 0,.int .i64 0,.int .i64 0]) ?_ 1 _ rfl;(with_reducible repeat first|apply Q1|apply Q2|apply Q3);refine blk_put (cs:=#[.int .i64 0,.int .i64 0,.int .i64 0,.int .i64 0,.int .i64 0]) ?_ 0 _ rfl;(with_reducible repeat first|apply Q1|apply Q2|apply Q3);exact BK214.out)) (below_size (by repeat (with_reducible first|exact HB.out|apply Q4|apply Q5|apply Q6|apply Q7 GE214.out))));have n2_:=Aside0.mk (blk_below (g:=gb214) (o:=.cells #[.int .i64 t208,.int .i64 t209,.int .i64 t210,.int .i64 t211,.int .i64 t212] 86 (0,0)) (by (with_reducible repeat first|apply Q1|apply Q2|apply Q3);refine blk_put (cs:=#[.int .i64 t208,.int .i64 t209,.int .i64 t210,.int .i64 t211,.int .i64 0]) ?_ 4 _ rfl;(with_reducible repeat first|apply Q1|apply Q2|apply Q3);refine blk_put (cs:=#[.int .i64 t208,.int .i64 t209,.int .i64 t210,.int .i64 0,.int .i64 0]) ?_ 3 _ rfl;(with_reducible repeat first|apply Q1|apply Q2|apply Q3);refine blk_put (cs:=#[.int .i64 t208,.int .i64 t209,.int .i64 0,.int .i64 0,.int .i64 0]) ?_ 2 _ rfl;(with_reducible repeat first|apply Q1|apply Q2|apply Q3);refine blk_put (cs:=#[.int .i64 t208,.int .i64 0,.int .i64 0,.int .i64 0,.int .i64 0]) ?_ 1 _ rfl;(with_reducible repeat first|apply Q1|apply Q2|apply Q3);refine blk_put (cs:=#[.int .i64 0,.int .i64 0,.int .i64 0,.int .i64 0,.int .i64 0]) ?_ 0 _ rfl;(with_reducible repeat first|apply Q1|apply Q2|apply Q3);exact BK214.out) hb);have n3_:=Aside0.mk (below_step (by repeat (with_reducible first|exact HB.out|apply Q4|apply Q5|apply Q6|apply Q7 GE214.out)) hb);clear HO_4;clear BK214;clear HB;have HO_4:=n0_;have HO220:=n1_;have BK214:=n2_;have HB:=n3_;clear n0_ n1_ n2_ n3_;clear hb ho17))
   go_ret2
   exact ⟨_,by first|rfl|(simp [errW_none,errW_some]<;>rfl)|(simp [*,errW_none,errW_some]<;>rfl),by (with_reducible repeat (first|apply Kd.R_alloc|apply Kd.R_drewN|apply Kd.R_drew));exact Kd.R_mono HO220.out (fun _ hk=>trivial),by repeat (with_reducible first|exact HB.out|apply Q4|apply Q5|apply Q6|apply Q7 GE214.out)⟩
  rw [if_neg c4] at H
  have c4b0:decide ((wrap64 (4*x5_1)) < (a0.size:Int))=false:=decide_eq_false c4
  clear c4
  simp only [Option.some.injEq,Prod.mk.injEq] at H
  obtain ⟨rfl,rfl⟩:=H
  go_wp2
  go_ret2
  exact ⟨_,by first|rfl|(simp [errW_none,errW_some]<;>rfl)|(simp [*,errW_none,errW_some]<;>rfl),by (with_reducible repeat (first|apply Kd.R_alloc|apply Kd.R_drewN|apply Kd.R_drew));exact HO_4.out,by repeat (with_reducible first|exact HB.out|apply Q4|apply Q5|apply Q6)⟩
def spec_l06HasInt.l0:Nat→List Int→Int→Int→Option (Bool)
  | 0,_,_,_=>none
  | k+1,x0,x1,x5=>if x5 < (x0.length:Int) then (if 0≤x5 then (if (rd x0 x5)=x1 then (some true) else (spec_l06HasInt.l0 k x0 x1 (wrap64 (x5+1)))) else (none)) else (some false)
def spec_l06HasInt.f (k:Nat) (l0:List Int) (a1:Int):Option (Bool):=spec_l06HasInt.l0 k l0 a1 0
theorem spec_l06HasInt.mono_l : ∀ k,(∀ y0 y1 y2,LeO (spec_l06HasInt.l0 k y0 y1 y2) (spec_l06HasInt.l0 (k+1) y0 y1 y2))
  | 0=>fun _ _ _ r h=>by simp [spec_l06HasInt.l0] at h
  | k+1=>by
    have ih0:=spec_l06HasInt.mono_l k
    · intro y0 y1 y2
      unfold spec_l06HasInt.l0
      repeat' (with_reducible first|apply ih0|apply LeO.refl|apply LeO.none|apply LeO.ite|refine LeO.bind ?_ (fun _=>?_))
theorem spec_l06HasInt.mono : ∀ a0 a1 k,LeO (spec_l06HasInt.f k a0 a1) (spec_l06HasInt.f (k+1) a0 a1):=by
 intro a0 a1 k
 have ih0:=spec_l06HasInt.mono_l k
 unfold spec_l06HasInt.f
 repeat' (with_reducible first|apply ih0|apply LeO.refl|apply LeO.none|apply LeO.ite|refine LeO.bind ?_ (fun _=>?_))
set_option maxHeartbeats 8000000 in
set_option maxRecDepth 100000 in
theorem spec_l06HasInt.calls (k:Nat) (A0:Option Addr) (c0:Nat) (l0:List Int) (a1:Int) (r:Bool) (w:World) (hr0:Kd.C (Kd.int .i64) w A0 l0.length l0) (hc0:l0.length≤c0) (h:spec_l06HasInt.f k l0 a1=some r) :
    Calls Try.prog 78 #[.slice A0 l0.length c0,.int .i64 a1] w fun e w'=>e=.returned (.bool r)∧Drawn0 w w':=by
 have HR0:=Aside0.mk hr0
 have HC0:=Aside0.mk hc0
 clear hr0 hc0
 have H:(spec_l06HasInt.l0 k l0 a1 0)=some r:=h
 clear h
 have H':=Aside0.mk H
 clear H
 go_enter Try.func78,Try.ntmps78
 go_wp2
 go_loopg [5] k (fun kq v5 w'=>∃ (x5_1:Int),v5=.int .i64 x5_1∧Aside0 (spec_l06HasInt.l0 kq l0 a1 x5_1=some r)∧Aside0 (kq≤k)∧Drawn0 w w')
 case atStart=>exact ⟨(0),(by first|rfl|(simp;done)|(simp [*];done)),H',⟨Nat.le_refl _⟩,by repeat (first|exact Drawn0.refl _|apply Drawn0.step)⟩
 clear H'
 obtain ⟨x5_1,rfl,HA,HK1,⟨m1,rfl⟩⟩:=hrel
 cases gk with
 | zero=>exact absurd HA.out (by simp [spec_l06HasInt.l0])
 | succ k1 =>
  have H:=HA.out
  clear HA
  simp only [spec_l06HasInt.l0] at H
  by_cases c3:x5_1 < (l0.length:Int)
  ·rw [if_pos c3] at H
   have c3b0:decide (x5_1 < (l0.length:Int))=true:=decide_eq_true c3
   clear c3
   by_cases c4:0≤x5_1
   ·rw [if_pos c4] at H
    have c4b0:decide (0≤x5_1)=true:=decide_eq_true c4
    clear c4
    by_cases c5:(rd l0 x5_1)=a1
    ·rw [if_pos c5] at H
     obtain ⟨c5b0,c5b1⟩:=eqP c5
     clear c5
     obtain rfl:=Option.some.inj H
     have p221:0≤(x5_1:Int):=of_decide_eq_true (by first|(with_reducible assumption)|assumption)
     have q221:x5_1 < (l0.length:Int):=of_decide_eq_true (by first|(with_reducible assumption)|assumption)
     obtain ⟨ad221,e221,hx221_0⟩:=Kd.at_int HR0.out x5_1 p221 q221
     cases e221
     replace p221:=eq_true p221
     replace q221:=eq_true q221
     go_wp2
     go_ret
     exact ⟨by first|rfl|(simp;done)|(simp [*];done),by repeat (first|exact Drawn0.refl _|apply Drawn0.step)⟩
    rw [if_neg c5] at H
    obtain ⟨c5b0,c5b1⟩:=eqN c5
    have H':=Aside0.mk H
    clear H
    have p221:0≤(x5_1:Int):=of_decide_eq_true (by first|(with_reducible assumption)|assumption)
    have q221:x5_1 < (l0.length:Int):=of_decide_eq_true (by first|(with_reducible assumption)|assumption)
    obtain ⟨ad221,e221,hx221_0⟩:=Kd.at_int HR0.out x5_1 p221 q221
    cases e221
    replace p221:=eq_true p221
    replace q221:=eq_true q221
    go_wp2
    go_roundg k1
    case measure=>have:=HK1.out;omega
    case rel=>exact ⟨(wrap64 (x5_1+1)),(by first|rfl|(simp;done)|(simp [*];done)),H',⟨by have:=HK1.out;omega⟩,by repeat (first|exact Drawn0.refl _|apply Drawn0.step)⟩
   rw [if_neg c4] at H
   exact absurd H (by simp)
  rw [if_neg c3] at H
  have c3b0:decide (x5_1 < (l0.length:Int))=false:=decide_eq_false c3
  clear c3
  obtain rfl:=Option.some.inj H
  go_wp2
  go_ret
  exact ⟨by first|rfl|(simp;done)|(simp [*];done),by repeat (first|exact Drawn0.refl _|apply Drawn0.step)⟩
end Go.Proofs.Ythepmdlpjdlajaa.PFnExactCallsOf
