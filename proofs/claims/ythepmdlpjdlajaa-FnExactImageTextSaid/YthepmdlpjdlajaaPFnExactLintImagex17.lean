-- Written by a program for this claim.
import Derived.Test.YthepmdlpjdlajaaPFnExactLintImagex0
import Derived.Test.YthepmdlpjdlajaaPFnExactLintImagex16
namespace Go.Proofs.Ythepmdlpjdlajaa.PFnExactLintImage
open Go.RowKit Go.Proofs.YthepmdlpjdlajaaW.PrintWords Go.Proofs.YthepmdlpjdlajaaW.PrintLast Go.Proofs.YthepmdlpjdlajaaW.PrintMore
attribute [local go_sem] max2_int min2_int max_two min_two max_three min_three max_four min_four   -- for this text's walks alone
set_option linter.unusedVariables false
set_option linter.unusedSimpArgs false
mutual
def impl_fields.j0:Nat→Int→Bool→Option (Bool × Bool × Bool)
  | 0,_,_=>none
  | k+1,x5,x6=>if x6=true then (some (true,false,false)) else (if x5=3 then (impl_fields.j1 k x5 (x5==3)) else (if x5=6 then (impl_fields.j1 k x5 (x5==6)) else (impl_fields.j1 k x5 (x5==7))))
def impl_fields.j1:Nat→Int→Bool→Option (Bool × Bool × Bool)
  | 0,_,_=>none
  | k+1,x5,x9=>if x9=true then (some (true,true,false)) else (if x5=4 then (impl_fields.j2 k x5 (x5==4)) else (impl_fields.j2 k x5 (x5==5)))
def impl_fields.j2:Nat→Int→Bool→Option (Bool × Bool × Bool)
  | 0,_,_=>none
  | k+1,x5,x13=>if x13=true then (some (false,true,true)) else (if x5=8 then (some (true,true,true)) else (some (false,false,false)))
end
def impl_fields.f (k:Nat) (a0:Int):Option (Bool × Bool × Bool):=if a0=1 then (impl_fields.j0 k a0 (a0==1)) else (impl_fields.j0 k a0 (a0==2))
theorem impl_fields.mono_l : ∀ k,(∀ y0 y1,LeO (impl_fields.j0 k y0 y1) (impl_fields.j0 (k+1) y0 y1))∧(∀ y0 y1,LeO (impl_fields.j1 k y0 y1) (impl_fields.j1 (k+1) y0 y1))∧(∀ y0 y1,LeO (impl_fields.j2 k y0 y1) (impl_fields.j2 (k+1) y0 y1))
  | 0=>⟨fun _ _ r h=>by simp [impl_fields.j0] at h,fun _ _ r h=>by simp [impl_fields.j1] at h,fun _ _ r h=>by simp [impl_fields.j2] at h⟩
  | k+1=>by
    obtain ⟨ih0,ih1,ih2⟩:=impl_fields.mono_l k
    refine ⟨?_,?_,?_⟩<;>intros<;>(first|unfold impl_fields.j0|unfold impl_fields.j1|unfold impl_fields.j2)<;>repeat' (with_reducible first|apply ih0|apply ih1|apply ih2|apply LeO.refl|apply LeO.none|apply LeO.ite|refine LeO.bind ?_ (fun _=>?_))
theorem impl_fields.mono : ∀ a0 k,LeO (impl_fields.f k a0) (impl_fields.f (k+1) a0):=by
 intro a0 k
 obtain ⟨ih0,ih1,ih2⟩:=impl_fields.mono_l k
 unfold impl_fields.f
 repeat' (with_reducible first|apply ih0|apply ih1|apply ih2|apply LeO.refl|apply LeO.none|apply LeO.ite|refine LeO.bind ?_ (fun _=>?_))
set_option maxHeartbeats 8000000 in
set_option maxRecDepth 100000 in
theorem impl_fields.calls (k:Nat) (a0:Int) (r1:Bool) (r2:Bool) (r3:Bool) (w:World) (h:impl_fields.f k a0=some (r1,r2,r3)) :
    Calls Try.prog 111 #[.int .i64 a0] w fun e w'=>e=.returned (.tuple #[.bool r1,.bool r2,.bool r3])∧Drawn0 w w':=by
 have H:(if a0=1 then (impl_fields.j0 k a0 (a0==1)) else (impl_fields.j0 k a0 (a0==2)))=some (r1,r2,r3):=h
 clear h
 have HC2:=Aside0.mk H
 clear H
 go_enter Try.func111,Try.ntmps111
 go_upto_if 6 with (fail)
 go_cut [6] (fun v6 wc=>∃ (kq:Nat) (x6_1:Bool),v6=.bool x6_1∧Aside0 (impl_fields.j0 kq a0 x6_1=some (r1,r2,r3))∧Aside0 (kq≤k)∧Drawn0 w wc)
 case first=>
  have H:=HC2.out
  clear HC2
  by_cases c3:a0=1
  ·rw [if_pos c3] at H
   obtain ⟨c3b0,c3b1⟩:=eqP c3
   clear c3
   (first|rw [c3b0]|(simp only [i64_w,i32_w];rw [c3b0])|skip)
   have H':=Aside0.mk H
   clear H
   go_wp2
   go_meet
   case rel=>exact ⟨_,((a0==1)),rs,H',⟨by first|omega|exact Nat.le_refl _⟩,dr⟩
  rw [if_neg c3] at H
  obtain ⟨c3b0,c3b1⟩:=eqN c3
  (first|rw [c3b0]|(simp only [i64_w,i32_w];rw [c3b0])|skip)
  have H':=Aside0.mk H
  clear H
  go_wp2
  go_meet
  case rel=>exact ⟨_,((a0==2)),rs,H',⟨by first|omega|exact Nat.le_refl _⟩,dr⟩
 clear HC2
 obtain ⟨kq,x6_1,rfl,HA,HJ1,⟨mc1,rfl⟩⟩:=hcut
 cases kq with
 | zero=>exact absurd HA.out (by simp [impl_fields.j0])
 | succ kj1 =>
  have H:=HA.out
  clear HA
  simp only [impl_fields.j0] at H
  by_cases c4:x6_1=true
  ·subst c4
   rw [if_pos rfl] at H
   simp only [Option.some.injEq,Prod.mk.injEq] at H
   obtain ⟨rfl,rfl,rfl⟩:=H
   go_wp2
   go_ret3
   exact ⟨rs,dr⟩
  replace c4:=Bool.eq_false_iff.mpr c4
  subst c4
  rw [if_neg (show ¬ (false=true) by decide)] at H
  have HC5:=Aside0.mk H
  clear H
  go_upto_if 9 with (fail)
  go_cut [9] (fun v9 wc=>∃ (kq:Nat) (x9_4:Bool),v9=.bool x9_4∧Aside0 (impl_fields.j1 kq a0 x9_4=some (r1,r2,r3))∧Aside0 (kq≤kj1)∧Drawn0 w wc)
  case first=>
   have H:=HC5.out
   clear HC5
   by_cases c6:a0=3
   ·rw [if_pos c6] at H
    obtain ⟨c6b0,c6b1⟩:=eqP c6
    clear c6
    (first|rw [c6b0]|(simp only [i64_w,i32_w];rw [c6b0])|skip)
    have H':=Aside0.mk H
    clear H
    go_wp2
    go_meet
    case rel=>exact ⟨_,((a0==3)),rs,H',⟨om HJ1.out⟩,dr⟩
   rw [if_neg c6] at H
   obtain ⟨c6b0,c6b1⟩:=eqN c6
   (first|rw [c6b0]|(simp only [i64_w,i32_w];rw [c6b0])|skip)
   by_cases c7:a0=6
   ·rw [if_pos c7] at H
    obtain ⟨c7b0,c7b1⟩:=eqP c7
    clear c7
    have H':=Aside0.mk H
    clear H
    go_wp2
    go_meet
    case rel=>exact ⟨_,((a0==6)),rs,H',⟨om HJ1.out⟩,dr⟩
   rw [if_neg c7] at H
   obtain ⟨c7b0,c7b1⟩:=eqN c7
   have H':=Aside0.mk H
   clear H
   go_wp2
   go_meet
   case rel=>exact ⟨_,((a0==7)),rs,H',⟨om HJ1.out⟩,dr⟩
  clear HC5
  try clear c4
  obtain ⟨kq,x9_4,rfl,HA,HJ4,⟨mc4,rfl⟩⟩:=hcut
  cases kq with
  | zero=>exact absurd HA.out (by simp [impl_fields.j1])
  | succ kj4 =>
   have H:=HA.out
   clear HA
   simp only [impl_fields.j1] at H
   by_cases c8:x9_4=true
   ·subst c8
    rw [if_pos rfl] at H
    simp only [Option.some.injEq,Prod.mk.injEq] at H
    obtain ⟨rfl,rfl,rfl⟩:=H
    go_wp2
    go_ret3
    exact ⟨rs,dr⟩
   replace c8:=Bool.eq_false_iff.mpr c8
   subst c8
   rw [if_neg (show ¬ (false=true) by decide)] at H
   have HC9:=Aside0.mk H
   clear H
   go_upto_if 13 with (fail)
   go_cut [13] (fun v13 wc=>∃ (kq:Nat) (x13_8:Bool),v13=.bool x13_8∧Aside0 (impl_fields.j2 kq a0 x13_8=some (r1,r2,r3))∧Aside0 (kq≤kj4)∧Drawn0 w wc)
   case first=>
    have H:=HC9.out
    clear HC9
    by_cases c10:a0=4
    ·rw [if_pos c10] at H
     obtain ⟨c10b0,c10b1⟩:=eqP c10
     clear c10
     (first|rw [c10b0]|(simp only [i64_w,i32_w];rw [c10b0])|skip)
     have H':=Aside0.mk H
     clear H
     go_wp2
     go_meet
     case rel=>exact ⟨_,((a0==4)),rs,H',⟨by have:=HJ1.out;have:=HJ4.out;first|omega|exact Nat.le_refl _⟩,dr⟩
    rw [if_neg c10] at H
    obtain ⟨c10b0,c10b1⟩:=eqN c10
    (first|rw [c10b0]|(simp only [i64_w,i32_w];rw [c10b0])|skip)
    have H':=Aside0.mk H
    clear H
    go_wp2
    go_meet
    case rel=>exact ⟨_,((a0==5)),rs,H',⟨by have:=HJ1.out;have:=HJ4.out;first|omega|exact Nat.le_refl _⟩,dr⟩
   clear HC9
   try clear c8
   obtain ⟨kq,x13_8,rfl,HA,HJ8,⟨mc8,rfl⟩⟩:=hcut
   cases kq with
   | zero=>exact absurd HA.out (by simp [impl_fields.j2])
   | succ kj8 =>
    have H:=HA.out
    clear HA
    simp only [impl_fields.j2] at H
    by_cases c11:x13_8=true
    ·subst c11
     rw [if_pos rfl] at H
     simp only [Option.some.injEq,Prod.mk.injEq] at H
     obtain ⟨rfl,rfl,rfl⟩:=H
     go_wp2
     go_ret3
     exact ⟨rs,dr⟩
    replace c11:=Bool.eq_false_iff.mpr c11
    subst c11
    rw [if_neg (show ¬ (false=true) by decide)] at H
    by_cases c12:a0=8
    ·rw [if_pos c12] at H
     obtain ⟨c12b0,c12b1⟩:=eqP c12
     clear c12
     simp only [Option.some.injEq,Prod.mk.injEq] at H
     obtain ⟨rfl,rfl,rfl⟩:=H
     go_wp2
     go_ret3
     exact ⟨rs,dr⟩
    rw [if_neg c12] at H
    obtain ⟨c12b0,c12b1⟩:=eqN c12
    simp only [Option.some.injEq,Prod.mk.injEq] at H
    obtain ⟨rfl,rfl,rfl⟩:=H
    go_wp2
    go_ret3
    exact ⟨rs,dr⟩
def impl_shapeOf.f (a0:Int):Option (Int × Int × Int × Int):=(impl_ops.f).bind fun t364=>(if 0≤a0 then (if a0 < (t364.length:Int) then (some ((rd_T120 t364 a0).f1.f0,(rd_T120 t364 a0).f1.f1,(rd_T120 t364 a0).f1.f2,(rd_T120 t364 a0).f1.f3)) else (none)) else (none))
set_option maxHeartbeats 8000000 in
set_option maxRecDepth 100000 in
theorem impl_shapeOf.calls (a0:Int) (r1:Int) (r2:Int) (r3:Int) (r4:Int) (w:World) (h:impl_shapeOf.f a0=some (r1,r2,r3,r4)) :
    Calls Try.prog 133 #[.int .i64 a0] w fun e w'=>e=.returned (.agg #[.int .i64 r1,.int .i64 r2,.int .i64 r3,.int .i64 r4])∧Below w.heap.size w w':=by
 have hu109:=Try.underlying109
 have HB:=Aside0.mk (Below.refl w.heap.size w)
 have H:((impl_ops.f).bind fun t364=>(if 0≤a0 then (if a0 < (t364.length:Int) then (some ((rd_T120 t364 a0).f1.f0,(rd_T120 t364 a0).f1.f1,(rd_T120 t364 a0).f1.f2,(rd_T120 t364 a0).f1.f3)) else (none)) else (none)))=some (r1,r2,r3,r4):=h
 clear h
 obtain ⟨t364,A2,H⟩:=bindA H
 by_cases c3:0≤a0
 ·rw [if_pos c3] at H
  have c3b0:decide (0≤a0)=true:=decide_eq_true c3
  clear c3
  by_cases c4:a0 < (t364.length:Int)
  ·rw [if_pos c4] at H
   have c4b0:decide (a0 < (t364.length:Int))=true:=decide_eq_true c4
   clear c4
   simp only [Option.some.injEq,Prod.mk.injEq] at H
   obtain ⟨rfl,rfl,rfl,rfl⟩:=H
   go_enter Try.func133,Try.ntmps133
   go_wp2_with (first|(refine bv 2 #[.int .i64 0,.int .i64 0,.int .i64 0,.int .i64 0] 109 ?_;intro gb363 hg w5 hbox hb;obtain ⟨n0_,n2_⟩:=bx0 hbx hb hg;have n1_:=Aside0.mk (hbox);clear HB;have HB:=n0_;have BK363:=n1_;have GW363:=n2_;have GE363:=n2_;clear n0_ n1_ n2_;clear hb hbox hg)|(refine gl 106 3 Try.func106 #[] ?_;(with_reducible refine (impl_ops.calls  t364 _ A2.out).mono ?_);rintro e w6 ⟨v365,rfl,ho0,hb⟩;refine ⟨_,rfl,?_⟩;have n0_:=Aside0.mk (Kd.R_lower ho0 (below_size (hb1 GE363.out)));have n1_:=Aside0.mk (blk_below (qx BK363.out) hb);replace HB:=Aside0.mk (below_step (hb1 GE363.out) hb);clear BK363;have HO366:=n0_;have BK363:=n1_;clear n0_ n1_;(try clear hb);(try clear hb2);(try clear hk);(try clear hi);(try clear ho0);obtain ⟨Ao7,co7,eo7⟩:=Kd.R_slice HO366.out;subst eo7;have p367:0≤(a0:Int):=od;have q367:a0 < (t364.length:Int):=od;obtain ⟨ad367,e367,hx367_0,hx367_1,hx367_2,hx367_3,hx367_4⟩:=at_T120 (Kd.R_reads' HO366.out).2.2 a0 p367 q367;cases e367;replace p367:=eq_true p367;replace q367:=eq_true q367;obtain ⟨Z8_0,Z8_1,Z8_2,Z8_3,Y8_0,Y8_1,Y8_2,Y8_3⟩:=cel4 BK363.out))
   refine bodyPost_ret (results_cell_row rfl _ _ gb363 109 #[.int .i64 ((rd_T120 t364 a0).f1.f0),.int .i64 ((rd_T120 t364 a0).f1.f1),.int .i64 ((rd_T120 t364 a0).f1.f2),.int .i64 ((rd_T120 t364 a0).f1.f3)] (0,0) _ rfl (by (with_reducible repeat first|apply Q1|apply Q2|apply Q3);refine blk_put (cs:=#[.int .i64 ((rd_T120 t364 a0).f1.f0),.int .i64 ((rd_T120 t364 a0).f1.f1),.int .i64 ((rd_T120 t364 a0).f1.f2),.int .i64 0]) ?_ 3 _ rfl;(with_reducible repeat first|apply Q1|apply Q2|apply Q3);refine blk_put (cs:=#[.int .i64 ((rd_T120 t364 a0).f1.f0),.int .i64 ((rd_T120 t364 a0).f1.f1),.int .i64 0,.int .i64 0]) ?_ 2 _ rfl;(with_reducible repeat first|apply Q1|apply Q2|apply Q3);refine blk_put (cs:=#[.int .i64 ((rd_T120 t364 a0).f1.f0),.int .i64 0,.int .i64 0,.int .i64 0]) ?_ 1 _ rfl;(with_reducible repeat first|apply Q1|apply Q2|apply Q3);refine blk_put (cs:=#[.int .i64 0,.int .i64 0,.int .i64 0,.int .i64 0]) ?_ 0 _ rfl;(with_reducible repeat first|apply Q1|apply Q2|apply Q3);exact BK363.out) Try.underlying109 rfl (by kernel_rfl)) rfl ?_
   exact ⟨rf,hb1 GE363.out⟩
  rw [if_neg c4] at H
  exact absurd H (by simp)
 rw [if_neg c3] at H
 exact absurd H (by simp)
end Go.Proofs.Ythepmdlpjdlajaa.PFnExactLintImage
