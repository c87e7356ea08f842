-- Written by a program for this claim.
import Derived.Test.YthepmdlpjdlajaaPFnExactLintImagex0
import Derived.Test.YthepmdlpjdlajaaPFnExactLintImagex1
namespace Go.Proofs.Ythepmdlpjdlajaa.PFnExactLintImage
open Go.RowKit Go.Proofs.YthepmdlpjdlajaaW.PrintWords Go.Proofs.YthepmdlpjdlajaaW.PrintLast Go.Proofs.YthepmdlpjdlajaaW.PrintMore
attribute [local go_sem] max2_int min2_int max_two min_two max_three min_three max_four min_four   -- for this text's walks alone
set_option linter.unusedVariables false
set_option linter.unusedSimpArgs false
attribute [local go_sem high] eqA86
mutual
def spec_l03Width.j0:Nat→Int→Bool→Option (Int × Bool)
  | 0,_,_=>none
  | k+1,x4,x7=>if x7=true then (some (1,false)) else (if x4=12 then (some (2,true)) else (if x4=16 then (spec_l03Width.j1 k x4 (x4==16)) else (spec_l03Width.j1 k x4 (x4==19))))
def spec_l03Width.j1:Nat→Int→Bool→Option (Int × Bool)
  | 0,_,_=>none
  | k+1,x4,x12=>if x12=true then (some (2,false)) else (if x4=13 then (some (4,true)) else (if x4=17 then (spec_l03Width.j2 k x4 (x4==17)) else (spec_l03Width.j2 k x4 (x4==20))))
def spec_l03Width.j2:Nat→Int→Bool→Option (Int × Bool)
  | 0,_,_=>none
  | k+1,x4,x17=>if x17=true then (some (4,false)) else (if x4=14 then (some (8,true)) else (if x4=21 then (some (8,false)) else (some (0,false))))
end
def spec_l03Width.f (k:Nat) (a0:Int):Option (Int × Bool):=if a0=11 then (some (1,true)) else (if a0=15 then (spec_l03Width.j0 k a0 (a0==15)) else (spec_l03Width.j0 k a0 (a0==18)))
theorem spec_l03Width.mono_l : ∀ k,(∀ y0 y1,LeO (spec_l03Width.j0 k y0 y1) (spec_l03Width.j0 (k+1) y0 y1))∧(∀ y0 y1,LeO (spec_l03Width.j1 k y0 y1) (spec_l03Width.j1 (k+1) y0 y1))∧(∀ y0 y1,LeO (spec_l03Width.j2 k y0 y1) (spec_l03Width.j2 (k+1) y0 y1))
  | 0=>⟨fun _ _ r h=>by simp [spec_l03Width.j0] at h,fun _ _ r h=>by simp [spec_l03Width.j1] at h,fun _ _ r h=>by simp [spec_l03Width.j2] at h⟩
  | k+1=>by
    obtain ⟨ih0,ih1,ih2⟩:=spec_l03Width.mono_l k
    refine ⟨?_,?_,?_⟩<;>intros<;>(first|unfold spec_l03Width.j0|unfold spec_l03Width.j1|unfold spec_l03Width.j2)<;>repeat' (with_reducible first|apply ih0|apply ih1|apply ih2|apply LeO.refl|apply LeO.none|apply LeO.ite|refine LeO.bind ?_ (fun _=>?_))
theorem spec_l03Width.mono : ∀ a0 k,LeO (spec_l03Width.f k a0) (spec_l03Width.f (k+1) a0):=by
 intro a0 k
 obtain ⟨ih0,ih1,ih2⟩:=spec_l03Width.mono_l k
 unfold spec_l03Width.f
 repeat' (with_reducible first|apply ih0|apply ih1|apply ih2|apply LeO.refl|apply LeO.none|apply LeO.ite|refine LeO.bind ?_ (fun _=>?_))
set_option maxHeartbeats 8000000 in
set_option maxRecDepth 100000 in
theorem spec_l03Width.calls (k:Nat) (a0:Int) (r1:Int) (r2:Bool) (w:World) (h:spec_l03Width.f k a0=some (r1,r2)) :
    Calls Try.prog 85 #[.int .i64 a0] w fun e w'=>e=.returned (.tuple #[.int .i64 r1,.bool r2])∧Drawn0 w w':=by
 have H:(if a0=11 then (some (1,true)) else (if a0=15 then (spec_l03Width.j0 k a0 (a0==15)) else (spec_l03Width.j0 k a0 (a0==18))))=some (r1,r2):=h
 clear h
 by_cases c2:a0=11
 ·rw [if_pos c2] at H
  obtain ⟨c2b0,c2b1⟩:=eqP c2
  clear c2
  simp only [Option.some.injEq,Prod.mk.injEq] at H
  obtain ⟨rfl,rfl⟩:=H
  go_enter Try.func85,Try.ntmps85
  go_wp2
  go_ret2
  exact ⟨rs,dr⟩
 rw [if_neg c2] at H
 obtain ⟨c2b0,c2b1⟩:=eqN c2
 have HC3:=Aside0.mk H
 clear H
 go_enter Try.func85,Try.ntmps85
 go_upto_if 7 with (fail)
 go_cut [7] (fun v7 wc=>∃ (kq:Nat) (x7_2:Bool),v7=.bool x7_2∧Aside0 (spec_l03Width.j0 kq a0 x7_2=some (r1,r2))∧Aside0 (kq≤k)∧Drawn0 w wc)
 case first=>
  have H:=HC3.out
  clear HC3
  by_cases c4:a0=15
  ·rw [if_pos c4] at H
   obtain ⟨c4b0,c4b1⟩:=eqP c4
   clear c4
   (first|rw [c4b0]|(simp only [i64_w,i32_w];rw [c4b0])|skip)
   have H':=Aside0.mk H
   clear H
   go_wp2
   go_meet
   case rel=>exact ⟨_,((a0==15)),rs,H',⟨by first|omega|exact Nat.le_refl _⟩,dr⟩
  rw [if_neg c4] at H
  obtain ⟨c4b0,c4b1⟩:=eqN c4
  (first|rw [c4b0]|(simp only [i64_w,i32_w];rw [c4b0])|skip)
  have H':=Aside0.mk H
  clear H
  go_wp2
  go_meet
  case rel=>exact ⟨_,((a0==18)),rs,H',⟨by first|omega|exact Nat.le_refl _⟩,dr⟩
 clear HC3
 try clear c2
 try clear c2b0 c2b1
 obtain ⟨kq,x7_2,rfl,HA,HJ2,⟨mc2,rfl⟩⟩:=hcut
 cases kq with
 | zero=>exact absurd HA.out (by simp [spec_l03Width.j0])
 | succ kj2 =>
  have H:=HA.out
  clear HA
  simp only [spec_l03Width.j0] at H
  by_cases c5:x7_2=true
  ·subst c5
   rw [if_pos rfl] at H
   simp only [Option.some.injEq,Prod.mk.injEq] at H
   obtain ⟨rfl,rfl⟩:=H
   go_wp2
   go_ret2
   exact ⟨rs,dr⟩
  replace c5:=Bool.eq_false_iff.mpr c5
  subst c5
  rw [if_neg (show ¬ (false=true) by decide)] at H
  by_cases c6:a0=12
  ·rw [if_pos c6] at H
   obtain ⟨c6b0,c6b1⟩:=eqP c6
   clear c6
   simp only [Option.some.injEq,Prod.mk.injEq] at H
   obtain ⟨rfl,rfl⟩:=H
   go_wp2
   go_ret2
   exact ⟨rs,dr⟩
  rw [if_neg c6] at H
  obtain ⟨c6b0,c6b1⟩:=eqN c6
  have HC7:=Aside0.mk H
  clear H
  go_upto_if 12 with (fail)
  go_cut [12] (fun v12 wc=>∃ (kq:Nat) (x12_6:Bool),v12=.bool x12_6∧Aside0 (spec_l03Width.j1 kq a0 x12_6=some (r1,r2))∧Aside0 (kq≤kj2)∧Drawn0 w wc)
  case first=>
   have H:=HC7.out
   clear HC7
   by_cases c8:a0=16
   ·rw [if_pos c8] at H
    obtain ⟨c8b0,c8b1⟩:=eqP c8
    clear c8
    (first|rw [c8b0]|(simp only [i64_w,i32_w];rw [c8b0])|skip)
    have H':=Aside0.mk H
    clear H
    go_wp2
    go_meet
    case rel=>exact ⟨_,((a0==16)),rs,H',⟨om HJ2.out⟩,dr⟩
   rw [if_neg c8] at H
   obtain ⟨c8b0,c8b1⟩:=eqN c8
   (first|rw [c8b0]|(simp only [i64_w,i32_w];rw [c8b0])|skip)
   have H':=Aside0.mk H
   clear H
   go_wp2
   go_meet
   case rel=>exact ⟨_,((a0==19)),rs,H',⟨om HJ2.out⟩,dr⟩
  clear HC7
  try clear c5
  try clear c6
  try clear c6b0 c6b1
  obtain ⟨kq,x12_6,rfl,HA,HJ6,⟨mc6,rfl⟩⟩:=hcut
  cases kq with
  | zero=>exact absurd HA.out (by simp [spec_l03Width.j1])
  | succ kj6 =>
   have H:=HA.out
   clear HA
   simp only [spec_l03Width.j1] at H
   by_cases c9:x12_6=true
   ·subst c9
    rw [if_pos rfl] at H
    simp only [Option.some.injEq,Prod.mk.injEq] at H
    obtain ⟨rfl,rfl⟩:=H
    go_wp2
    go_ret2
    exact ⟨rs,dr⟩
   replace c9:=Bool.eq_false_iff.mpr c9
   subst c9
   rw [if_neg (show ¬ (false=true) by decide)] at H
   by_cases c10:a0=13
   ·rw [if_pos c10] at H
    obtain ⟨c10b0,c10b1⟩:=eqP c10
    clear c10
    simp only [Option.some.injEq,Prod.mk.injEq] at H
    obtain ⟨rfl,rfl⟩:=H
    go_wp2
    go_ret2
    exact ⟨rs,dr⟩
   rw [if_neg c10] at H
   obtain ⟨c10b0,c10b1⟩:=eqN c10
   have HC11:=Aside0.mk H
   clear H
   go_upto_if 17 with (fail)
   go_cut [17] (fun v17 wc=>∃ (kq:Nat) (x17_10:Bool),v17=.bool x17_10∧Aside0 (spec_l03Width.j2 kq a0 x17_10=some (r1,r2))∧Aside0 (kq≤kj6)∧Drawn0 w wc)
   case first=>
    have H:=HC11.out
    clear HC11
    by_cases c12:a0=17
    ·rw [if_pos c12] at H
     obtain ⟨c12b0,c12b1⟩:=eqP c12
     clear c12
     (first|rw [c12b0]|(simp only [i64_w,i32_w];rw [c12b0])|skip)
     have H':=Aside0.mk H
     clear H
     go_wp2
     go_meet
     case rel=>exact ⟨_,((a0==17)),rs,H',⟨by have:=HJ2.out;have:=HJ6.out;first|omega|exact Nat.le_refl _⟩,dr⟩
    rw [if_neg c12] at H
    obtain ⟨c12b0,c12b1⟩:=eqN c12
    (first|rw [c12b0]|(simp only [i64_w,i32_w];rw [c12b0])|skip)
    have H':=Aside0.mk H
    clear H
    go_wp2
    go_meet
    case rel=>exact ⟨_,((a0==20)),rs,H',⟨by have:=HJ2.out;have:=HJ6.out;first|omega|exact Nat.le_refl _⟩,dr⟩
   clear HC11
   try clear c9
   try clear c10
   try clear c10b0 c10b1
   obtain ⟨kq,x17_10,rfl,HA,HJ10,⟨mc10,rfl⟩⟩:=hcut
   cases kq with
   | zero=>exact absurd HA.out (by simp [spec_l03Width.j2])
   | succ kj10 =>
    have H:=HA.out
    clear HA
    simp only [spec_l03Width.j2] at H
    by_cases c13:x17_10=true
    ·subst c13
     rw [if_pos rfl] at H
     simp only [Option.some.injEq,Prod.mk.injEq] at H
     obtain ⟨rfl,rfl⟩:=H
     go_wp2
     go_ret2
     exact ⟨rs,dr⟩
    replace c13:=Bool.eq_false_iff.mpr c13
    subst c13
    rw [if_neg (show ¬ (false=true) by decide)] at H
    by_cases c14:a0=14
    ·rw [if_pos c14] at H
     obtain ⟨c14b0,c14b1⟩:=eqP c14
     clear c14
     simp only [Option.some.injEq,Prod.mk.injEq] at H
     obtain ⟨rfl,rfl⟩:=H
     go_wp2
     go_ret2
     exact ⟨rs,dr⟩
    rw [if_neg c14] at H
    obtain ⟨c14b0,c14b1⟩:=eqN c14
    by_cases c15:a0=21
    ·rw [if_pos c15] at H
     obtain ⟨c15b0,c15b1⟩:=eqP c15
     clear c15
     simp only [Option.some.injEq,Prod.mk.injEq] at H
     obtain ⟨rfl,rfl⟩:=H
     go_wp2
     go_ret2
     exact ⟨rs,dr⟩
    rw [if_neg c15] at H
    obtain ⟨c15b0,c15b1⟩:=eqN c15
    simp only [Option.some.injEq,Prod.mk.injEq] at H
    obtain ⟨rfl,rfl⟩:=H
    go_wp2
    go_ret2
    exact ⟨rs,dr⟩
def spec_l06Epilogue.f (a0:Int):Option ((List (S86))):=some (([(⟨14,1,2,0,wrap64 (a0 - 8)⟩:S86),(⟨22,2,2,0,a0⟩:S86),(⟨4,0,1,0,0⟩:S86)]:List (S86)))
set_option maxHeartbeats 8000000 in
set_option maxRecDepth 100000 in
theorem spec_l06Epilogue.calls (a0:Int) (r:List (S86)) (w:World) (h:spec_l06Epilogue.f a0=some r) :
    Calls Try.prog 105 #[.int .i64 a0] w fun e w'=>∃ v0_:Value,e=.returned (v0_)∧Kd.R k86 86 w' w.heap.size (fun _=>True) v0_ r∧Below w.heap.size w w':=by
 have hu86:=Try.underlying86
 have HB:=Aside0.mk (Below.refl w.heap.size w)
 have H:(some (([(⟨14,1,2,0,wrap64 (a0 - 8)⟩:S86),(⟨22,2,2,0,a0⟩:S86),(⟨4,0,1,0,0⟩:S86)]:List (S86))))=some r:=h
 clear h
 obtain ⟨y256,hy256⟩ : ∃ y_:List (S86),y_=(([(⟨14,1,2,0,wrap64 (a0 - 8)⟩:S86),(⟨22,2,2,0,a0⟩:S86),(⟨4,0,1,0,0⟩:S86)]:List (S86))):=⟨_,rfl⟩
 replace H:(some y256)=some r:=by first|(rw [hy256];with_reducible exact H)|(have H2_:=(Option.bind_some _ _).symm.trans H;rw [hy256];with_reducible exact H2_)|(have H2_:=(Option.bind_some _ _).symm.trans H;with_reducible exact H2_)|with_reducible exact H|(rw [hy256];exact H)|exact H
 have Ny256:=Aside0.mk hy256
 clear hy256
 obtain rfl:=Option.some.inj H
 go_enter Try.func105,Try.ntmps105
 go_wp2_with (first|((with_reducible refine gate_dst (N:=9) rfl ?_);refine Kd.R_lit k86 _ 86 ?hg (N:=9) ?hd (xs:=([(⟨14,1,2,0,wrap64 (a0 - 8)⟩:S86),(⟨22,2,2,0,a0⟩:S86),(⟨4,0,1,0,0⟩:S86)]:List (S86))) (inner:=[.int .i64 14,.int .i64 1,.int .i64 2,.int .i64 0,.int .i64 (wrap64 (a0 - 8)),.int .i64 22,.int .i64 2,.int .i64 2,.int .i64 0,.int .i64 a0,.int .i64 4,.int .i64 0,.int .i64 1,.int .i64 0,.int .i64 0]) (ok:=fun _=>True) (okp:=fun _=>True) ?hr ?hp (fun _ hk=>hk) trivial (Below.refl _ _) (Nat.le_refl _) (by simp) ?_;(case hd=>rfl);(case hg=>rfl);(case hr=>first|(go_simp;done)|(go_simp;rfl));(case hp=>exact (Reps.c5 (show Kd.M k86 _ _ _ (⟨14,1,2,0,wrap64 (a0 - 8)⟩:S86) [.int .i64 14,.int .i64 1,.int .i64 2,.int .i64 0,.int .i64 (wrap64 (a0 - 8))] from (k86_mkM _ _ _ (⟨14,1,2,0,wrap64 (a0 - 8)⟩:S86) )) (Reps.c5 (show Kd.M k86 _ _ _ (⟨22,2,2,0,a0⟩:S86) [.int .i64 22,.int .i64 2,.int .i64 2,.int .i64 0,.int .i64 a0] from (k86_mkM _ _ _ (⟨22,2,2,0,a0⟩:S86) )) (Reps.c5 (show Kd.M k86 _ _ _ (⟨4,0,1,0,0⟩:S86) [.int .i64 4,.int .i64 0,.int .i64 1,.int .i64 0,.int .i64 0] from (k86_mkM _ _ _ (⟨4,0,1,0,0⟩:S86) )) (Reps.none _ _)))));intro v257 w2 ho3 hb hg_ hnew_;clear hg_ hnew_;(first|rw [← Ny256.out] at ho3|(simp only [Int.reduceToNat] at ho3;rw [← Ny256.out] at ho3));have n0_:=Aside0.mk (Kd.R_lower ho3 (below_size hbx));have n1_:=Aside0.mk (below_step hbx hb);clear HB;have HO258:=n0_;have HB:=n1_;clear n0_ n1_;clear hb ho3))
 go_ret
 exact ⟨_,rf,by (with_reducible repeat (first|apply Kd.R_alloc|apply Kd.R_drewN|apply Kd.R_drew));exact HO258.out,hbx⟩
def spec_l06Ends.f (l0:List (S86)) (a1:Int) (a2:Int):Option (Bool):=(spec_l06Epilogue.f a2).bind fun t259=>(if a1≥2 then (if (wrap64 (a1+2)) < (l0.length:Int) then (if 0≤a1 then (if a1 < (l0.length:Int) then (if 0 < (t259.length:Int) then (if (((rd_T86 l0 a1).f0)==((rd_T86 t259 0).f0) && (((rd_T86 l0 a1).f1)==((rd_T86 t259 0).f1) && (((rd_T86 l0 a1).f2)==((rd_T86 t259 0).f2) && (((rd_T86 l0 a1).f3)==((rd_T86 t259 0).f3) && (((rd_T86 l0 a1).f4)==((rd_T86 t259 0).f4))))))=true then (if 0≤(wrap64 (a1+1)) then (if (wrap64 (a1+1)) < (l0.length:Int) then (if 1 < (t259.length:Int) then (if (((rd_T86 l0 (wrap64 (a1+1))).f0)==((rd_T86 t259 1).f0) && (((rd_T86 l0 (wrap64 (a1+1))).f1)==((rd_T86 t259 1).f1) && (((rd_T86 l0 (wrap64 (a1+1))).f2)==((rd_T86 t259 1).f2) && (((rd_T86 l0 (wrap64 (a1+1))).f3)==((rd_T86 t259 1).f3) && (((rd_T86 l0 (wrap64 (a1+1))).f4)==((rd_T86 t259 1).f4))))))=true then (if 0≤(wrap64 (a1+2)) then (if 2 < (t259.length:Int) then (some (((rd_T86 l0 (wrap64 (a1+2))).f0)==((rd_T86 t259 2).f0) && (((rd_T86 l0 (wrap64 (a1+2))).f1)==((rd_T86 t259 2).f1) && (((rd_T86 l0 (wrap64 (a1+2))).f2)==((rd_T86 t259 2).f2) && (((rd_T86 l0 (wrap64 (a1+2))).f3)==((rd_T86 t259 2).f3) && (((rd_T86 l0 (wrap64 (a1+2))).f4)==((rd_T86 t259 2).f4))))))) else (none)) else (none)) else (some false)) else (none)) else (none)) else (none)) else (some false)) else (none)) else (none)) else (none)) else (some false)) else (some false))
set_option maxHeartbeats 8000000 in
set_option maxRecDepth 100000 in
theorem spec_l06Ends.calls (A0:Option Addr) (c0:Nat) (l0:List (S86)) (a1:Int) (a2:Int) (r:Bool) (w:World) (hr0:Kd.C k86 w A0 l0.length l0) (hc0:l0.length≤c0) (h:spec_l06Ends.f l0 a1 a2=some r) :
    Calls Try.prog 86 #[.slice A0 l0.length c0,.int .i64 a1,.int .i64 a2] w fun e w'=>e=.returned (.bool r)∧Below w.heap.size w w':=by
 have hu86:=Try.underlying86
 have HR0:=Aside0.mk hr0
 have HC0:=Aside0.mk hc0
 clear hr0 hc0
 have HB:=Aside0.mk (Below.refl w.heap.size w)
 have H:((spec_l06Epilogue.f a2).bind fun t259=>(if a1≥2 then (if (wrap64 (a1+2)) < (l0.length:Int) then (if 0≤a1 then (if a1 < (l0.length:Int) then (if 0 < (t259.length:Int) then (if (((rd_T86 l0 a1).f0)==((rd_T86 t259 0).f0) && (((rd_T86 l0 a1).f1)==((rd_T86 t259 0).f1) && (((rd_T86 l0 a1).f2)==((rd_T86 t259 0).f2) && (((rd_T86 l0 a1).f3)==((rd_T86 t259 0).f3) && (((rd_T86 l0 a1).f4)==((rd_T86 t259 0).f4))))))=true then (if 0≤(wrap64 (a1+1)) then (if (wrap64 (a1+1)) < (l0.length:Int) then (if 1 < (t259.length:Int) then (if (((rd_T86 l0 (wrap64 (a1+1))).f0)==((rd_T86 t259 1).f0) && (((rd_T86 l0 (wrap64 (a1+1))).f1)==((rd_T86 t259 1).f1) && (((rd_T86 l0 (wrap64 (a1+1))).f2)==((rd_T86 t259 1).f2) && (((rd_T86 l0 (wrap64 (a1+1))).f3)==((rd_T86 t259 1).f3) && (((rd_T86 l0 (wrap64 (a1+1))).f4)==((rd_T86 t259 1).f4))))))=true then (if 0≤(wrap64 (a1+2)) then (if 2 < (t259.length:Int) then (some (((rd_T86 l0 (wrap64 (a1+2))).f0)==((rd_T86 t259 2).f0) && (((rd_T86 l0 (wrap64 (a1+2))).f1)==((rd_T86 t259 2).f1) && (((rd_T86 l0 (wrap64 (a1+2))).f2)==((rd_T86 t259 2).f2) && (((rd_T86 l0 (wrap64 (a1+2))).f3)==((rd_T86 t259 2).f3) && (((rd_T86 l0 (wrap64 (a1+2))).f4)==((rd_T86 t259 2).f4))))))) else (none)) else (none)) else (some false)) else (none)) else (none)) else (none)) else (some false)) else (none)) else (none)) else (none)) else (some false)) else (some false)))=some r:=h
 clear h
 obtain ⟨t259,A4,H⟩:=bindA H
 by_cases c5:a1≥2
 ·rw [if_pos c5] at H
  have c5b0:decide (2≤a1)=true:=decide_eq_true c5
  clear c5
  by_cases c6:(wrap64 (a1+2)) < (l0.length:Int)
  ·rw [if_pos c6] at H
   have c6b0:decide ((wrap64 (a1+2)) < (l0.length:Int))=true:=decide_eq_true c6
   clear c6
   by_cases c7:0≤a1
   ·rw [if_pos c7] at H
    have c7b0:decide (0≤a1)=true:=decide_eq_true c7
    clear c7
    by_cases c8:a1 < (l0.length:Int)
    ·rw [if_pos c8] at H
     have c8b0:decide (a1 < (l0.length:Int))=true:=decide_eq_true c8
     clear c8
     by_cases c9:0 < (t259.length:Int)
     ·rw [if_pos c9] at H
      have c9b0:decide (0 < (t259.length:Int))=true:=decide_eq_true c9
      have c9b1:decide (0 < t259.length)=true:=decide_eq_true (by omega)
      clear c9
      by_cases c10:(((rd_T86 l0 a1).f0)==((rd_T86 t259 0).f0) && (((rd_T86 l0 a1).f1)==((rd_T86 t259 0).f1) && (((rd_T86 l0 a1).f2)==((rd_T86 t259 0).f2) && (((rd_T86 l0 a1).f3)==((rd_T86 t259 0).f3) && (((rd_T86 l0 a1).f4)==((rd_T86 t259 0).f4))))))=true
      ·rw [if_pos c10] at H
       have c10b0:(((rd_T86 l0 a1).f0)==((rd_T86 t259 0).f0) && (((rd_T86 l0 a1).f1)==((rd_T86 t259 0).f1) && (((rd_T86 l0 a1).f2)==((rd_T86 t259 0).f2) && (((rd_T86 l0 a1).f3)==((rd_T86 t259 0).f3) && (((rd_T86 l0 a1).f4)==((rd_T86 t259 0).f4))))))=true:=c10
       (try (have c10b1:decide (((rd_T86 l0 a1).f0)=((rd_T86 t259 0).f0) && (((rd_T86 l0 a1).f1)==((rd_T86 t259 0).f1) && (((rd_T86 l0 a1).f2)==((rd_T86 t259 0).f2) && (((rd_T86 l0 a1).f3)==((rd_T86 t259 0).f3) && (((rd_T86 l0 a1).f4)==((rd_T86 t259 0).f4))))))=true:=by simpa using c10))
       (try (have c10b2:(((rd_T86 l0 a1).f0)==((rd_T86 t259 0).f0) && (((rd_T86 l0 a1).f1)==((rd_T86 t259 0).f1) && (((rd_T86 l0 a1).f2)==((rd_T86 t259 0).f2) && (((rd_T86 l0 a1).f3)==((rd_T86 t259 0).f3) && (((rd_T86 l0 a1).f4)==((rd_T86 t259 0).f4))))))=true:=by simpa using c10))
       clear c10
       obtain ⟨ji11,hji11⟩ : ∃ j_:Int,(wrap64 (a1+1))=j_:=⟨_,rfl⟩
       replace H:(if 0≤(ji11) then (if (ji11) < (l0.length:Int) then (if 1 < (t259.length:Int) then (if (((rd_T86 l0 (ji11)).f0)==((rd_T86 t259 1).f0) && (((rd_T86 l0 (ji11)).f1)==((rd_T86 t259 1).f1) && (((rd_T86 l0 (ji11)).f2)==((rd_T86 t259 1).f2) && (((rd_T86 l0 (ji11)).f3)==((rd_T86 t259 1).f3) && (((rd_T86 l0 (ji11)).f4)==((rd_T86 t259 1).f4))))))=true then (if 0≤(wrap64 (a1+2)) then (if 2 < (t259.length:Int) then (some (((rd_T86 l0 (wrap64 (a1+2))).f0)==((rd_T86 t259 2).f0) && (((rd_T86 l0 (wrap64 (a1+2))).f1)==((rd_T86 t259 2).f1) && (((rd_T86 l0 (wrap64 (a1+2))).f2)==((rd_T86 t259 2).f2) && (((rd_T86 l0 (wrap64 (a1+2))).f3)==((rd_T86 t259 2).f3) && (((rd_T86 l0 (wrap64 (a1+2))).f4)==((rd_T86 t259 2).f4))))))) else (none)) else (none)) else (some false)) else (none)) else (none)) else (none))=some r:=by first|(rw [hji11] at H;exact H)|(simp only [hji11] at H ⊢;exact H)
       (try rw [hji11] at A4)
       have hji11w:(IntKind.i64.wrap (a1+1))=ji11:=(i64_w _).trans hji11
       by_cases c12:0≤(ji11)
       ·rw [if_pos c12] at H
        have c12b0:decide (0≤(ji11))=true:=decide_eq_true c12
        clear c12
        by_cases c13:(ji11) < (l0.length:Int)
        ·rw [if_pos c13] at H
         have c13b0:decide ((ji11) < (l0.length:Int))=true:=decide_eq_true c13
         clear c13
         by_cases c14:1 < (t259.length:Int)
         ·rw [if_pos c14] at H
          have c14b0:decide (1 < (t259.length:Int))=true:=decide_eq_true c14
          have c14b1:decide (1 < t259.length)=true:=decide_eq_true (by omega)
          clear c14
          by_cases c15:(((rd_T86 l0 (ji11)).f0)==((rd_T86 t259 1).f0) && (((rd_T86 l0 (ji11)).f1)==((rd_T86 t259 1).f1) && (((rd_T86 l0 (ji11)).f2)==((rd_T86 t259 1).f2) && (((rd_T86 l0 (ji11)).f3)==((rd_T86 t259 1).f3) && (((rd_T86 l0 (ji11)).f4)==((rd_T86 t259 1).f4))))))=true
          ·rw [if_pos c15] at H
           have c15b0:(((rd_T86 l0 (ji11)).f0)==((rd_T86 t259 1).f0) && (((rd_T86 l0 (ji11)).f1)==((rd_T86 t259 1).f1) && (((rd_T86 l0 (ji11)).f2)==((rd_T86 t259 1).f2) && (((rd_T86 l0 (ji11)).f3)==((rd_T86 t259 1).f3) && (((rd_T86 l0 (ji11)).f4)==((rd_T86 t259 1).f4))))))=true:=c15
           (try (have c15b1:decide (((rd_T86 l0 (ji11)).f0)=((rd_T86 t259 1).f0) && (((rd_T86 l0 (ji11)).f1)==((rd_T86 t259 1).f1) && (((rd_T86 l0 (ji11)).f2)==((rd_T86 t259 1).f2) && (((rd_T86 l0 (ji11)).f3)==((rd_T86 t259 1).f3) && (((rd_T86 l0 (ji11)).f4)==((rd_T86 t259 1).f4))))))=true:=by simpa using c15))
           (try (have c15b2:(((rd_T86 l0 (ji11)).f0)==((rd_T86 t259 1).f0) && (((rd_T86 l0 (ji11)).f1)==((rd_T86 t259 1).f1) && (((rd_T86 l0 (ji11)).f2)==((rd_T86 t259 1).f2) && (((rd_T86 l0 (ji11)).f3)==((rd_T86 t259 1).f3) && (((rd_T86 l0 (ji11)).f4)==((rd_T86 t259 1).f4))))))=true:=by simpa using c15))
           clear c15
           obtain ⟨ji16,hji16⟩ : ∃ j_:Int,(wrap64 (a1+2))=j_:=⟨_,rfl⟩
           replace H:(if 0≤(ji16) then (if 2 < (t259.length:Int) then (some (((rd_T86 l0 (ji16)).f0)==((rd_T86 t259 2).f0) && (((rd_T86 l0 (ji16)).f1)==((rd_T86 t259 2).f1) && (((rd_T86 l0 (ji16)).f2)==((rd_T86 t259 2).f2) && (((rd_T86 l0 (ji16)).f3)==((rd_T86 t259 2).f3) && (((rd_T86 l0 (ji16)).f4)==((rd_T86 t259 2).f4))))))) else (none)) else (none))=some r:=by first|(rw [hji16] at H;exact H)|(simp only [hji16] at H ⊢;exact H)
           (try rw [hji16] at c6b0)
           (try rw [hji16] at A4)
           have hji16w:(IntKind.i64.wrap (a1+2))=ji16:=(i64_w _).trans hji16
           by_cases c17:0≤(ji16)
           ·rw [if_pos c17] at H
            have c17b0:decide (0≤(ji16))=true:=decide_eq_true c17
            clear c17
            by_cases c18:2 < (t259.length:Int)
            ·rw [if_pos c18] at H
             have c18b0:decide (2 < (t259.length:Int))=true:=decide_eq_true c18
             have c18b1:decide (2 < t259.length)=true:=decide_eq_true (by omega)
             clear c18
             obtain rfl:=Option.some.inj H
             go_enter Try.func86,Try.ntmps86
             go_wp2_with (first|(go_at_call 105;(with_reducible refine (spec_l06Epilogue.calls a2 t259 _ A4.out).mono ?_);rintro e w19 ⟨v260,rfl,ho0,hb⟩;have n0_:=Aside0.mk (Kd.R_lower ho0 (below_size hbx));replace HB:=Aside0.mk (below_step hbx hb);have HO261:=n0_;clear n0_;(try clear hb);(try clear hb2);(try clear hk);(try clear hi);(try clear ho0);have p262:0≤(a1:Int):=od;have q262:a1 < (l0.length:Int):=od;obtain ⟨ad262,e262,hx262_0,hx262_1,hx262_2,hx262_3,hx262_4⟩:=at_T86 HR0.out a1 p262 q262;cases e262;replace hx262_0:=cx HB.out hx262_0;replace hx262_1:=cx HB.out hx262_1;replace hx262_2:=cx HB.out hx262_2;replace hx262_3:=cx HB.out hx262_3;replace hx262_4:=cx HB.out hx262_4;replace p262:=eq_true p262;replace q262:=eq_true q262;obtain ⟨Ao20,co20,eo20⟩:=Kd.R_slice HO261.out;subst eo20;have p263:0≤(0:Int):=(by omega);have q263:0 < (t259.length:Int):=od;obtain ⟨ad263,e263,hx263_0,hx263_1,hx263_2,hx263_3,hx263_4⟩:=at_T86 (Kd.R_reads' HO261.out).2.2 0 p263 q263;cases e263;have qi263:(0 < t259.length)=True:=eq_true (by omega);(try rw [show ((0:Int)).toNat=0 from rfl] at hx263_0);(try rw [show 0*5=0 from rfl] at hx263_0);(try rw [Addr.add_zero'] at hx263_0);(try rw [show ((0:Int)).toNat=0 from rfl] at hx263_1);(try rw [show 0*5=0 from rfl] at hx263_1);(try rw [Addr.add_zero'] at hx263_1);(try rw [show ((0:Int)).toNat=0 from rfl] at hx263_2);(try rw [show 0*5=0 from rfl] at hx263_2);(try rw [Addr.add_zero'] at hx263_2);(try rw [show ((0:Int)).toNat=0 from rfl] at hx263_3);(try rw [show 0*5=0 from rfl] at hx263_3);(try rw [Addr.add_zero'] at hx263_3);(try rw [show ((0:Int)).toNat=0 from rfl] at hx263_4);(try rw [show 0*5=0 from rfl] at hx263_4);(try rw [Addr.add_zero'] at hx263_4);replace p263:=eq_true p263;replace q263:=eq_true q263;have p264:0≤((ji11):Int):=od;have q264:(ji11) < (l0.length:Int):=od;obtain ⟨ad264,e264,hx264_0,hx264_1,hx264_2,hx264_3,hx264_4⟩:=at_T86 HR0.out (ji11) p264 q264;obtain rfl:ad262=ad264:=(by injection e264);replace hx264_0:=cx HB.out hx264_0;replace hx264_1:=cx HB.out hx264_1;replace hx264_2:=cx HB.out hx264_2;replace hx264_3:=cx HB.out hx264_3;replace hx264_4:=cx HB.out hx264_4;replace p264:=eq_true p264;replace q264:=eq_true q264;have p265:0≤(1:Int):=(by omega);have q265:1 < (t259.length:Int):=od;obtain ⟨ad265,e265,hx265_0,hx265_1,hx265_2,hx265_3,hx265_4⟩:=at_T86 (Kd.R_reads' HO261.out).2.2 1 p265 q265;obtain rfl:ad263=ad265:=(by injection e265);(try simp only [show (1:Int).toNat=1 from rfl,Nat.reduceMul,Nat.reduceEqDiff,Go.Addr.add,↓reduceIte] at hx265_0);(try simp only [show (1:Int).toNat=1 from rfl,Nat.reduceMul,Nat.reduceEqDiff,Go.Addr.add,↓reduceIte] at hx265_1);(try simp only [show (1:Int).toNat=1 from rfl,Nat.reduceMul,Nat.reduceEqDiff,Go.Addr.add,↓reduceIte] at hx265_2);(try simp only [show (1:Int).toNat=1 from rfl,Nat.reduceMul,Nat.reduceEqDiff,Go.Addr.add,↓reduceIte] at hx265_3);(try simp only [show (1:Int).toNat=1 from rfl,Nat.reduceMul,Nat.reduceEqDiff,Go.Addr.add,↓reduceIte] at hx265_4);have qi265:(1 < t259.length)=True:=eq_true (by omega);(try rw [show ((1:Int)).toNat=1 from rfl] at hx265_0);(try rw [show 1*5=5 from rfl] at hx265_0);(try rw [show ((1:Int)).toNat=1 from rfl] at hx265_1);(try rw [show 1*5=5 from rfl] at hx265_1);(try rw [show ((1:Int)).toNat=1 from rfl] at hx265_2);(try rw [show 1*5=5 from rfl] at hx265_2);(try rw [show ((1:Int)).toNat=1 from rfl] at hx265_3);(try rw [show 1*5=5 from rfl] at hx265_3);(try rw [show ((1:Int)).toNat=1 from rfl] at hx265_4);(try rw [show 1*5=5 from rfl] at hx265_4);replace p265:=eq_true p265;replace q265:=eq_true q265;have p266:0≤((ji16):Int):=od;have q266:(ji16) < (l0.length:Int):=od;obtain ⟨ad266,e266,hx266_0,hx266_1,hx266_2,hx266_3,hx266_4⟩:=at_T86 HR0.out (ji16) p266 q266;obtain rfl:ad262=ad266:=(by injection e266);replace hx266_0:=cx HB.out hx266_0;replace hx266_1:=cx HB.out hx266_1;replace hx266_2:=cx HB.out hx266_2;replace hx266_3:=cx HB.out hx266_3;replace hx266_4:=cx HB.out hx266_4;replace p266:=eq_true p266;replace q266:=eq_true q266;have p267:0≤(2:Int):=(by omega);have q267:2 < (t259.length:Int):=od;obtain ⟨ad267,e267,hx267_0,hx267_1,hx267_2,hx267_3,hx267_4⟩:=at_T86 (Kd.R_reads' HO261.out).2.2 2 p267 q267;obtain rfl:ad263=ad267:=(by injection e267);(try simp only [show (2:Int).toNat=2 from rfl,Nat.reduceMul,Nat.reduceEqDiff,Go.Addr.add,↓reduceIte] at hx267_0);(try simp only [show (2:Int).toNat=2 from rfl,Nat.reduceMul,Nat.reduceEqDiff,Go.Addr.add,↓reduceIte] at hx267_1);(try simp only [show (2:Int).toNat=2 from rfl,Nat.reduceMul,Nat.reduceEqDiff,Go.Addr.add,↓reduceIte] at hx267_2);(try simp only [show (2:Int).toNat=2 from rfl,Nat.reduceMul,Nat.reduceEqDiff,Go.Addr.add,↓reduceIte] at hx267_3);(try simp only [show (2:Int).toNat=2 from rfl,Nat.reduceMul,Nat.reduceEqDiff,Go.Addr.add,↓reduceIte] at hx267_4);have qi267:(2 < t259.length)=True:=eq_true (by omega);(try rw [show ((2:Int)).toNat=2 from rfl] at hx267_0);(try rw [show 2*5=10 from rfl] at hx267_0);(try rw [show ((2:Int)).toNat=2 from rfl] at hx267_1);(try rw [show 2*5=10 from rfl] at hx267_1);(try rw [show ((2:Int)).toNat=2 from rfl] at hx267_2);(try rw [show 2*5=10 from rfl] at hx267_2);(try rw [show ((2:Int)).toNat=2 from rfl] at hx267_3);(try rw [show 2*5=10 from rfl] at hx267_3);(try rw [show ((2:Int)).toNat=2 from rfl] at hx267_4);(try rw [show 2*5=10 from rfl] at hx267_4);replace p267:=eq_true p267;replace q267:=eq_true q267))
             repeat (go_quiet (first|(go_at_call 105;(with_reducible refine (spec_l06Epilogue.calls a2 t259 _ A4.out).mono ?_);rintro e w19 ⟨v260,rfl,ho0,hb⟩;have n0_:=Aside0.mk (Kd.R_lower ho0 (below_size hbx));replace HB:=Aside0.mk (below_step hbx hb);have HO261:=n0_;clear n0_;(try clear hb);(try clear hb2);(try clear hk);(try clear hi);(try clear ho0);have p262:0≤(a1:Int):=od;have q262:a1 < (l0.length:Int):=od;obtain ⟨ad262,e262,hx262_0,hx262_1,hx262_2,hx262_3,hx262_4⟩:=at_T86 HR0.out a1 p262 q262;cases e262;replace hx262_0:=cx HB.out hx262_0;replace hx262_1:=cx HB.out hx262_1;replace hx262_2:=cx HB.out hx262_2;replace hx262_3:=cx HB.out hx262_3;replace hx262_4:=cx HB.out hx262_4;replace p262:=eq_true p262;replace q262:=eq_true q262;obtain ⟨Ao20,co20,eo20⟩:=Kd.R_slice HO261.out;subst eo20;have p263:0≤(0:Int):=(by omega);have q263:0 < (t259.length:Int):=od;obtain ⟨ad263,e263,hx263_0,hx263_1,hx263_2,hx263_3,hx263_4⟩:=at_T86 (Kd.R_reads' HO261.out).2.2 0 p263 q263;cases e263;have qi263:(0 < t259.length)=True:=eq_true (by omega);(try rw [show ((0:Int)).toNat=0 from rfl] at hx263_0);(try rw [show 0*5=0 from rfl] at hx263_0);(try rw [Addr.add_zero'] at hx263_0);(try rw [show ((0:Int)).toNat=0 from rfl] at hx263_1);(try rw [show 0*5=0 from rfl] at hx263_1);(try rw [Addr.add_zero'] at hx263_1);(try rw [show ((0:Int)).toNat=0 from rfl] at hx263_2);(try rw [show 0*5=0 from rfl] at hx263_2);(try rw [Addr.add_zero'] at hx263_2);(try rw [show ((0:Int)).toNat=0 from rfl] at hx263_3);(try rw [show 0*5=0 from rfl] at hx263_3);(try rw [Addr.add_zero'] at hx263_3);(try rw [show ((0:Int)).toNat=0 from rfl] at hx263_4);(try rw [show 0*5=0 from rfl] at hx263_4);(try rw [Addr.add_zero'] at hx263_4);replace p263:=eq_true p263;replace q263:=eq_true q263;have p264:0≤((ji11):Int):=od;have q264:(ji11) < (l0.length:Int):=od;obtain ⟨ad264,e264,hx264_0,hx264_1,hx264_2,hx264_3,hx264_4⟩:=at_T86 HR0.out (ji11) p264 q264;obtain rfl:ad262=ad264:=(by injection e264);replace hx264_0:=cx HB.out hx264_0;replace hx264_1:=cx HB.out hx264_1;replace hx264_2:=cx HB.out hx264_2;replace hx264_3:=cx HB.out hx264_3;replace hx264_4:=cx HB.out hx264_4;replace p264:=eq_true p264;replace q264:=eq_true q264;have p265:0≤(1:Int):=(by omega);have q265:1 < (t259.length:Int):=od;obtain ⟨ad265,e265,hx265_0,hx265_1,hx265_2,hx265_3,hx265_4⟩:=at_T86 (Kd.R_reads' HO261.out).2.2 1 p265 q265;obtain rfl:ad263=ad265:=(by injection e265);(try simp only [show (1:Int).toNat=1 from rfl,Nat.reduceMul,Nat.reduceEqDiff,Go.Addr.add,↓reduceIte] at hx265_0);(try simp only [show (1:Int).toNat=1 from rfl,Nat.reduceMul,Nat.reduceEqDiff,Go.Addr.add,↓reduceIte] at hx265_1);(try simp only [show (1:Int).toNat=1 from rfl,Nat.reduceMul,Nat.reduceEqDiff,Go.Addr.add,↓reduceIte] at hx265_2);(try simp only [show (1:Int).toNat=1 from rfl,Nat.reduceMul,Nat.reduceEqDiff,Go.Addr.add,↓reduceIte] at hx265_3);(try simp only [show (1:Int).toNat=1 from rfl,Nat.reduceMul,Nat.reduceEqDiff,Go.Addr.add,↓reduceIte] at hx265_4);have qi265:(1 < t259.length)=True:=eq_true (by omega);(try rw [show ((1:Int)).toNat=1 from rfl] at hx265_0);(try rw [show 1*5=5 from rfl] at hx265_0);(try rw [show ((1:Int)).toNat=1 from rfl] at hx265_1);(try rw [show 1*5=5 from rfl] at hx265_1);(try rw [show ((1:Int)).toNat=1 from rfl] at hx265_2);(try rw [show 1*5=5 from rfl] at hx265_2);(try rw [show ((1:Int)).toNat=1 from rfl] at hx265_3);(try rw [show 1*5=5 from rfl] at hx265_3);(try rw [show ((1:Int)).toNat=1 from rfl] at hx265_4);(try rw [show 1*5=5 from rfl] at hx265_4);replace p265:=eq_true p265;replace q265:=eq_true q265;have p266:0≤((ji16):Int):=od;have q266:(ji16) < (l0.length:Int):=od;obtain ⟨ad266,e266,hx266_0,hx266_1,hx266_2,hx266_3,hx266_4⟩:=at_T86 HR0.out (ji16) p266 q266;obtain rfl:ad262=ad266:=(by injection e266);replace hx266_0:=cx HB.out hx266_0;replace hx266_1:=cx HB.out hx266_1;replace hx266_2:=cx HB.out hx266_2;replace hx266_3:=cx HB.out hx266_3;replace hx266_4:=cx HB.out hx266_4;replace p266:=eq_true p266;replace q266:=eq_true q266;have p267:0≤(2:Int):=(by omega);have q267:2 < (t259.length:Int):=od;obtain ⟨ad267,e267,hx267_0,hx267_1,hx267_2,hx267_3,hx267_4⟩:=at_T86 (Kd.R_reads' HO261.out).2.2 2 p267 q267;obtain rfl:ad263=ad267:=(by injection e267);(try simp only [show (2:Int).toNat=2 from rfl,Nat.reduceMul,Nat.reduceEqDiff,Go.Addr.add,↓reduceIte] at hx267_0);(try simp only [show (2:Int).toNat=2 from rfl,Nat.reduceMul,Nat.reduceEqDiff,Go.Addr.add,↓reduceIte] at hx267_1);(try simp only [show (2:Int).toNat=2 from rfl,Nat.reduceMul,Nat.reduceEqDiff,Go.Addr.add,↓reduceIte] at hx267_2);(try simp only [show (2:Int).toNat=2 from rfl,Nat.reduceMul,Nat.reduceEqDiff,Go.Addr.add,↓reduceIte] at hx267_3);(try simp only [show (2:Int).toNat=2 from rfl,Nat.reduceMul,Nat.reduceEqDiff,Go.Addr.add,↓reduceIte] at hx267_4);have qi267:(2 < t259.length)=True:=eq_true (by omega);(try rw [show ((2:Int)).toNat=2 from rfl] at hx267_0);(try rw [show 2*5=10 from rfl] at hx267_0);(try rw [show ((2:Int)).toNat=2 from rfl] at hx267_1);(try rw [show 2*5=10 from rfl] at hx267_1);(try rw [show ((2:Int)).toNat=2 from rfl] at hx267_2);(try rw [show 2*5=10 from rfl] at hx267_2);(try rw [show ((2:Int)).toNat=2 from rfl] at hx267_3);(try rw [show 2*5=10 from rfl] at hx267_3);(try rw [show ((2:Int)).toNat=2 from rfl] at hx267_4);(try rw [show 2*5=10 from rfl] at hx267_4);replace p267:=eq_true p267;replace q267:=eq_true q267));try go_wp2_with (first|(go_at_call 105;(with_reducible refine (spec_l06Epilogue.calls a2 t259 _ A4.out).mono ?_);rintro e w19 ⟨v260,rfl,ho0,hb⟩;have n0_:=Aside0.mk (Kd.R_lower ho0 (below_size hbx));replace HB:=Aside0.mk (below_step hbx hb);have HO261:=n0_;clear n0_;(try clear hb);(try clear hb2);(try clear hk);(try clear hi);(try clear ho0);have p262:0≤(a1:Int):=od;have q262:a1 < (l0.length:Int):=od;obtain ⟨ad262,e262,hx262_0,hx262_1,hx262_2,hx262_3,hx262_4⟩:=at_T86 HR0.out a1 p262 q262;cases e262;replace hx262_0:=cx HB.out hx262_0;replace hx262_1:=cx HB.out hx262_1;replace hx262_2:=cx HB.out hx262_2;replace hx262_3:=cx HB.out hx262_3;replace hx262_4:=cx HB.out hx262_4;replace p262:=eq_true p262;replace q262:=eq_true q262;obtain ⟨Ao20,co20,eo20⟩:=Kd.R_slice HO261.out;subst eo20;have p263:0≤(0:Int):=(by omega);have q263:0 < (t259.length:Int):=od;obtain ⟨ad263,e263,hx263_0,hx263_1,hx263_2,hx263_3,hx263_4⟩:=at_T86 (Kd.R_reads' HO261.out).2.2 0 p263 q263;cases e263;have qi263:(0 < t259.length)=True:=eq_true (by omega);(try rw [show ((0:Int)).toNat=0 from rfl] at hx263_0);(try rw [show 0*5=0 from rfl] at hx263_0);(try rw [Addr.add_zero'] at hx263_0);(try rw [show ((0:Int)).toNat=0 from rfl] at hx263_1);(try rw [show 0*5=0 from rfl] at hx263_1);(try rw [Addr.add_zero'] at hx263_1);(try rw [show ((0:Int)).toNat=0 from rfl] at hx263_2);(try rw [show 0*5=0 from rfl] at hx263_2);(try rw [Addr.add_zero'] at hx263_2);(try rw [show ((0:Int)).toNat=0 from rfl] at hx263_3);(try rw [show 0*5=0 from rfl] at hx263_3);(try rw [Addr.add_zero'] at hx263_3);(try rw [show ((0:Int)).toNat=0 from rfl] at hx263_4);(try rw [show 0*5=0 from rfl] at hx263_4);(try rw [Addr.add_zero'] at hx263_4);replace p263:=eq_true p263;replace q263:=eq_true q263;have p264:0≤((ji11):Int):=od;have q264:(ji11) < (l0.length:Int):=od;obtain ⟨ad264,e264,hx264_0,hx264_1,hx264_2,hx264_3,hx264_4⟩:=at_T86 HR0.out (ji11) p264 q264;obtain rfl:ad262=ad264:=(by injection e264);replace hx264_0:=cx HB.out hx264_0;replace hx264_1:=cx HB.out hx264_1;replace hx264_2:=cx HB.out hx264_2;replace hx264_3:=cx HB.out hx264_3;replace hx264_4:=cx HB.out hx264_4;replace p264:=eq_true p264;replace q264:=eq_true q264;have p265:0≤(1:Int):=(by omega);have q265:1 < (t259.length:Int):=od;obtain ⟨ad265,e265,hx265_0,hx265_1,hx265_2,hx265_3,hx265_4⟩:=at_T86 (Kd.R_reads' HO261.out).2.2 1 p265 q265;obtain rfl:ad263=ad265:=(by injection e265);(try simp only [show (1:Int).toNat=1 from rfl,Nat.reduceMul,Nat.reduceEqDiff,Go.Addr.add,↓reduceIte] at hx265_0);(try simp only [show (1:Int).toNat=1 from rfl,Nat.reduceMul,Nat.reduceEqDiff,Go.Addr.add,↓reduceIte] at hx265_1);(try simp only [show (1:Int).toNat=1 from rfl,Nat.reduceMul,Nat.reduceEqDiff,Go.Addr.add,↓reduceIte] at hx265_2);(try simp only [show (1:Int).toNat=1 from rfl,Nat.reduceMul,Nat.reduceEqDiff,Go.Addr.add,↓reduceIte] at hx265_3);(try simp only [show (1:Int).toNat=1 from rfl,Nat.reduceMul,Nat.reduceEqDiff,Go.Addr.add,↓reduceIte] at hx265_4);have qi265:(1 < t259.length)=True:=eq_true (by omega);(try rw [show ((1:Int)).toNat=1 from rfl] at hx265_0);(try rw [show 1*5=5 from rfl] at hx265_0);(try rw [show ((1:Int)).toNat=1 from rfl] at hx265_1);(try rw [show 1*5=5 from rfl] at hx265_1);(try rw [show ((1:Int)).toNat=1 from rfl] at hx265_2);(try rw [show 1*5=5 from rfl] at hx265_2);(try rw [show ((1:Int)).toNat=1 from rfl] at hx265_3);(try rw [show 1*5=5 from rfl] at hx265_3);(try rw [show ((1:Int)).toNat=1 from rfl] at hx265_4);(try rw [show 1*5=5 from rfl] at hx265_4);replace p265:=eq_true p265;replace q265:=eq_true q265;have p266:0≤((ji16):Int):=od;have q266:(ji16) < (l0.length:Int):=od;obtain ⟨ad266,e266,hx266_0,hx266_1,hx266_2,hx266_3,hx266_4⟩:=at_T86 HR0.out (ji16) p266 q266;obtain rfl:ad262=ad266:=(by injection e266);replace hx266_0:=cx HB.out hx266_0;replace hx266_1:=cx HB.out hx266_1;replace hx266_2:=cx HB.out hx266_2;replace hx266_3:=cx HB.out hx266_3;replace hx266_4:=cx HB.out hx266_4;replace p266:=eq_true p266;replace q266:=eq_true q266;have p267:0≤(2:Int):=(by omega);have q267:2 < (t259.length:Int):=od;obtain ⟨ad267,e267,hx267_0,hx267_1,hx267_2,hx267_3,hx267_4⟩:=at_T86 (Kd.R_reads' HO261.out).2.2 2 p267 q267;obtain rfl:ad263=ad267:=(by injection e267);(try simp only [show (2:Int).toNat=2 from rfl,Nat.reduceMul,Nat.reduceEqDiff,Go.Addr.add,↓reduceIte] at hx267_0);(try simp only [show (2:Int).toNat=2 from rfl,Nat.reduceMul,Nat.reduceEqDiff,Go.Addr.add,↓reduceIte] at hx267_1);(try simp only [show (2:Int).toNat=2 from rfl,Nat.reduceMul,Nat.reduceEqDiff,Go.Addr.add,↓reduceIte] at hx267_2);(try simp only [show (2:Int).toNat=2 from rfl,Nat.reduceMul,Nat.reduceEqDiff,Go.Addr.add,↓reduceIte] at hx267_3);(try simp only [show (2:Int).toNat=2 from rfl,Nat.reduceMul,Nat.reduceEqDiff,Go.Addr.add,↓reduceIte] at hx267_4);have qi267:(2 < t259.length)=True:=eq_true (by omega);(try rw [show ((2:Int)).toNat=2 from rfl] at hx267_0);(try rw [show 2*5=10 from rfl] at hx267_0);(try rw [show ((2:Int)).toNat=2 from rfl] at hx267_1);(try rw [show 2*5=10 from rfl] at hx267_1);(try rw [show ((2:Int)).toNat=2 from rfl] at hx267_2);(try rw [show 2*5=10 from rfl] at hx267_2);(try rw [show ((2:Int)).toNat=2 from rfl] at hx267_3);(try rw [show 2*5=10 from rfl] at hx267_3);(try rw [show ((2:Int)).toNat=2 from rfl] at hx267_4);(try rw [show 2*5=10 from rfl] at hx267_4);replace p267:=eq_true p267;replace q267:=eq_true q267)))
             go_ret
             exact ⟨by first|rfl|(simp [errW_none,errW_some]<;>rfl)|(simp only [← hji11,← hji16];first|rfl|(simp [errW_none,errW_some]<;>rfl))|(simp [*,errW_none,errW_some]<;>rfl),hbx⟩
            rw [if_neg c18] at H
            exact absurd H (by simp)
           rw [if_neg c17] at H
           exact absurd H (by simp)
          rw [if_neg c15] at H
          have c15b0:(((rd_T86 l0 (ji11)).f0)==((rd_T86 t259 1).f0) && (((rd_T86 l0 (ji11)).f1)==((rd_T86 t259 1).f1) && (((rd_T86 l0 (ji11)).f2)==((rd_T86 t259 1).f2) && (((rd_T86 l0 (ji11)).f3)==((rd_T86 t259 1).f3) && (((rd_T86 l0 (ji11)).f4)==((rd_T86 t259 1).f4))))))=false:=by simpa using c15
          (try (have c15b1:decide (((rd_T86 l0 (ji11)).f0)=((rd_T86 t259 1).f0) && (((rd_T86 l0 (ji11)).f1)==((rd_T86 t259 1).f1) && (((rd_T86 l0 (ji11)).f2)==((rd_T86 t259 1).f2) && (((rd_T86 l0 (ji11)).f3)==((rd_T86 t259 1).f3) && (((rd_T86 l0 (ji11)).f4)==((rd_T86 t259 1).f4))))))=false:=by simpa using c15))
          (try (have c15b2:(((rd_T86 l0 (ji11)).f0)==((rd_T86 t259 1).f0) && (((rd_T86 l0 (ji11)).f1)==((rd_T86 t259 1).f1) && (((rd_T86 l0 (ji11)).f2)==((rd_T86 t259 1).f2) && (((rd_T86 l0 (ji11)).f3)==((rd_T86 t259 1).f3) && (((rd_T86 l0 (ji11)).f4)==((rd_T86 t259 1).f4))))))=false:=by simpa using c15))
          (try (have c15b3:¬ (((rd_T86 l0 (ji11)).f0)=((rd_T86 t259 1).f0) && (((rd_T86 l0 (ji11)).f1)==((rd_T86 t259 1).f1) && (((rd_T86 l0 (ji11)).f2)==((rd_T86 t259 1).f2) && (((rd_T86 l0 (ji11)).f3)==((rd_T86 t259 1).f3) && (((rd_T86 l0 (ji11)).f4)==((rd_T86 t259 1).f4)))))):=by simpa using c15))
          clear c15
          obtain rfl:=Option.some.inj H
          go_enter Try.func86,Try.ntmps86
          go_wp2_with (first|(go_at_call 105;(with_reducible refine (spec_l06Epilogue.calls a2 t259 _ A4.out).mono ?_);rintro e w21 ⟨v260,rfl,ho0,hb⟩;have n0_:=Aside0.mk (Kd.R_lower ho0 (below_size hbx));replace HB:=Aside0.mk (below_step hbx hb);have HO261:=n0_;clear n0_;(try clear hb);(try clear hb2);(try clear hk);(try clear hi);(try clear ho0);have p262:0≤(a1:Int):=od;have q262:a1 < (l0.length:Int):=od;obtain ⟨ad262,e262,hx262_0,hx262_1,hx262_2,hx262_3,hx262_4⟩:=at_T86 HR0.out a1 p262 q262;cases e262;replace hx262_0:=cx HB.out hx262_0;replace hx262_1:=cx HB.out hx262_1;replace hx262_2:=cx HB.out hx262_2;replace hx262_3:=cx HB.out hx262_3;replace hx262_4:=cx HB.out hx262_4;replace p262:=eq_true p262;replace q262:=eq_true q262;obtain ⟨Ao22,co22,eo22⟩:=Kd.R_slice HO261.out;subst eo22;have p263:0≤(0:Int):=(by omega);have q263:0 < (t259.length:Int):=od;obtain ⟨ad263,e263,hx263_0,hx263_1,hx263_2,hx263_3,hx263_4⟩:=at_T86 (Kd.R_reads' HO261.out).2.2 0 p263 q263;cases e263;have qi263:(0 < t259.length)=True:=eq_true (by omega);(try rw [show ((0:Int)).toNat=0 from rfl] at hx263_0);(try rw [show 0*5=0 from rfl] at hx263_0);(try rw [Addr.add_zero'] at hx263_0);(try rw [show ((0:Int)).toNat=0 from rfl] at hx263_1);(try rw [show 0*5=0 from rfl] at hx263_1);(try rw [Addr.add_zero'] at hx263_1);(try rw [show ((0:Int)).toNat=0 from rfl] at hx263_2);(try rw [show 0*5=0 from rfl] at hx263_2);(try rw [Addr.add_zero'] at hx263_2);(try rw [show ((0:Int)).toNat=0 from rfl] at hx263_3);(try rw [show 0*5=0 from rfl] at hx263_3);(try rw [Addr.add_zero'] at hx263_3);(try rw [show ((0:Int)).toNat=0 from rfl] at hx263_4);(try rw [show 0*5=0 from rfl] at hx263_4);(try rw [Addr.add_zero'] at hx263_4);replace p263:=eq_true p263;replace q263:=eq_true q263;have p264:0≤((ji11):Int):=od;have q264:(ji11) < (l0.length:Int):=od;obtain ⟨ad264,e264,hx264_0,hx264_1,hx264_2,hx264_3,hx264_4⟩:=at_T86 HR0.out (ji11) p264 q264;obtain rfl:ad262=ad264:=(by injection e264);replace hx264_0:=cx HB.out hx264_0;replace hx264_1:=cx HB.out hx264_1;replace hx264_2:=cx HB.out hx264_2;replace hx264_3:=cx HB.out hx264_3;replace hx264_4:=cx HB.out hx264_4;replace p264:=eq_true p264;replace q264:=eq_true q264;have p265:0≤(1:Int):=(by omega);have q265:1 < (t259.length:Int):=od;obtain ⟨ad265,e265,hx265_0,hx265_1,hx265_2,hx265_3,hx265_4⟩:=at_T86 (Kd.R_reads' HO261.out).2.2 1 p265 q265;obtain rfl:ad263=ad265:=(by injection e265);(try simp only [show (1:Int).toNat=1 from rfl,Nat.reduceMul,Nat.reduceEqDiff,Go.Addr.add,↓reduceIte] at hx265_0);(try simp only [show (1:Int).toNat=1 from rfl,Nat.reduceMul,Nat.reduceEqDiff,Go.Addr.add,↓reduceIte] at hx265_1);(try simp only [show (1:Int).toNat=1 from rfl,Nat.reduceMul,Nat.reduceEqDiff,Go.Addr.add,↓reduceIte] at hx265_2);(try simp only [show (1:Int).toNat=1 from rfl,Nat.reduceMul,Nat.reduceEqDiff,Go.Addr.add,↓reduceIte] at hx265_3);(try simp only [show (1:Int).toNat=1 from rfl,Nat.reduceMul,Nat.reduceEqDiff,Go.Addr.add,↓reduceIte] at hx265_4);have qi265:(1 < t259.length)=True:=eq_true (by omega);(try rw [show ((1:Int)).toNat=1 from rfl] at hx265_0);(try rw [show 1*5=5 from rfl] at hx265_0);(try rw [show ((1:Int)).toNat=1 from rfl] at hx265_1);(try rw [show 1*5=5 from rfl] at hx265_1);(try rw [show ((1:Int)).toNat=1 from rfl] at hx265_2);(try rw [show 1*5=5 from rfl] at hx265_2);(try rw [show ((1:Int)).toNat=1 from rfl] at hx265_3);(try rw [show 1*5=5 from rfl] at hx265_3);(try rw [show ((1:Int)).toNat=1 from rfl] at hx265_4);(try rw [show 1*5=5 from rfl] at hx265_4);replace p265:=eq_true p265;replace q265:=eq_true q265))
          repeat (go_quiet (first|(go_at_call 105;(with_reducible refine (spec_l06Epilogue.calls a2 t259 _ A4.out).mono ?_);rintro e w21 ⟨v260,rfl,ho0,hb⟩;have n0_:=Aside0.mk (Kd.R_lower ho0 (below_size hbx));replace HB:=Aside0.mk (below_step hbx hb);have HO261:=n0_;clear n0_;(try clear hb);(try clear hb2);(try clear hk);(try clear hi);(try clear ho0);have p262:0≤(a1:Int):=od;have q262:a1 < (l0.length:Int):=od;obtain ⟨ad262,e262,hx262_0,hx262_1,hx262_2,hx262_3,hx262_4⟩:=at_T86 HR0.out a1 p262 q262;cases e262;replace hx262_0:=cx HB.out hx262_0;replace hx262_1:=cx HB.out hx262_1;replace hx262_2:=cx HB.out hx262_2;replace hx262_3:=cx HB.out hx262_3;replace hx262_4:=cx HB.out hx262_4;replace p262:=eq_true p262;replace q262:=eq_true q262;obtain ⟨Ao22,co22,eo22⟩:=Kd.R_slice HO261.out;subst eo22;have p263:0≤(0:Int):=(by omega);have q263:0 < (t259.length:Int):=od;obtain ⟨ad263,e263,hx263_0,hx263_1,hx263_2,hx263_3,hx263_4⟩:=at_T86 (Kd.R_reads' HO261.out).2.2 0 p263 q263;cases e263;have qi263:(0 < t259.length)=True:=eq_true (by omega);(try rw [show ((0:Int)).toNat=0 from rfl] at hx263_0);(try rw [show 0*5=0 from rfl] at hx263_0);(try rw [Addr.add_zero'] at hx263_0);(try rw [show ((0:Int)).toNat=0 from rfl] at hx263_1);(try rw [show 0*5=0 from rfl] at hx263_1);(try rw [Addr.add_zero'] at hx263_1);(try rw [show ((0:Int)).toNat=0 from rfl] at hx263_2);(try rw [show 0*5=0 from rfl] at hx263_2);(try rw [Addr.add_zero'] at hx263_2);(try rw [show ((0:Int)).toNat=0 from rfl] at hx263_3);(try rw [show 0*5=0 from rfl] at hx263_3);(try rw [Addr.add_zero'] at hx263_3);(try rw [show ((0:Int)).toNat=0 from rfl] at hx263_4);(try rw [show 0*5=0 from rfl] at hx263_4);(try rw [Addr.add_zero'] at hx263_4);replace p263:=eq_true p263;replace q263:=eq_true q263;have p264:0≤((ji11):Int):=od;have q264:(ji11) < (l0.length:Int):=od;obtain ⟨ad264,e264,hx264_0,hx264_1,hx264_2,hx264_3,hx264_4⟩:=at_T86 HR0.out (ji11) p264 q264;obtain rfl:ad262=ad264:=(by injection e264);replace hx264_0:=cx HB.out hx264_0;replace hx264_1:=cx HB.out hx264_1;replace hx264_2:=cx HB.out hx264_2;replace hx264_3:=cx HB.out hx264_3;replace hx264_4:=cx HB.out hx264_4;replace p264:=eq_true p264;replace q264:=eq_true q264;have p265:0≤(1:Int):=(by omega);have q265:1 < (t259.length:Int):=od;obtain ⟨ad265,e265,hx265_0,hx265_1,hx265_2,hx265_3,hx265_4⟩:=at_T86 (Kd.R_reads' HO261.out).2.2 1 p265 q265;obtain rfl:ad263=ad265:=(by injection e265);(try simp only [show (1:Int).toNat=1 from rfl,Nat.reduceMul,Nat.reduceEqDiff,Go.Addr.add,↓reduceIte] at hx265_0);(try simp only [show (1:Int).toNat=1 from rfl,Nat.reduceMul,Nat.reduceEqDiff,Go.Addr.add,↓reduceIte] at hx265_1);(try simp only [show (1:Int).toNat=1 from rfl,Nat.reduceMul,Nat.reduceEqDiff,Go.Addr.add,↓reduceIte] at hx265_2);(try simp only [show (1:Int).toNat=1 from rfl,Nat.reduceMul,Nat.reduceEqDiff,Go.Addr.add,↓reduceIte] at hx265_3);(try simp only [show (1:Int).toNat=1 from rfl,Nat.reduceMul,Nat.reduceEqDiff,Go.Addr.add,↓reduceIte] at hx265_4);have qi265:(1 < t259.length)=True:=eq_true (by omega);(try rw [show ((1:Int)).toNat=1 from rfl] at hx265_0);(try rw [show 1*5=5 from rfl] at hx265_0);(try rw [show ((1:Int)).toNat=1 from rfl] at hx265_1);(try rw [show 1*5=5 from rfl] at hx265_1);(try rw [show ((1:Int)).toNat=1 from rfl] at hx265_2);(try rw [show 1*5=5 from rfl] at hx265_2);(try rw [show ((1:Int)).toNat=1 from rfl] at hx265_3);(try rw [show 1*5=5 from rfl] at hx265_3);(try rw [show ((1:Int)).toNat=1 from rfl] at hx265_4);(try rw [show 1*5=5 from rfl] at hx265_4);replace p265:=eq_true p265;replace q265:=eq_true q265));try go_wp2_with (first|(go_at_call 105;(with_reducible refine (spec_l06Epilogue.calls a2 t259 _ A4.out).mono ?_);rintro e w21 ⟨v260,rfl,ho0,hb⟩;have n0_:=Aside0.mk (Kd.R_lower ho0 (below_size hbx));replace HB:=Aside0.mk (below_step hbx hb);have HO261:=n0_;clear n0_;(try clear hb);(try clear hb2);(try clear hk);(try clear hi);(try clear ho0);have p262:0≤(a1:Int):=od;have q262:a1 < (l0.length:Int):=od;obtain ⟨ad262,e262,hx262_0,hx262_1,hx262_2,hx262_3,hx262_4⟩:=at_T86 HR0.out a1 p262 q262;cases e262;replace hx262_0:=cx HB.out hx262_0;replace hx262_1:=cx HB.out hx262_1;replace hx262_2:=cx HB.out hx262_2;replace hx262_3:=cx HB.out hx262_3;replace hx262_4:=cx HB.out hx262_4;replace p262:=eq_true p262;replace q262:=eq_true q262;obtain ⟨Ao22,co22,eo22⟩:=Kd.R_slice HO261.out;subst eo22;have p263:0≤(0:Int):=(by omega);have q263:0 < (t259.length:Int):=od;obtain ⟨ad263,e263,hx263_0,hx263_1,hx263_2,hx263_3,hx263_4⟩:=at_T86 (Kd.R_reads' HO261.out).2.2 0 p263 q263;cases e263;have qi263:(0 < t259.length)=True:=eq_true (by omega);(try rw [show ((0:Int)).toNat=0 from rfl] at hx263_0);(try rw [show 0*5=0 from rfl] at hx263_0);(try rw [Addr.add_zero'] at hx263_0);(try rw [show ((0:Int)).toNat=0 from rfl] at hx263_1);(try rw [show 0*5=0 from rfl] at hx263_1);(try rw [Addr.add_zero'] at hx263_1);(try rw [show ((0:Int)).toNat=0 from rfl] at hx263_2);(try rw [show 0*5=0 from rfl] at hx263_2);(try rw [Addr.add_zero'] at hx263_2);(try rw [show ((0:Int)).toNat=0 from rfl] at hx263_3);(try rw [show 0*5=0 from rfl] at hx263_3);(try rw [Addr.add_zero'] at hx263_3);(try rw [show ((0:Int)).toNat=0 from rfl] at hx263_4);(try rw [show 0*5=0 from rfl] at hx263_4);(try rw [Addr.add_zero'] at hx263_4);replace p263:=eq_true p263;replace q263:=eq_true q263;have p264:0≤((ji11):Int):=od;have q264:(ji11) < (l0.length:Int):=od;obtain ⟨ad264,e264,hx264_0,hx264_1,hx264_2,hx264_3,hx264_4⟩:=at_T86 HR0.out (ji11) p264 q264;obtain rfl:ad262=ad264:=(by injection e264);replace hx264_0:=cx HB.out hx264_0;replace hx264_1:=cx HB.out hx264_1;replace hx264_2:=cx HB.out hx264_2;replace hx264_3:=cx HB.out hx264_3;replace hx264_4:=cx HB.out hx264_4;replace p264:=eq_true p264;replace q264:=eq_true q264;have p265:0≤(1:Int):=(by omega);have q265:1 < (t259.length:Int):=od;obtain ⟨ad265,e265,hx265_0,hx265_1,hx265_2,hx265_3,hx265_4⟩:=at_T86 (Kd.R_reads' HO261.out).2.2 1 p265 q265;obtain rfl:ad263=ad265:=(by injection e265);(try simp only [show (1:Int).toNat=1 from rfl,Nat.reduceMul,Nat.reduceEqDiff,Go.Addr.add,↓reduceIte] at hx265_0);(try simp only [show (1:Int).toNat=1 from rfl,Nat.reduceMul,Nat.reduceEqDiff,Go.Addr.add,↓reduceIte] at hx265_1);(try simp only [show (1:Int).toNat=1 from rfl,Nat.reduceMul,Nat.reduceEqDiff,Go.Addr.add,↓reduceIte] at hx265_2);(try simp only [show (1:Int).toNat=1 from rfl,Nat.reduceMul,Nat.reduceEqDiff,Go.Addr.add,↓reduceIte] at hx265_3);(try simp only [show (1:Int).toNat=1 from rfl,Nat.reduceMul,Nat.reduceEqDiff,Go.Addr.add,↓reduceIte] at hx265_4);have qi265:(1 < t259.length)=True:=eq_true (by omega);(try rw [show ((1:Int)).toNat=1 from rfl] at hx265_0);(try rw [show 1*5=5 from rfl] at hx265_0);(try rw [show ((1:Int)).toNat=1 from rfl] at hx265_1);(try rw [show 1*5=5 from rfl] at hx265_1);(try rw [show ((1:Int)).toNat=1 from rfl] at hx265_2);(try rw [show 1*5=5 from rfl] at hx265_2);(try rw [show ((1:Int)).toNat=1 from rfl] at hx265_3);(try rw [show 1*5=5 from rfl] at hx265_3);(try rw [show ((1:Int)).toNat=1 from rfl] at hx265_4);(try rw [show 1*5=5 from rfl] at hx265_4);replace p265:=eq_true p265;replace q265:=eq_true q265)))
          go_ret
          exact ⟨by first|rfl|(simp [errW_none,errW_some]<;>rfl)|(simp only [← hji11];first|rfl|(simp [errW_none,errW_some]<;>rfl))|(simp [*,errW_none,errW_some]<;>rfl),hbx⟩
         rw [if_neg c14] at H
         exact absurd H (by simp)
        rw [if_neg c13] at H
        exact absurd H (by simp)
       rw [if_neg c12] at H
       exact absurd H (by simp)
      rw [if_neg c10] at H
      have c10b0:(((rd_T86 l0 a1).f0)==((rd_T86 t259 0).f0) && (((rd_T86 l0 a1).f1)==((rd_T86 t259 0).f1) && (((rd_T86 l0 a1).f2)==((rd_T86 t259 0).f2) && (((rd_T86 l0 a1).f3)==((rd_T86 t259 0).f3) && (((rd_T86 l0 a1).f4)==((rd_T86 t259 0).f4))))))=false:=by simpa using c10
      (try (have c10b1:decide (((rd_T86 l0 a1).f0)=((rd_T86 t259 0).f0) && (((rd_T86 l0 a1).f1)==((rd_T86 t259 0).f1) && (((rd_T86 l0 a1).f2)==((rd_T86 t259 0).f2) && (((rd_T86 l0 a1).f3)==((rd_T86 t259 0).f3) && (((rd_T86 l0 a1).f4)==((rd_T86 t259 0).f4))))))=false:=by simpa using c10))
      (try (have c10b2:(((rd_T86 l0 a1).f0)==((rd_T86 t259 0).f0) && (((rd_T86 l0 a1).f1)==((rd_T86 t259 0).f1) && (((rd_T86 l0 a1).f2)==((rd_T86 t259 0).f2) && (((rd_T86 l0 a1).f3)==((rd_T86 t259 0).f3) && (((rd_T86 l0 a1).f4)==((rd_T86 t259 0).f4))))))=false:=by simpa using c10))
      (try (have c10b3:¬ (((rd_T86 l0 a1).f0)=((rd_T86 t259 0).f0) && (((rd_T86 l0 a1).f1)==((rd_T86 t259 0).f1) && (((rd_T86 l0 a1).f2)==((rd_T86 t259 0).f2) && (((rd_T86 l0 a1).f3)==((rd_T86 t259 0).f3) && (((rd_T86 l0 a1).f4)==((rd_T86 t259 0).f4)))))):=by simpa using c10))
      clear c10
      obtain rfl:=Option.some.inj H
      go_enter Try.func86,Try.ntmps86
      go_wp2_with (first|(go_at_call 105;(with_reducible refine (spec_l06Epilogue.calls a2 t259 _ A4.out).mono ?_);rintro e w23 ⟨v260,rfl,ho0,hb⟩;have n0_:=Aside0.mk (Kd.R_lower ho0 (below_size hbx));replace HB:=Aside0.mk (below_step hbx hb);have HO261:=n0_;clear n0_;(try clear hb);(try clear hb2);(try clear hk);(try clear hi);(try clear ho0);have p262:0≤(a1:Int):=od;have q262:a1 < (l0.length:Int):=od;obtain ⟨ad262,e262,hx262_0,hx262_1,hx262_2,hx262_3,hx262_4⟩:=at_T86 HR0.out a1 p262 q262;cases e262;replace hx262_0:=cx HB.out hx262_0;replace hx262_1:=cx HB.out hx262_1;replace hx262_2:=cx HB.out hx262_2;replace hx262_3:=cx HB.out hx262_3;replace hx262_4:=cx HB.out hx262_4;replace p262:=eq_true p262;replace q262:=eq_true q262;obtain ⟨Ao24,co24,eo24⟩:=Kd.R_slice HO261.out;subst eo24;have p263:0≤(0:Int):=(by omega);have q263:0 < (t259.length:Int):=od;obtain ⟨ad263,e263,hx263_0,hx263_1,hx263_2,hx263_3,hx263_4⟩:=at_T86 (Kd.R_reads' HO261.out).2.2 0 p263 q263;cases e263;have qi263:(0 < t259.length)=True:=eq_true (by omega);(try rw [show ((0:Int)).toNat=0 from rfl] at hx263_0);(try rw [show 0*5=0 from rfl] at hx263_0);(try rw [Addr.add_zero'] at hx263_0);(try rw [show ((0:Int)).toNat=0 from rfl] at hx263_1);(try rw [show 0*5=0 from rfl] at hx263_1);(try rw [Addr.add_zero'] at hx263_1);(try rw [show ((0:Int)).toNat=0 from rfl] at hx263_2);(try rw [show 0*5=0 from rfl] at hx263_2);(try rw [Addr.add_zero'] at hx263_2);(try rw [show ((0:Int)).toNat=0 from rfl] at hx263_3);(try rw [show 0*5=0 from rfl] at hx263_3);(try rw [Addr.add_zero'] at hx263_3);(try rw [show ((0:Int)).toNat=0 from rfl] at hx263_4);(try rw [show 0*5=0 from rfl] at hx263_4);(try rw [Addr.add_zero'] at hx263_4);replace p263:=eq_true p263;replace q263:=eq_true q263))
      repeat (go_quiet (first|(go_at_call 105;(with_reducible refine (spec_l06Epilogue.calls a2 t259 _ A4.out).mono ?_);rintro e w23 ⟨v260,rfl,ho0,hb⟩;have n0_:=Aside0.mk (Kd.R_lower ho0 (below_size hbx));replace HB:=Aside0.mk (below_step hbx hb);have HO261:=n0_;clear n0_;(try clear hb);(try clear hb2);(try clear hk);(try clear hi);(try clear ho0);have p262:0≤(a1:Int):=od;have q262:a1 < (l0.length:Int):=od;obtain ⟨ad262,e262,hx262_0,hx262_1,hx262_2,hx262_3,hx262_4⟩:=at_T86 HR0.out a1 p262 q262;cases e262;replace hx262_0:=cx HB.out hx262_0;replace hx262_1:=cx HB.out hx262_1;replace hx262_2:=cx HB.out hx262_2;replace hx262_3:=cx HB.out hx262_3;replace hx262_4:=cx HB.out hx262_4;replace p262:=eq_true p262;replace q262:=eq_true q262;obtain ⟨Ao24,co24,eo24⟩:=Kd.R_slice HO261.out;subst eo24;have p263:0≤(0:Int):=(by omega);have q263:0 < (t259.length:Int):=od;obtain ⟨ad263,e263,hx263_0,hx263_1,hx263_2,hx263_3,hx263_4⟩:=at_T86 (Kd.R_reads' HO261.out).2.2 0 p263 q263;cases e263;have qi263:(0 < t259.length)=True:=eq_true (by omega);(try rw [show ((0:Int)).toNat=0 from rfl] at hx263_0);(try rw [show 0*5=0 from rfl] at hx263_0);(try rw [Addr.add_zero'] at hx263_0);(try rw [show ((0:Int)).toNat=0 from rfl] at hx263_1);(try rw [show 0*5=0 from rfl] at hx263_1);(try rw [Addr.add_zero'] at hx263_1);(try rw [show ((0:Int)).toNat=0 from rfl] at hx263_2);(try rw [show 0*5=0 from rfl] at hx263_2);(try rw [Addr.add_zero'] at hx263_2);(try rw [show ((0:Int)).toNat=0 from rfl] at hx263_3);(try rw [show 0*5=0 from rfl] at hx263_3);(try rw [Addr.add_zero'] at hx263_3);(try rw [show ((0:Int)).toNat=0 from rfl] at hx263_4);(try rw [show 0*5=0 from rfl] at hx263_4);(try rw [Addr.add_zero'] at hx263_4);replace p263:=eq_true p263;replace q263:=eq_true q263));try go_wp2_with (first|(go_at_call 105;(with_reducible refine (spec_l06Epilogue.calls a2 t259 _ A4.out).mono ?_);rintro e w23 ⟨v260,rfl,ho0,hb⟩;have n0_:=Aside0.mk (Kd.R_lower ho0 (below_size hbx));replace HB:=Aside0.mk (below_step hbx hb);have HO261:=n0_;clear n0_;(try clear hb);(try clear hb2);(try clear hk);(try clear hi);(try clear ho0);have p262:0≤(a1:Int):=od;have q262:a1 < (l0.length:Int):=od;obtain ⟨ad262,e262,hx262_0,hx262_1,hx262_2,hx262_3,hx262_4⟩:=at_T86 HR0.out a1 p262 q262;cases e262;replace hx262_0:=cx HB.out hx262_0;replace hx262_1:=cx HB.out hx262_1;replace hx262_2:=cx HB.out hx262_2;replace hx262_3:=cx HB.out hx262_3;replace hx262_4:=cx HB.out hx262_4;replace p262:=eq_true p262;replace q262:=eq_true q262;obtain ⟨Ao24,co24,eo24⟩:=Kd.R_slice HO261.out;subst eo24;have p263:0≤(0:Int):=(by omega);have q263:0 < (t259.length:Int):=od;obtain ⟨ad263,e263,hx263_0,hx263_1,hx263_2,hx263_3,hx263_4⟩:=at_T86 (Kd.R_reads' HO261.out).2.2 0 p263 q263;cases e263;have qi263:(0 < t259.length)=True:=eq_true (by omega);(try rw [show ((0:Int)).toNat=0 from rfl] at hx263_0);(try rw [show 0*5=0 from rfl] at hx263_0);(try rw [Addr.add_zero'] at hx263_0);(try rw [show ((0:Int)).toNat=0 from rfl] at hx263_1);(try rw [show 0*5=0 from rfl] at hx263_1);(try rw [Addr.add_zero'] at hx263_1);(try rw [show ((0:Int)).toNat=0 from rfl] at hx263_2);(try rw [show 0*5=0 from rfl] at hx263_2);(try rw [Addr.add_zero'] at hx263_2);(try rw [show ((0:Int)).toNat=0 from rfl] at hx263_3);(try rw [show 0*5=0 from rfl] at hx263_3);(try rw [Addr.add_zero'] at hx263_3);(try rw [show ((0:Int)).toNat=0 from rfl] at hx263_4);(try rw [show 0*5=0 from rfl] at hx263_4);(try rw [Addr.add_zero'] at hx263_4);replace p263:=eq_true p263;replace q263:=eq_true q263)))
      go_ret
      exact ⟨rf,hbx⟩
     rw [if_neg c9] at H
     exact absurd H (by simp)
    rw [if_neg c8] at H
    exact absurd H (by simp)
   rw [if_neg c7] at H
   exact absurd H (by simp)
  rw [if_neg c6] at H
  have c6b0:decide ((wrap64 (a1+2)) < (l0.length:Int))=false:=decide_eq_false c6
  clear c6
  obtain rfl:=Option.some.inj H
  go_enter Try.func86,Try.ntmps86
  go_wp2_with (first|(go_at_call 105;(with_reducible refine (spec_l06Epilogue.calls a2 t259 _ A4.out).mono ?_);rintro e w25 ⟨v260,rfl,ho0,hb⟩;have n0_:=Aside0.mk (Kd.R_lower ho0 (below_size hbx));replace HB:=Aside0.mk (below_step hbx hb);have HO261:=n0_;clear n0_;(try clear hb);(try clear hb2);(try clear hk);(try clear hi);(try clear ho0)))
  repeat (go_quiet (first|(go_at_call 105;(with_reducible refine (spec_l06Epilogue.calls a2 t259 _ A4.out).mono ?_);rintro e w25 ⟨v260,rfl,ho0,hb⟩;have n0_:=Aside0.mk (Kd.R_lower ho0 (below_size hbx));replace HB:=Aside0.mk (below_step hbx hb);have HO261:=n0_;clear n0_;(try clear hb);(try clear hb2);(try clear hk);(try clear hi);(try clear ho0)));try go_wp2_with (first|(go_at_call 105;(with_reducible refine (spec_l06Epilogue.calls a2 t259 _ A4.out).mono ?_);rintro e w25 ⟨v260,rfl,ho0,hb⟩;have n0_:=Aside0.mk (Kd.R_lower ho0 (below_size hbx));replace HB:=Aside0.mk (below_step hbx hb);have HO261:=n0_;clear n0_;(try clear hb);(try clear hb2);(try clear hk);(try clear hi);(try clear ho0))))
  go_ret
  exact ⟨rf,hbx⟩
 rw [if_neg c5] at H
 have c5b0:decide (2≤a1)=false:=decide_eq_false c5
 clear c5
 obtain rfl:=Option.some.inj H
 go_enter Try.func86,Try.ntmps86
 go_wp2_with (first|(go_at_call 105;(with_reducible refine (spec_l06Epilogue.calls a2 t259 _ A4.out).mono ?_);rintro e w26 ⟨v260,rfl,ho0,hb⟩;have n0_:=Aside0.mk (Kd.R_lower ho0 (below_size hbx));replace HB:=Aside0.mk (below_step hbx hb);have HO261:=n0_;clear n0_;(try clear hb);(try clear hb2);(try clear hk);(try clear hi);(try clear ho0)))
 repeat (go_quiet (first|(go_at_call 105;(with_reducible refine (spec_l06Epilogue.calls a2 t259 _ A4.out).mono ?_);rintro e w26 ⟨v260,rfl,ho0,hb⟩;have n0_:=Aside0.mk (Kd.R_lower ho0 (below_size hbx));replace HB:=Aside0.mk (below_step hbx hb);have HO261:=n0_;clear n0_;(try clear hb);(try clear hb2);(try clear hk);(try clear hi);(try clear ho0)));try go_wp2_with (first|(go_at_call 105;(with_reducible refine (spec_l06Epilogue.calls a2 t259 _ A4.out).mono ?_);rintro e w26 ⟨v260,rfl,ho0,hb⟩;have n0_:=Aside0.mk (Kd.R_lower ho0 (below_size hbx));replace HB:=Aside0.mk (below_step hbx hb);have HO261:=n0_;clear n0_;(try clear hb);(try clear hb2);(try clear hk);(try clear hi);(try clear ho0))))
 go_ret
 exact ⟨rf,hbx⟩
def spec_l06Goes.f (l0:List (S86)) (a1:Int) (a2:Int) (a3:Int):Option (Bool):=if (Int.tmod a2 4)=0 then (if (wrap64 (a1+(wrap64 (Int.tdiv a2 4))))≥2 then (if (wrap64 (a1+(wrap64 (Int.tdiv a2 4)))) < (l0.length:Int) then ((spec_l06Ends.f l0 (wrap64 ((wrap64 (a1+(wrap64 (Int.tdiv a2 4)))) - 1)) a3).bind fun t268=>(if t268=true then (some false) else ((spec_l06Ends.f l0 (wrap64 ((wrap64 (a1+(wrap64 (Int.tdiv a2 4)))) - 2)) a3).bind fun t269=>(some (!t269))))) else (some false)) else (some false)) else (some false)
set_option maxHeartbeats 8000000 in
set_option maxRecDepth 100000 in
theorem spec_l06Goes.calls (A0:Option Addr) (c0:Nat) (l0:List (S86)) (a1:Int) (a2:Int) (a3:Int) (r:Bool) (w:World) (hr0:Kd.C k86 w A0 l0.length l0) (hc0:l0.length≤c0) (h:spec_l06Goes.f l0 a1 a2 a3=some r) :
    Calls Try.prog 87 #[.slice A0 l0.length c0,.int .i64 a1,.int .i64 a2,.int .i64 a3] w fun e w'=>e=.returned (.bool r)∧Below w.heap.size w w':=by
 have HR0:=Aside0.mk hr0
 have HC0:=Aside0.mk hc0
 clear hr0 hc0
 have HB:=Aside0.mk (Below.refl w.heap.size w)
 have H:(if (Int.tmod a2 4)=0 then (if (wrap64 (a1+(wrap64 (Int.tdiv a2 4))))≥2 then (if (wrap64 (a1+(wrap64 (Int.tdiv a2 4)))) < (l0.length:Int) then ((spec_l06Ends.f l0 (wrap64 ((wrap64 (a1+(wrap64 (Int.tdiv a2 4)))) - 1)) a3).bind fun t268=>(if t268=true then (some false) else ((spec_l06Ends.f l0 (wrap64 ((wrap64 (a1+(wrap64 (Int.tdiv a2 4)))) - 2)) a3).bind fun t269=>(some (!t269))))) else (some false)) else (some false)) else (some false))=some r:=h
 clear h
 by_cases c5:(Int.tmod a2 4)=0
 ·rw [if_pos c5] at H
  obtain ⟨c5b0,c5b1⟩:=eqP c5
  clear c5
  by_cases c6:(wrap64 (a1+(wrap64 (Int.tdiv a2 4))))≥2
  ·rw [if_pos c6] at H
   have c6b0:decide (2≤(wrap64 (a1+(wrap64 (Int.tdiv a2 4)))))=true:=decide_eq_true c6
   clear c6
   by_cases c7:(wrap64 (a1+(wrap64 (Int.tdiv a2 4)))) < (l0.length:Int)
   ·rw [if_pos c7] at H
    have c7b0:decide ((wrap64 (a1+(wrap64 (Int.tdiv a2 4)))) < (l0.length:Int))=true:=decide_eq_true c7
    clear c7
    obtain ⟨t268,A8,H⟩:=bindA H
    by_cases c9:t268=true
    ·subst c9
     rw [if_pos rfl] at H
     obtain rfl:=Option.some.inj H
     go_enter Try.func87,Try.ntmps87
     go_wp2_with (first|(go_at_call 86;(with_reducible refine (spec_l06Ends.calls _ _ l0 (wrap64 ((wrap64 (a1+(wrap64 (Int.tdiv a2 4)))) - 1)) a3 true _ ?side1 ?side2 A8.out).mono ?_);(case side1=>repeat (first|exact HR0.out|(with_reducible refine Kd.C_alloc ?_ _)|(with_reducible refine Kd.C_drewN ?_ _)|(with_reducible refine Kd.C_drew ?_)));(case side2=>exact HC0.out);rintro e w10 ⟨rfl,hb⟩;replace HB:=Aside0.mk (below_step hbx hb);(try clear hb);(try clear hb2);(try clear hk);(try clear hi)))
     go_ret
     exact ⟨rf,hbx⟩
    replace c9:=Bool.eq_false_iff.mpr c9
    subst c9
    rw [if_neg (show ¬ (false=true) by decide)] at H
    obtain ⟨t269,A11,H⟩:=bindA H
    obtain rfl:=Option.some.inj H
    go_enter Try.func87,Try.ntmps87
    go_wp2_with (first|(go_at_call 86;(with_reducible refine (spec_l06Ends.calls _ _ l0 (wrap64 ((wrap64 (a1+(wrap64 (Int.tdiv a2 4)))) - 1)) a3 false _ ?side1 ?side2 A8.out).mono ?_);(case side1=>repeat (first|exact HR0.out|(with_reducible refine Kd.C_alloc ?_ _)|(with_reducible refine Kd.C_drewN ?_ _)|(with_reducible refine Kd.C_drew ?_)));(case side2=>exact HC0.out);rintro e w12 ⟨rfl,hb⟩;replace HB:=Aside0.mk (below_step hbx hb);(try clear hb);(try clear hb2);(try clear hk);(try clear hi))|(go_at_call 86;(with_reducible refine (spec_l06Ends.calls _ _ l0 (wrap64 ((wrap64 (a1+(wrap64 (Int.tdiv a2 4)))) - 2)) a3 t269 _ ?side1 ?side2 A11.out).mono ?_);(case side1=>exact kc HR0.out);(case side2=>exact HC0.out);rintro e w13 ⟨rfl,hb⟩;replace HB:=Aside0.mk (below_step hbx hb);(try clear hb);(try clear hb2);(try clear hk);(try clear hi)))
    go_ret
    exact ⟨rf,hbx⟩
   rw [if_neg c7] at H
   have c7b0:decide ((wrap64 (a1+(wrap64 (Int.tdiv a2 4)))) < (l0.length:Int))=false:=decide_eq_false c7
   clear c7
   obtain rfl:=Option.some.inj H
   go_enter Try.func87,Try.ntmps87
   go_wp2
   go_ret
   exact ⟨rf,hbx⟩
  rw [if_neg c6] at H
  have c6b0:decide (2≤(wrap64 (a1+(wrap64 (Int.tdiv a2 4)))))=false:=decide_eq_false c6
  clear c6
  obtain rfl:=Option.some.inj H
  go_enter Try.func87,Try.ntmps87
  go_wp2
  go_ret
  exact ⟨rf,hbx⟩
 rw [if_neg c5] at H
 obtain ⟨c5b0,c5b1⟩:=eqN c5
 obtain rfl:=Option.some.inj H
 go_enter Try.func87,Try.ntmps87
 go_wp2
 go_ret
 exact ⟨rf,hbx⟩
end Go.Proofs.Ythepmdlpjdlajaa.PFnExactLintImage
