/- The walk of FnExactCallsOf: each Go function that the law reaches as a plain Lean function, with the proof that a call does what it says; no conditions. Written by a program for this claim. -/
import Derived.Test.YthepmdlpjdlajaaPFnExactCallsOfx0
import Derived.Test.YthepmdlpjdlajaaPFnExactCallsOfx1
import Derived.Test.YthepmdlpjdlajaaPFnExactCallsOfx6
import Derived.Test.YthepmdlpjdlajaaPFnExactCallsOfx17
namespace Go.Proofs.Ythepmdlpjdlajaa.PFnExactCallsOf
open Go.RowKit Go.Proofs.YthepmdlpjdlajaaW.PrintWords Go.Proofs.YthepmdlpjdlajaaW.PrintLast Go.Proofs.YthepmdlpjdlajaaW.PrintMore
attribute [local go_sem] max2_int min2_int max_two min_two max_three min_three max_four min_four   -- for this text's walks alone
set_option linter.unusedVariables false
set_option linter.unusedSimpArgs false
mutual
def laws_FnExactCallsOf.j0:Nat→ByteArray→Int→List Int→Int→List Int→Bool→Option (Bool)
  | 0,_,_,_,_,_,_=>none
  | k+1,x0,x1,x5,x6,x7,x36=>if x36=true then (some false) else ((laws_markIntS.f k x7 1).bind fun bt526=>((laws_heldIntS.f k bt526.2 1).bind fun t528=>(if t528 < 0 then (some false) else (if t528=bt526.1 then ((impl_CallsOf.f k x0 x1).bind fun bt529=>((laws_eqIntS.f k bt529.1 x5).bind fun t533=>(if t533=true then (laws_FnExactCallsOf.j1 k bt526.2 bt526.1 (bt529.2 != x6)) else (laws_FnExactCallsOf.j1 k bt526.2 bt526.1 true)))) else (some false)))))
def laws_FnExactCallsOf.j1:Nat→List Int→Int→Bool→Option (Bool)
  | 0,_,_,_=>none
  | k+1,x7,x9,x62=>if x62=true then (some false) else ((laws_heldIntS.f k x7 1).bind fun t534=>(if t534 < 0 then (some false) else (if t534=x9 then (some true) else (some false))))
end
def laws_FnExactCallsOf.f (k:Nat) (a0:ByteArray) (a1:Int):Option (Bool):=if (a0.size:Int) > 1048576 then (some true) else ((spec_CallsOf.f k a0 a1).bind fun bt517=>((impl_CallsOf.f k a0 a1).bind fun bt521=>((laws_eqIntS.f k bt521.1 bt517.1).bind fun t525=>(if t525=true then (laws_FnExactCallsOf.j0 k a0 a1 bt517.1 bt517.2 bt521.1 (bt521.2 != bt517.2)) else (laws_FnExactCallsOf.j0 k a0 a1 bt517.1 bt517.2 bt521.1 true)))))
theorem laws_FnExactCallsOf.mono_l : ∀ k,(∀ y0 y1 y2 y3 y4 y5,LeO (laws_FnExactCallsOf.j0 k y0 y1 y2 y3 y4 y5) (laws_FnExactCallsOf.j0 (k+1) y0 y1 y2 y3 y4 y5))∧(∀ y0 y1 y2,LeO (laws_FnExactCallsOf.j1 k y0 y1 y2) (laws_FnExactCallsOf.j1 (k+1) y0 y1 y2))
  | 0=>⟨fun _ _ _ _ _ _ r h=>by simp [laws_FnExactCallsOf.j0] at h,fun _ _ _ r h=>by simp [laws_FnExactCallsOf.j1] at h⟩
  | k+1=>by
    obtain ⟨ih0,ih1⟩:=laws_FnExactCallsOf.mono_l k
    refine ⟨?_,?_⟩<;>intros<;>(first|unfold laws_FnExactCallsOf.j0|unfold laws_FnExactCallsOf.j1)<;>repeat' (with_reducible first|apply ih0|apply ih1|apply impl_CallsOf.mono|apply laws_eqIntS.mono|apply laws_heldIntS.mono|apply laws_markIntS.mono|apply spec_CallsOf.mono|apply LeO.refl|apply LeO.none|apply LeO.ite|refine LeO.bind ?_ (fun _=>?_))
theorem laws_FnExactCallsOf.mono : ∀ a0 a1 k,LeO (laws_FnExactCallsOf.f k a0 a1) (laws_FnExactCallsOf.f (k+1) a0 a1):=by
 intro a0 a1 k
 obtain ⟨ih0,ih1⟩:=laws_FnExactCallsOf.mono_l k
 unfold laws_FnExactCallsOf.f
 repeat' (with_reducible first|apply ih0|apply ih1|apply impl_CallsOf.mono|apply laws_eqIntS.mono|apply laws_heldIntS.mono|apply laws_markIntS.mono|apply spec_CallsOf.mono|apply LeO.refl|apply LeO.none|apply LeO.ite|refine LeO.bind ?_ (fun _=>?_))
set_option maxHeartbeats 8000000 in
set_option maxRecDepth 100000 in
theorem laws_FnExactCallsOf.calls (k:Nat) (a0:ByteArray) (a1:Int) (r:Bool) (hT:r=true) (w:World) (h:laws_FnExactCallsOf.f k a0 a1=some r) :
    Calls Try.prog 6 #[.string a0,.int .i64 a1] w fun e w'=>e=.returned (.bool r)∧Below w.heap.size w w':=by
 have HT:=Aside0.mk hT
 clear hT
 have HB:=Aside0.mk (Below.refl w.heap.size w)
 have H:(if (a0.size:Int) > 1048576 then (some true) else ((spec_CallsOf.f k a0 a1).bind fun bt517=>((impl_CallsOf.f k a0 a1).bind fun bt521=>((laws_eqIntS.f k bt521.1 bt517.1).bind fun t525=>(if t525=true then (laws_FnExactCallsOf.j0 k a0 a1 bt517.1 bt517.2 bt521.1 (bt521.2 != bt517.2)) else (laws_FnExactCallsOf.j0 k a0 a1 bt517.1 bt517.2 bt521.1 true))))))=some r:=h
 clear h
 by_cases c3:(a0.size:Int) > 1048576
 ·rw [if_pos c3] at H
  have c3b0:decide (1048576 < (a0.size:Int))=true:=decide_eq_true c3
  have c3b1:decide (1048576 < a0.size)=true:=decide_eq_true (by omega)
  clear c3
  obtain rfl:=Option.some.inj H
  go_enter Try.func6,Try.ntmps6
  go_wp2
  go_ret
  exact ⟨by first|rfl|(simp [errW_none,errW_some]<;>rfl)|(simp [*,errW_none,errW_some]<;>rfl),by repeat (with_reducible first|exact HB.out|apply Q4|apply Q5|apply Q6)⟩
 rw [if_neg c3] at H
 have c3b0:decide (1048576 < (a0.size:Int))=false:=decide_eq_false c3
 have c3b1:decide (1048576 < a0.size)=false:=decide_eq_false (by omega)
 clear c3
 obtain ⟨⟨t517,t518⟩,A4,H⟩:=bindA H
 try dsimp only at H
 obtain ⟨⟨t521,t522⟩,A5,H⟩:=bindA H
 try dsimp only at H
 have HC6:=Aside0.mk H
 clear H
 go_enter Try.func6,Try.ntmps6
 go_upto_region 5 with (first|((with_reducible refine gate_callee (f:=22) rfl ?_);refine goesL_ (some 19) rfl rfl Try.func22 (by kernel_rfl) rfl #[.string a0,.int .i64 a1] rfl (by (try simp only [List.map_toArray,List.map_cons,List.map_nil]);first|done|rfl|(simp only [List.length_drop,List.length_take];rfl)) ?_;(with_reducible refine (spec_CallsOf.calls k a0 a1 t517 t518 _ A4.out).mono ?_);rintro e w7 ⟨v519,rfl,ho0,hb⟩;refine ⟨_,rfl,?_⟩;have n0_:=Aside0.mk (Kd.R_lower ho0 (below_size (by repeat (with_reducible first|exact HB.out|apply Q4|apply Q5|apply Q6))));have n1_:=Aside0.mk (below_step (by repeat (with_reducible first|exact HB.out|apply Q4|apply Q5|apply Q6)) hb);clear HB;have HO520:=n0_;have HB:=n1_;clear n0_ n1_;(try clear hb);(try clear hb2);(try clear hk);(try clear hi);(try clear ho0))|((with_reducible refine gate_callee (f:=23) rfl ?_);refine goesL_ (some 25) rfl rfl Try.func23 (by kernel_rfl) rfl #[.string a0,.int .i64 a1] rfl (by (try simp only [List.map_toArray,List.map_cons,List.map_nil]);first|done|rfl|(simp only [List.length_drop,List.length_take];rfl)) ?_;(with_reducible refine (impl_CallsOf.calls k a0 a1 t521 t522 _ A5.out).mono ?_);rintro e w8 ⟨v523,rfl,ho0,hb⟩;refine ⟨_,rfl,?_⟩;have n0_:=Aside0.mk (Kd.R_elder' (by (with_reducible repeat (first|apply Kd.R_alloc|apply Kd.R_drewN|apply Kd.R_drew));exact HO520.out) (Kd.R_base ho0) hb);have n1_:=Aside0.mk (Kd.R_lower (Kd.R_new' ho0 (Kd.R_lt (by (with_reducible repeat (first|apply Kd.R_alloc|apply Kd.R_drewN|apply Kd.R_drew));exact HO520.out))) (below_size (by repeat (with_reducible first|exact HB.out|apply Q4|apply Q5|apply Q6))));have n2_:=Aside0.mk (below_step (by repeat (with_reducible first|exact HB.out|apply Q4|apply Q5|apply Q6)) hb);clear HO520;clear HB;have HO520:=n0_;have HO524:=n1_;have HB:=n2_;clear n0_ n1_ n2_;(try clear hb);(try clear hb2);(try clear hk);(try clear hi);(try clear ho0)))
 (try simp only [Act.put,List.setIfInBounds_toArray,List.set_cons_zero,List.set_cons_succ])
 go_cut [36] (fun v36 wc=>∃ (kq:Nat) (x36_5:Bool),v36=.bool x36_5∧Aside0 (laws_FnExactCallsOf.j0 kq a0 a1 t517 t518 t521 x36_5=some r)∧Aside0 (kq≤k)∧Aside0 (Kd.R (Kd.int .i64) 3 wc w.heap.size (fun k_=>some k_≠(v523:Value).ownBlock) v519 t517)∧Aside0 (Kd.R (Kd.int .i64) 3 wc w.heap.size (fun k_=>some k_≠(v519:Value).ownBlock) v523 t521)∧Aside0 (Below w.heap.size w wc))
 case first=>
  have H:=HC6.out
  clear HC6
  obtain ⟨t525,A9,H⟩:=bindA H
  by_cases c10:t525=true
  ·subst c10
   rw [if_pos rfl] at H
   have H':=Aside0.mk H
   clear H
   obtain ⟨Ao11,co11,eo11⟩:=Kd.R_slice HO524.out
   subst eo11
   obtain ⟨Ao12,co12,eo12⟩:=Kd.R_slice HO520.out
   subst eo12
   go_wp2_with (first|((with_reducible refine gate_callee (f:=21) rfl ?_);refine goesL_ (some 30) rfl rfl Try.func21 (by kernel_rfl) rfl #[.slice Ao11 t521.length co11,.slice Ao12 t517.length co12] rfl (by (try simp only [List.map_toArray,List.map_cons,List.map_nil]);first|done|rfl|(simp only [List.length_drop,List.length_take];rfl)) ?_;(with_reducible refine (laws_eqIntS.calls k _ _ t521 _ _ t517 true _ ?side1 ?side2 ?side3 ?side4 A9.out).mono ?_);(case side1=>repeat (first|exact (Kd.R_reads' HO524.out).2.2|(with_reducible refine Kd.C_alloc ?_ _)|(with_reducible refine Kd.C_drewN ?_ _)|(with_reducible refine Kd.C_drew ?_)));(case side2=>exact (Kd.R_reads' HO524.out).2.1);(case side3=>repeat (first|exact (Kd.R_reads' HO520.out).2.2|(with_reducible refine Kd.C_alloc ?_ _)|(with_reducible refine Kd.C_drewN ?_ _)|(with_reducible refine Kd.C_drew ?_)));(case side4=>exact (Kd.R_reads' HO520.out).2.1);rintro e w' ⟨rfl,⟨nd,rfl⟩⟩;refine ⟨_,rfl,?_⟩))
   go_meet
   case rel=>exact ⟨_,((t522 != t518)),(by first|rfl|(simp;done)|(simp [*];done)),H',⟨by first|omega|exact Nat.le_refl _⟩,⟨by (with_reducible repeat (first|apply Kd.R_alloc|apply Kd.R_drewN|apply Kd.R_drew));exact Kd.R_mono HO520.out (fun _ hk=>hk.2)⟩,⟨by (with_reducible repeat (first|apply Kd.R_alloc|apply Kd.R_drewN|apply Kd.R_drew));exact Kd.R_mono HO524.out (fun _ hk=>hk.2)⟩,⟨by repeat (with_reducible first|exact HB.out|apply Q4|apply Q5|apply Q6)⟩⟩
  replace c10:=Bool.eq_false_iff.mpr c10
  subst c10
  rw [if_neg (show ¬ (false=true) by decide)] at H
  have H':=Aside0.mk H
  clear H
  obtain ⟨Ao13,co13,eo13⟩:=Kd.R_slice HO524.out
  subst eo13
  obtain ⟨Ao14,co14,eo14⟩:=Kd.R_slice HO520.out
  subst eo14
  go_wp2_with (first|((with_reducible refine gate_callee (f:=21) rfl ?_);refine goesL_ (some 30) rfl rfl Try.func21 (by kernel_rfl) rfl #[.slice Ao13 t521.length co13,.slice Ao14 t517.length co14] rfl (by (try simp only [List.map_toArray,List.map_cons,List.map_nil]);first|done|rfl|(simp only [List.length_drop,List.length_take];rfl)) ?_;(with_reducible refine (laws_eqIntS.calls k _ _ t521 _ _ t517 false _ ?side1 ?side2 ?side3 ?side4 A9.out).mono ?_);(case side1=>repeat (first|exact (Kd.R_reads' HO524.out).2.2|(with_reducible refine Kd.C_alloc ?_ _)|(with_reducible refine Kd.C_drewN ?_ _)|(with_reducible refine Kd.C_drew ?_)));(case side2=>exact (Kd.R_reads' HO524.out).2.1);(case side3=>repeat (first|exact (Kd.R_reads' HO520.out).2.2|(with_reducible refine Kd.C_alloc ?_ _)|(with_reducible refine Kd.C_drewN ?_ _)|(with_reducible refine Kd.C_drew ?_)));(case side4=>exact (Kd.R_reads' HO520.out).2.1);rintro e w' ⟨rfl,⟨nd,rfl⟩⟩;refine ⟨_,rfl,?_⟩))
  go_meet
  case rel=>exact ⟨_,(true),(by first|rfl|(simp;done)|(simp [*];done)),H',⟨by first|omega|exact Nat.le_refl _⟩,⟨by (with_reducible repeat (first|apply Kd.R_alloc|apply Kd.R_drewN|apply Kd.R_drew));exact Kd.R_mono HO520.out (fun _ hk=>hk.2)⟩,⟨by (with_reducible repeat (first|apply Kd.R_alloc|apply Kd.R_drewN|apply Kd.R_drew));exact Kd.R_mono HO524.out (fun _ hk=>hk.2)⟩,⟨by repeat (with_reducible first|exact HB.out|apply Q4|apply Q5|apply Q6)⟩⟩
 clear HC6
 try clear c3b0
 try clear c3b1
 obtain ⟨kq,x36_5,rfl,HA,HJ5,HO_5,HO_7,HB⟩:=hcut
 cases kq with
 | zero=>exact absurd HA.out (by simp [laws_FnExactCallsOf.j0])
 | succ kj5 =>
  have H:=HA.out
  clear HA
  simp only [laws_FnExactCallsOf.j0] at H
  by_cases c15:x36_5=true
  ·subst c15
   rw [if_pos rfl] at H
   exact absurd ((Option.some.inj H).trans HT.out) (by decide)
  replace c15:=Bool.eq_false_iff.mpr c15
  subst c15
  rw [if_neg (show ¬ (false=true) by decide)] at H
  obtain ⟨⟨t526,t527⟩,A16,H⟩:=bindA H
  try dsimp only at H
  obtain ⟨t528,A17,H⟩:=bindA H
  by_cases c18:t528 < 0
  ·rw [if_pos c18] at H
   have c18b0:decide (t528 < 0)=true:=decide_eq_true c18
   clear c18
   exact absurd ((Option.some.inj H).trans HT.out) (by decide)
  rw [if_neg c18] at H
  have c18b0:decide (t528 < 0)=false:=decide_eq_false c18
  clear c18
  by_cases c19:t528=t526
  ·rw [if_pos c19] at H
   obtain ⟨c19b0,c19b1⟩:=eqP c19
   clear c19
   obtain ⟨⟨t529,t530⟩,A20,H⟩:=bindA H
   try dsimp only at H
   have HC21:=Aside0.mk H
   clear H
   obtain ⟨Ao22,co22,eo22⟩:=Kd.R_slice HO_7.out
   subst eo22
   go_upto_region 16 with (first|((with_reducible refine gate_callee (f:=24) rfl ?_);refine goesL_ (some 39) rfl rfl Try.func24 (by kernel_rfl) rfl #[.slice Ao22 t521.length co22,.int .i64 1] rfl (by (try simp only [List.map_toArray,List.map_cons,List.map_nil]);first|done|rfl|(simp only [List.length_drop,List.length_take];rfl)) ?_;(with_reducible refine (laws_markIntS.calls kj5 (fun k_=>some k_=(.slice Ao22 t521.length co22:Value).ownBlock) (.slice Ao22 t521.length co22) t521 1 t526 t527 w _ ?side1 ?side2 A16.out).mono ?_);(case side1=>repeat (first|(with_reducible first|exact HB.out|apply below_alloc|apply pw_below_drewN|apply below_drew1)|exact HB.out));(case side2=>exact Kd.R_tight rfl HO_7.out);rintro e w23 ⟨rfl,hy0,hb,hkp⟩;refine ⟨_,rfl,?_⟩;have n0_:=Aside0.mk (Kd.R_mono (ok':=fun k_=>some k_≠(.slice Ao22 t521.length co22:Value).ownBlock) (Kd.R_keptB (HO_5.out) hkp (fun k_ hk_ hs_=>(hk_) hs_)) (fun k_ hk_=>hk_.1));have n1_:=Aside0.mk (Kd.R_reok rfl hy0 (fun k_ e_=>HO_7.out.1 k_ e_));have n2_:=Aside0.mk (hb);clear HO_5;clear HO_7;clear HB;have HO_5:=n0_;have HO_7:=n1_;have HB:=n2_;clear n0_ n1_ n2_;(try clear hb);(try clear hkp);(try clear hy0))|((with_reducible refine gate_callee (f:=25) rfl ?_);refine goesL_ (some 42) rfl rfl Try.func25 (by kernel_rfl) rfl #[.slice Ao22 t527.length co22,.int .i64 1] rfl (by (try simp only [List.map_toArray,List.map_cons,List.map_nil]);first|done|(rw [show t527.length=t521.length from (Kd.R_reads' HO_7.out).1.symm]<;>rfl)|rfl|(simp only [List.length_drop,List.length_take];rfl)) ?_;(with_reducible refine (laws_heldIntS.calls kj5 _ _ t527 1 t528 _ ?side1 ?side2 A17.out).mono ?_);(case side1=>repeat (first|exact (Kd.R_reads' HO_7.out).2.2|(with_reducible refine Kd.C_alloc ?_ _)|(with_reducible refine Kd.C_drewN ?_ _)|(with_reducible refine Kd.C_drew ?_)));(case side2=>rw [show t527.length=t521.length from (Kd.R_reads' HO_7.out).1.symm];exact (Kd.R_reads' HO_7.out).2.1);rintro e w' ⟨rfl,⟨nd,rfl⟩⟩;refine ⟨_,rfl,?_⟩)|((with_reducible refine gate_callee (f:=23) rfl ?_);refine goesL_ (some 51) rfl rfl Try.func23 (by kernel_rfl) rfl #[.string a0,.int .i64 a1] rfl (by (try simp only [List.map_toArray,List.map_cons,List.map_nil]);first|done|rfl|(simp only [List.length_drop,List.length_take];rfl)) ?_;(with_reducible refine (impl_CallsOf.calls kj5 a0 a1 t529 t530 _ A20.out).mono ?_);rintro e w24 ⟨v531,rfl,ho0,hb⟩;refine ⟨_,rfl,?_⟩;have n0_:=Aside0.mk (Kd.R_elder' (by (with_reducible repeat (first|apply Kd.R_alloc|apply Kd.R_drewN|apply Kd.R_drew));exact HO_5.out) (Kd.R_base ho0) hb);have n1_:=Aside0.mk (Kd.R_elder' (by (with_reducible repeat (first|apply Kd.R_alloc|apply Kd.R_drewN|apply Kd.R_drew));exact HO_7.out) (Kd.R_base ho0) hb);have n2_:=Aside0.mk (Kd.R_lower (Kd.R_new' (Kd.R_new' ho0 (Kd.R_lt (by (with_reducible repeat (first|apply Kd.R_alloc|apply Kd.R_drewN|apply Kd.R_drew));exact HO_5.out))) (Kd.R_lt (by (with_reducible repeat (first|apply Kd.R_alloc|apply Kd.R_drewN|apply Kd.R_drew));exact HO_7.out))) (below_size (by repeat (with_reducible first|exact HB.out|apply Q4|apply Q5|apply Q6))));have n3_:=Aside0.mk (below_step (by repeat (with_reducible first|exact HB.out|apply Q4|apply Q5|apply Q6)) hb);clear HO_5;clear HO_7;clear HB;have HO_5:=n0_;have HO_7:=n1_;have HO532:=n2_;have HB:=n3_;clear n0_ n1_ n2_ n3_;(try clear hb);(try clear hb2);(try clear hk);(try clear hi);(try clear ho0)))
   (try simp only [Act.put,List.setIfInBounds_toArray,List.set_cons_zero,List.set_cons_succ])
   go_cut [62] (fun v62 wc=>∃ (kq:Nat) (x62_20:Bool),v62=.bool x62_20∧Aside0 (laws_FnExactCallsOf.j1 kq t527 t526 x62_20=some r)∧Aside0 (kq≤kj5)∧Aside0 (Kd.R (Kd.int .i64) 3 wc w.heap.size (fun _=>True) (.slice Ao22 t521.length co22) t527)∧Aside0 (Below w.heap.size w wc))
   case first=>
    have H:=HC21.out
    clear HC21
    obtain ⟨t533,A25,H⟩:=bindA H
    by_cases c26:t533=true
    ·subst c26
     rw [if_pos rfl] at H
     have H':=Aside0.mk H
     clear H
     obtain ⟨Ao27,co27,eo27⟩:=Kd.R_slice HO532.out
     subst eo27
     obtain ⟨Ao28,co28,eo28⟩:=Kd.R_slice HO_5.out
     subst eo28
     go_wp2_with (first|((with_reducible refine gate_callee (f:=21) rfl ?_);refine goesL_ (some 56) rfl rfl Try.func21 (by kernel_rfl) rfl #[.slice Ao27 t529.length co27,.slice Ao28 t517.length co28] rfl (by (try simp only [List.map_toArray,List.map_cons,List.map_nil]);first|done|rfl|(simp only [List.length_drop,List.length_take];rfl)) ?_;(with_reducible refine (laws_eqIntS.calls kj5 _ _ t529 _ _ t517 true _ ?side1 ?side2 ?side3 ?side4 A25.out).mono ?_);(case side1=>repeat (first|exact (Kd.R_reads' HO532.out).2.2|(with_reducible refine Kd.C_alloc ?_ _)|(with_reducible refine Kd.C_drewN ?_ _)|(with_reducible refine Kd.C_drew ?_)));(case side2=>exact (Kd.R_reads' HO532.out).2.1);(case side3=>repeat (first|exact (Kd.R_reads' HO_5.out).2.2|(with_reducible refine Kd.C_alloc ?_ _)|(with_reducible refine Kd.C_drewN ?_ _)|(with_reducible refine Kd.C_drew ?_)));(case side4=>exact (Kd.R_reads' HO_5.out).2.1);rintro e w' ⟨rfl,⟨nd,rfl⟩⟩;refine ⟨_,rfl,?_⟩))
     go_meet
     case rel=>exact ⟨_,((t530 != t518)),(by first|rfl|(simp;done)|(simp [*];done)),H',⟨by have:=HJ5.out;first|omega|exact Nat.le_refl _⟩,⟨by (with_reducible repeat (first|apply Kd.R_alloc|apply Kd.R_drewN|apply Kd.R_drew));exact Kd.R_mono HO_7.out (fun _ hk=>trivial)⟩,⟨by repeat (with_reducible first|exact HB.out|apply Q4|apply Q5|apply Q6)⟩⟩
    replace c26:=Bool.eq_false_iff.mpr c26
    subst c26
    rw [if_neg (show ¬ (false=true) by decide)] at H
    have H':=Aside0.mk H
    clear H
    obtain ⟨Ao29,co29,eo29⟩:=Kd.R_slice HO532.out
    subst eo29
    obtain ⟨Ao30,co30,eo30⟩:=Kd.R_slice HO_5.out
    subst eo30
    go_wp2_with (first|((with_reducible refine gate_callee (f:=21) rfl ?_);refine goesL_ (some 56) rfl rfl Try.func21 (by kernel_rfl) rfl #[.slice Ao29 t529.length co29,.slice Ao30 t517.length co30] rfl (by (try simp only [List.map_toArray,List.map_cons,List.map_nil]);first|done|rfl|(simp only [List.length_drop,List.length_take];rfl)) ?_;(with_reducible refine (laws_eqIntS.calls kj5 _ _ t529 _ _ t517 false _ ?side1 ?side2 ?side3 ?side4 A25.out).mono ?_);(case side1=>repeat (first|exact (Kd.R_reads' HO532.out).2.2|(with_reducible refine Kd.C_alloc ?_ _)|(with_reducible refine Kd.C_drewN ?_ _)|(with_reducible refine Kd.C_drew ?_)));(case side2=>exact (Kd.R_reads' HO532.out).2.1);(case side3=>repeat (first|exact (Kd.R_reads' HO_5.out).2.2|(with_reducible refine Kd.C_alloc ?_ _)|(with_reducible refine Kd.C_drewN ?_ _)|(with_reducible refine Kd.C_drew ?_)));(case side4=>exact (Kd.R_reads' HO_5.out).2.1);rintro e w' ⟨rfl,⟨nd,rfl⟩⟩;refine ⟨_,rfl,?_⟩))
    go_meet
    case rel=>exact ⟨_,(true),(by first|rfl|(simp;done)|(simp [*];done)),H',⟨by have:=HJ5.out;first|omega|exact Nat.le_refl _⟩,⟨by (with_reducible repeat (first|apply Kd.R_alloc|apply Kd.R_drewN|apply Kd.R_drew));exact Kd.R_mono HO_7.out (fun _ hk=>trivial)⟩,⟨by repeat (with_reducible first|exact HB.out|apply Q4|apply Q5|apply Q6)⟩⟩
   clear HC21
   try clear c15
   try clear c18b0
   try clear c19b0 c19b1
   obtain ⟨kq,x62_20,rfl,HA,HJ20,HO_7,HB⟩:=hcut
   have hl7_20:=(Kd.R_reads' HO_7.out).1
   rw [hl7_20] at HO_7
   (try simp only [hl7_20])
   cases kq with
   | zero=>exact absurd HA.out (by simp [laws_FnExactCallsOf.j1])
   | succ kj20 =>
    have H:=HA.out
    clear HA
    simp only [laws_FnExactCallsOf.j1] at H
    by_cases c31:x62_20=true
    ·subst c31
     rw [if_pos rfl] at H
     exact absurd ((Option.some.inj H).trans HT.out) (by decide)
    replace c31:=Bool.eq_false_iff.mpr c31
    subst c31
    rw [if_neg (show ¬ (false=true) by decide)] at H
    obtain ⟨t534,A32,H⟩:=bindA H
    by_cases c33:t534 < 0
    ·rw [if_pos c33] at H
     have c33b0:decide (t534 < 0)=true:=decide_eq_true c33
     clear c33
     exact absurd ((Option.some.inj H).trans HT.out) (by decide)
    rw [if_neg c33] at H
    have c33b0:decide (t534 < 0)=false:=decide_eq_false c33
    clear c33
    by_cases c34:t534=t526
    ·rw [if_pos c34] at H
     obtain ⟨c34b0,c34b1⟩:=eqP c34
     clear c34
     obtain rfl:=Option.some.inj H
     go_wp2_with (first|((with_reducible refine gate_callee (f:=25) rfl ?_);refine goesL_ (some 65) rfl rfl Try.func25 (by kernel_rfl) rfl #[.slice Ao22 t527.length co22,.int .i64 1] rfl (by (try simp only [List.map_toArray,List.map_cons,List.map_nil]);first|done|rfl|(simp only [List.length_drop,List.length_take];rfl)) ?_;(with_reducible refine (laws_heldIntS.calls kj20 _ _ t527 1 t534 _ ?side1 ?side2 A32.out).mono ?_);(case side1=>repeat (first|exact (Kd.R_reads' HO_7.out).2.2|(with_reducible refine Kd.C_alloc ?_ _)|(with_reducible refine Kd.C_drewN ?_ _)|(with_reducible refine Kd.C_drew ?_)));(case side2=>exact (Kd.R_reads' HO_7.out).2.1);rintro e w' ⟨rfl,⟨nd,rfl⟩⟩;refine ⟨_,rfl,?_⟩))
     go_ret
     exact ⟨by first|rfl|(simp [errW_none,errW_some]<;>rfl)|(simp [*,errW_none,errW_some]<;>rfl),by repeat (with_reducible first|exact HB.out|apply Q4|apply Q5|apply Q6)⟩
    rw [if_neg c34] at H
    obtain ⟨c34b0,c34b1⟩:=eqN c34
    exact absurd ((Option.some.inj H).trans HT.out) (by decide)
  rw [if_neg c19] at H
  obtain ⟨c19b0,c19b1⟩:=eqN c19
  exact absurd ((Option.some.inj H).trans HT.out) (by decide)
def laws_FnExactCallsOf.Pure:Prop:=∀ (a0:ByteArray) (a1:Int),a0.size≤140737488351232→(Lit.int .i64 a1).wf=true→∃ k,laws_FnExactCallsOf.f k a0 a1=some true
theorem laws_FnExactCallsOf.walk (P:laws_FnExactCallsOf.Pure) (a0:ByteArray) (a1:Int) (w:World) (w0:a0.size≤140737488351232) (w1:(Lit.int .i64 a1).wf=true) :
    Calls Try.prog 6 #[.string a0,.int .i64 a1] w fun e w'=>e=.returned (.bool true)∧Below w.heap.size w w':=by
 obtain ⟨k,h⟩:=P a0 a1 w0 w1
 refine (laws_FnExactCallsOf.calls k a0 a1 true rfl w h).mono ?_
 rintro e w' ⟨rfl,hd⟩
 exact ⟨rfl,hd⟩
end Go.Proofs.Ythepmdlpjdlajaa.PFnExactCallsOf
