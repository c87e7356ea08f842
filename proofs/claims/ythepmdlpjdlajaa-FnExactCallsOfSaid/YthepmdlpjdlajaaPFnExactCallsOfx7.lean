/- The walk of FnExactCallsOf: each Go function that the law reaches as a plain Lean function, with the proof that a call does what it says; no conditions. Written by a program for this claim. -/
import Derived.Test.YthepmdlpjdlajaaPFnExactCallsOfx0
import Derived.Test.YthepmdlpjdlajaaPFnExactCallsOfx6
namespace Go.Proofs.Ythepmdlpjdlajaa.PFnExactCallsOf
open Go.RowKit Go.Proofs.YthepmdlpjdlajaaW.PrintWords Go.Proofs.YthepmdlpjdlajaaW.PrintLast Go.Proofs.YthepmdlpjdlajaaW.PrintMore
attribute [local go_sem] max2_int min2_int max_two min_two max_three min_three max_four min_four   -- for this text's walks alone
set_option linter.unusedVariables false
set_option linter.unusedSimpArgs false
def impl_pieces.f (a0:Int):Option ((List (S125))):=if a0=1 then (some (([(⟨12,20,12⟩:S125)]:List (S125)))) else (if a0=2 then (some (([(⟨12,8,12⟩:S125),(⟨11,1,20⟩:S125),(⟨1,10,21⟩:S125),(⟨20,1,31⟩:S125)]:List (S125)))) else (if a0=3 then (some (([(⟨0,12,20⟩:S125)]:List (S125)))) else (if a0=4 then (some (([(⟨11,1,7⟩:S125),(⟨1,4,8⟩:S125),(⟨5,6,25⟩:S125),(⟨12,1,31⟩:S125)]:List (S125)))) else (if a0=5 then (some (([(⟨0,5,7⟩:S125),(⟨5,7,25⟩:S125)]:List (S125)))) else (if a0=6 then (some (([(⟨0,6,20⟩:S125)]:List (S125)))) else (if a0=7 then (some (([(⟨0,5,20⟩:S125)]:List (S125)))) else (some ([]:List (S125)))))))))
set_option maxHeartbeats 8000000 in
set_option maxRecDepth 100000 in
theorem impl_pieces.calls (a0:Int) (r:List (S125)) (w:World) (h:impl_pieces.f a0=some r) :
    Calls Try.prog 108 #[.int .i64 a0] w fun e w'=>∃ v0_:Value,e=.returned (v0_)∧Kd.R k125 125 w' w.heap.size (fun _=>True) v0_ r∧Below w.heap.size w w':=by
 have hu125:=Try.underlying125
 have HB:=Aside0.mk (Below.refl w.heap.size w)
 have H:(if a0=1 then (some (([(⟨12,20,12⟩:S125)]:List (S125)))) else (if a0=2 then (some (([(⟨12,8,12⟩:S125),(⟨11,1,20⟩:S125),(⟨1,10,21⟩:S125),(⟨20,1,31⟩:S125)]:List (S125)))) else (if a0=3 then (some (([(⟨0,12,20⟩:S125)]:List (S125)))) else (if a0=4 then (some (([(⟨11,1,7⟩:S125),(⟨1,4,8⟩:S125),(⟨5,6,25⟩:S125),(⟨12,1,31⟩:S125)]:List (S125)))) else (if a0=5 then (some (([(⟨0,5,7⟩:S125),(⟨5,7,25⟩:S125)]:List (S125)))) else (if a0=6 then (some (([(⟨0,6,20⟩:S125)]:List (S125)))) else (if a0=7 then (some (([(⟨0,5,20⟩:S125)]:List (S125)))) else (some ([]:List (S125))))))))))=some r:=h
 clear h
 by_cases c2:a0=1
 ·rw [if_pos c2] at H
  obtain ⟨c2b0,c2b1⟩:=eqP c2
  clear c2
  obtain ⟨y293,hy293⟩ : ∃ y_:List (S125),y_=(([(⟨12,20,12⟩:S125)]:List (S125))):=⟨_,rfl⟩
  replace H:(some y293)=some r:=by first|(rw [hy293];with_reducible exact H)|(have H2_:=(Option.bind_some _ _).symm.trans H;rw [hy293];with_reducible exact H2_)|(have H2_:=(Option.bind_some _ _).symm.trans H;with_reducible exact H2_)|with_reducible exact H|(rw [hy293];exact H)|exact H
  have Ny293:=Aside0.mk hy293
  clear hy293
  obtain rfl:=Option.some.inj H
  go_enter Try.func108,Try.ntmps108
  go_wp2_with (first|((with_reducible refine gate_dst (N:=7) rfl ?_);refine Kd.R_lit k125 _ 125 ?hg (N:=7) ?hd (xs:=([(⟨12,20,12⟩:S125)]:List (S125))) (inner:=[.int .i64 12,.int .i64 20,.int .i64 12]) (ok:=fun _=>True) (okp:=fun _=>True) ?hr ?hp (fun _ hk=>hk) trivial (Below.refl _ _) (Nat.le_refl _) (by simp) ?_;(case hd=>rfl);(case hg=>rfl);(case hr=>first|(go_simp;done)|(go_simp;rfl));(case hp=>exact (Reps.c3 (show Kd.M k125 _ _ _ (⟨12,20,12⟩:S125) [.int .i64 12,.int .i64 20,.int .i64 12] from (k125_mkM _ _ _ (⟨12,20,12⟩:S125) )) (Reps.none _ _)));intro v294 w3 ho4 hb hg_ hnew_;clear hg_ hnew_;(first|rw [← Ny293.out] at ho4|(simp only [Int.reduceToNat] at ho4;rw [← Ny293.out] at ho4));have n0_:=Aside0.mk (Kd.R_lower ho4 (below_size (by repeat (with_reducible first|exact HB.out|apply Q4|apply Q5|apply Q6))));have n1_:=Aside0.mk (below_step (by repeat (with_reducible first|exact HB.out|apply Q4|apply Q5|apply Q6)) hb);clear HB;have HO295:=n0_;have HB:=n1_;clear n0_ n1_;clear hb ho4))
  go_ret
  exact ⟨_,by first|rfl|(simp [errW_none,errW_some]<;>rfl)|(simp [*,errW_none,errW_some]<;>rfl),by (with_reducible repeat (first|apply Kd.R_alloc|apply Kd.R_drewN|apply Kd.R_drew));exact HO295.out,by repeat (with_reducible first|exact HB.out|apply Q4|apply Q5|apply Q6)⟩
 rw [if_neg c2] at H
 obtain ⟨c2b0,c2b1⟩:=eqN c2
 by_cases c5:a0=2
 ·rw [if_pos c5] at H
  obtain ⟨c5b0,c5b1⟩:=eqP c5
  clear c5
  obtain ⟨y296,hy296⟩ : ∃ y_:List (S125),y_=(([(⟨12,8,12⟩:S125),(⟨11,1,20⟩:S125),(⟨1,10,21⟩:S125),(⟨20,1,31⟩:S125)]:List (S125))):=⟨_,rfl⟩
  replace H:(some y296)=some r:=by first|(rw [hy296];with_reducible exact H)|(have H2_:=(Option.bind_some _ _).symm.trans H;rw [hy296];with_reducible exact H2_)|(have H2_:=(Option.bind_some _ _).symm.trans H;with_reducible exact H2_)|with_reducible exact H|(rw [hy296];exact H)|exact H
  have Ny296:=Aside0.mk hy296
  clear hy296
  obtain rfl:=Option.some.inj H
  go_enter Try.func108,Try.ntmps108
  go_wp2_with (first|((with_reducible refine gate_dst (N:=14) rfl ?_);refine Kd.R_lit k125 _ 125 ?hg (N:=14) ?hd (xs:=([(⟨12,8,12⟩:S125),(⟨11,1,20⟩:S125),(⟨1,10,21⟩:S125),(⟨20,1,31⟩:S125)]:List (S125))) (inner:=[.int .i64 12,.int .i64 8,.int .i64 12,.int .i64 11,.int .i64 1,.int .i64 20,.int .i64 1,.int .i64 10,.int .i64 21,.int .i64 20,.int .i64 1,.int .i64 31]) (ok:=fun _=>True) (okp:=fun _=>True) ?hr ?hp (fun _ hk=>hk) trivial (Below.refl _ _) (Nat.le_refl _) (by simp) ?_;(case hd=>rfl);(case hg=>rfl);(case hr=>first|(go_simp;done)|(go_simp;rfl));(case hp=>exact (Reps.c3 (show Kd.M k125 _ _ _ (⟨12,8,12⟩:S125) [.int .i64 12,.int .i64 8,.int .i64 12] from (k125_mkM _ _ _ (⟨12,8,12⟩:S125) )) (Reps.c3 (show Kd.M k125 _ _ _ (⟨11,1,20⟩:S125) [.int .i64 11,.int .i64 1,.int .i64 20] from (k125_mkM _ _ _ (⟨11,1,20⟩:S125) )) (Reps.c3 (show Kd.M k125 _ _ _ (⟨1,10,21⟩:S125) [.int .i64 1,.int .i64 10,.int .i64 21] from (k125_mkM _ _ _ (⟨1,10,21⟩:S125) )) (Reps.c3 (show Kd.M k125 _ _ _ (⟨20,1,31⟩:S125) [.int .i64 20,.int .i64 1,.int .i64 31] from (k125_mkM _ _ _ (⟨20,1,31⟩:S125) )) (Reps.none _ _))))));intro v297 w6 ho7 hb hg_ hnew_;clear hg_ hnew_;(first|rw [← Ny296.out] at ho7|(simp only [Int.reduceToNat] at ho7;rw [← Ny296.out] at ho7));have n0_:=Aside0.mk (Kd.R_lower ho7 (below_size (by repeat (with_reducible first|exact HB.out|apply Q4|apply Q5|apply Q6))));have n1_:=Aside0.mk (below_step (by repeat (with_reducible first|exact HB.out|apply Q4|apply Q5|apply Q6)) hb);clear HB;have HO298:=n0_;have HB:=n1_;clear n0_ n1_;clear hb ho7))
  go_ret
  exact ⟨_,by first|rfl|(simp [errW_none,errW_some]<;>rfl)|(simp [*,errW_none,errW_some]<;>rfl),by (with_reducible repeat (first|apply Kd.R_alloc|apply Kd.R_drewN|apply Kd.R_drew));exact HO298.out,by repeat (with_reducible first|exact HB.out|apply Q4|apply Q5|apply Q6)⟩
 rw [if_neg c5] at H
 obtain ⟨c5b0,c5b1⟩:=eqN c5
 by_cases c8:a0=3
 ·rw [if_pos c8] at H
  obtain ⟨c8b0,c8b1⟩:=eqP c8
  clear c8
  obtain ⟨y299,hy299⟩ : ∃ y_:List (S125),y_=(([(⟨0,12,20⟩:S125)]:List (S125))):=⟨_,rfl⟩
  replace H:(some y299)=some r:=by first|(rw [hy299];with_reducible exact H)|(have H2_:=(Option.bind_some _ _).symm.trans H;rw [hy299];with_reducible exact H2_)|(have H2_:=(Option.bind_some _ _).symm.trans H;with_reducible exact H2_)|with_reducible exact H|(rw [hy299];exact H)|exact H
  have Ny299:=Aside0.mk hy299
  clear hy299
  obtain rfl:=Option.some.inj H
  go_enter Try.func108,Try.ntmps108
  go_wp2_with (first|((with_reducible refine gate_dst (N:=18) rfl ?_);refine Kd.R_lit k125 _ 125 ?hg (N:=18) ?hd (xs:=([(⟨0,12,20⟩:S125)]:List (S125))) (inner:=[.int .i64 0,.int .i64 12,.int .i64 20]) (ok:=fun _=>True) (okp:=fun _=>True) ?hr ?hp (fun _ hk=>hk) trivial (Below.refl _ _) (Nat.le_refl _) (by simp) ?_;(case hd=>rfl);(case hg=>rfl);(case hr=>first|(go_simp;done)|(go_simp;rfl));(case hp=>exact (Reps.c3 (show Kd.M k125 _ _ _ (⟨0,12,20⟩:S125) [.int .i64 0,.int .i64 12,.int .i64 20] from (k125_mkM _ _ _ (⟨0,12,20⟩:S125) )) (Reps.none _ _)));intro v300 w9 ho10 hb hg_ hnew_;clear hg_ hnew_;(first|rw [← Ny299.out] at ho10|(simp only [Int.reduceToNat] at ho10;rw [← Ny299.out] at ho10));have n0_:=Aside0.mk (Kd.R_lower ho10 (below_size (by repeat (with_reducible first|exact HB.out|apply Q4|apply Q5|apply Q6))));have n1_:=Aside0.mk (below_step (by repeat (with_reducible first|exact HB.out|apply Q4|apply Q5|apply Q6)) hb);clear HB;have HO301:=n0_;have HB:=n1_;clear n0_ n1_;clear hb ho10))
  go_ret
  exact ⟨_,by first|rfl|(simp [errW_none,errW_some]<;>rfl)|(simp [*,errW_none,errW_some]<;>rfl),by (with_reducible repeat (first|apply Kd.R_alloc|apply Kd.R_drewN|apply Kd.R_drew));exact HO301.out,by repeat (with_reducible first|exact HB.out|apply Q4|apply Q5|apply Q6)⟩
 rw [if_neg c8] at H
 obtain ⟨c8b0,c8b1⟩:=eqN c8
 by_cases c11:a0=4
 ·rw [if_pos c11] at H
  obtain ⟨c11b0,c11b1⟩:=eqP c11
  clear c11
  obtain ⟨y302,hy302⟩ : ∃ y_:List (S125),y_=(([(⟨11,1,7⟩:S125),(⟨1,4,8⟩:S125),(⟨5,6,25⟩:S125),(⟨12,1,31⟩:S125)]:List (S125))):=⟨_,rfl⟩
  replace H:(some y302)=some r:=by first|(rw [hy302];with_reducible exact H)|(have H2_:=(Option.bind_some _ _).symm.trans H;rw [hy302];with_reducible exact H2_)|(have H2_:=(Option.bind_some _ _).symm.trans H;with_reducible exact H2_)|with_reducible exact H|(rw [hy302];exact H)|exact H
  have Ny302:=Aside0.mk hy302
  clear hy302
  obtain rfl:=Option.some.inj H
  go_enter Try.func108,Try.ntmps108
  go_wp2_with (first|((with_reducible refine gate_dst (N:=25) rfl ?_);refine Kd.R_lit k125 _ 125 ?hg (N:=25) ?hd (xs:=([(⟨11,1,7⟩:S125),(⟨1,4,8⟩:S125),(⟨5,6,25⟩:S125),(⟨12,1,31⟩:S125)]:List (S125))) (inner:=[.int .i64 11,.int .i64 1,.int .i64 7,.int .i64 1,.int .i64 4,.int .i64 8,.int .i64 5,.int .i64 6,.int .i64 25,.int .i64 12,.int .i64 1,.int .i64 31]) (ok:=fun _=>True) (okp:=fun _=>True) ?hr ?hp (fun _ hk=>hk) trivial (Below.refl _ _) (Nat.le_refl _) (by simp) ?_;(case hd=>rfl);(case hg=>rfl);(case hr=>first|(go_simp;done)|(go_simp;rfl));(case hp=>exact (Reps.c3 (show Kd.M k125 _ _ _ (⟨11,1,7⟩:S125) [.int .i64 11,.int .i64 1,.int .i64 7] from (k125_mkM _ _ _ (⟨11,1,7⟩:S125) )) (Reps.c3 (show Kd.M k125 _ _ _ (⟨1,4,8⟩:S125) [.int .i64 1,.int .i64 4,.int .i64 8] from (k125_mkM _ _ _ (⟨1,4,8⟩:S125) )) (Reps.c3 (show Kd.M k125 _ _ _ (⟨5,6,25⟩:S125) [.int .i64 5,.int .i64 6,.int .i64 25] from (k125_mkM _ _ _ (⟨5,6,25⟩:S125) )) (Reps.c3 (show Kd.M k125 _ _ _ (⟨12,1,31⟩:S125) [.int .i64 12,.int .i64 1,.int .i64 31] from (k125_mkM _ _ _ (⟨12,1,31⟩:S125) )) (Reps.none _ _))))));intro v303 w12 ho13 hb hg_ hnew_;clear hg_ hnew_;(first|rw [← Ny302.out] at ho13|(simp only [Int.reduceToNat] at ho13;rw [← Ny302.out] at ho13));have n0_:=Aside0.mk (Kd.R_lower ho13 (below_size (by repeat (with_reducible first|exact HB.out|apply Q4|apply Q5|apply Q6))));have n1_:=Aside0.mk (below_step (by repeat (with_reducible first|exact HB.out|apply Q4|apply Q5|apply Q6)) hb);clear HB;have HO304:=n0_;have HB:=n1_;clear n0_ n1_;clear hb ho13))
  go_ret
  exact ⟨_,by first|rfl|(simp [errW_none,errW_some]<;>rfl)|(simp [*,errW_none,errW_some]<;>rfl),by (with_reducible repeat (first|apply Kd.R_alloc|apply Kd.R_drewN|apply Kd.R_drew));exact HO304.out,by repeat (with_reducible first|exact HB.out|apply Q4|apply Q5|apply Q6)⟩
 rw [if_neg c11] at H
 obtain ⟨c11b0,c11b1⟩:=eqN c11
 by_cases c14:a0=5
 ·rw [if_pos c14] at H
  obtain ⟨c14b0,c14b1⟩:=eqP c14
  clear c14
  obtain ⟨y305,hy305⟩ : ∃ y_:List (S125),y_=(([(⟨0,5,7⟩:S125),(⟨5,7,25⟩:S125)]:List (S125))):=⟨_,rfl⟩
  replace H:(some y305)=some r:=by first|(rw [hy305];with_reducible exact H)|(have H2_:=(Option.bind_some _ _).symm.trans H;rw [hy305];with_reducible exact H2_)|(have H2_:=(Option.bind_some _ _).symm.trans H;with_reducible exact H2_)|with_reducible exact H|(rw [hy305];exact H)|exact H
  have Ny305:=Aside0.mk hy305
  clear hy305
  obtain rfl:=Option.some.inj H
  go_enter Try.func108,Try.ntmps108
  go_wp2_with (first|((with_reducible refine gate_dst (N:=30) rfl ?_);refine Kd.R_lit k125 _ 125 ?hg (N:=30) ?hd (xs:=([(⟨0,5,7⟩:S125),(⟨5,7,25⟩:S125)]:List (S125))) (inner:=[.int .i64 0,.int .i64 5,.int .i64 7,.int .i64 5,.int .i64 7,.int .i64 25]) (ok:=fun _=>True) (okp:=fun _=>True) ?hr ?hp (fun _ hk=>hk) trivial (Below.refl _ _) (Nat.le_refl _) (by simp) ?_;(case hd=>rfl);(case hg=>rfl);(case hr=>first|(go_simp;done)|(go_simp;rfl));(case hp=>exact (Reps.c3 (show Kd.M k125 _ _ _ (⟨0,5,7⟩:S125) [.int .i64 0,.int .i64 5,.int .i64 7] from (k125_mkM _ _ _ (⟨0,5,7⟩:S125) )) (Reps.c3 (show Kd.M k125 _ _ _ (⟨5,7,25⟩:S125) [.int .i64 5,.int .i64 7,.int .i64 25] from (k125_mkM _ _ _ (⟨5,7,25⟩:S125) )) (Reps.none _ _))));intro v306 w15 ho16 hb hg_ hnew_;clear hg_ hnew_;(first|rw [← Ny305.out] at ho16|(simp only [Int.reduceToNat] at ho16;rw [← Ny305.out] at ho16));have n0_:=Aside0.mk (Kd.R_lower ho16 (below_size (by repeat (with_reducible first|exact HB.out|apply Q4|apply Q5|apply Q6))));have n1_:=Aside0.mk (below_step (by repeat (with_reducible first|exact HB.out|apply Q4|apply Q5|apply Q6)) hb);clear HB;have HO307:=n0_;have HB:=n1_;clear n0_ n1_;clear hb ho16))
  go_ret
  exact ⟨_,by first|rfl|(simp [errW_none,errW_some]<;>rfl)|(simp [*,errW_none,errW_some]<;>rfl),by (with_reducible repeat (first|apply Kd.R_alloc|apply Kd.R_drewN|apply Kd.R_drew));exact HO307.out,by repeat (with_reducible first|exact HB.out|apply Q4|apply Q5|apply Q6)⟩
 rw [if_neg c14] at H
 obtain ⟨c14b0,c14b1⟩:=eqN c14
 by_cases c17:a0=6
 ·rw [if_pos c17] at H
  obtain ⟨c17b0,c17b1⟩:=eqP c17
  clear c17
  obtain ⟨y308,hy308⟩ : ∃ y_:List (S125),y_=(([(⟨0,6,20⟩:S125)]:List (S125))):=⟨_,rfl⟩
  replace H:(some y308)=some r:=by first|(rw [hy308];with_reducible exact H)|(have H2_:=(Option.bind_some _ _).symm.trans H;rw [hy308];with_reducible exact H2_)|(have H2_:=(Option.bind_some _ _).symm.trans H;with_reducible exact H2_)|with_reducible exact H|(rw [hy308];exact H)|exact H
  have Ny308:=Aside0.mk hy308
  clear hy308
  obtain rfl:=Option.some.inj H
  go_enter Try.func108,Try.ntmps108
  go_wp2_with (first|((with_reducible refine gate_dst (N:=34) rfl ?_);refine Kd.R_lit k125 _ 125 ?hg (N:=34) ?hd (xs:=([(⟨0,6,20⟩:S125)]:List (S125))) (inner:=[.int .i64 0,.int .i64 6,.int .i64 20]) (ok:=fun _=>True) (okp:=fun _=>True) ?hr ?hp (fun _ hk=>hk) trivial (Below.refl _ _) (Nat.le_refl _) (by simp) ?_;(case hd=>rfl);(case hg=>rfl);(case hr=>first|(go_simp;done)|(go_simp;rfl));(case hp=>exact (Reps.c3 (show Kd.M k125 _ _ _ (⟨0,6,20⟩:S125) [.int .i64 0,.int .i64 6,.int .i64 20] from (k125_mkM _ _ _ (⟨0,6,20⟩:S125) )) (Reps.none _ _)));intro v309 w18 ho19 hb hg_ hnew_;clear hg_ hnew_;(first|rw [← Ny308.out] at ho19|(simp only [Int.reduceToNat] at ho19;rw [← Ny308.out] at ho19));have n0_:=Aside0.mk (Kd.R_lower ho19 (below_size (by repeat (with_reducible first|exact HB.out|apply Q4|apply Q5|apply Q6))));have n1_:=Aside0.mk (below_step (by repeat (with_reducible first|exact HB.out|apply Q4|apply Q5|apply Q6)) hb);clear HB;have HO310:=n0_;have HB:=n1_;clear n0_ n1_;clear hb ho19))
  go_ret
  exact ⟨_,by first|rfl|(simp [errW_none,errW_some]<;>rfl)|(simp [*,errW_none,errW_some]<;>rfl),by (with_reducible repeat (first|apply Kd.R_alloc|apply Kd.R_drewN|apply Kd.R_drew));exact HO310.out,by repeat (with_reducible first|exact HB.out|apply Q4|apply Q5|apply Q6)⟩
 rw [if_neg c17] at H
 obtain ⟨c17b0,c17b1⟩:=eqN c17
 by_cases c20:a0=7
 ·rw [if_pos c20] at H
  obtain ⟨c20b0,c20b1⟩:=eqP c20
  clear c20
  obtain ⟨y311,hy311⟩ : ∃ y_:List (S125),y_=(([(⟨0,5,20⟩:S125)]:List (S125))):=⟨_,rfl⟩
  replace H:(some y311)=some r:=by first|(rw [hy311];with_reducible exact H)|(have H2_:=(Option.bind_some _ _).symm.trans H;rw [hy311];with_reducible exact H2_)|(have H2_:=(Option.bind_some _ _).symm.trans H;with_reducible exact H2_)|with_reducible exact H|(rw [hy311];exact H)|exact H
  have Ny311:=Aside0.mk hy311
  clear hy311
  obtain rfl:=Option.some.inj H
  go_enter Try.func108,Try.ntmps108
  go_wp2_with (first|((with_reducible refine gate_dst (N:=38) rfl ?_);refine Kd.R_lit k125 _ 125 ?hg (N:=38) ?hd (xs:=([(⟨0,5,20⟩:S125)]:List (S125))) (inner:=[.int .i64 0,.int .i64 5,.int .i64 20]) (ok:=fun _=>True) (okp:=fun _=>True) ?hr ?hp (fun _ hk=>hk) trivial (Below.refl _ _) (Nat.le_refl _) (by simp) ?_;(case hd=>rfl);(case hg=>rfl);(case hr=>first|(go_simp;done)|(go_simp;rfl));(case hp=>exact (Reps.c3 (show Kd.M k125 _ _ _ (⟨0,5,20⟩:S125) [.int .i64 0,.int .i64 5,.int .i64 20] from (k125_mkM _ _ _ (⟨0,5,20⟩:S125) )) (Reps.none _ _)));intro v312 w21 ho22 hb hg_ hnew_;clear hg_ hnew_;(first|rw [← Ny311.out] at ho22|(simp only [Int.reduceToNat] at ho22;rw [← Ny311.out] at ho22));have n0_:=Aside0.mk (Kd.R_lower ho22 (below_size (by repeat (with_reducible first|exact HB.out|apply Q4|apply Q5|apply Q6))));have n1_:=Aside0.mk (below_step (by repeat (with_reducible first|exact HB.out|apply Q4|apply Q5|apply Q6)) hb);clear HB;have HO313:=n0_;have HB:=n1_;clear n0_ n1_;clear hb ho22))
  go_ret
  exact ⟨_,by first|rfl|(simp [errW_none,errW_some]<;>rfl)|(simp [*,errW_none,errW_some]<;>rfl),by (with_reducible repeat (first|apply Kd.R_alloc|apply Kd.R_drewN|apply Kd.R_drew));exact HO313.out,by repeat (with_reducible first|exact HB.out|apply Q4|apply Q5|apply Q6)⟩
 rw [if_neg c20] at H
 obtain ⟨c20b0,c20b1⟩:=eqN c20
 obtain rfl:=Option.some.inj H
 go_enter Try.func108,Try.ntmps108
 go_wp2
 go_ret
 exact ⟨_,by first|rfl|(simp [errW_none,errW_some]<;>rfl)|(simp [*,errW_none,errW_some]<;>rfl),by first|exact Kd.R_nil _ _ _ _ _|exact Kd.N_nil _ _ _ _ _|exact Kd.V_nil _ _ _ _ _|exact Kd.Q_nil _ _ _ _ _|exact Kd.S_nil _ _ _ _ _,by repeat (with_reducible first|exact HB.out|apply Q4|apply Q5|apply Q6)⟩
def impl_immBits.j0:Nat→Int→Bool→Option (Int)
  | 0,_,_=>none
  | k+1,x3,x8=>if x8=true then (some 12) else (if x3=4 then (some 13) else (some 0))
def impl_immBits.f (k:Nat) (a0:Int):Option (Int):=if a0=1 then (some 32) else (if a0=2 then (some 21) else (if a0=3 then (impl_immBits.j0 k a0 (a0==3)) else (impl_immBits.j0 k a0 (a0==5))))
theorem impl_immBits.mono_l : ∀ k,(∀ y0 y1,LeO (impl_immBits.j0 k y0 y1) (impl_immBits.j0 (k+1) y0 y1))
  | 0=>fun _ _ r h=>by simp [impl_immBits.j0] at h
  | k+1=>by
    have ih0:=impl_immBits.mono_l k
    · intro y0 y1
      unfold impl_immBits.j0
      repeat' (with_reducible first|apply ih0|apply LeO.refl|apply LeO.none|apply LeO.ite|refine LeO.bind ?_ (fun _=>?_))
theorem impl_immBits.mono : ∀ a0 k,LeO (impl_immBits.f k a0) (impl_immBits.f (k+1) a0):=by
 intro a0 k
 have ih0:=impl_immBits.mono_l k
 unfold impl_immBits.f
 repeat' (with_reducible first|apply ih0|apply LeO.refl|apply LeO.none|apply LeO.ite|refine LeO.bind ?_ (fun _=>?_))
set_option maxHeartbeats 8000000 in
set_option maxRecDepth 100000 in
theorem impl_immBits.calls (k:Nat) (a0:Int) (r:Int) (w:World) (h:impl_immBits.f k a0=some r) :
    Calls Try.prog 109 #[.int .i64 a0] w fun e w'=>e=.returned (.int .i64 r)∧Drawn0 w w':=by
 have H:(if a0=1 then (some 32) else (if a0=2 then (some 21) else (if a0=3 then (impl_immBits.j0 k a0 (a0==3)) else (impl_immBits.j0 k a0 (a0==5)))))=some r:=h
 clear h
 by_cases c2:a0=1
 ·rw [if_pos c2] at H
  obtain ⟨c2b0,c2b1⟩:=eqP c2
  clear c2
  obtain rfl:=Option.some.inj H
  go_enter Try.func109,Try.ntmps109
  go_wp2
  go_ret
  exact ⟨by first|rfl|(simp;done)|(simp [*];done),by repeat (first|exact Drawn0.refl _|apply Drawn0.step)⟩
 rw [if_neg c2] at H
 obtain ⟨c2b0,c2b1⟩:=eqN c2
 by_cases c3:a0=2
 ·rw [if_pos c3] at H
  obtain ⟨c3b0,c3b1⟩:=eqP c3
  clear c3
  obtain rfl:=Option.some.inj H
  go_enter Try.func109,Try.ntmps109
  go_wp2
  go_ret
  exact ⟨by first|rfl|(simp;done)|(simp [*];done),by repeat (first|exact Drawn0.refl _|apply Drawn0.step)⟩
 rw [if_neg c3] at H
 obtain ⟨c3b0,c3b1⟩:=eqN c3
 have HC4:=Aside0.mk H
 clear H
 go_enter Try.func109,Try.ntmps109
 go_upto_if 8 with (fail)
 go_cut [8] (fun v8 wc=>∃ (kq:Nat) (x8_3:Bool),v8=.bool x8_3∧Aside0 (impl_immBits.j0 kq a0 x8_3=some r)∧Aside0 (kq≤k)∧Drawn0 w wc)
 case first=>
  have H:=HC4.out
  clear HC4
  by_cases c5:a0=3
  ·rw [if_pos c5] at H
   obtain ⟨c5b0,c5b1⟩:=eqP c5
   clear c5
   (first|rw [c5b0]|(simp only [i64_w,i32_w];rw [c5b0])|skip)
   have H':=Aside0.mk H
   clear H
   go_wp2
   go_meet
   case rel=>exact ⟨_,((a0==3)),(by first|rfl|(simp;done)|(simp [*];done)),H',⟨by first|omega|exact Nat.le_refl _⟩,by repeat (first|exact Drawn0.refl _|apply Drawn0.step)⟩
  rw [if_neg c5] at H
  obtain ⟨c5b0,c5b1⟩:=eqN c5
  (first|rw [c5b0]|(simp only [i64_w,i32_w];rw [c5b0])|skip)
  have H':=Aside0.mk H
  clear H
  go_wp2
  go_meet
  case rel=>exact ⟨_,((a0==5)),(by first|rfl|(simp;done)|(simp [*];done)),H',⟨by first|omega|exact Nat.le_refl _⟩,by repeat (first|exact Drawn0.refl _|apply Drawn0.step)⟩
 clear HC4
 try clear c2
 try clear c2b0 c2b1
 try clear c3
 try clear c3b0 c3b1
 obtain ⟨kq,x8_3,rfl,HA,HJ3,⟨mc3,rfl⟩⟩:=hcut
 cases kq with
 | zero=>exact absurd HA.out (by simp [impl_immBits.j0])
 | succ kj3 =>
  have H:=HA.out
  clear HA
  simp only [impl_immBits.j0] at H
  by_cases c6:x8_3=true
  ·subst c6
   rw [if_pos rfl] at H
   obtain rfl:=Option.some.inj H
   go_wp2
   go_ret
   exact ⟨by first|rfl|(simp;done)|(simp [*];done),by repeat (first|exact Drawn0.refl _|apply Drawn0.step)⟩
  replace c6:=Bool.eq_false_iff.mpr c6
  subst c6
  rw [if_neg (show ¬ (false=true) by decide)] at H
  by_cases c7:a0=4
  ·rw [if_pos c7] at H
   obtain ⟨c7b0,c7b1⟩:=eqP c7
   clear c7
   obtain rfl:=Option.some.inj H
   go_wp2
   go_ret
   exact ⟨by first|rfl|(simp;done)|(simp [*];done),by repeat (first|exact Drawn0.refl _|apply Drawn0.step)⟩
  rw [if_neg c7] at H
  obtain ⟨c7b0,c7b1⟩:=eqN c7
  obtain rfl:=Option.some.inj H
  go_wp2
  go_ret
  exact ⟨by first|rfl|(simp;done)|(simp [*];done),by repeat (first|exact Drawn0.refl _|apply Drawn0.step)⟩
def impl_signOf.f (a0:Int) (a1:Int):Option (Int):=if 0≤(wrap64 (64 - a1)) then (some (shr .i64 (shl .i64 a0 (wrap64 (64 - a1))) (wrap64 (64 - a1)))) else (none)
set_option maxHeartbeats 8000000 in
set_option maxRecDepth 100000 in
theorem impl_signOf.calls (a0:Int) (a1:Int) (r:Int) (w:World) (h:impl_signOf.f a0 a1=some r) :
    Calls Try.prog 110 #[.int .i64 a0,.int .i64 a1] w fun e w'=>e=.returned (.int .i64 r)∧Drawn0 w w':=by
 have H:(if 0≤(wrap64 (64 - a1)) then (some (shr .i64 (shl .i64 a0 (wrap64 (64 - a1))) (wrap64 (64 - a1)))) else (none))=some r:=h
 clear h
 obtain ⟨ji3,hji3⟩ : ∃ j_:Int,(wrap64 (64 - a1))=j_:=⟨_,rfl⟩
 replace H:(if 0≤(ji3) then (some (shr .i64 (shl .i64 a0 (ji3)) (ji3))) else (none))=some r:=by first|(rw [hji3] at H;exact H)|(simp only [hji3] at H ⊢;exact H)
 have hji3w:(IntKind.i64.wrap (64 - a1))=ji3:=(i64_w _).trans hji3
 by_cases c4:0≤(ji3)
 ·rw [if_pos c4] at H
  have c4b0:=eq_true c4
  have c4b1:decide (0≤(ji3))=true:=decide_eq_true c4
  clear c4
  obtain ⟨ji5,hji5⟩ : ∃ j_:Int,(shl .i64 a0 (ji3))=j_:=⟨_,rfl⟩
  replace H:(some (shr .i64 (ji5) (ji3)))=some r:=by first|(rw [hji5] at H;exact H)|(simp only [hji5] at H ⊢;exact H)
  have hji5_:(IntKind.i64.wrap (a0*2 ^ min (ji3).toNat 64))=ji5:=hji5
  have hji5z:(ji3)≤64→(IntKind.i64.wrap (a0*2 ^ (ji3).toNat))=ji5:=shl_small hji5
  have hji5y:(wrap64 (a0*2 ^ min (ji3).toNat 64))=ji5:=(i64_w _).symm.trans hji5_
  have hji5x:(ji3)≤64→(wrap64 (a0*2 ^ (ji3).toNat))=ji5:=fun h_=>(i64_w _).symm.trans (hji5z h_)
  have c6b0:=eq_true (of_decide_eq_true (by first|(with_reducible assumption)|assumption):0≤(ji3))
  obtain ⟨ji7,hji7⟩ : ∃ j_:Int,(shr .i64 (ji5) (ji3))=j_:=⟨_,rfl⟩
  replace H:(some ji7)=some r:=by first|(rw [hji7] at H;exact H)|(simp only [hji7] at H ⊢;exact H)
  have hji7_:((ji5) / 2 ^ min (ji3).toNat 64)=ji7:=hji7
  have hji7z:(ji3)≤64→((ji5) / 2 ^ (ji3).toNat)=ji7:=shr_small hji7
  obtain rfl:=Option.some.inj H
  go_enter Try.func110,Try.ntmps110
  go_wp2
  go_ret
  exact ⟨by first|rfl|(simp;done)|(simp only [← hji3,← hji5,← hji7]<;>(first|rfl|simp))|(simp [*];done),by repeat (first|exact Drawn0.refl _|apply Drawn0.step)⟩
 rw [if_neg c4] at H
 exact absurd H (by simp)
mutual
def impl_fields.j0:Nat→Int→Bool→Option (Bool × Bool × Bool)
  | 0,_,_=>none
  | k+1,x5,x6=>if x6=true then (some (true,false,false)) else (if x5=3 then (impl_fields.j1 k x5 (x5==3)) else (if x5=6 then (impl_fields.j1 k x5 (x5==6)) else (impl_fields.j1 k x5 (x5==7))))
def impl_fields.j1:Nat→Int→Bool→Option (Bool × Bool × Bool)
  | 0,_,_=>none
  | k+1,x5,x9=>if x9=true then (some (true,true,false)) else (if x5=4 then (impl_fields.j2 k x5 (x5==4)) else (impl_fields.j2 k x5 (x5==5)))
def impl_fields.j2:Nat→Int→Bool→Option (Bool × Bool × Bool)
  | 0,_,_=>none
  | k+1,x5,x13=>if x13=true then (some (false,true,true)) else (if x5=8 then (some (true,true,true)) else (some (false,false,false)))
end
def impl_fields.f (k:Nat) (a0:Int):Option (Bool × Bool × Bool):=if a0=1 then (impl_fields.j0 k a0 (a0==1)) else (impl_fields.j0 k a0 (a0==2))
theorem impl_fields.mono_l : ∀ k,(∀ y0 y1,LeO (impl_fields.j0 k y0 y1) (impl_fields.j0 (k+1) y0 y1))∧(∀ y0 y1,LeO (impl_fields.j1 k y0 y1) (impl_fields.j1 (k+1) y0 y1))∧(∀ y0 y1,LeO (impl_fields.j2 k y0 y1) (impl_fields.j2 (k+1) y0 y1))
  | 0=>⟨fun _ _ r h=>by simp [impl_fields.j0] at h,fun _ _ r h=>by simp [impl_fields.j1] at h,fun _ _ r h=>by simp [impl_fields.j2] at h⟩
  | k+1=>by
    obtain ⟨ih0,ih1,ih2⟩:=impl_fields.mono_l k
    refine ⟨?_,?_,?_⟩<;>intros<;>(first|unfold impl_fields.j0|unfold impl_fields.j1|unfold impl_fields.j2)<;>repeat' (with_reducible first|apply ih0|apply ih1|apply ih2|apply LeO.refl|apply LeO.none|apply LeO.ite|refine LeO.bind ?_ (fun _=>?_))
theorem impl_fields.mono : ∀ a0 k,LeO (impl_fields.f k a0) (impl_fields.f (k+1) a0):=by
 intro a0 k
 obtain ⟨ih0,ih1,ih2⟩:=impl_fields.mono_l k
 unfold impl_fields.f
 repeat' (with_reducible first|apply ih0|apply ih1|apply ih2|apply LeO.refl|apply LeO.none|apply LeO.ite|refine LeO.bind ?_ (fun _=>?_))
set_option maxHeartbeats 8000000 in
set_option maxRecDepth 100000 in
theorem impl_fields.calls (k:Nat) (a0:Int) (r1:Bool) (r2:Bool) (r3:Bool) (w:World) (h:impl_fields.f k a0=some (r1,r2,r3)) :
    Calls Try.prog 111 #[.int .i64 a0] w fun e w'=>e=.returned (.tuple #[.bool r1,.bool r2,.bool r3])∧Drawn0 w w':=by
 have H:(if a0=1 then (impl_fields.j0 k a0 (a0==1)) else (impl_fields.j0 k a0 (a0==2)))=some (r1,r2,r3):=h
 clear h
 have HC2:=Aside0.mk H
 clear H
 go_enter Try.func111,Try.ntmps111
 go_upto_if 6 with (fail)
 go_cut [6] (fun v6 wc=>∃ (kq:Nat) (x6_1:Bool),v6=.bool x6_1∧Aside0 (impl_fields.j0 kq a0 x6_1=some (r1,r2,r3))∧Aside0 (kq≤k)∧Drawn0 w wc)
 case first=>
  have H:=HC2.out
  clear HC2
  by_cases c3:a0=1
  ·rw [if_pos c3] at H
   obtain ⟨c3b0,c3b1⟩:=eqP c3
   clear c3
   (first|rw [c3b0]|(simp only [i64_w,i32_w];rw [c3b0])|skip)
   have H':=Aside0.mk H
   clear H
   go_wp2
   go_meet
   case rel=>exact ⟨_,((a0==1)),(by first|rfl|(simp;done)|(simp [*];done)),H',⟨by first|omega|exact Nat.le_refl _⟩,by repeat (first|exact Drawn0.refl _|apply Drawn0.step)⟩
  rw [if_neg c3] at H
  obtain ⟨c3b0,c3b1⟩:=eqN c3
  (first|rw [c3b0]|(simp only [i64_w,i32_w];rw [c3b0])|skip)
  have H':=Aside0.mk H
  clear H
  go_wp2
  go_meet
  case rel=>exact ⟨_,((a0==2)),(by first|rfl|(simp;done)|(simp [*];done)),H',⟨by first|omega|exact Nat.le_refl _⟩,by repeat (first|exact Drawn0.refl _|apply Drawn0.step)⟩
 clear HC2
 obtain ⟨kq,x6_1,rfl,HA,HJ1,⟨mc1,rfl⟩⟩:=hcut
 cases kq with
 | zero=>exact absurd HA.out (by simp [impl_fields.j0])
 | succ kj1 =>
  have H:=HA.out
  clear HA
  simp only [impl_fields.j0] at H
  by_cases c4:x6_1=true
  ·subst c4
   rw [if_pos rfl] at H
   simp only [Option.some.injEq,Prod.mk.injEq] at H
   obtain ⟨rfl,rfl,rfl⟩:=H
   go_wp2
   go_ret3
   exact ⟨by first|rfl|(simp;done)|(simp [*];done),by repeat (first|exact Drawn0.refl _|apply Drawn0.step)⟩
  replace c4:=Bool.eq_false_iff.mpr c4
  subst c4
  rw [if_neg (show ¬ (false=true) by decide)] at H
  have HC5:=Aside0.mk H
  clear H
  go_upto_if 9 with (fail)
  go_cut [9] (fun v9 wc=>∃ (kq:Nat) (x9_4:Bool),v9=.bool x9_4∧Aside0 (impl_fields.j1 kq a0 x9_4=some (r1,r2,r3))∧Aside0 (kq≤kj1)∧Drawn0 w wc)
  case first=>
   have H:=HC5.out
   clear HC5
   by_cases c6:a0=3
   ·rw [if_pos c6] at H
    obtain ⟨c6b0,c6b1⟩:=eqP c6
    clear c6
    (first|rw [c6b0]|(simp only [i64_w,i32_w];rw [c6b0])|skip)
    have H':=Aside0.mk H
    clear H
    go_wp2
    go_meet
    case rel=>exact ⟨_,((a0==3)),(by first|rfl|(simp;done)|(simp [*];done)),H',⟨by have:=HJ1.out;first|omega|exact Nat.le_refl _⟩,by repeat (first|exact Drawn0.refl _|apply Drawn0.step)⟩
   rw [if_neg c6] at H
   obtain ⟨c6b0,c6b1⟩:=eqN c6
   (first|rw [c6b0]|(simp only [i64_w,i32_w];rw [c6b0])|skip)
   by_cases c7:a0=6
   ·rw [if_pos c7] at H
    obtain ⟨c7b0,c7b1⟩:=eqP c7
    clear c7
    have H':=Aside0.mk H
    clear H
    go_wp2
    go_meet
    case rel=>exact ⟨_,((a0==6)),(by first|rfl|(simp;done)|(simp [*];done)),H',⟨by have:=HJ1.out;first|omega|exact Nat.le_refl _⟩,by repeat (first|exact Drawn0.refl _|apply Drawn0.step)⟩
   rw [if_neg c7] at H
   obtain ⟨c7b0,c7b1⟩:=eqN c7
   have H':=Aside0.mk H
   clear H
   go_wp2
   go_meet
   case rel=>exact ⟨_,((a0==7)),(by first|rfl|(simp;done)|(simp [*];done)),H',⟨by have:=HJ1.out;first|omega|exact Nat.le_refl _⟩,by repeat (first|exact Drawn0.refl _|apply Drawn0.step)⟩
  clear HC5
  try clear c4
  obtain ⟨kq,x9_4,rfl,HA,HJ4,⟨mc4,rfl⟩⟩:=hcut
  cases kq with
  | zero=>exact absurd HA.out (by simp [impl_fields.j1])
  | succ kj4 =>
   have H:=HA.out
   clear HA
   simp only [impl_fields.j1] at H
   by_cases c8:x9_4=true
   ·subst c8
    rw [if_pos rfl] at H
    simp only [Option.some.injEq,Prod.mk.injEq] at H
    obtain ⟨rfl,rfl,rfl⟩:=H
    go_wp2
    go_ret3
    exact ⟨by first|rfl|(simp;done)|(simp [*];done),by repeat (first|exact Drawn0.refl _|apply Drawn0.step)⟩
   replace c8:=Bool.eq_false_iff.mpr c8
   subst c8
   rw [if_neg (show ¬ (false=true) by decide)] at H
   have HC9:=Aside0.mk H
   clear H
   go_upto_if 13 with (fail)
   go_cut [13] (fun v13 wc=>∃ (kq:Nat) (x13_8:Bool),v13=.bool x13_8∧Aside0 (impl_fields.j2 kq a0 x13_8=some (r1,r2,r3))∧Aside0 (kq≤kj4)∧Drawn0 w wc)
   case first=>
    have H:=HC9.out
    clear HC9
    by_cases c10:a0=4
    ·rw [if_pos c10] at H
     obtain ⟨c10b0,c10b1⟩:=eqP c10
     clear c10
     (first|rw [c10b0]|(simp only [i64_w,i32_w];rw [c10b0])|skip)
     have H':=Aside0.mk H
     clear H
     go_wp2
     go_meet
     case rel=>exact ⟨_,((a0==4)),(by first|rfl|(simp;done)|(simp [*];done)),H',⟨by have:=HJ1.out;have:=HJ4.out;first|omega|exact Nat.le_refl _⟩,by repeat (first|exact Drawn0.refl _|apply Drawn0.step)⟩
    rw [if_neg c10] at H
    obtain ⟨c10b0,c10b1⟩:=eqN c10
    (first|rw [c10b0]|(simp only [i64_w,i32_w];rw [c10b0])|skip)
    have H':=Aside0.mk H
    clear H
    go_wp2
    go_meet
    case rel=>exact ⟨_,((a0==5)),(by first|rfl|(simp;done)|(simp [*];done)),H',⟨by have:=HJ1.out;have:=HJ4.out;first|omega|exact Nat.le_refl _⟩,by repeat (first|exact Drawn0.refl _|apply Drawn0.step)⟩
   clear HC9
   try clear c8
   obtain ⟨kq,x13_8,rfl,HA,HJ8,⟨mc8,rfl⟩⟩:=hcut
   cases kq with
   | zero=>exact absurd HA.out (by simp [impl_fields.j2])
   | succ kj8 =>
    have H:=HA.out
    clear HA
    simp only [impl_fields.j2] at H
    by_cases c11:x13_8=true
    ·subst c11
     rw [if_pos rfl] at H
     simp only [Option.some.injEq,Prod.mk.injEq] at H
     obtain ⟨rfl,rfl,rfl⟩:=H
     go_wp2
     go_ret3
     exact ⟨by first|rfl|(simp;done)|(simp [*];done),by repeat (first|exact Drawn0.refl _|apply Drawn0.step)⟩
    replace c11:=Bool.eq_false_iff.mpr c11
    subst c11
    rw [if_neg (show ¬ (false=true) by decide)] at H
    by_cases c12:a0=8
    ·rw [if_pos c12] at H
     obtain ⟨c12b0,c12b1⟩:=eqP c12
     clear c12
     simp only [Option.some.injEq,Prod.mk.injEq] at H
     obtain ⟨rfl,rfl,rfl⟩:=H
     go_wp2
     go_ret3
     exact ⟨by first|rfl|(simp;done)|(simp [*];done),by repeat (first|exact Drawn0.refl _|apply Drawn0.step)⟩
    rw [if_neg c12] at H
    obtain ⟨c12b0,c12b1⟩:=eqN c12
    simp only [Option.some.injEq,Prod.mk.injEq] at H
    obtain ⟨rfl,rfl,rfl⟩:=H
    go_wp2
    go_ret3
    exact ⟨by first|rfl|(simp;done)|(simp [*];done),by repeat (first|exact Drawn0.refl _|apply Drawn0.step)⟩
def impl_shapeOf.f (a0:Int):Option (Int × Int × Int × Int):=(impl_ops.f).bind fun t315=>(if 0≤a0 then (if a0 < (t315.length:Int) then (some ((rd_T120 t315 a0).f1.f0,(rd_T120 t315 a0).f1.f1,(rd_T120 t315 a0).f1.f2,(rd_T120 t315 a0).f1.f3)) else (none)) else (none))
set_option maxHeartbeats 8000000 in
set_option maxRecDepth 100000 in
theorem impl_shapeOf.calls (a0:Int) (r1:Int) (r2:Int) (r3:Int) (r4:Int) (w:World) (h:impl_shapeOf.f a0=some (r1,r2,r3,r4)) :
    Calls Try.prog 133 #[.int .i64 a0] w fun e w'=>e=.returned (.agg #[.int .i64 r1,.int .i64 r2,.int .i64 r3,.int .i64 r4])∧Below w.heap.size w w':=by
 have hu109:=Try.underlying109
 have HB:=Aside0.mk (Below.refl w.heap.size w)
 have H:((impl_ops.f).bind fun t315=>(if 0≤a0 then (if a0 < (t315.length:Int) then (some ((rd_T120 t315 a0).f1.f0,(rd_T120 t315 a0).f1.f1,(rd_T120 t315 a0).f1.f2,(rd_T120 t315 a0).f1.f3)) else (none)) else (none)))=some (r1,r2,r3,r4):=h
 clear h
 obtain ⟨t315,A2,H⟩:=bindA H
 by_cases c3:0≤a0
 ·rw [if_pos c3] at H
  have c3b0:decide (0≤a0)=true:=decide_eq_true c3
  clear c3
  by_cases c4:a0 < (t315.length:Int)
  ·rw [if_pos c4] at H
   have c4b0:decide (a0 < (t315.length:Int))=true:=decide_eq_true c4
   clear c4
   simp only [Option.some.injEq,Prod.mk.injEq] at H
   obtain ⟨rfl,rfl,rfl,rfl⟩:=H
   go_enter Try.func133,Try.ntmps133
   go_wp2_with (first|((with_reducible refine gate_dst (N:=2) rfl ?_);refine box_event ?hg (N:=2) ?hd (cs:=#[.int .i64 0,.int .i64 0,.int .i64 0,.int .i64 0]) (t:=109) ?hr ?_;(case hd=>rfl);(case hg=>rfl);(case hr=>first|(go_simp;done)|(go_simp;rfl));intro gb314 hg w5 hbox hb;have n0_:=Aside0.mk (below_step (by repeat (with_reducible first|exact HB.out|apply Q4|apply Q5|apply Q6)) hb);have n1_:=Aside0.mk (hbox);have n2_:=Aside0.mk ((by rw [hg];exact (below_size (by repeat (with_reducible first|exact HB.out|apply Q4|apply Q5|apply Q6))):w.heap.size≤gb314));have n3_:=Aside0.mk ((by rw [hg];exact (below_size (by repeat (with_reducible first|exact HB.out|apply Q4|apply Q5|apply Q6))):w.heap.size≤gb314));clear HB;have HB:=n0_;have BK314:=n1_;have GW314:=n2_;have GE314:=n3_;clear n0_ n1_ n2_ n3_;clear hb hbox hg)|((with_reducible refine gate_callee (f:=106) rfl ?_);refine goesL_ (some 3) rfl rfl Try.func106 (by kernel_rfl) rfl #[] rfl (by (try simp only [List.map_toArray,List.map_cons,List.map_nil]);first|done|rfl|(simp only [List.length_drop,List.length_take];rfl)) ?_;(with_reducible refine (impl_ops.calls  t315 _ A2.out).mono ?_);rintro e w6 ⟨v316,rfl,ho0,hb⟩;refine ⟨_,rfl,?_⟩;have n0_:=Aside0.mk (Kd.R_lower ho0 (below_size (by repeat (with_reducible first|exact HB.out|apply Q4|apply Q5|apply Q6|apply Q7 GE314.out))));have n1_:=Aside0.mk (blk_below (g:=gb314) (o:=.cells #[.int .i64 0,.int .i64 0,.int .i64 0,.int .i64 0] 109 (0,0)) (by (with_reducible repeat first|apply Q1|apply Q2|apply Q3);exact BK314.out) hb);have n2_:=Aside0.mk (below_step (by repeat (with_reducible first|exact HB.out|apply Q4|apply Q5|apply Q6|apply Q7 GE314.out)) hb);clear BK314;clear HB;have HO317:=n0_;have BK314:=n1_;have HB:=n2_;clear n0_ n1_ n2_;(try clear hb);(try clear hb2);(try clear hk);(try clear hi);(try clear ho0);obtain ⟨Ao7,co7,eo7⟩:=Kd.R_slice HO317.out;subst eo7;have p318:0≤(a0:Int):=of_decide_eq_true (by first|(with_reducible assumption)|assumption);have q318:a0 < (t315.length:Int):=of_decide_eq_true (by first|(with_reducible assumption)|assumption);obtain ⟨ad318,e318,hx318_0,hx318_1,hx318_2,hx318_3,hx318_4⟩:=at_T120 (Kd.R_reads' HO317.out).2.2 a0 p318 q318;cases e318;replace p318:=eq_true p318;replace q318:=eq_true q318;have hcz8_0:w6.cell? ⟨gb314,0,none⟩=some (.int .i64 0):=(blk_cell BK314.out 0).trans rfl;have hcz8_1:w6.cell? ⟨gb314,1,none⟩=some (.int .i64 0):=(blk_cell BK314.out 1).trans rfl;have hcz8_2:w6.cell? ⟨gb314,2,none⟩=some (.int .i64 0):=(blk_cell BK314.out 2).trans rfl;have hcz8_3:w6.cell? ⟨gb314,3,none⟩=some (.int .i64 0):=(blk_cell BK314.out 3).trans rfl;have hfz8_0:=blk_frozen BK314.out 0;have hfz8_1:=blk_frozen BK314.out 1;have hfz8_2:=blk_frozen BK314.out 2;have hfz8_3:=blk_frozen BK314.out 3))
   refine bodyPost_ret (results_cell_row rfl _ _ gb314 109 #[.int .i64 ((rd_T120 t315 a0).f1.f0),.int .i64 ((rd_T120 t315 a0).f1.f1),.int .i64 ((rd_T120 t315 a0).f1.f2),.int .i64 ((rd_T120 t315 a0).f1.f3)] (0,0) _ rfl (by (with_reducible repeat first|apply Q1|apply Q2|apply Q3);refine blk_put (cs:=#[.int .i64 ((rd_T120 t315 a0).f1.f0),.int .i64 ((rd_T120 t315 a0).f1.f1),.int .i64 ((rd_T120 t315 a0).f1.f2),.int .i64 0]) ?_ 3 _ rfl;(with_reducible repeat first|apply Q1|apply Q2|apply Q3);refine blk_put (cs:=#[.int .i64 ((rd_T120 t315 a0).f1.f0),.int .i64 ((rd_T120 t315 a0).f1.f1),.int .i64 0,.int .i64 0]) ?_ 2 _ rfl;(with_reducible repeat first|apply Q1|apply Q2|apply Q3);refine blk_put (cs:=#[.int .i64 ((rd_T120 t315 a0).f1.f0),.int .i64 0,.int .i64 0,.int .i64 0]) ?_ 1 _ rfl;(with_reducible repeat first|apply Q1|apply Q2|apply Q3);refine blk_put (cs:=#[.int .i64 0,.int .i64 0,.int .i64 0,.int .i64 0]) ?_ 0 _ rfl;(with_reducible repeat first|apply Q1|apply Q2|apply Q3);exact BK314.out) Try.underlying109 rfl (by kernel_rfl)) rfl ?_
   exact ⟨by first|rfl|(simp [errW_none,errW_some]<;>rfl)|(simp [*,errW_none,errW_some]<;>rfl),by repeat (with_reducible first|exact HB.out|apply Q4|apply Q5|apply Q6|apply Q7 GE314.out)⟩
  rw [if_neg c4] at H
  exact absurd H (by simp)
 rw [if_neg c3] at H
 exact absurd H (by simp)
end Go.Proofs.Ythepmdlpjdlajaa.PFnExactCallsOf
