-- Written by a program for this claim.
import Derived.Test.YthepmdlpjdlajaaPFnExactLintImagex0
import Derived.Test.YthepmdlpjdlajaaPFnExactLintImagex16
import Derived.Test.YthepmdlpjdlajaaPFnExactLintImagex17
namespace Go.Proofs.Ythepmdlpjdlajaa.PFnExactLintImage
open Go.RowKit Go.Proofs.YthepmdlpjdlajaaW.PrintWords Go.Proofs.YthepmdlpjdlajaaW.PrintLast Go.Proofs.YthepmdlpjdlajaaW.PrintMore
attribute [local go_sem] max2_int min2_int max_two min_two max_three min_three max_four min_four   -- for this text's walks alone
set_option linter.unusedVariables false
set_option linter.unusedSimpArgs false
mutual
def impl_encode.l0:Nat→Int→List (S125)→Int→Int→Int→Int→Int→Int→Int→Int→Int→Int→Int→Option (Int)
  | 0,_,_,_,_,_,_,_,_,_,_,_,_,_=>none
  | k+1,x4,x17,x18,x19,x369000,x369001,x369002,x369003,x369004,x374000,x374001,x374002,x374003=>if x19 < x18 then (if 0≤x19 then (if x19 < (x17.length:Int) then ((impl_bitsOf.f x369004 ((rd_T125 x17 x19).f0) ((rd_T125 x17 x19).f1)).bind fun t379=>(if 0≤((rd_T125 x17 x19).f2) then (impl_encode.l0 k (Go.bits .or .i64 x4 (shl .i64 t379 ((rd_T125 x17 x19).f2))) x17 x18 (wrap64 (x19+1)) x369000 x369001 x369002 x369003 x369004 x374000 x374001 x374002 x374003) else (none))) else (none)) else (none)) else ((impl_fields.f k x374000).bind fun bt380=>(if bt380.1=true then (impl_encode.j1 k (Go.bits .or .i64 x4 (wrap64 (x369001*128))) bt380.2.1 bt380.2.2 x369000 x369001 x369002 x369003 x369004 x374000 x374001 x374002 x374003) else (impl_encode.j1 k x4 bt380.2.1 bt380.2.2 x369000 x369001 x369002 x369003 x369004 x374000 x374001 x374002 x374003)))
def impl_encode.j1:Nat→Int→Bool→Bool→Int→Int→Int→Int→Int→Int→Int→Int→Int→Option (Int)
  | 0,_,_,_,_,_,_,_,_,_,_,_,_=>none
  | k+1,x4,x8,x9,x369000,x369001,x369002,x369003,x369004,x374000,x374001,x374002,x374003=>if x8=true then (impl_encode.j2 k (Go.bits .or .i64 x4 (Go.bits .or .i64 (wrap64 (x369002*32768)) (wrap64 (x374002*4096)))) x9 x369000 x369001 x369002 x369003 x369004 x374000 x374001 x374002 x374003) else (impl_encode.j2 k x4 x9 x369000 x369001 x369002 x369003 x369004 x374000 x374001 x374002 x374003)
def impl_encode.j2:Nat→Int→Bool→Int→Int→Int→Int→Int→Int→Int→Int→Int→Option (Int)
  | 0,_,_,_,_,_,_,_,_,_,_,_=>none
  | k+1,x4,x9,x369000,x369001,x369002,x369003,x369004,x374000,x374001,x374002,x374003=>if x9=true then (impl_encode.j3 k (Go.bits .or .i64 x4 (wrap64 (x369003*1048576))) x374000 x374001 x374002 x374003) else (impl_encode.j3 k x4 x374000 x374001 x374002 x374003)
def impl_encode.j3:Nat→Int→Int→Int→Int→Int→Option (Int)
  | 0,_,_,_,_,_=>none
  | k+1,x4,x374000,x374001,x374002,x374003=>if x374000=6 then (some (Go.bits .or .i64 x4 (wrap64 ((x374003 / 2)*67108864)))) else (if x374000=7 then (impl_encode.j4 k x4 x374000 (x374000==7) x374000 x374001 x374002 x374003) else (impl_encode.j4 k x4 x374000 (x374000==8) x374000 x374001 x374002 x374003))
def impl_encode.j4:Nat→Int→Int→Bool→Int→Int→Int→Int→Option (Int)
  | 0,_,_,_,_,_,_,_=>none
  | k+1,x4,x66,x75,x374000,x374001,x374002,x374003=>if x75=true then (some (Go.bits .or .i64 x4 (wrap64 (x374003*33554432)))) else (if x66=9 then (some (Go.bits .or .i64 x4 (wrap64 (x374003*1048576)))) else (some x4))
end
def impl_encode.f (k:Nat) (a0_0:Int) (a0_1:Int) (a0_2:Int) (a0_3:Int) (a0_4:Int):Option (Int):=(impl_shapeOf.f a0_0).bind fun bt369=>((impl_pieces.f bt369.1).bind fun t374=>(impl_encode.l0 k bt369.2.1 t374 (t374.length:Int) 0 a0_0 a0_1 a0_2 a0_3 a0_4 bt369.1 bt369.2.1 bt369.2.2.1 bt369.2.2.2))
theorem impl_encode.mono_l : ∀ k,(∀ y0 y1 y2 y3 y4 y5 y6 y7 y8 y9 y10 y11 y12,LeO (impl_encode.l0 k y0 y1 y2 y3 y4 y5 y6 y7 y8 y9 y10 y11 y12) (impl_encode.l0 (k+1) y0 y1 y2 y3 y4 y5 y6 y7 y8 y9 y10 y11 y12))∧(∀ y0 y1 y2 y3 y4 y5 y6 y7 y8 y9 y10 y11,LeO (impl_encode.j1 k y0 y1 y2 y3 y4 y5 y6 y7 y8 y9 y10 y11) (impl_encode.j1 (k+1) y0 y1 y2 y3 y4 y5 y6 y7 y8 y9 y10 y11))∧(∀ y0 y1 y2 y3 y4 y5 y6 y7 y8 y9 y10,LeO (impl_encode.j2 k y0 y1 y2 y3 y4 y5 y6 y7 y8 y9 y10) (impl_encode.j2 (k+1) y0 y1 y2 y3 y4 y5 y6 y7 y8 y9 y10))∧(∀ y0 y1 y2 y3 y4,LeO (impl_encode.j3 k y0 y1 y2 y3 y4) (impl_encode.j3 (k+1) y0 y1 y2 y3 y4))∧(∀ y0 y1 y2 y3 y4 y5 y6,LeO (impl_encode.j4 k y0 y1 y2 y3 y4 y5 y6) (impl_encode.j4 (k+1) y0 y1 y2 y3 y4 y5 y6))
  | 0=>⟨fun _ _ _ _ _ _ _ _ _ _ _ _ _ r h=>by simp [impl_encode.l0] at h,fun _ _ _ _ _ _ _ _ _ _ _ _ r h=>by simp [impl_encode.j1] at h,fun _ _ _ _ _ _ _ _ _ _ _ r h=>by simp [impl_encode.j2] at h,fun _ _ _ _ _ r h=>by simp [impl_encode.j3] at h,fun _ _ _ _ _ _ _ r h=>by simp [impl_encode.j4] at h⟩
  | k+1=>by
    obtain ⟨ih0,ih1,ih2,ih3,ih4⟩:=impl_encode.mono_l k
    refine ⟨?_,?_,?_,?_,?_⟩<;>intros<;>(first|unfold impl_encode.l0|unfold impl_encode.j1|unfold impl_encode.j2|unfold impl_encode.j3|unfold impl_encode.j4)<;>repeat' (with_reducible first|apply ih0|apply ih1|apply ih2|apply ih3|apply ih4|apply impl_fields.mono|apply LeO.refl|apply LeO.none|apply LeO.ite|refine LeO.bind ?_ (fun _=>?_))
theorem impl_encode.mono : ∀ a0 a1 a2 a3 a4 k,LeO (impl_encode.f k a0 a1 a2 a3 a4) (impl_encode.f (k+1) a0 a1 a2 a3 a4):=by
 intro a0 a1 a2 a3 a4 k
 obtain ⟨ih0,ih1,ih2,ih3,ih4⟩:=impl_encode.mono_l k
 unfold impl_encode.f
 repeat' (with_reducible first|apply ih0|apply ih1|apply ih2|apply ih3|apply ih4|apply impl_fields.mono|apply LeO.refl|apply LeO.none|apply LeO.ite|refine LeO.bind ?_ (fun _=>?_))
set_option maxHeartbeats 8000000 in
set_option maxRecDepth 100000 in
theorem impl_encode.calls (k:Nat) (a0_0:Int) (a0_1:Int) (a0_2:Int) (a0_3:Int) (a0_4:Int) (r:Int) (w:World) (h:impl_encode.f k a0_0 a0_1 a0_2 a0_3 a0_4=some r) :
    Calls Try.prog 112 #[.agg #[.int .i64 a0_0,.int .i64 a0_1,.int .i64 a0_2,.int .i64 a0_3,.int .i64 a0_4]] w fun e w'=>e=.returned (.int .i64 r)∧Below w.heap.size w w':=by
 have hu86:=Try.underlying86
 have hu109:=Try.underlying109
 have hu125:=Try.underlying125
 have HB:=Aside0.mk (Below.refl w.heap.size w)
 have H:((impl_shapeOf.f a0_0).bind fun bt369=>((impl_pieces.f bt369.1).bind fun t374=>(impl_encode.l0 k bt369.2.1 t374 (t374.length:Int) 0 a0_0 a0_1 a0_2 a0_3 a0_4 bt369.1 bt369.2.1 bt369.2.2.1 bt369.2.2.2)))=some r:=h
 clear h
 obtain ⟨⟨t369,t370,t371,t372⟩,A2,H⟩:=bindA H
 try dsimp only at H
 obtain ⟨t374,A3,H⟩:=bindA H
 have H':=Aside0.mk H
 clear H
 go_enter Try.func112,Try.ntmps112
 go_wp2_with (first|(refine bv 1 #[.int .i64 a0_0,.int .i64 a0_1,.int .i64 a0_2,.int .i64 a0_3,.int .i64 a0_4] 86 ?_;intro gb368 hg w4 hbox hb;obtain ⟨n0_,n2_⟩:=bx0 hbx hb hg;have n1_:=Aside0.mk (hbox);clear HB;have HB:=n0_;have BK368:=n1_;have GW368:=n2_;have GE368:=n2_;clear n0_ n1_ n2_;clear hb hbox hg;obtain ⟨Z5_0,Z5_1,Z5_2,Z5_3,Z5_4,Y5_0,Y5_1,Y5_2,Y5_3,Y5_4⟩:=cel5 BK368.out)|(go_at_call 133;(with_reducible refine (impl_shapeOf.calls a0_0 t369 t370 t371 t372 _ A2.out).mono ?_);rintro e w6 ⟨rfl,hb⟩;have n0_:=Aside0.mk (blk_below (qx BK368.out) hb);replace HB:=Aside0.mk (below_step (hb1 GE368.out) hb);clear BK368;have BK368:=n0_;clear n0_;(try clear hb);(try clear hb2);(try clear hk);(try clear hi))|(refine bv 3 #[.int .i64 0,.int .i64 0,.int .i64 0,.int .i64 0] 109 ?_;intro gb373 hg w7 hbox hb;obtain ⟨n1_,n3_⟩:=bx0 (hb1 GE368.out) hb hg;obtain ⟨n0_,n5_,n6_⟩:=bx3 (qx BK368.out) hb hg;have n2_:=Aside0.mk (hbox);clear BK368;clear HB;have BK368:=n0_;have HB:=n1_;have BK373:=n2_;have GW373:=n3_;have GE373:=n3_;have NB368_373:=n5_;have NB373_368:=n6_;clear n0_ n1_ n2_ n3_ n5_ n6_;clear hb hbox hg;have hnb8:=NB373_368.out;have hnc8:=NB368_373.out;obtain ⟨Z9_0,Z9_1,Z9_2,Z9_3,Y9_0,Y9_1,Y9_2,Y9_3⟩:=cel4 BK373.out)|(go_at_call 108;(with_reducible refine (impl_pieces.calls t369 t374 _ A3.out).mono ?_);rintro e w10 ⟨v375,rfl,ho0,hb⟩;have n0_:=Aside0.mk (Kd.R_lower ho0 (below_size (hb2 GE368.out GE373.out)));have n1_:=Aside0.mk (blk_below (g:=gb368) (o:=.cells #[.int .i64 a0_0,.int .i64 a0_1,.int .i64 a0_2,.int .i64 a0_3,.int .i64 a0_4] 86 (0,0)) (by (with_reducible repeat first|apply Q1|apply Q2|apply Q3);refine blk_far ?_ NB368_373.out _;(with_reducible repeat first|apply Q1|apply Q2|apply Q3);refine blk_far ?_ NB368_373.out _;(with_reducible repeat first|apply Q1|apply Q2|apply Q3);refine blk_far ?_ NB368_373.out _;(with_reducible repeat first|apply Q1|apply Q2|apply Q3);refine blk_far ?_ NB368_373.out _;(with_reducible repeat first|apply Q1|apply Q2|apply Q3);exact BK368.out) hb);have n2_:=Aside0.mk (blk_below (g:=gb373) (o:=.cells #[.int .i64 t369,.int .i64 t370,.int .i64 t371,.int .i64 t372] 109 (0,0)) (by (with_reducible repeat first|apply Q1|apply Q2|apply Q3);refine blk_put (cs:=#[.int .i64 t369,.int .i64 t370,.int .i64 t371,.int .i64 0]) ?_ 3 _ rfl;(with_reducible repeat first|apply Q1|apply Q2|apply Q3);refine blk_put (cs:=#[.int .i64 t369,.int .i64 t370,.int .i64 0,.int .i64 0]) ?_ 2 _ rfl;(with_reducible repeat first|apply Q1|apply Q2|apply Q3);refine blk_put (cs:=#[.int .i64 t369,.int .i64 0,.int .i64 0,.int .i64 0]) ?_ 1 _ rfl;(with_reducible repeat first|apply Q1|apply Q2|apply Q3);refine blk_put (cs:=#[.int .i64 0,.int .i64 0,.int .i64 0,.int .i64 0]) ?_ 0 _ rfl;(with_reducible repeat first|apply Q1|apply Q2|apply Q3);exact BK373.out) hb);replace HB:=Aside0.mk (below_step (hb2 GE368.out GE373.out) hb);clear BK368;clear BK373;have HO376:=n0_;have BK368:=n1_;have BK373:=n2_;clear n0_ n1_ n2_;(try clear hb);(try clear hb2);(try clear hk);(try clear hi);(try clear ho0);obtain ⟨Ao11,co11,eo11⟩:=Kd.R_slice HO376.out;subst eo11))
 repeat (go_quiet (first|(refine bv 1 #[.int .i64 a0_0,.int .i64 a0_1,.int .i64 a0_2,.int .i64 a0_3,.int .i64 a0_4] 86 ?_;intro gb368 hg w4 hbox hb;obtain ⟨n0_,n2_⟩:=bx0 hbx hb hg;have n1_:=Aside0.mk (hbox);clear HB;have HB:=n0_;have BK368:=n1_;have GW368:=n2_;have GE368:=n2_;clear n0_ n1_ n2_;clear hb hbox hg;obtain ⟨Z5_0,Z5_1,Z5_2,Z5_3,Z5_4,Y5_0,Y5_1,Y5_2,Y5_3,Y5_4⟩:=cel5 BK368.out)|(go_at_call 133;(with_reducible refine (impl_shapeOf.calls a0_0 t369 t370 t371 t372 _ A2.out).mono ?_);rintro e w6 ⟨rfl,hb⟩;have n0_:=Aside0.mk (blk_below (qx BK368.out) hb);replace HB:=Aside0.mk (below_step (hb1 GE368.out) hb);clear BK368;have BK368:=n0_;clear n0_;(try clear hb);(try clear hb2);(try clear hk);(try clear hi))|(refine bv 3 #[.int .i64 0,.int .i64 0,.int .i64 0,.int .i64 0] 109 ?_;intro gb373 hg w7 hbox hb;obtain ⟨n1_,n3_⟩:=bx0 (hb1 GE368.out) hb hg;obtain ⟨n0_,n5_,n6_⟩:=bx3 (qx BK368.out) hb hg;have n2_:=Aside0.mk (hbox);clear BK368;clear HB;have BK368:=n0_;have HB:=n1_;have BK373:=n2_;have GW373:=n3_;have GE373:=n3_;have NB368_373:=n5_;have NB373_368:=n6_;clear n0_ n1_ n2_ n3_ n5_ n6_;clear hb hbox hg;have hnb8:=NB373_368.out;have hnc8:=NB368_373.out;obtain ⟨Z9_0,Z9_1,Z9_2,Z9_3,Y9_0,Y9_1,Y9_2,Y9_3⟩:=cel4 BK373.out)|(go_at_call 108;(with_reducible refine (impl_pieces.calls t369 t374 _ A3.out).mono ?_);rintro e w10 ⟨v375,rfl,ho0,hb⟩;have n0_:=Aside0.mk (Kd.R_lower ho0 (below_size (hb2 GE368.out GE373.out)));have n1_:=Aside0.mk (blk_below (g:=gb368) (o:=.cells #[.int .i64 a0_0,.int .i64 a0_1,.int .i64 a0_2,.int .i64 a0_3,.int .i64 a0_4] 86 (0,0)) (by (with_reducible repeat first|apply Q1|apply Q2|apply Q3);refine blk_far ?_ NB368_373.out _;(with_reducible repeat first|apply Q1|apply Q2|apply Q3);refine blk_far ?_ NB368_373.out _;(with_reducible repeat first|apply Q1|apply Q2|apply Q3);refine blk_far ?_ NB368_373.out _;(with_reducible repeat first|apply Q1|apply Q2|apply Q3);refine blk_far ?_ NB368_373.out _;(with_reducible repeat first|apply Q1|apply Q2|apply Q3);exact BK368.out) hb);have n2_:=Aside0.mk (blk_below (g:=gb373) (o:=.cells #[.int .i64 t369,.int .i64 t370,.int .i64 t371,.int .i64 t372] 109 (0,0)) (by (with_reducible repeat first|apply Q1|apply Q2|apply Q3);refine blk_put (cs:=#[.int .i64 t369,.int .i64 t370,.int .i64 t371,.int .i64 0]) ?_ 3 _ rfl;(with_reducible repeat first|apply Q1|apply Q2|apply Q3);refine blk_put (cs:=#[.int .i64 t369,.int .i64 t370,.int .i64 0,.int .i64 0]) ?_ 2 _ rfl;(with_reducible repeat first|apply Q1|apply Q2|apply Q3);refine blk_put (cs:=#[.int .i64 t369,.int .i64 0,.int .i64 0,.int .i64 0]) ?_ 1 _ rfl;(with_reducible repeat first|apply Q1|apply Q2|apply Q3);refine blk_put (cs:=#[.int .i64 0,.int .i64 0,.int .i64 0,.int .i64 0]) ?_ 0 _ rfl;(with_reducible repeat first|apply Q1|apply Q2|apply Q3);exact BK373.out) hb);replace HB:=Aside0.mk (below_step (hb2 GE368.out GE373.out) hb);clear BK368;clear BK373;have HO376:=n0_;have BK368:=n1_;have BK373:=n2_;clear n0_ n1_ n2_;(try clear hb);(try clear hb2);(try clear hk);(try clear hi);(try clear ho0);obtain ⟨Ao11,co11,eo11⟩:=Kd.R_slice HO376.out;subst eo11));try go_wp2_with (first|(refine bv 1 #[.int .i64 a0_0,.int .i64 a0_1,.int .i64 a0_2,.int .i64 a0_3,.int .i64 a0_4] 86 ?_;intro gb368 hg w4 hbox hb;obtain ⟨n0_,n2_⟩:=bx0 hbx hb hg;have n1_:=Aside0.mk (hbox);clear HB;have HB:=n0_;have BK368:=n1_;have GW368:=n2_;have GE368:=n2_;clear n0_ n1_ n2_;clear hb hbox hg;obtain ⟨Z5_0,Z5_1,Z5_2,Z5_3,Z5_4,Y5_0,Y5_1,Y5_2,Y5_3,Y5_4⟩:=cel5 BK368.out)|(go_at_call 133;(with_reducible refine (impl_shapeOf.calls a0_0 t369 t370 t371 t372 _ A2.out).mono ?_);rintro e w6 ⟨rfl,hb⟩;have n0_:=Aside0.mk (blk_below (qx BK368.out) hb);replace HB:=Aside0.mk (below_step (hb1 GE368.out) hb);clear BK368;have BK368:=n0_;clear n0_;(try clear hb);(try clear hb2);(try clear hk);(try clear hi))|(refine bv 3 #[.int .i64 0,.int .i64 0,.int .i64 0,.int .i64 0] 109 ?_;intro gb373 hg w7 hbox hb;obtain ⟨n1_,n3_⟩:=bx0 (hb1 GE368.out) hb hg;obtain ⟨n0_,n5_,n6_⟩:=bx3 (qx BK368.out) hb hg;have n2_:=Aside0.mk (hbox);clear BK368;clear HB;have BK368:=n0_;have HB:=n1_;have BK373:=n2_;have GW373:=n3_;have GE373:=n3_;have NB368_373:=n5_;have NB373_368:=n6_;clear n0_ n1_ n2_ n3_ n5_ n6_;clear hb hbox hg;have hnb8:=NB373_368.out;have hnc8:=NB368_373.out;obtain ⟨Z9_0,Z9_1,Z9_2,Z9_3,Y9_0,Y9_1,Y9_2,Y9_3⟩:=cel4 BK373.out)|(go_at_call 108;(with_reducible refine (impl_pieces.calls t369 t374 _ A3.out).mono ?_);rintro e w10 ⟨v375,rfl,ho0,hb⟩;have n0_:=Aside0.mk (Kd.R_lower ho0 (below_size (hb2 GE368.out GE373.out)));have n1_:=Aside0.mk (blk_below (g:=gb368) (o:=.cells #[.int .i64 a0_0,.int .i64 a0_1,.int .i64 a0_2,.int .i64 a0_3,.int .i64 a0_4] 86 (0,0)) (by (with_reducible repeat first|apply Q1|apply Q2|apply Q3);refine blk_far ?_ NB368_373.out _;(with_reducible repeat first|apply Q1|apply Q2|apply Q3);refine blk_far ?_ NB368_373.out _;(with_reducible repeat first|apply Q1|apply Q2|apply Q3);refine blk_far ?_ NB368_373.out _;(with_reducible repeat first|apply Q1|apply Q2|apply Q3);refine blk_far ?_ NB368_373.out _;(with_reducible repeat first|apply Q1|apply Q2|apply Q3);exact BK368.out) hb);have n2_:=Aside0.mk (blk_below (g:=gb373) (o:=.cells #[.int .i64 t369,.int .i64 t370,.int .i64 t371,.int .i64 t372] 109 (0,0)) (by (with_reducible repeat first|apply Q1|apply Q2|apply Q3);refine blk_put (cs:=#[.int .i64 t369,.int .i64 t370,.int .i64 t371,.int .i64 0]) ?_ 3 _ rfl;(with_reducible repeat first|apply Q1|apply Q2|apply Q3);refine blk_put (cs:=#[.int .i64 t369,.int .i64 t370,.int .i64 0,.int .i64 0]) ?_ 2 _ rfl;(with_reducible repeat first|apply Q1|apply Q2|apply Q3);refine blk_put (cs:=#[.int .i64 t369,.int .i64 0,.int .i64 0,.int .i64 0]) ?_ 1 _ rfl;(with_reducible repeat first|apply Q1|apply Q2|apply Q3);refine blk_put (cs:=#[.int .i64 0,.int .i64 0,.int .i64 0,.int .i64 0]) ?_ 0 _ rfl;(with_reducible repeat first|apply Q1|apply Q2|apply Q3);exact BK373.out) hb);replace HB:=Aside0.mk (below_step (hb2 GE368.out GE373.out) hb);clear BK368;clear BK373;have HO376:=n0_;have BK368:=n1_;have BK373:=n2_;clear n0_ n1_ n2_;(try clear hb);(try clear hb2);(try clear hk);(try clear hi);(try clear ho0);obtain ⟨Ao11,co11,eo11⟩:=Kd.R_slice HO376.out;subst eo11)))
 go_loopg [4,19] k (fun kq v4 v19 w'=>∃ (x4_1:Int) (x19_1:Int),v4=.int .i64 x4_1∧v19=.int .i64 x19_1∧Aside0 (impl_encode.l0 kq x4_1 t374 (t374.length:Int) x19_1 a0_0 a0_1 a0_2 a0_3 a0_4 t369 t370 t371 t372=some r)∧Aside0 (kq≤k)∧Aside0 (Kd.R k125 125 w' w.heap.size (fun _=>True) (.slice Ao11 t374.length co11) t374)∧Aside0 (w'.heap[gb368]?=some (.cells #[.int .i64 a0_0,.int .i64 a0_1,.int .i64 a0_2,.int .i64 a0_3,.int .i64 a0_4] 86 (0,0)))∧Aside0 (w'.heap[gb373]?=some (.cells #[.int .i64 t369,.int .i64 t370,.int .i64 t371,.int .i64 t372] 109 (0,0)))∧Aside0 (Below w.heap.size w w'))
 case atStart=>exact ⟨(t370),(0),rs,rs,H',⟨Nat.le_refl _⟩,⟨kr HO376.out⟩,⟨qx BK368.out⟩,⟨qx BK373.out⟩,⟨hb2 GE368.out GE373.out⟩⟩
 clear H'
 try clear Z5_0 Z5_1 Z5_2 Z5_3 Z5_4
 try clear Z9_0 Z9_1 Z9_2 Z9_3
 try clear Y5_0 Y5_1 Y5_2 Y5_3 Y5_4
 try clear Y9_0 Y9_1 Y9_2 Y9_3
 obtain ⟨x4_1,x19_1,rfl,rfl,HA,HK1,HO_17,BK368,BK373,HB⟩:=hrel
 cases gk with
 | zero=>exact absurd HA.out (by simp [impl_encode.l0])
 | succ k1 =>
  have H:=HA.out
  clear HA
  simp only [impl_encode.l0] at H
  by_cases c12:x19_1 < (t374.length:Int)
  ·rw [if_pos c12] at H
   have c12b0:decide (x19_1 < (t374.length:Int))=true:=decide_eq_true c12
   clear c12
   by_cases c13:0≤x19_1
   ·rw [if_pos c13] at H
    have c13b0:decide (0≤x19_1)=true:=decide_eq_true c13
    clear c13
    by_cases c14:x19_1 < (t374.length:Int)
    ·rw [if_pos c14] at H
     have c14b0:decide (x19_1 < (t374.length:Int))=true:=decide_eq_true c14
     clear c14
     obtain ⟨t379,A15,H⟩:=bindA H
     by_cases c16:0≤((rd_T125 t374 x19_1).f2)
     ·rw [if_pos c16] at H
      have c16b0:=eq_true c16
      have c16b1:decide (0≤((rd_T125 t374 x19_1).f2))=true:=decide_eq_true c16
      clear c16
      obtain ⟨ji17,hji17⟩ : ∃ j_:Int,(shl .i64 t379 ((rd_T125 t374 x19_1).f2))=j_:=⟨_,rfl⟩
      replace H:(impl_encode.l0 k1 (Go.bits .or .i64 x4_1 (ji17)) t374 (t374.length:Int) (wrap64 (x19_1+1)) a0_0 a0_1 a0_2 a0_3 a0_4 t369 t370 t371 t372)=some r:=by first|(rw [hji17] at H;exact H)|(simp only [hji17] at H ⊢;exact H)
      (try rw [hji17] at A15)
      have hji17_:(IntKind.i64.wrap (t379*2 ^ min ((rd_T125 t374 x19_1).f2).toNat 64))=ji17:=hji17
      have hji17z:((rd_T125 t374 x19_1).f2)≤64→(IntKind.i64.wrap (t379*2 ^ ((rd_T125 t374 x19_1).f2).toNat))=ji17:=shl_small hji17
      have hji17y:(wrap64 (t379*2 ^ min ((rd_T125 t374 x19_1).f2).toNat 64))=ji17:=(i64_w _).symm.trans hji17_
      have hji17x:((rd_T125 t374 x19_1).f2)≤64→(wrap64 (t379*2 ^ ((rd_T125 t374 x19_1).f2).toNat))=ji17:=fun h_=>(i64_w _).symm.trans (hji17z h_)
      have H':=Aside0.mk H
      clear H
      have p377:0≤(x19_1:Int):=od
      have q377:x19_1 < (t374.length:Int):=od
      obtain ⟨ad377,e377,hx377_0,hx377_1,hx377_2⟩:=at_T125 (Kd.R_reads' HO_17.out).2.2 x19_1 p377 q377
      cases e377
      replace p377:=eq_true p377
      replace q377:=eq_true q377
      go_wp2_with (first|(refine bv 6 #[.int .i64 0,.int .i64 0,.int .i64 0] 125 ?_;intro gb378 hg w18 hbox hb;obtain ⟨n3_,n5_⟩:=bx0 (hb2 GE368.out GE373.out) hb hg;have n0_:=Aside0.mk (Kd.R_below (Kd.R_elderB (kr HO_17.out) gb378 (Nat.le_of_eq hg.symm)) hb);obtain ⟨n1_,n7_,n8_⟩:=bx3 (qx BK368.out) hb hg;obtain ⟨n2_,n9_,n10_⟩:=bx3 (qx BK373.out) hb hg;have n4_:=Aside0.mk (hbox);clear HO_17;clear BK368;clear BK373;clear HB;have HO_17:=n0_;have BK368:=n1_;have BK373:=n2_;have HB:=n3_;have BK378:=n4_;have GW378:=n5_;have GE378:=n5_;have NB368_378:=n7_;have NB378_368:=n8_;have NB373_378:=n9_;have NB378_373:=n10_;clear n0_ n1_ n2_ n3_ n4_ n5_ n7_ n8_ n9_ n10_;clear hb hbox hg;have hnb19:=NB378_368.out;have hnc19:=NB368_378.out;have hnb20:=NB378_373.out;have hnc20:=NB373_378.out;obtain ⟨Z21_0,Z21_1,Z21_2,Y21_0,Y21_1,Y21_2⟩:=cel3 BK378.out;have hnb22:=NB368_373.out;have hnc22:=NB373_368.out;obtain ⟨Z23_0,Z23_1,Z23_2,Z23_3,Z23_4,Y23_0,Y23_1,Y23_2,Y23_3,Y23_4⟩:=cel5 BK368.out)|(go_at_call 107;(with_reducible refine (impl_bitsOf.calls a0_4 ((rd_T125 t374 x19_1).f0) ((rd_T125 t374 x19_1).f1) t379 _ A15.out).mono ?_);rintro e w' ⟨rfl,⟨nd,rfl⟩⟩;(try first|exact ⟨rfl,_,World.drewN_drewN _ _ _⟩|exact ⟨rfl,_,Eq.trans (World.drewN_drewN _ _ _) (congrArg (World.drewN _) (Nat.add_assoc _ _ _))⟩)))
      repeat (go_quiet (first|(refine bv 6 #[.int .i64 0,.int .i64 0,.int .i64 0] 125 ?_;intro gb378 hg w18 hbox hb;obtain ⟨n3_,n5_⟩:=bx0 (hb2 GE368.out GE373.out) hb hg;have n0_:=Aside0.mk (Kd.R_below (Kd.R_elderB (kr HO_17.out) gb378 (Nat.le_of_eq hg.symm)) hb);obtain ⟨n1_,n7_,n8_⟩:=bx3 (qx BK368.out) hb hg;obtain ⟨n2_,n9_,n10_⟩:=bx3 (qx BK373.out) hb hg;have n4_:=Aside0.mk (hbox);clear HO_17;clear BK368;clear BK373;clear HB;have HO_17:=n0_;have BK368:=n1_;have BK373:=n2_;have HB:=n3_;have BK378:=n4_;have GW378:=n5_;have GE378:=n5_;have NB368_378:=n7_;have NB378_368:=n8_;have NB373_378:=n9_;have NB378_373:=n10_;clear n0_ n1_ n2_ n3_ n4_ n5_ n7_ n8_ n9_ n10_;clear hb hbox hg;have hnb19:=NB378_368.out;have hnc19:=NB368_378.out;have hnb20:=NB378_373.out;have hnc20:=NB373_378.out;obtain ⟨Z21_0,Z21_1,Z21_2,Y21_0,Y21_1,Y21_2⟩:=cel3 BK378.out;have hnb22:=NB368_373.out;have hnc22:=NB373_368.out;obtain ⟨Z23_0,Z23_1,Z23_2,Z23_3,Z23_4,Y23_0,Y23_1,Y23_2,Y23_3,Y23_4⟩:=cel5 BK368.out)|(go_at_call 107;(with_reducible refine (impl_bitsOf.calls a0_4 ((rd_T125 t374 x19_1).f0) ((rd_T125 t374 x19_1).f1) t379 _ A15.out).mono ?_);rintro e w' ⟨rfl,⟨nd,rfl⟩⟩;(try first|exact ⟨rfl,_,World.drewN_drewN _ _ _⟩|exact ⟨rfl,_,Eq.trans (World.drewN_drewN _ _ _) (congrArg (World.drewN _) (Nat.add_assoc _ _ _))⟩)));try go_wp2_with (first|(refine bv 6 #[.int .i64 0,.int .i64 0,.int .i64 0] 125 ?_;intro gb378 hg w18 hbox hb;obtain ⟨n3_,n5_⟩:=bx0 (hb2 GE368.out GE373.out) hb hg;have n0_:=Aside0.mk (Kd.R_below (Kd.R_elderB (kr HO_17.out) gb378 (Nat.le_of_eq hg.symm)) hb);obtain ⟨n1_,n7_,n8_⟩:=bx3 (qx BK368.out) hb hg;obtain ⟨n2_,n9_,n10_⟩:=bx3 (qx BK373.out) hb hg;have n4_:=Aside0.mk (hbox);clear HO_17;clear BK368;clear BK373;clear HB;have HO_17:=n0_;have BK368:=n1_;have BK373:=n2_;have HB:=n3_;have BK378:=n4_;have GW378:=n5_;have GE378:=n5_;have NB368_378:=n7_;have NB378_368:=n8_;have NB373_378:=n9_;have NB378_373:=n10_;clear n0_ n1_ n2_ n3_ n4_ n5_ n7_ n8_ n9_ n10_;clear hb hbox hg;have hnb19:=NB378_368.out;have hnc19:=NB368_378.out;have hnb20:=NB378_373.out;have hnc20:=NB373_378.out;obtain ⟨Z21_0,Z21_1,Z21_2,Y21_0,Y21_1,Y21_2⟩:=cel3 BK378.out;have hnb22:=NB368_373.out;have hnc22:=NB373_368.out;obtain ⟨Z23_0,Z23_1,Z23_2,Z23_3,Z23_4,Y23_0,Y23_1,Y23_2,Y23_3,Y23_4⟩:=cel5 BK368.out)|(go_at_call 107;(with_reducible refine (impl_bitsOf.calls a0_4 ((rd_T125 t374 x19_1).f0) ((rd_T125 t374 x19_1).f1) t379 _ A15.out).mono ?_);rintro e w' ⟨rfl,⟨nd,rfl⟩⟩;(try first|exact ⟨rfl,_,World.drewN_drewN _ _ _⟩|exact ⟨rfl,_,Eq.trans (World.drewN_drewN _ _ _) (congrArg (World.drewN _) (Nat.add_assoc _ _ _))⟩))))
      go_roundg k1
      case measure=>have:=HK1.out;omega
      case rel=>exact ⟨(Go.bits .or .i64 x4_1 (ji17)),(wrap64 (x19_1+1)),(by first|rfl|(simp;done)|(simp only [← hji17]<;>(first|rfl|simp))|(simp [*];done)),rs,H',⟨by have:=HK1.out;omega⟩,⟨by (with_reducible repeat (first|apply Kd.R_alloc|apply Kd.R_drewN|apply Kd.R_drew));exact Kd.R_mono (Kd.R_far (p:=⟨gb378,2,none⟩) (Kd.R_far (p:=⟨gb378,1,none⟩) (Kd.R_far (p:=⟨gb378,0,none⟩) (Kd.R_mono HO_17.out (fun k_ hk=>(⟨hk,hk.2⟩:_∧k_≠gb378))) (fun _ hk=>hk.2) (.int .i64 ((rd_T125 t374 x19_1).f0))) (fun _ hk=>hk.2) (.int .i64 ((rd_T125 t374 x19_1).f1))) (fun _ hk=>hk.2) (.int .i64 ((rd_T125 t374 x19_1).f2))) (fun _ hk=>trivial)⟩,⟨by (with_reducible repeat first|apply Q1|apply Q2|apply Q3);refine blk_far ?_ NB368_378.out _;(with_reducible repeat first|apply Q1|apply Q2|apply Q3);refine blk_far ?_ NB368_378.out _;(with_reducible repeat first|apply Q1|apply Q2|apply Q3);refine blk_far ?_ NB368_378.out _;(with_reducible repeat first|apply Q1|apply Q2|apply Q3);exact BK368.out⟩,⟨by (with_reducible repeat first|apply Q1|apply Q2|apply Q3);refine blk_far ?_ NB373_378.out _;(with_reducible repeat first|apply Q1|apply Q2|apply Q3);refine blk_far ?_ NB373_378.out _;(with_reducible repeat first|apply Q1|apply Q2|apply Q3);refine blk_far ?_ NB373_378.out _;(with_reducible repeat first|apply Q1|apply Q2|apply Q3);exact BK373.out⟩,⟨hb3 GE368.out GE373.out GE378.out⟩⟩
     rw [if_neg c16] at H
     exact absurd H (by simp)
    rw [if_neg c14] at H
    exact absurd H (by simp)
   rw [if_neg c13] at H
   exact absurd H (by simp)
  rw [if_neg c12] at H
  have c12b0:decide (x19_1 < (t374.length:Int))=false:=decide_eq_false c12
  clear c12
  obtain ⟨⟨t380,t381,t382⟩,A24,H⟩:=bindA H
  try dsimp only at H
  have HC25:=Aside0.mk H
  clear H
  have hnb26:=NB373_368.out
  have hnc26:=NB368_373.out
  obtain ⟨Z27_0,Z27_1,Z27_2,Z27_3,Y27_0,Y27_1,Y27_2,Y27_3⟩:=cel4 BK373.out
  go_upto_if 43 with (first|(go_at_call 111;(with_reducible refine (impl_fields.calls k1 t369 t380 t381 t382 _ A24.out).mono ?_);rintro e w' ⟨rfl,⟨nd,rfl⟩⟩;(try first|exact ⟨rfl,_,World.drewN_drewN _ _ _⟩|exact ⟨rfl,_,Eq.trans (World.drewN_drewN _ _ _) (congrArg (World.drewN _) (Nat.add_assoc _ _ _))⟩)))
  repeat (go_quiet (first|(go_at_call 111;(with_reducible refine (impl_fields.calls k1 t369 t380 t381 t382 _ A24.out).mono ?_);rintro e w' ⟨rfl,⟨nd,rfl⟩⟩;(try first|exact ⟨rfl,_,World.drewN_drewN _ _ _⟩|exact ⟨rfl,_,Eq.trans (World.drewN_drewN _ _ _) (congrArg (World.drewN _) (Nat.add_assoc _ _ _))⟩)));go_upto_if 43 with (first|(go_at_call 111;(with_reducible refine (impl_fields.calls k1 t369 t380 t381 t382 _ A24.out).mono ?_);rintro e w' ⟨rfl,⟨nd,rfl⟩⟩;(try first|exact ⟨rfl,_,World.drewN_drewN _ _ _⟩|exact ⟨rfl,_,Eq.trans (World.drewN_drewN _ _ _) (congrArg (World.drewN _) (Nat.add_assoc _ _ _))⟩))))
  (try simp only [Act.put,List.setIfInBounds_toArray,List.set_cons_zero,List.set_cons_succ])
  go_cut [4] (fun v4 wc=>∃ (kq:Nat) (x4_24:Int),v4=.int .i64 x4_24∧Aside0 (impl_encode.j1 kq x4_24 t381 t382 a0_0 a0_1 a0_2 a0_3 a0_4 t369 t370 t371 t372=some r)∧Aside0 (kq≤k1)∧Aside0 (wc.heap[gb368]?=some (.cells #[.int .i64 a0_0,.int .i64 a0_1,.int .i64 a0_2,.int .i64 a0_3,.int .i64 a0_4] 86 (0,0)))∧Aside0 (wc.heap[gb373]?=some (.cells #[.int .i64 t369,.int .i64 t370,.int .i64 t371,.int .i64 t372] 109 (0,0)))∧Aside0 (Below w.heap.size w wc))
  case first=>
   have H:=HC25.out
   clear HC25
   by_cases c28:t380=true
   ·subst c28
    rw [if_pos rfl] at H
    have H':=Aside0.mk H
    clear H
    have hnb29:=NB368_373.out
    have hnc29:=NB373_368.out
    obtain ⟨Z30_0,Z30_1,Z30_2,Z30_3,Z30_4,Y30_0,Y30_1,Y30_2,Y30_3,Y30_4⟩:=cel5 BK368.out
    go_wp2
    repeat (go_quiet (fail);try go_wp2)
    go_meet
    case rel=>exact ⟨_,(Go.bits .or .i64 x4_1 (wrap64 (a0_1*128))),rs,H',⟨om HK1.out⟩,⟨qx BK368.out⟩,⟨qx BK373.out⟩,⟨hb2 GE368.out GE373.out⟩⟩
   replace c28:=Bool.eq_false_iff.mpr c28
   subst c28
   rw [if_neg (show ¬ (false=true) by decide)] at H
   have H':=Aside0.mk H
   clear H
   go_wp2
   repeat (go_quiet (fail);try go_wp2)
   go_meet
   case rel=>exact ⟨_,(x4_1),rs,H',⟨om HK1.out⟩,⟨qx BK368.out⟩,⟨qx BK373.out⟩,⟨hb2 GE368.out GE373.out⟩⟩
  clear HC25
  try clear c12b0
  try clear Z27_0
  try clear Z27_1
  try clear Z27_2
  try clear Z27_3
  try clear Y27_0
  try clear Y27_1
  try clear Y27_2
  try clear Y27_3
  obtain ⟨kq,x4_24,rfl,HA,HJ24,BK368,BK373,HB⟩:=hcut
  cases kq with
  | zero=>exact absurd HA.out (by simp [impl_encode.j1])
  | succ kj24 =>
   have H:=HA.out
   clear HA
   simp only [impl_encode.j1] at H
   have HC31:=Aside0.mk H
   clear H
   go_upto_if 49 with (fail)
   repeat (go_quiet (fail);go_upto_if 49 with (fail))
   go_cut [4] (fun v4 wc=>∃ (kq:Nat) (x4_30:Int),v4=.int .i64 x4_30∧Aside0 (impl_encode.j2 kq x4_30 t382 a0_0 a0_1 a0_2 a0_3 a0_4 t369 t370 t371 t372=some r)∧Aside0 (kq≤kj24)∧Aside0 (wc.heap[gb368]?=some (.cells #[.int .i64 a0_0,.int .i64 a0_1,.int .i64 a0_2,.int .i64 a0_3,.int .i64 a0_4] 86 (0,0)))∧Aside0 (wc.heap[gb373]?=some (.cells #[.int .i64 t369,.int .i64 t370,.int .i64 t371,.int .i64 t372] 109 (0,0)))∧Aside0 (Below w.heap.size w wc))
   case first=>
    have H:=HC31.out
    clear HC31
    by_cases c32:t381=true
    ·subst c32
     rw [if_pos rfl] at H
     have H':=Aside0.mk H
     clear H
     have hnb33:=NB368_373.out
     have hnc33:=NB373_368.out
     obtain ⟨Z34_0,Z34_1,Z34_2,Z34_3,Z34_4,Y34_0,Y34_1,Y34_2,Y34_3,Y34_4⟩:=cel5 BK368.out
     obtain ⟨Z35_0,Z35_1,Z35_2,Z35_3,Y35_0,Y35_1,Y35_2,Y35_3⟩:=cel4 BK373.out
     go_wp2
     repeat (go_quiet (fail);try go_wp2)
     go_meet
     case rel=>exact ⟨_,(Go.bits .or .i64 x4_24 (Go.bits .or .i64 (wrap64 (a0_2*32768)) (wrap64 (t371*4096)))),rs,H',⟨by have:=HK1.out;have:=HJ24.out;first|omega|exact Nat.le_refl _⟩,⟨qx BK368.out⟩,⟨qx BK373.out⟩,⟨hb2 GE368.out GE373.out⟩⟩
    replace c32:=Bool.eq_false_iff.mpr c32
    subst c32
    rw [if_neg (show ¬ (false=true) by decide)] at H
    have H':=Aside0.mk H
    clear H
    go_wp2
    repeat (go_quiet (fail);try go_wp2)
    go_meet
    case rel=>exact ⟨_,(x4_24),rs,H',⟨by have:=HK1.out;have:=HJ24.out;first|omega|exact Nat.le_refl _⟩,⟨qx BK368.out⟩,⟨qx BK373.out⟩,⟨hb2 GE368.out GE373.out⟩⟩
   clear HC31
   obtain ⟨kq,x4_30,rfl,HA,HJ30,BK368,BK373,HB⟩:=hcut
   cases kq with
   | zero=>exact absurd HA.out (by simp [impl_encode.j2])
   | succ kj30 =>
    have H:=HA.out
    clear HA
    simp only [impl_encode.j2] at H
    have HC36:=Aside0.mk H
    clear H
    go_upto_if 59 with (fail)
    repeat (go_quiet (fail);go_upto_if 59 with (fail))
    go_cut [4] (fun v4 wc=>∃ (kq:Nat) (x4_35:Int),v4=.int .i64 x4_35∧Aside0 (impl_encode.j3 kq x4_35 t369 t370 t371 t372=some r)∧Aside0 (kq≤kj30)∧Aside0 (wc.heap[gb368]?=some (.cells #[.int .i64 a0_0,.int .i64 a0_1,.int .i64 a0_2,.int .i64 a0_3,.int .i64 a0_4] 86 (0,0)))∧Aside0 (wc.heap[gb373]?=some (.cells #[.int .i64 t369,.int .i64 t370,.int .i64 t371,.int .i64 t372] 109 (0,0)))∧Aside0 (Below w.heap.size w wc))
    case first=>
     have H:=HC36.out
     clear HC36
     by_cases c37:t382=true
     ·subst c37
      rw [if_pos rfl] at H
      have H':=Aside0.mk H
      clear H
      have hnb38:=NB368_373.out
      have hnc38:=NB373_368.out
      obtain ⟨Z39_0,Z39_1,Z39_2,Z39_3,Z39_4,Y39_0,Y39_1,Y39_2,Y39_3,Y39_4⟩:=cel5 BK368.out
      go_wp2
      repeat (go_quiet (fail);try go_wp2)
      go_meet
      case rel=>exact ⟨_,(Go.bits .or .i64 x4_30 (wrap64 (a0_3*1048576))),rs,H',⟨by have:=HK1.out;have:=HJ24.out;have:=HJ30.out;first|omega|exact Nat.le_refl _⟩,⟨qx BK368.out⟩,⟨qx BK373.out⟩,⟨hb2 GE368.out GE373.out⟩⟩
     replace c37:=Bool.eq_false_iff.mpr c37
     subst c37
     rw [if_neg (show ¬ (false=true) by decide)] at H
     have H':=Aside0.mk H
     clear H
     go_wp2
     repeat (go_quiet (fail);try go_wp2)
     go_meet
     case rel=>exact ⟨_,(x4_30),rs,H',⟨by have:=HK1.out;have:=HJ24.out;have:=HJ30.out;first|omega|exact Nat.le_refl _⟩,⟨qx BK368.out⟩,⟨qx BK373.out⟩,⟨hb2 GE368.out GE373.out⟩⟩
    clear HC36
    obtain ⟨kq,x4_35,rfl,HA,HJ35,BK368,BK373,HB⟩:=hcut
    cases kq with
    | zero=>exact absurd HA.out (by simp [impl_encode.j3])
    | succ kj35 =>
     have H:=HA.out
     clear HA
     simp only [impl_encode.j3] at H
     by_cases c40:t369=6
     ·rw [if_pos c40] at H
      obtain ⟨c40b0,c40b1⟩:=eqP c40
      clear c40
      obtain rfl:=Option.some.inj H
      have hnb41:=NB373_368.out
      have hnc41:=NB368_373.out
      obtain ⟨Z42_0,Z42_1,Z42_2,Z42_3,Y42_0,Y42_1,Y42_2,Y42_3⟩:=cel4 BK373.out
      go_wp2
      repeat (go_quiet (fail);try go_wp2)
      go_ret
      exact ⟨rf,hb2 GE368.out GE373.out⟩
     rw [if_neg c40] at H
     obtain ⟨c40b0,c40b1⟩:=eqN c40
     have HC43:=Aside0.mk H
     clear H
     have hnb44:=NB373_368.out
     have hnc44:=NB368_373.out
     obtain ⟨Z45_0,Z45_1,Z45_2,Z45_3,Y45_0,Y45_1,Y45_2,Y45_3⟩:=cel4 BK373.out
     go_upto_if 75 with (fail)
     repeat (go_quiet (fail);go_upto_if 75 with (fail))
     go_cut [75] (fun v75 wc=>∃ (kq:Nat) (x75_42:Bool),v75=.bool x75_42∧Aside0 (impl_encode.j4 kq x4_35 t369 x75_42 t369 t370 t371 t372=some r)∧Aside0 (kq≤kj35)∧Aside0 (wc.heap[gb368]?=some (.cells #[.int .i64 a0_0,.int .i64 a0_1,.int .i64 a0_2,.int .i64 a0_3,.int .i64 a0_4] 86 (0,0)))∧Aside0 (wc.heap[gb373]?=some (.cells #[.int .i64 t369,.int .i64 t370,.int .i64 t371,.int .i64 t372] 109 (0,0)))∧Aside0 (Below w.heap.size w wc))
     case first=>
      have H:=HC43.out
      clear HC43
      by_cases c46:t369=7
      ·rw [if_pos c46] at H
       obtain ⟨c46b0,c46b1⟩:=eqP c46
       clear c46
       (first|rw [c46b0]|(simp only [i64_w,i32_w];rw [c46b0])|skip)
       have H':=Aside0.mk H
       clear H
       go_wp2
       repeat (go_quiet (fail);try go_wp2)
       go_meet
       case rel=>exact ⟨_,((t369==7)),rs,H',⟨by have:=HK1.out;have:=HJ24.out;have:=HJ30.out;have:=HJ35.out;first|omega|exact Nat.le_refl _⟩,⟨qx BK368.out⟩,⟨qx BK373.out⟩,⟨hb2 GE368.out GE373.out⟩⟩
      rw [if_neg c46] at H
      obtain ⟨c46b0,c46b1⟩:=eqN c46
      (first|rw [c46b0]|(simp only [i64_w,i32_w];rw [c46b0])|skip)
      have H':=Aside0.mk H
      clear H
      go_wp2
      repeat (go_quiet (fail);try go_wp2)
      go_meet
      case rel=>exact ⟨_,((t369==8)),rs,H',⟨by have:=HK1.out;have:=HJ24.out;have:=HJ30.out;have:=HJ35.out;first|omega|exact Nat.le_refl _⟩,⟨qx BK368.out⟩,⟨qx BK373.out⟩,⟨hb2 GE368.out GE373.out⟩⟩
     clear HC43
     try clear c40
     try clear c40b0 c40b1
     try clear Z45_0
     try clear Z45_1
     try clear Z45_2
     try clear Z45_3
     try clear Y45_0
     try clear Y45_1
     try clear Y45_2
     try clear Y45_3
     obtain ⟨kq,x75_42,rfl,HA,HJ42,BK368,BK373,HB⟩:=hcut
     cases kq with
     | zero=>exact absurd HA.out (by simp [impl_encode.j4])
     | succ kj42 =>
      have H:=HA.out
      clear HA
      simp only [impl_encode.j4] at H
      by_cases c47:x75_42=true
      ·subst c47
       rw [if_pos rfl] at H
       obtain rfl:=Option.some.inj H
       have hnb48:=NB373_368.out
       have hnc48:=NB368_373.out
       obtain ⟨Z49_0,Z49_1,Z49_2,Z49_3,Y49_0,Y49_1,Y49_2,Y49_3⟩:=cel4 BK373.out
       go_wp2
       repeat (go_quiet (fail);try go_wp2)
       go_ret
       exact ⟨rf,hb2 GE368.out GE373.out⟩
      replace c47:=Bool.eq_false_iff.mpr c47
      subst c47
      rw [if_neg (show ¬ (false=true) by decide)] at H
      by_cases c50:t369=9
      ·rw [if_pos c50] at H
       obtain ⟨c50b0,c50b1⟩:=eqP c50
       clear c50
       obtain rfl:=Option.some.inj H
       have hnb51:=NB373_368.out
       have hnc51:=NB368_373.out
       obtain ⟨Z52_0,Z52_1,Z52_2,Z52_3,Y52_0,Y52_1,Y52_2,Y52_3⟩:=cel4 BK373.out
       go_wp2
       repeat (go_quiet (fail);try go_wp2)
       go_ret
       exact ⟨rf,hb2 GE368.out GE373.out⟩
      rw [if_neg c50] at H
      obtain ⟨c50b0,c50b1⟩:=eqN c50
      obtain rfl:=Option.some.inj H
      go_wp2
      repeat (go_quiet (fail);try go_wp2)
      go_ret
      exact ⟨rf,hb2 GE368.out GE373.out⟩
end Go.Proofs.Ythepmdlpjdlajaa.PFnExactLintImage
