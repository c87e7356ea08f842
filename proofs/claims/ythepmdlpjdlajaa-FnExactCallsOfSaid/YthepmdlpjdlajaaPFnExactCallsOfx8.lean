/- The walk of FnExactCallsOf: each Go function that the law reaches as a plain Lean function, with the proof that a call does what it says; no conditions. Written by a program for this claim. -/
import Derived.Test.YthepmdlpjdlajaaPFnExactCallsOfx0
import Derived.Test.YthepmdlpjdlajaaPFnExactCallsOfx6
import Derived.Test.YthepmdlpjdlajaaPFnExactCallsOfx7
namespace Go.Proofs.Ythepmdlpjdlajaa.PFnExactCallsOf
open Go.RowKit Go.Proofs.YthepmdlpjdlajaaW.PrintWords Go.Proofs.YthepmdlpjdlajaaW.PrintLast Go.Proofs.YthepmdlpjdlajaaW.PrintMore
attribute [local go_sem] max2_int min2_int max_two min_two max_three min_three max_four min_four   -- for this text's walks alone
set_option linter.unusedVariables false
set_option linter.unusedSimpArgs false
mutual
def impl_encode.l0:Nat→Int→List (S125)→Int→Int→Int→Int→Int→Int→Int→Int→Int→Int→Int→Option (Int)
  | 0,_,_,_,_,_,_,_,_,_,_,_,_,_=>none
  | k+1,x4,x17,x18,x19,x320000,x320001,x320002,x320003,x320004,x325000,x325001,x325002,x325003=>if x19 < x18 then (if 0≤x19 then (if x19 < (x17.length:Int) then ((impl_bitsOf.f x320004 ((rd_T125 x17 x19).f0) ((rd_T125 x17 x19).f1)).bind fun t330=>(if 0≤((rd_T125 x17 x19).f2) then (impl_encode.l0 k (Go.bits .or .i64 x4 (shl .i64 t330 ((rd_T125 x17 x19).f2))) x17 x18 (wrap64 (x19+1)) x320000 x320001 x320002 x320003 x320004 x325000 x325001 x325002 x325003) else (none))) else (none)) else (none)) else ((impl_fields.f k x325000).bind fun bt331=>(if bt331.1=true then (impl_encode.j1 k (Go.bits .or .i64 x4 (wrap64 (x320001*128))) bt331.2.1 bt331.2.2 x320000 x320001 x320002 x320003 x320004 x325000 x325001 x325002 x325003) else (impl_encode.j1 k x4 bt331.2.1 bt331.2.2 x320000 x320001 x320002 x320003 x320004 x325000 x325001 x325002 x325003)))
def impl_encode.j1:Nat→Int→Bool→Bool→Int→Int→Int→Int→Int→Int→Int→Int→Int→Option (Int)
  | 0,_,_,_,_,_,_,_,_,_,_,_,_=>none
  | k+1,x4,x8,x9,x320000,x320001,x320002,x320003,x320004,x325000,x325001,x325002,x325003=>if x8=true then (impl_encode.j2 k (Go.bits .or .i64 x4 (Go.bits .or .i64 (wrap64 (x320002*32768)) (wrap64 (x325002*4096)))) x9 x320000 x320001 x320002 x320003 x320004 x325000 x325001 x325002 x325003) else (impl_encode.j2 k x4 x9 x320000 x320001 x320002 x320003 x320004 x325000 x325001 x325002 x325003)
def impl_encode.j2:Nat→Int→Bool→Int→Int→Int→Int→Int→Int→Int→Int→Int→Option (Int)
  | 0,_,_,_,_,_,_,_,_,_,_,_=>none
  | k+1,x4,x9,x320000,x320001,x320002,x320003,x320004,x325000,x325001,x325002,x325003=>if x9=true then (impl_encode.j3 k (Go.bits .or .i64 x4 (wrap64 (x320003*1048576))) x325000 x325001 x325002 x325003) else (impl_encode.j3 k x4 x325000 x325001 x325002 x325003)
def impl_encode.j3:Nat→Int→Int→Int→Int→Int→Option (Int)
  | 0,_,_,_,_,_=>none
  | k+1,x4,x325000,x325001,x325002,x325003=>if x325000=6 then (some (Go.bits .or .i64 x4 (wrap64 ((x325003 / 2)*67108864)))) else (if x325000=7 then (impl_encode.j4 k x4 x325000 (x325000==7) x325000 x325001 x325002 x325003) else (impl_encode.j4 k x4 x325000 (x325000==8) x325000 x325001 x325002 x325003))
def impl_encode.j4:Nat→Int→Int→Bool→Int→Int→Int→Int→Option (Int)
  | 0,_,_,_,_,_,_,_=>none
  | k+1,x4,x66,x75,x325000,x325001,x325002,x325003=>if x75=true then (some (Go.bits .or .i64 x4 (wrap64 (x325003*33554432)))) else (if x66=9 then (some (Go.bits .or .i64 x4 (wrap64 (x325003*1048576)))) else (some x4))
end
def impl_encode.f (k:Nat) (a0_0:Int) (a0_1:Int) (a0_2:Int) (a0_3:Int) (a0_4:Int):Option (Int):=(impl_shapeOf.f a0_0).bind fun bt320=>((impl_pieces.f bt320.1).bind fun t325=>(impl_encode.l0 k bt320.2.1 t325 (t325.length:Int) 0 a0_0 a0_1 a0_2 a0_3 a0_4 bt320.1 bt320.2.1 bt320.2.2.1 bt320.2.2.2))
theorem impl_encode.mono_l : ∀ k,(∀ y0 y1 y2 y3 y4 y5 y6 y7 y8 y9 y10 y11 y12,LeO (impl_encode.l0 k y0 y1 y2 y3 y4 y5 y6 y7 y8 y9 y10 y11 y12) (impl_encode.l0 (k+1) y0 y1 y2 y3 y4 y5 y6 y7 y8 y9 y10 y11 y12))∧(∀ y0 y1 y2 y3 y4 y5 y6 y7 y8 y9 y10 y11,LeO (impl_encode.j1 k y0 y1 y2 y3 y4 y5 y6 y7 y8 y9 y10 y11) (impl_encode.j1 (k+1) y0 y1 y2 y3 y4 y5 y6 y7 y8 y9 y10 y11))∧(∀ y0 y1 y2 y3 y4 y5 y6 y7 y8 y9 y10,LeO (impl_encode.j2 k y0 y1 y2 y3 y4 y5 y6 y7 y8 y9 y10) (impl_encode.j2 (k+1) y0 y1 y2 y3 y4 y5 y6 y7 y8 y9 y10))∧(∀ y0 y1 y2 y3 y4,LeO (impl_encode.j3 k y0 y1 y2 y3 y4) (impl_encode.j3 (k+1) y0 y1 y2 y3 y4))∧(∀ y0 y1 y2 y3 y4 y5 y6,LeO (impl_encode.j4 k y0 y1 y2 y3 y4 y5 y6) (impl_encode.j4 (k+1) y0 y1 y2 y3 y4 y5 y6))
  | 0=>⟨fun _ _ _ _ _ _ _ _ _ _ _ _ _ r h=>by simp [impl_encode.l0] at h,fun _ _ _ _ _ _ _ _ _ _ _ _ r h=>by simp [impl_encode.j1] at h,fun _ _ _ _ _ _ _ _ _ _ _ r h=>by simp [impl_encode.j2] at h,fun _ _ _ _ _ r h=>by simp [impl_encode.j3] at h,fun _ _ _ _ _ _ _ r h=>by simp [impl_encode.j4] at h⟩
  | k+1=>by
    obtain ⟨ih0,ih1,ih2,ih3,ih4⟩:=impl_encode.mono_l k
    refine ⟨?_,?_,?_,?_,?_⟩<;>intros<;>(first|unfold impl_encode.l0|unfold impl_encode.j1|unfold impl_encode.j2|unfold impl_encode.j3|unfold impl_encode.j4)<;>repeat' (with_reducible first|apply ih0|apply ih1|apply ih2|apply ih3|apply ih4|apply impl_fields.mono|apply LeO.refl|apply LeO.none|apply LeO.ite|refine LeO.bind ?_ (fun _=>?_))
theorem impl_encode.mono : ∀ a0 a1 a2 a3 a4 k,LeO (impl_encode.f k a0 a1 a2 a3 a4) (impl_encode.f (k+1) a0 a1 a2 a3 a4):=by
 intro a0 a1 a2 a3 a4 k
 obtain ⟨ih0,ih1,ih2,ih3,ih4⟩:=impl_encode.mono_l k
 unfold impl_encode.f
 repeat' (with_reducible first|apply ih0|apply ih1|apply ih2|apply ih3|apply ih4|apply impl_fields.mono|apply LeO.refl|apply LeO.none|apply LeO.ite|refine LeO.bind ?_ (fun _=>?_))
set_option maxHeartbeats 8000000 in
set_option maxRecDepth 100000 in
theorem impl_encode.calls (k:Nat) (a0_0:Int) (a0_1:Int) (a0_2:Int) (a0_3:Int) (a0_4:Int) (r:Int) (w:World) (h:impl_encode.f k a0_0 a0_1 a0_2 a0_3 a0_4=some r) :
    Calls Try.prog 112 #[.agg #[.int .i64 a0_0,.int .i64 a0_1,.int .i64 a0_2,.int .i64 a0_3,.int .i64 a0_4]] w fun e w'=>e=.returned (.int .i64 r)∧Below w.heap.size w w':=by
 have hu86:=Try.underlying86
 have hu109:=Try.underlying109
 have hu125:=Try.underlying125
 have HB:=Aside0.mk (Below.refl w.heap.size w)
 have H:((impl_shapeOf.f a0_0).bind fun bt320=>((impl_pieces.f bt320.1).bind fun t325=>(impl_encode.l0 k bt320.2.1 t325 (t325.length:Int) 0 a0_0 a0_1 a0_2 a0_3 a0_4 bt320.1 bt320.2.1 bt320.2.2.1 bt320.2.2.2)))=some r:=h
 clear h
 obtain ⟨⟨t320,t321,t322,t323⟩,A2,H⟩:=bindA H
 try dsimp only at H
 obtain ⟨t325,A3,H⟩:=bindA H
 have H':=Aside0.mk H
 clear H
 go_enter Try.func112,Try.ntmps112
 go_wp2_with (first|((with_reducible refine gate_dst (N:=1) rfl ?_);refine box_event ?hg (N:=1) ?hd (cs:=#[.int .i64 a0_0,.int .i64 a0_1,.int .i64 a0_2,.int .i64 a0_3,.int .i64 a0_4]) (t:=86) ?hr ?_;(case hd=>rfl);(case hg=>rfl);(case hr=>first|(go_simp;done)|(go_simp;rfl));intro gb319 hg w4 hbox hb;have n0_:=Aside0.mk (below_step (by repeat (with_reducible first|exact HB.out|apply Q4|apply Q5|apply Q6)) hb);have n1_:=Aside0.mk (hbox);have n2_:=Aside0.mk ((by rw [hg];exact (below_size (by repeat (with_reducible first|exact HB.out|apply Q4|apply Q5|apply Q6))):w.heap.size≤gb319));have n3_:=Aside0.mk ((by rw [hg];exact (below_size (by repeat (with_reducible first|exact HB.out|apply Q4|apply Q5|apply Q6))):w.heap.size≤gb319));clear HB;have HB:=n0_;have BK319:=n1_;have GW319:=n2_;have GE319:=n3_;clear n0_ n1_ n2_ n3_;clear hb hbox hg;have hcz5_0:w4.cell? ⟨gb319,0,none⟩=some (.int .i64 a0_0):=(blk_cell BK319.out 0).trans rfl;have hcz5_1:w4.cell? ⟨gb319,1,none⟩=some (.int .i64 a0_1):=(blk_cell BK319.out 1).trans rfl;have hcz5_2:w4.cell? ⟨gb319,2,none⟩=some (.int .i64 a0_2):=(blk_cell BK319.out 2).trans rfl;have hcz5_3:w4.cell? ⟨gb319,3,none⟩=some (.int .i64 a0_3):=(blk_cell BK319.out 3).trans rfl;have hcz5_4:w4.cell? ⟨gb319,4,none⟩=some (.int .i64 a0_4):=(blk_cell BK319.out 4).trans rfl;have hfz5_0:=blk_frozen BK319.out 0;have hfz5_1:=blk_frozen BK319.out 1;have hfz5_2:=blk_frozen BK319.out 2;have hfz5_3:=blk_frozen BK319.out 3;have hfz5_4:=blk_frozen BK319.out 4)|(go_at_call 133;(with_reducible refine (impl_shapeOf.calls a0_0 t320 t321 t322 t323 _ A2.out).mono ?_);rintro e w6 ⟨rfl,hb⟩;have n0_:=Aside0.mk (blk_below (g:=gb319) (o:=.cells #[.int .i64 a0_0,.int .i64 a0_1,.int .i64 a0_2,.int .i64 a0_3,.int .i64 a0_4] 86 (0,0)) (by (with_reducible repeat first|apply Q1|apply Q2|apply Q3);exact BK319.out) hb);have n1_:=Aside0.mk (below_step (by repeat (with_reducible first|exact HB.out|apply Q4|apply Q5|apply Q6|apply Q7 GE319.out)) hb);clear BK319;clear HB;have BK319:=n0_;have HB:=n1_;clear n0_ n1_;(try clear hb);(try clear hb2);(try clear hk);(try clear hi))|((with_reducible refine gate_dst (N:=3) rfl ?_);refine box_event ?hg (N:=3) ?hd (cs:=#[.int .i64 0,.int .i64 0,.int .i64 0,.int .i64 0]) (t:=109) ?hr ?_;(case hd=>rfl);(case hg=>rfl);(case hr=>first|(go_simp;done)|(go_simp;rfl));intro gb324 hg w7 hbox hb;have n0_:=Aside0.mk (blk_below (g:=gb319) (o:=.cells #[.int .i64 a0_0,.int .i64 a0_1,.int .i64 a0_2,.int .i64 a0_3,.int .i64 a0_4] 86 (0,0)) (by (with_reducible repeat first|apply Q1|apply Q2|apply Q3);exact BK319.out) hb);have n1_:=Aside0.mk (below_step (by repeat (with_reducible first|exact HB.out|apply Q4|apply Q5|apply Q6|apply Q7 GE319.out)) hb);have n2_:=Aside0.mk (hbox);have n3_:=Aside0.mk ((by rw [hg];exact (below_size (by repeat (with_reducible first|exact HB.out|apply Q4|apply Q5|apply Q6|apply Q7 GE319.out))):w.heap.size≤gb324));have n4_:=Aside0.mk ((by rw [hg];exact (below_size (by repeat (with_reducible first|exact HB.out|apply Q4|apply Q5|apply Q6|apply Q7 GE319.out))):w.heap.size≤gb324));have n5_:=Aside0.mk ((by rw [hg];exact Nat.ne_of_lt (blk_lt (g:=gb319) (o:=.cells #[.int .i64 a0_0,.int .i64 a0_1,.int .i64 a0_2,.int .i64 a0_3,.int .i64 a0_4] 86 (0,0)) (by (with_reducible repeat first|apply Q1|apply Q2|apply Q3);exact BK319.out)):gb319≠gb324));have n6_:=Aside0.mk ((by rw [hg];exact Nat.ne_of_gt (blk_lt (g:=gb319) (o:=.cells #[.int .i64 a0_0,.int .i64 a0_1,.int .i64 a0_2,.int .i64 a0_3,.int .i64 a0_4] 86 (0,0)) (by (with_reducible repeat first|apply Q1|apply Q2|apply Q3);exact BK319.out)):gb324≠gb319));clear BK319;clear HB;have BK319:=n0_;have HB:=n1_;have BK324:=n2_;have GW324:=n3_;have GE324:=n4_;have NB319_324:=n5_;have NB324_319:=n6_;clear n0_ n1_ n2_ n3_ n4_ n5_ n6_;clear hb hbox hg;have hnb8:=NB324_319.out;have hnc8:=NB319_324.out;have hcz9_0:w7.cell? ⟨gb324,0,none⟩=some (.int .i64 0):=(blk_cell BK324.out 0).trans rfl;have hcz9_1:w7.cell? ⟨gb324,1,none⟩=some (.int .i64 0):=(blk_cell BK324.out 1).trans rfl;have hcz9_2:w7.cell? ⟨gb324,2,none⟩=some (.int .i64 0):=(blk_cell BK324.out 2).trans rfl;have hcz9_3:w7.cell? ⟨gb324,3,none⟩=some (.int .i64 0):=(blk_cell BK324.out 3).trans rfl;have hfz9_0:=blk_frozen BK324.out 0;have hfz9_1:=blk_frozen BK324.out 1;have hfz9_2:=blk_frozen BK324.out 2;have hfz9_3:=blk_frozen BK324.out 3)|(go_at_call 108;(with_reducible refine (impl_pieces.calls t320 t325 _ A3.out).mono ?_);rintro e w10 ⟨v326,rfl,ho0,hb⟩;have n0_:=Aside0.mk (Kd.R_lower ho0 (below_size (by repeat (with_reducible first|exact HB.out|apply Q4|apply Q5|apply Q6|apply Q7 GE319.out|apply Q7 GE324.out))));have n1_:=Aside0.mk (blk_below (g:=gb319) (o:=.cells #[.int .i64 a0_0,.int .i64 a0_1,.int .i64 a0_2,.int .i64 a0_3,.int .i64 a0_4] 86 (0,0)) (by (with_reducible repeat first|apply Q1|apply Q2|apply Q3);refine blk_far ?_ NB319_324.out _;(with_reducible repeat first|apply Q1|apply Q2|apply Q3);refine blk_far ?_ NB319_324.out _;(with_reducible repeat first|apply Q1|apply Q2|apply Q3);refine blk_far ?_ NB319_324.out _;(with_reducible repeat first|apply Q1|apply Q2|apply Q3);refine blk_far ?_ NB319_324.out _;(with_reducible repeat first|apply Q1|apply Q2|apply Q3);exact BK319.out) hb);have n2_:=Aside0.mk (blk_below (g:=gb324) (o:=.cells #[.int .i64 t320,.int .i64 t321,.int .i64 t322,.int .i64 t323] 109 (0,0)) (by (with_reducible repeat first|apply Q1|apply Q2|apply Q3);refine blk_put (cs:=#[.int .i64 t320,.int .i64 t321,.int .i64 t322,.int .i64 0]) ?_ 3 _ rfl;(with_reducible repeat first|apply Q1|apply Q2|apply Q3);refine blk_put (cs:=#[.int .i64 t320,.int .i64 t321,.int .i64 0,.int .i64 0]) ?_ 2 _ rfl;(with_reducible repeat first|apply Q1|apply Q2|apply Q3);refine blk_put (cs:=#[.int .i64 t320,.int .i64 0,.int .i64 0,.int .i64 0]) ?_ 1 _ rfl;(with_reducible repeat first|apply Q1|apply Q2|apply Q3);refine blk_put (cs:=#[.int .i64 0,.int .i64 0,.int .i64 0,.int .i64 0]) ?_ 0 _ rfl;(with_reducible repeat first|apply Q1|apply Q2|apply Q3);exact BK324.out) hb);have n3_:=Aside0.mk (below_step (by repeat (with_reducible first|exact HB.out|apply Q4|apply Q5|apply Q6|apply Q7 GE319.out|apply Q7 GE324.out)) hb);clear BK319;clear BK324;clear HB;have HO327:=n0_;have BK319:=n1_;have BK324:=n2_;have HB:=n3_;clear n0_ n1_ n2_ n3_;(try clear hb);(try clear hb2);(try clear hk);(try clear hi);(try clear ho0);obtain ⟨Ao11,co11,eo11⟩:=Kd.R_slice HO327.out;subst eo11))
 repeat (go_quiet (first|((with_reducible refine gate_dst (N:=1) rfl ?_);refine box_event ?hg (N:=1) ?hd (cs:=#[.int .i64 a0_0,.int .i64 a0_1,.int .i64 a0_2,.int .i64 a0_3,.int .i64 a0_4]) (t:=86) ?hr ?_;(case hd=>rfl);(case hg=>rfl);(case hr=>first|(go_simp;done)|(go_simp;rfl));intro gb319 hg w4 hbox hb;have n0_:=Aside0.mk (below_step (by repeat (with_reducible first|exact HB.out|apply Q4|apply Q5|apply Q6)) hb);have n1_:=Aside0.mk (hbox);have n2_:=Aside0.mk ((by rw [hg];exact (below_size (by repeat (with_reducible first|exact HB.out|apply Q4|apply Q5|apply Q6))):w.heap.size≤gb319));have n3_:=Aside0.mk ((by rw [hg];exact (below_size (by repeat (with_reducible first|exact HB.out|apply Q4|apply Q5|apply Q6))):w.heap.size≤gb319));clear HB;have HB:=n0_;have BK319:=n1_;have GW319:=n2_;have GE319:=n3_;clear n0_ n1_ n2_ n3_;clear hb hbox hg;have hcz5_0:w4.cell? ⟨gb319,0,none⟩=some (.int .i64 a0_0):=(blk_cell BK319.out 0).trans rfl;have hcz5_1:w4.cell? ⟨gb319,1,none⟩=some (.int .i64 a0_1):=(blk_cell BK319.out 1).trans rfl;have hcz5_2:w4.cell? ⟨gb319,2,none⟩=some (.int .i64 a0_2):=(blk_cell BK319.out 2).trans rfl;have hcz5_3:w4.cell? ⟨gb319,3,none⟩=some (.int .i64 a0_3):=(blk_cell BK319.out 3).trans rfl;have hcz5_4:w4.cell? ⟨gb319,4,none⟩=some (.int .i64 a0_4):=(blk_cell BK319.out 4).trans rfl;have hfz5_0:=blk_frozen BK319.out 0;have hfz5_1:=blk_frozen BK319.out 1;have hfz5_2:=blk_frozen BK319.out 2;have hfz5_3:=blk_frozen BK319.out 3;have hfz5_4:=blk_frozen BK319.out 4)|(go_at_call 133;(with_reducible refine (impl_shapeOf.calls a0_0 t320 t321 t322 t323 _ A2.out).mono ?_);rintro e w6 ⟨rfl,hb⟩;have n0_:=Aside0.mk (blk_below (g:=gb319) (o:=.cells #[.int .i64 a0_0,.int .i64 a0_1,.int .i64 a0_2,.int .i64 a0_3,.int .i64 a0_4] 86 (0,0)) (by (with_reducible repeat first|apply Q1|apply Q2|apply Q3);exact BK319.out) hb);have n1_:=Aside0.mk (below_step (by repeat (with_reducible first|exact HB.out|apply Q4|apply Q5|apply Q6|apply Q7 GE319.out)) hb);clear BK319;clear HB;have BK319:=n0_;have HB:=n1_;clear n0_ n1_;(try clear hb);(try clear hb2);(try clear hk);(try clear hi))|((with_reducible refine gate_dst (N:=3) rfl ?_);refine box_event ?hg (N:=3) ?hd (cs:=#[.int .i64 0,.int .i64 0,.int .i64 0,.int .i64 0]) (t:=109) ?hr ?_;(case hd=>rfl);(case hg=>rfl);(case hr=>first|(go_simp;done)|(go_simp;rfl));intro gb324 hg w7 hbox hb;have n0_:=Aside0.mk (blk_below (g:=gb319) (o:=.cells #[.int .i64 a0_0,.int .i64 a0_1,.int .i64 a0_2,.int .i64 a0_3,.int .i64 a0_4] 86 (0,0)) (by (with_reducible repeat first|apply Q1|apply Q2|apply Q3);exact BK319.out) hb);have n1_:=Aside0.mk (below_step (by repeat (with_reducible first|exact HB.out|apply Q4|apply Q5|apply Q6|apply Q7 GE319.out)) hb);have n2_:=Aside0.mk (hbox);have n3_:=Aside0.mk ((by rw [hg];exact (below_size (by repeat (with_reducible first|exact HB.out|apply Q4|apply Q5|apply Q6|apply Q7 GE319.out))):w.heap.size≤gb324));have n4_:=Aside0.mk ((by rw [hg];exact (below_size (by repeat (with_reducible first|exact HB.out|apply Q4|apply Q5|apply Q6|apply Q7 GE319.out))):w.heap.size≤gb324));have n5_:=Aside0.mk ((by rw [hg];exact Nat.ne_of_lt (blk_lt (g:=gb319) (o:=.cells #[.int .i64 a0_0,.int .i64 a0_1,.int .i64 a0_2,.int .i64 a0_3,.int .i64 a0_4] 86 (0,0)) (by (with_reducible repeat first|apply Q1|apply Q2|apply Q3);exact BK319.out)):gb319≠gb324));have n6_:=Aside0.mk ((by rw [hg];exact Nat.ne_of_gt (blk_lt (g:=gb319) (o:=.cells #[.int .i64 a0_0,.int .i64 a0_1,.int .i64 a0_2,.int .i64 a0_3,.int .i64 a0_4] 86 (0,0)) (by (with_reducible repeat first|apply Q1|apply Q2|apply Q3);exact BK319.out)):gb324≠gb319));clear BK319;clear HB;have BK319:=n0_;have HB:=n1_;have BK324:=n2_;have GW324:=n3_;have GE324:=n4_;have NB319_324:=n5_;have NB324_319:=n6_;clear n0_ n1_ n2_ n3_ n4_ n5_ n6_;clear hb hbox hg;have hnb8:=NB324_319.out;have hnc8:=NB319_324.out;have hcz9_0:w7.cell? ⟨gb324,0,none⟩=some (.int .i64 0):=(blk_cell BK324.out 0).trans rfl;have hcz9_1:w7.cell? ⟨gb324,1,none⟩=some (.int .i64 0):=(blk_cell BK324.out 1).trans rfl;have hcz9_2:w7.cell? ⟨gb324,2,none⟩=some (.int .i64 0):=(blk_cell BK324.out 2).trans rfl;have hcz9_3:w7.cell? ⟨gb324,3,none⟩=some (.int .i64 0):=(blk_cell BK324.out 3).trans rfl;have hfz9_0:=blk_frozen BK324.out 0;have hfz9_1:=blk_frozen BK324.out 1;have hfz9_2:=blk_frozen BK324.out 2;have hfz9_3:=blk_frozen BK324.out 3)|(go_at_call 108;(with_reducible refine (impl_pieces.calls t320 t325 _ A3.out).mono ?_);rintro e w10 ⟨v326,rfl,ho0,hb⟩;have n0_:=Aside0.mk (Kd.R_lower ho0 (below_size (by repeat (with_reducible first|exact HB.out|apply Q4|apply Q5|apply Q6|apply Q7 GE319.out|apply Q7 GE324.out))));have n1_:=Aside0.mk (blk_below (g:=gb319) (o:=.cells #[.int .i64 a0_0,.int .i64 a0_1,.int .i64 a0_2,.int .i64 a0_3,.int .i64 a0_4] 86 (0,0)) (by (with_reducible repeat first|apply Q1|apply Q2|apply Q3);refine blk_far ?_ NB319_324.out _;(with_reducible repeat first|apply Q1|apply Q2|apply Q3);refine blk_far ?_ NB319_324.out _;(with_reducible repeat first|apply Q1|apply Q2|apply Q3);refine blk_far ?_ NB319_324.out _;(with_reducible repeat first|apply Q1|apply Q2|apply Q3);refine blk_far ?_ NB319_324.out _;(with_reducible repeat first|apply Q1|apply Q2|apply Q3);exact BK319.out) hb);have n2_:=Aside0.mk (blk_below (g:=gb324) (o:=.cells #[.int .i64 t320,.int .i64 t321,.int .i64 t322,.int .i64 t323] 109 (0,0)) (by (with_reducible repeat first|apply Q1|apply Q2|apply Q3);refine blk_put (cs:=#[.int .i64 t320,.int .i64 t321,.int .i64 t322,.int .i64 0]) ?_ 3 _ rfl;(with_reducible repeat first|apply Q1|apply Q2|apply Q3);refine blk_put (cs:=#[.int .i64 t320,.int .i64 t321,.int .i64 0,.int .i64 0]) ?_ 2 _ rfl;(with_reducible repeat first|apply Q1|apply Q2|apply Q3);refine blk_put (cs:=#[.int .i64 t320,.int .i64 0,.int .i64 0,.int .i64 0]) ?_ 1 _ rfl;(with_reducible repeat first|apply Q1|apply Q2|apply Q3);refine blk_put (cs:=#[.int .i64 0,.int .i64 0,.int .i64 0,.int .i64 0]) ?_ 0 _ rfl;(with_reducible repeat first|apply Q1|apply Q2|apply Q3);exact BK324.out) hb);have n3_:=Aside0.mk (below_step (by repeat (with_reducible first|exact HB.out|apply Q4|apply Q5|apply Q6|apply Q7 GE319.out|apply Q7 GE324.out)) hb);clear BK319;clear BK324;clear HB;have HO327:=n0_;have BK319:=n1_;have BK324:=n2_;have HB:=n3_;clear n0_ n1_ n2_ n3_;(try clear hb);(try clear hb2);(try clear hk);(try clear hi);(try clear ho0);obtain ⟨Ao11,co11,eo11⟩:=Kd.R_slice HO327.out;subst eo11));try go_wp2_with (first|((with_reducible refine gate_dst (N:=1) rfl ?_);refine box_event ?hg (N:=1) ?hd (cs:=#[.int .i64 a0_0,.int .i64 a0_1,.int .i64 a0_2,.int .i64 a0_3,.int .i64 a0_4]) (t:=86) ?hr ?_;(case hd=>rfl);(case hg=>rfl);(case hr=>first|(go_simp;done)|(go_simp;rfl));intro gb319 hg w4 hbox hb;have n0_:=Aside0.mk (below_step (by repeat (with_reducible first|exact HB.out|apply Q4|apply Q5|apply Q6)) hb);have n1_:=Aside0.mk (hbox);have n2_:=Aside0.mk ((by rw [hg];exact (below_size (by repeat (with_reducible first|exact HB.out|apply Q4|apply Q5|apply Q6))):w.heap.size≤gb319));have n3_:=Aside0.mk ((by rw [hg];exact (below_size (by repeat (with_reducible first|exact HB.out|apply Q4|apply Q5|apply Q6))):w.heap.size≤gb319));clear HB;have HB:=n0_;have BK319:=n1_;have GW319:=n2_;have GE319:=n3_;clear n0_ n1_ n2_ n3_;clear hb hbox hg;have hcz5_0:w4.cell? ⟨gb319,0,none⟩=some (.int .i64 a0_0):=(blk_cell BK319.out 0).trans rfl;have hcz5_1:w4.cell? ⟨gb319,1,none⟩=some (.int .i64 a0_1):=(blk_cell BK319.out 1).trans rfl;have hcz5_2:w4.cell? ⟨gb319,2,none⟩=some (.int .i64 a0_2):=(blk_cell BK319.out 2).trans rfl;have hcz5_3:w4.cell? ⟨gb319,3,none⟩=some (.int .i64 a0_3):=(blk_cell BK319.out 3).trans rfl;have hcz5_4:w4.cell? ⟨gb319,4,none⟩=some (.int .i64 a0_4):=(blk_cell BK319.out 4).trans rfl;have hfz5_0:=blk_frozen BK319.out 0;have hfz5_1:=blk_frozen BK319.out 1;have hfz5_2:=blk_frozen BK319.out 2;have hfz5_3:=blk_frozen BK319.out 3;have hfz5_4:=blk_frozen BK319.out 4)|(go_at_call 133;(with_reducible refine (impl_shapeOf.calls a0_0 t320 t321 t322 t323 _ A2.out).mono ?_);rintro e w6 ⟨rfl,hb⟩;have n0_:=Aside0.mk (blk_below (g:=gb319) (o:=.cells #[.int .i64 a0_0,.int .i64 a0_1,.int .i64 a0_2,.int .i64 a0_3,.int .i64 a0_4] 86 (0,0)) (by (with_reducible repeat first|apply Q1|apply Q2|apply Q3);exact BK319.out) hb);have n1_:=Aside0.mk (below_step (by repeat (with_reducible first|exact HB.out|apply Q4|apply Q5|apply Q6|apply Q7 GE319.out)) hb);clear BK319;clear HB;have BK319:=n0_;have HB:=n1_;clear n0_ n1_;(try clear hb);(try clear hb2);(try clear hk);(try clear hi))|((with_reducible refine gate_dst (N:=3) rfl ?_);refine box_event ?hg (N:=3) ?hd (cs:=#[.int .i64 0,.int .i64 0,.int .i64 0,.int .i64 0]) (t:=109) ?hr ?_;(case hd=>rfl);(case hg=>rfl);(case hr=>first|(go_simp;done)|(go_simp;rfl));intro gb324 hg w7 hbox hb;have n0_:=Aside0.mk (blk_below (g:=gb319) (o:=.cells #[.int .i64 a0_0,.int .i64 a0_1,.int .i64 a0_2,.int .i64 a0_3,.int .i64 a0_4] 86 (0,0)) (by (with_reducible repeat first|apply Q1|apply Q2|apply Q3);exact BK319.out) hb);have n1_:=Aside0.mk (below_step (by repeat (with_reducible first|exact HB.out|apply Q4|apply Q5|apply Q6|apply Q7 GE319.out)) hb);have n2_:=Aside0.mk (hbox);have n3_:=Aside0.mk ((by rw [hg];exact (below_size (by repeat (with_reducible first|exact HB.out|apply Q4|apply Q5|apply Q6|apply Q7 GE319.out))):w.heap.size≤gb324));have n4_:=Aside0.mk ((by rw [hg];exact (below_size (by repeat (with_reducible first|exact HB.out|apply Q4|apply Q5|apply Q6|apply Q7 GE319.out))):w.heap.size≤gb324));have n5_:=Aside0.mk ((by rw [hg];exact Nat.ne_of_lt (blk_lt (g:=gb319) (o:=.cells #[.int .i64 a0_0,.int .i64 a0_1,.int .i64 a0_2,.int .i64 a0_3,.int .i64 a0_4] 86 (0,0)) (by (with_reducible repeat first|apply Q1|apply Q2|apply Q3);exact BK319.out)):gb319≠gb324));have n6_:=Aside0.mk ((by rw [hg];exact Nat.ne_of_gt (blk_lt (g:=gb319) (o:=.cells #[.int .i64 a0_0,.int .i64 a0_1,.int .i64 a0_2,.int .i64 a0_3,.int .i64 a0_4] 86 (0,0)) (by (with_reducible repeat first|apply Q1|apply Q2|apply Q3);exact BK319.out)):gb324≠gb319));clear BK319;clear HB;have BK319:=n0_;have HB:=n1_;have BK324:=n2_;have GW324:=n3_;have GE324:=n4_;have NB319_324:=n5_;have NB324_319:=n6_;clear n0_ n1_ n2_ n3_ n4_ n5_ n6_;clear hb hbox hg;have hnb8:=NB324_319.out;have hnc8:=NB319_324.out;have hcz9_0:w7.cell? ⟨gb324,0,none⟩=some (.int .i64 0):=(blk_cell BK324.out 0).trans rfl;have hcz9_1:w7.cell? ⟨gb324,1,none⟩=some (.int .i64 0):=(blk_cell BK324.out 1).trans rfl;have hcz9_2:w7.cell? ⟨gb324,2,none⟩=some (.int .i64 0):=(blk_cell BK324.out 2).trans rfl;have hcz9_3:w7.cell? ⟨gb324,3,none⟩=some (.int .i64 0):=(blk_cell BK324.out 3).trans rfl;have hfz9_0:=blk_frozen BK324.out 0;have hfz9_1:=blk_frozen BK324.out 1;have hfz9_2:=blk_frozen BK324.out 2;have hfz9_3:=blk_frozen BK324.out 3)|(go_at_call 108;(with_reducible refine (impl_pieces.calls t320 t325 _ A3.out).mono ?_);rintro e w10 ⟨v326,rfl,ho0,hb⟩;have n0_:=Aside0.mk (Kd.R_lower ho0 (below_size (by repeat (with_reducible first|exact HB.out|apply Q4|apply Q5|apply Q6|apply Q7 GE319.out|apply Q7 GE324.out))));have n1_:=Aside0.mk (blk_below (g:=gb319) (o:=.cells #[.int .i64 a0_0,.int .i64 a0_1,.int .i64 a0_2,.int .i64 a0_3,.int .i64 a0_4] 86 (0,0)) (by (with_reducible repeat first|apply Q1|apply Q2|apply Q3);refine blk_far ?_ NB319_324.out _;(with_reducible repeat first|apply Q1|apply Q2|apply Q3);refine blk_far ?_ NB319_324.out _;(with_reducible repeat first|apply Q1|apply Q2|apply Q3);refine blk_far ?_ NB319_324.out _;(with_reducible repeat first|apply Q1|apply Q2|apply Q3);refine blk_far ?_ NB319_324.out _;(with_reducible repeat first|apply Q1|apply Q2|apply Q3);exact BK319.out) hb);have n2_:=Aside0.mk (blk_below (g:=gb324) (o:=.cells #[.int .i64 t320,.int .i64 t321,.int .i64 t322,.int .i64 t323] 109 (0,0)) (by (with_reducible repeat first|apply Q1|apply Q2|apply Q3);refine blk_put (cs:=#[.int .i64 t320,.int .i64 t321,.int .i64 t322,.int .i64 0]) ?_ 3 _ rfl;(with_reducible repeat first|apply Q1|apply Q2|apply Q3);refine blk_put (cs:=#[.int .i64 t320,.int .i64 t321,.int .i64 0,.int .i64 0]) ?_ 2 _ rfl;(with_reducible repeat first|apply Q1|apply Q2|apply Q3);refine blk_put (cs:=#[.int .i64 t320,.int .i64 0,.int .i64 0,.int .i64 0]) ?_ 1 _ rfl;(with_reducible repeat first|apply Q1|apply Q2|apply Q3);refine blk_put (cs:=#[.int .i64 0,.int .i64 0,.int .i64 0,.int .i64 0]) ?_ 0 _ rfl;(with_reducible repeat first|apply Q1|apply Q2|apply Q3);exact BK324.out) hb);have n3_:=Aside0.mk (below_step (by repeat (with_reducible first|exact HB.out|apply Q4|apply Q5|apply Q6|apply Q7 GE319.out|apply Q7 GE324.out)) hb);clear BK319;clear BK324;clear HB;have HO327:=n0_;have BK319:=n1_;have BK324:=n2_;have HB:=n3_;clear n0_ n1_ n2_ n3_;(try clear hb);(try clear hb2);(try clear hk);(try clear hi);(try clear ho0);obtain ⟨Ao11,co11,eo11⟩:=Kd.R_slice HO327.out;subst eo11)))
 go_loopg [4,19] k (fun kq v4 v19 w'=>∃ (x4_1:Int) (x19_1:Int),v4=.int .i64 x4_1∧v19=.int .i64 x19_1∧Aside0 (impl_encode.l0 kq x4_1 t325 (t325.length:Int) x19_1 a0_0 a0_1 a0_2 a0_3 a0_4 t320 t321 t322 t323=some r)∧Aside0 (kq≤k)∧Aside0 (Kd.R k125 125 w' w.heap.size (fun _=>True) (.slice Ao11 t325.length co11) t325)∧Aside0 (w'.heap[gb319]?=some (.cells #[.int .i64 a0_0,.int .i64 a0_1,.int .i64 a0_2,.int .i64 a0_3,.int .i64 a0_4] 86 (0,0)))∧Aside0 (w'.heap[gb324]?=some (.cells #[.int .i64 t320,.int .i64 t321,.int .i64 t322,.int .i64 t323] 109 (0,0)))∧Aside0 (Below w.heap.size w w'))
 case atStart=>exact ⟨(t321),(0),(by first|rfl|(simp;done)|(simp [*];done)),(by first|rfl|(simp;done)|(simp [*];done)),H',⟨Nat.le_refl _⟩,⟨by (with_reducible repeat (first|apply Kd.R_alloc|apply Kd.R_drewN|apply Kd.R_drew));exact HO327.out⟩,⟨by (with_reducible repeat first|apply Q1|apply Q2|apply Q3);exact BK319.out⟩,⟨by (with_reducible repeat first|apply Q1|apply Q2|apply Q3);exact BK324.out⟩,⟨by repeat (with_reducible first|exact HB.out|apply Q4|apply Q5|apply Q6|apply Q7 GE319.out|apply Q7 GE324.out)⟩⟩
 clear H'
 try clear hcz5_0 hcz5_1 hcz5_2 hcz5_3 hcz5_4
 try clear hcz9_0 hcz9_1 hcz9_2 hcz9_3
 try clear hfz5_0 hfz5_1 hfz5_2 hfz5_3 hfz5_4
 try clear hfz9_0 hfz9_1 hfz9_2 hfz9_3
 obtain ⟨x4_1,x19_1,rfl,rfl,HA,HK1,HO_17,BK319,BK324,HB⟩:=hrel
 cases gk with
 | zero=>exact absurd HA.out (by simp [impl_encode.l0])
 | succ k1 =>
  have H:=HA.out
  clear HA
  simp only [impl_encode.l0] at H
  by_cases c12:x19_1 < (t325.length:Int)
  ·rw [if_pos c12] at H
   have c12b0:decide (x19_1 < (t325.length:Int))=true:=decide_eq_true c12
   clear c12
   by_cases c13:0≤x19_1
   ·rw [if_pos c13] at H
    have c13b0:decide (0≤x19_1)=true:=decide_eq_true c13
    clear c13
    by_cases c14:x19_1 < (t325.length:Int)
    ·rw [if_pos c14] at H
     have c14b0:decide (x19_1 < (t325.length:Int))=true:=decide_eq_true c14
     clear c14
     obtain ⟨t330,A15,H⟩:=bindA H
     by_cases c16:0≤((rd_T125 t325 x19_1).f2)
     ·rw [if_pos c16] at H
      have c16b0:=eq_true c16
      have c16b1:decide (0≤((rd_T125 t325 x19_1).f2))=true:=decide_eq_true c16
      clear c16
      obtain ⟨ji17,hji17⟩ : ∃ j_:Int,(shl .i64 t330 ((rd_T125 t325 x19_1).f2))=j_:=⟨_,rfl⟩
      replace H:(impl_encode.l0 k1 (Go.bits .or .i64 x4_1 (ji17)) t325 (t325.length:Int) (wrap64 (x19_1+1)) a0_0 a0_1 a0_2 a0_3 a0_4 t320 t321 t322 t323)=some r:=by first|(rw [hji17] at H;exact H)|(simp only [hji17] at H ⊢;exact H)
      (try rw [hji17] at A15)
      have hji17_:(IntKind.i64.wrap (t330*2 ^ min ((rd_T125 t325 x19_1).f2).toNat 64))=ji17:=hji17
      have hji17z:((rd_T125 t325 x19_1).f2)≤64→(IntKind.i64.wrap (t330*2 ^ ((rd_T125 t325 x19_1).f2).toNat))=ji17:=shl_small hji17
      have hji17y:(wrap64 (t330*2 ^ min ((rd_T125 t325 x19_1).f2).toNat 64))=ji17:=(i64_w _).symm.trans hji17_
      have hji17x:((rd_T125 t325 x19_1).f2)≤64→(wrap64 (t330*2 ^ ((rd_T125 t325 x19_1).f2).toNat))=ji17:=fun h_=>(i64_w _).symm.trans (hji17z h_)
      have H':=Aside0.mk H
      clear H
      have p328:0≤(x19_1:Int):=of_decide_eq_true (by first|(with_reducible assumption)|assumption)
      have q328:x19_1 < (t325.length:Int):=of_decide_eq_true (by first|(with_reducible assumption)|assumption)
      obtain ⟨ad328,e328,hx328_0,hx328_1,hx328_2⟩:=at_T125 (Kd.R_reads' HO_17.out).2.2 x19_1 p328 q328
      cases e328
      replace p328:=eq_true p328
      replace q328:=eq_true q328
      go_wp2_with (first|((with_reducible refine gate_dst (N:=6) rfl ?_);refine box_event ?hg (N:=6) ?hd (cs:=#[.int .i64 0,.int .i64 0,.int .i64 0]) (t:=125) ?hr ?_;(case hd=>rfl);(case hg=>rfl);(case hr=>first|(go_simp;done)|(go_simp;rfl));intro gb329 hg w18 hbox hb;have n0_:=Aside0.mk (Kd.R_below (Kd.R_elderB (by (with_reducible repeat (first|apply Kd.R_alloc|apply Kd.R_drewN|apply Kd.R_drew));exact HO_17.out) gb329 (Nat.le_of_eq hg.symm)) hb);have n1_:=Aside0.mk (blk_below (g:=gb319) (o:=.cells #[.int .i64 a0_0,.int .i64 a0_1,.int .i64 a0_2,.int .i64 a0_3,.int .i64 a0_4] 86 (0,0)) (by (with_reducible repeat first|apply Q1|apply Q2|apply Q3);exact BK319.out) hb);have n2_:=Aside0.mk (blk_below (g:=gb324) (o:=.cells #[.int .i64 t320,.int .i64 t321,.int .i64 t322,.int .i64 t323] 109 (0,0)) (by (with_reducible repeat first|apply Q1|apply Q2|apply Q3);exact BK324.out) hb);have n3_:=Aside0.mk (below_step (by repeat (with_reducible first|exact HB.out|apply Q4|apply Q5|apply Q6|apply Q7 GE319.out|apply Q7 GE324.out)) hb);have n4_:=Aside0.mk (hbox);have n5_:=Aside0.mk ((by rw [hg];exact (below_size (by repeat (with_reducible first|exact HB.out|apply Q4|apply Q5|apply Q6|apply Q7 GE319.out|apply Q7 GE324.out))):w.heap.size≤gb329));have n6_:=Aside0.mk ((by rw [hg];exact (below_size (by repeat (with_reducible first|exact HB.out|apply Q4|apply Q5|apply Q6|apply Q7 GE319.out|apply Q7 GE324.out))):w.heap.size≤gb329));have n7_:=Aside0.mk ((by rw [hg];exact Nat.ne_of_lt (blk_lt (g:=gb319) (o:=.cells #[.int .i64 a0_0,.int .i64 a0_1,.int .i64 a0_2,.int .i64 a0_3,.int .i64 a0_4] 86 (0,0)) (by (with_reducible repeat first|apply Q1|apply Q2|apply Q3);exact BK319.out)):gb319≠gb329));have n8_:=Aside0.mk ((by rw [hg];exact Nat.ne_of_gt (blk_lt (g:=gb319) (o:=.cells #[.int .i64 a0_0,.int .i64 a0_1,.int .i64 a0_2,.int .i64 a0_3,.int .i64 a0_4] 86 (0,0)) (by (with_reducible repeat first|apply Q1|apply Q2|apply Q3);exact BK319.out)):gb329≠gb319));have n9_:=Aside0.mk ((by rw [hg];exact Nat.ne_of_lt (blk_lt (g:=gb324) (o:=.cells #[.int .i64 t320,.int .i64 t321,.int .i64 t322,.int .i64 t323] 109 (0,0)) (by (with_reducible repeat first|apply Q1|apply Q2|apply Q3);exact BK324.out)):gb324≠gb329));have n10_:=Aside0.mk ((by rw [hg];exact Nat.ne_of_gt (blk_lt (g:=gb324) (o:=.cells #[.int .i64 t320,.int .i64 t321,.int .i64 t322,.int .i64 t323] 109 (0,0)) (by (with_reducible repeat first|apply Q1|apply Q2|apply Q3);exact BK324.out)):gb329≠gb324));clear HO_17;clear BK319;clear BK324;clear HB;have HO_17:=n0_;have BK319:=n1_;have BK324:=n2_;have HB:=n3_;have BK329:=n4_;have GW329:=n5_;have GE329:=n6_;have NB319_329:=n7_;have NB329_319:=n8_;have NB324_329:=n9_;have NB329_324:=n10_;clear n0_ n1_ n2_ n3_ n4_ n5_ n6_ n7_ n8_ n9_ n10_;clear hb hbox hg;have hnb19:=NB329_319.out;have hnc19:=NB319_329.out;have hnb20:=NB329_324.out;have hnc20:=NB324_329.out;have hcz21_0:w18.cell? ⟨gb329,0,none⟩=some (.int .i64 0):=(blk_cell BK329.out 0).trans rfl;have hcz21_1:w18.cell? ⟨gb329,1,none⟩=some (.int .i64 0):=(blk_cell BK329.out 1).trans rfl;have hcz21_2:w18.cell? ⟨gb329,2,none⟩=some (.int .i64 0):=(blk_cell BK329.out 2).trans rfl;have hfz21_0:=blk_frozen BK329.out 0;have hfz21_1:=blk_frozen BK329.out 1;have hfz21_2:=blk_frozen BK329.out 2;have hnb22:=NB319_324.out;have hnc22:=NB324_319.out;have hcz23_0:w18.cell? ⟨gb319,0,none⟩=some (.int .i64 a0_0):=(blk_cell BK319.out 0).trans rfl;have hcz23_1:w18.cell? ⟨gb319,1,none⟩=some (.int .i64 a0_1):=(blk_cell BK319.out 1).trans rfl;have hcz23_2:w18.cell? ⟨gb319,2,none⟩=some (.int .i64 a0_2):=(blk_cell BK319.out 2).trans rfl;have hcz23_3:w18.cell? ⟨gb319,3,none⟩=some (.int .i64 a0_3):=(blk_cell BK319.out 3).trans rfl;have hcz23_4:w18.cell? ⟨gb319,4,none⟩=some (.int .i64 a0_4):=(blk_cell BK319.out 4).trans rfl;have hfz23_0:=blk_frozen BK319.out 0;have hfz23_1:=blk_frozen BK319.out 1;have hfz23_2:=blk_frozen BK319.out 2;have hfz23_3:=blk_frozen BK319.out 3;have hfz23_4:=blk_frozen BK319.out 4)|(go_at_call 107;(with_reducible refine (impl_bitsOf.calls a0_4 ((rd_T125 t325 x19_1).f0) ((rd_T125 t325 x19_1).f1) t330 _ A15.out).mono ?_);rintro e w' ⟨rfl,⟨nd,rfl⟩⟩;(try first|exact ⟨rfl,_,World.drewN_drewN _ _ _⟩|exact ⟨rfl,_,Eq.trans (World.drewN_drewN _ _ _) (congrArg (World.drewN _) (Nat.add_assoc _ _ _))⟩)))
      repeat (go_quiet (first|((with_reducible refine gate_dst (N:=6) rfl ?_);refine box_event ?hg (N:=6) ?hd (cs:=#[.int .i64 0,.int .i64 0,.int .i64 0]) (t:=125) ?hr ?_;(case hd=>rfl);(case hg=>rfl);(case hr=>first|(go_simp;done)|(go_simp;rfl));intro gb329 hg w18 hbox hb;have n0_:=Aside0.mk (Kd.R_below (Kd.R_elderB (by (with_reducible repeat (first|apply Kd.R_alloc|apply Kd.R_drewN|apply Kd.R_drew));exact HO_17.out) gb329 (Nat.le_of_eq hg.symm)) hb);have n1_:=Aside0.mk (blk_below (g:=gb319) (o:=.cells #[.int .i64 a0_0,.int .i64 a0_1,.int .i64 a0_2,.int .i64 a0_3,.int .i64 a0_4] 86 (0,0)) (by (with_reducible repeat first|apply Q1|apply Q2|apply Q3);exact BK319.out) hb);have n2_:=Aside0.mk (blk_below (g:=gb324) (o:=.cells #[.int .i64 t320,.int .i64 t321,.int .i64 t322,.int .i64 t323] 109 (0,0)) (by (with_reducible repeat first|apply Q1|apply Q2|apply Q3);exact BK324.out) hb);have n3_:=Aside0.mk (below_step (by repeat (with_reducible first|exact HB.out|apply Q4|apply Q5|apply Q6|apply Q7 GE319.out|apply Q7 GE324.out)) hb);have n4_:=Aside0.mk (hbox);have n5_:=Aside0.mk ((by rw [hg];exact (below_size (by repeat (with_reducible first|exact HB.out|apply Q4|apply Q5|apply Q6|apply Q7 GE319.out|apply Q7 GE324.out))):w.heap.size≤gb329));have n6_:=Aside0.mk ((by rw [hg];exact (below_size (by repeat (with_reducible first|exact HB.out|apply Q4|apply Q5|apply Q6|apply Q7 GE319.out|apply Q7 GE324.out))):w.heap.size≤gb329));have n7_:=Aside0.mk ((by rw [hg];exact Nat.ne_of_lt (blk_lt (g:=gb319) (o:=.cells #[.int .i64 a0_0,.int .i64 a0_1,.int .i64 a0_2,.int .i64 a0_3,.int .i64 a0_4] 86 (0,0)) (by (with_reducible repeat first|apply Q1|apply Q2|apply Q3);exact BK319.out)):gb319≠gb329));have n8_:=Aside0.mk ((by rw [hg];exact Nat.ne_of_gt (blk_lt (g:=gb319) (o:=.cells #[.int .i64 a0_0,.int .i64 a0_1,.int .i64 a0_2,.int .i64 a0_3,.int .i64 a0_4] 86 (0,0)) (by (with_reducible repeat first|apply Q1|apply Q2|apply Q3);exact BK319.out)):gb329≠gb319));have n9_:=Aside0.mk ((by rw [hg];exact Nat.ne_of_lt (blk_lt (g:=gb324) (o:=.cells #[.int .i64 t320,.int .i64 t321,.int .i64 t322,.int .i64 t323] 109 (0,0)) (by (with_reducible repeat first|apply Q1|apply Q2|apply Q3);exact BK324.out)):gb324≠gb329));have n10_:=Aside0.mk ((by rw [hg];exact Nat.ne_of_gt (blk_lt (g:=gb324) (o:=.cells #[.int .i64 t320,.int .i64 t321,.int .i64 t322,.int .i64 t323] 109 (0,0)) (by (with_reducible repeat first|apply Q1|apply Q2|apply Q3);exact BK324.out)):gb329≠gb324));clear HO_17;clear BK319;clear BK324;clear HB;have HO_17:=n0_;have BK319:=n1_;have BK324:=n2_;have HB:=n3_;have BK329:=n4_;have GW329:=n5_;have GE329:=n6_;have NB319_329:=n7_;have NB329_319:=n8_;have NB324_329:=n9_;have NB329_324:=n10_;clear n0_ n1_ n2_ n3_ n4_ n5_ n6_ n7_ n8_ n9_ n10_;clear hb hbox hg;have hnb19:=NB329_319.out;have hnc19:=NB319_329.out;have hnb20:=NB329_324.out;have hnc20:=NB324_329.out;have hcz21_0:w18.cell? ⟨gb329,0,none⟩=some (.int .i64 0):=(blk_cell BK329.out 0).trans rfl;have hcz21_1:w18.cell? ⟨gb329,1,none⟩=some (.int .i64 0):=(blk_cell BK329.out 1).trans rfl;have hcz21_2:w18.cell? ⟨gb329,2,none⟩=some (.int .i64 0):=(blk_cell BK329.out 2).trans rfl;have hfz21_0:=blk_frozen BK329.out 0;have hfz21_1:=blk_frozen BK329.out 1;have hfz21_2:=blk_frozen BK329.out 2;have hnb22:=NB319_324.out;have hnc22:=NB324_319.out;have hcz23_0:w18.cell? ⟨gb319,0,none⟩=some (.int .i64 a0_0):=(blk_cell BK319.out 0).trans rfl;have hcz23_1:w18.cell? ⟨gb319,1,none⟩=some (.int .i64 a0_1):=(blk_cell BK319.out 1).trans rfl;have hcz23_2:w18.cell? ⟨gb319,2,none⟩=some (.int .i64 a0_2):=(blk_cell BK319.out 2).trans rfl;have hcz23_3:w18.cell? ⟨gb319,3,none⟩=some (.int .i64 a0_3):=(blk_cell BK319.out 3).trans rfl;have hcz23_4:w18.cell? ⟨gb319,4,none⟩=some (.int .i64 a0_4):=(blk_cell BK319.out 4).trans rfl;have hfz23_0:=blk_frozen BK319.out 0;have hfz23_1:=blk_frozen BK319.out 1;have hfz23_2:=blk_frozen BK319.out 2;have hfz23_3:=blk_frozen BK319.out 3;have hfz23_4:=blk_frozen BK319.out 4)|(go_at_call 107;(with_reducible refine (impl_bitsOf.calls a0_4 ((rd_T125 t325 x19_1).f0) ((rd_T125 t325 x19_1).f1) t330 _ A15.out).mono ?_);rintro e w' ⟨rfl,⟨nd,rfl⟩⟩;(try first|exact ⟨rfl,_,World.drewN_drewN _ _ _⟩|exact ⟨rfl,_,Eq.trans (World.drewN_drewN _ _ _) (congrArg (World.drewN _) (Nat.add_assoc _ _ _))⟩)));try go_wp2_with (first|((with_reducible refine gate_dst (N:=6) rfl ?_);refine box_event ?hg (N:=6) ?hd (cs:=#[.int .i64 0,.int .i64 0,.int .i64 0]) (t:=125) ?hr ?_;(case hd=>rfl);(case hg=>rfl);(case hr=>first|(go_simp;done)|(go_simp;rfl));intro gb329 hg w18 hbox hb;have n0_:=Aside0.mk (Kd.R_below (Kd.R_elderB (by (with_reducible repeat (first|apply Kd.R_alloc|apply Kd.R_drewN|apply Kd.R_drew));exact HO_17.out) gb329 (Nat.le_of_eq hg.symm)) hb);have n1_:=Aside0.mk (blk_below (g:=gb319) (o:=.cells #[.int .i64 a0_0,.int .i64 a0_1,.int .i64 a0_2,.int .i64 a0_3,.int .i64 a0_4] 86 (0,0)) (by (with_reducible repeat first|apply Q1|apply Q2|apply Q3);exact BK319.out) hb);have n2_:=Aside0.mk (blk_below (g:=gb324) (o:=.cells #[.int .i64 t320,.int .i64 t321,.int .i64 t322,.int .i64 t323] 109 (0,0)) (by (with_reducible repeat first|apply Q1|apply Q2|apply Q3);exact BK324.out) hb);have n3_:=Aside0.mk (below_step (by repeat (with_reducible first|exact HB.out|apply Q4|apply Q5|apply Q6|apply Q7 GE319.out|apply Q7 GE324.out)) hb);have n4_:=Aside0.mk (hbox);have n5_:=Aside0.mk ((by rw [hg];exact (below_size (by repeat (with_reducible first|exact HB.out|apply Q4|apply Q5|apply Q6|apply Q7 GE319.out|apply Q7 GE324.out))):w.heap.size≤gb329));have n6_:=Aside0.mk ((by rw [hg];exact (below_size (by repeat (with_reducible first|exact HB.out|apply Q4|apply Q5|apply Q6|apply Q7 GE319.out|apply Q7 GE324.out))):w.heap.size≤gb329));have n7_:=Aside0.mk ((by rw [hg];exact Nat.ne_of_lt (blk_lt (g:=gb319) (o:=.cells #[.int .i64 a0_0,.int .i64 a0_1,.int .i64 a0_2,.int .i64 a0_3,.int .i64 a0_4] 86 (0,0)) (by (with_reducible repeat first|apply Q1|apply Q2|apply Q3);exact BK319.out)):gb319≠gb329));have n8_:=Aside0.mk ((by rw [hg];exact Nat.ne_of_gt (blk_lt (g:=gb319) (o:=.cells #[.int .i64 a0_0,.int .i64 a0_1,.int .i64 a0_2,.int .i64 a0_3,.int .i64 a0_4] 86 (0,0)) (by (with_reducible repeat first|apply Q1|apply Q2|apply Q3);exact BK319.out)):gb329≠gb319));have n9_:=Aside0.mk ((by rw [hg];exact Nat.ne_of_lt (blk_lt (g:=gb324) (o:=.cells #[.int .i64 t320,.int .i64 t321,.int .i64 t322,.int .i64 t323] 109 (0,0)) (by (with_reducible repeat first|apply Q1|apply Q2|apply Q3);exact BK324.out)):gb324≠gb329));have n10_:=Aside0.mk ((by rw [hg];exact Nat.ne_of_gt (blk_lt (g:=gb324) (o:=.cells #[.int .i64 t320,.int .i64 t321,.int .i64 t322,.int .i64 t323] 109 (0,0)) (by (with_reducible repeat first|apply Q1|apply Q2|apply Q3);exact BK324.out)):gb329≠gb324));clear HO_17;clear BK319;clear BK324;clear HB;have HO_17:=n0_;have BK319:=n1_;have BK324:=n2_;have HB:=n3_;have BK329:=n4_;have GW329:=n5_;have GE329:=n6_;have NB319_329:=n7_;have NB329_319:=n8_;have NB324_329:=n9_;have NB329_324:=n10_;clear n0_ n1_ n2_ n3_ n4_ n5_ n6_ n7_ n8_ n9_ n10_;clear hb hbox hg;have hnb19:=NB329_319.out;have hnc19:=NB319_329.out;have hnb20:=NB329_324.out;have hnc20:=NB324_329.out;have hcz21_0:w18.cell? ⟨gb329,0,none⟩=some (.int .i64 0):=(blk_cell BK329.out 0).trans rfl;have hcz21_1:w18.cell? ⟨gb329,1,none⟩=some (.int .i64 0):=(blk_cell BK329.out 1).trans rfl;have hcz21_2:w18.cell? ⟨gb329,2,none⟩=some (.int .i64 0):=(blk_cell BK329.out 2).trans rfl;have hfz21_0:=blk_frozen BK329.out 0;have hfz21_1:=blk_frozen BK329.out 1;have hfz21_2:=blk_frozen BK329.out 2;have hnb22:=NB319_324.out;have hnc22:=NB324_319.out;have hcz23_0:w18.cell? ⟨gb319,0,none⟩=some (.int .i64 a0_0):=(blk_cell BK319.out 0).trans rfl;have hcz23_1:w18.cell? ⟨gb319,1,none⟩=some (.int .i64 a0_1):=(blk_cell BK319.out 1).trans rfl;have hcz23_2:w18.cell? ⟨gb319,2,none⟩=some (.int .i64 a0_2):=(blk_cell BK319.out 2).trans rfl;have hcz23_3:w18.cell? ⟨gb319,3,none⟩=some (.int .i64 a0_3):=(blk_cell BK319.out 3).trans rfl;have hcz23_4:w18.cell? ⟨gb319,4,none⟩=some (.int .i64 a0_4):=(blk_cell BK319.out 4).trans rfl;have hfz23_0:=blk_frozen BK319.out 0;have hfz23_1:=blk_frozen BK319.out 1;have hfz23_2:=blk_frozen BK319.out 2;have hfz23_3:=blk_frozen BK319.out 3;have hfz23_4:=blk_frozen BK319.out 4)|(go_at_call 107;(with_reducible refine (impl_bitsOf.calls a0_4 ((rd_T125 t325 x19_1).f0) ((rd_T125 t325 x19_1).f1) t330 _ A15.out).mono ?_);rintro e w' ⟨rfl,⟨nd,rfl⟩⟩;(try first|exact ⟨rfl,_,World.drewN_drewN _ _ _⟩|exact ⟨rfl,_,Eq.trans (World.drewN_drewN _ _ _) (congrArg (World.drewN _) (Nat.add_assoc _ _ _))⟩))))
      go_roundg k1
      case measure=>have:=HK1.out;omega
      case rel=>exact ⟨(Go.bits .or .i64 x4_1 (ji17)),(wrap64 (x19_1+1)),(by first|rfl|(simp;done)|(simp only [← hji17]<;>(first|rfl|simp))|(simp [*];done)),(by first|rfl|(simp;done)|(simp [*];done)),H',⟨by have:=HK1.out;omega⟩,⟨by (with_reducible repeat (first|apply Kd.R_alloc|apply Kd.R_drewN|apply Kd.R_drew));exact Kd.R_mono (Kd.R_far (p:=⟨gb329,2,none⟩) (Kd.R_far (p:=⟨gb329,1,none⟩) (Kd.R_far (p:=⟨gb329,0,none⟩) (Kd.R_mono HO_17.out (fun k_ hk=>(⟨hk,hk.2⟩:_∧k_≠gb329))) (fun _ hk=>hk.2) (.int .i64 ((rd_T125 t325 x19_1).f0))) (fun _ hk=>hk.2) (.int .i64 ((rd_T125 t325 x19_1).f1))) (fun _ hk=>hk.2) (.int .i64 ((rd_T125 t325 x19_1).f2))) (fun _ hk=>trivial)⟩,⟨by (with_reducible repeat first|apply Q1|apply Q2|apply Q3);refine blk_far ?_ NB319_329.out _;(with_reducible repeat first|apply Q1|apply Q2|apply Q3);refine blk_far ?_ NB319_329.out _;(with_reducible repeat first|apply Q1|apply Q2|apply Q3);refine blk_far ?_ NB319_329.out _;(with_reducible repeat first|apply Q1|apply Q2|apply Q3);exact BK319.out⟩,⟨by (with_reducible repeat first|apply Q1|apply Q2|apply Q3);refine blk_far ?_ NB324_329.out _;(with_reducible repeat first|apply Q1|apply Q2|apply Q3);refine blk_far ?_ NB324_329.out _;(with_reducible repeat first|apply Q1|apply Q2|apply Q3);refine blk_far ?_ NB324_329.out _;(with_reducible repeat first|apply Q1|apply Q2|apply Q3);exact BK324.out⟩,⟨by repeat (with_reducible first|exact HB.out|apply Q4|apply Q5|apply Q6|apply Q7 GE319.out|apply Q7 GE324.out|apply Q7 GE329.out)⟩⟩
     rw [if_neg c16] at H
     exact absurd H (by simp)
    rw [if_neg c14] at H
    exact absurd H (by simp)
   rw [if_neg c13] at H
   exact absurd H (by simp)
  rw [if_neg c12] at H
  have c12b0:decide (x19_1 < (t325.length:Int))=false:=decide_eq_false c12
  clear c12
  obtain ⟨⟨t331,t332,t333⟩,A24,H⟩:=bindA H
  try dsimp only at H
  have HC25:=Aside0.mk H
  clear H
  have hnb26:=NB324_319.out
  have hnc26:=NB319_324.out
  have hcz27_0:wr.cell? ⟨gb324,0,none⟩=some (.int .i64 t320):=(blk_cell BK324.out 0).trans rfl
  have hcz27_1:wr.cell? ⟨gb324,1,none⟩=some (.int .i64 t321):=(blk_cell BK324.out 1).trans rfl
  have hcz27_2:wr.cell? ⟨gb324,2,none⟩=some (.int .i64 t322):=(blk_cell BK324.out 2).trans rfl
  have hcz27_3:wr.cell? ⟨gb324,3,none⟩=some (.int .i64 t323):=(blk_cell BK324.out 3).trans rfl
  have hfz27_0:=blk_frozen BK324.out 0
  have hfz27_1:=blk_frozen BK324.out 1
  have hfz27_2:=blk_frozen BK324.out 2
  have hfz27_3:=blk_frozen BK324.out 3
  go_upto_if 43 with (first|(go_at_call 111;(with_reducible refine (impl_fields.calls k1 t320 t331 t332 t333 _ A24.out).mono ?_);rintro e w' ⟨rfl,⟨nd,rfl⟩⟩;(try first|exact ⟨rfl,_,World.drewN_drewN _ _ _⟩|exact ⟨rfl,_,Eq.trans (World.drewN_drewN _ _ _) (congrArg (World.drewN _) (Nat.add_assoc _ _ _))⟩)))
  repeat (go_quiet (first|(go_at_call 111;(with_reducible refine (impl_fields.calls k1 t320 t331 t332 t333 _ A24.out).mono ?_);rintro e w' ⟨rfl,⟨nd,rfl⟩⟩;(try first|exact ⟨rfl,_,World.drewN_drewN _ _ _⟩|exact ⟨rfl,_,Eq.trans (World.drewN_drewN _ _ _) (congrArg (World.drewN _) (Nat.add_assoc _ _ _))⟩)));go_upto_if 43 with (first|(go_at_call 111;(with_reducible refine (impl_fields.calls k1 t320 t331 t332 t333 _ A24.out).mono ?_);rintro e w' ⟨rfl,⟨nd,rfl⟩⟩;(try first|exact ⟨rfl,_,World.drewN_drewN _ _ _⟩|exact ⟨rfl,_,Eq.trans (World.drewN_drewN _ _ _) (congrArg (World.drewN _) (Nat.add_assoc _ _ _))⟩))))
  (try simp only [Act.put,List.setIfInBounds_toArray,List.set_cons_zero,List.set_cons_succ])
  go_cut [4] (fun v4 wc=>∃ (kq:Nat) (x4_24:Int),v4=.int .i64 x4_24∧Aside0 (impl_encode.j1 kq x4_24 t332 t333 a0_0 a0_1 a0_2 a0_3 a0_4 t320 t321 t322 t323=some r)∧Aside0 (kq≤k1)∧Aside0 (wc.heap[gb319]?=some (.cells #[.int .i64 a0_0,.int .i64 a0_1,.int .i64 a0_2,.int .i64 a0_3,.int .i64 a0_4] 86 (0,0)))∧Aside0 (wc.heap[gb324]?=some (.cells #[.int .i64 t320,.int .i64 t321,.int .i64 t322,.int .i64 t323] 109 (0,0)))∧Aside0 (Below w.heap.size w wc))
  case first=>
   have H:=HC25.out
   clear HC25
   by_cases c28:t331=true
   ·subst c28
    rw [if_pos rfl] at H
    have H':=Aside0.mk H
    clear H
    have hnb29:=NB319_324.out
    have hnc29:=NB324_319.out
    have hcz30_0:wr.cell? ⟨gb319,0,none⟩=some (.int .i64 a0_0):=(blk_cell BK319.out 0).trans rfl
    have hcz30_1:wr.cell? ⟨gb319,1,none⟩=some (.int .i64 a0_1):=(blk_cell BK319.out 1).trans rfl
    have hcz30_2:wr.cell? ⟨gb319,2,none⟩=some (.int .i64 a0_2):=(blk_cell BK319.out 2).trans rfl
    have hcz30_3:wr.cell? ⟨gb319,3,none⟩=some (.int .i64 a0_3):=(blk_cell BK319.out 3).trans rfl
    have hcz30_4:wr.cell? ⟨gb319,4,none⟩=some (.int .i64 a0_4):=(blk_cell BK319.out 4).trans rfl
    have hfz30_0:=blk_frozen BK319.out 0
    have hfz30_1:=blk_frozen BK319.out 1
    have hfz30_2:=blk_frozen BK319.out 2
    have hfz30_3:=blk_frozen BK319.out 3
    have hfz30_4:=blk_frozen BK319.out 4
    go_wp2
    repeat (go_quiet (fail);try go_wp2)
    go_meet
    case rel=>exact ⟨_,(Go.bits .or .i64 x4_1 (wrap64 (a0_1*128))),(by first|rfl|(simp;done)|(simp [*];done)),H',⟨by have:=HK1.out;first|omega|exact Nat.le_refl _⟩,⟨by (with_reducible repeat first|apply Q1|apply Q2|apply Q3);exact BK319.out⟩,⟨by (with_reducible repeat first|apply Q1|apply Q2|apply Q3);exact BK324.out⟩,⟨by repeat (with_reducible first|exact HB.out|apply Q4|apply Q5|apply Q6|apply Q7 GE319.out|apply Q7 GE324.out)⟩⟩
   replace c28:=Bool.eq_false_iff.mpr c28
   subst c28
   rw [if_neg (show ¬ (false=true) by decide)] at H
   have H':=Aside0.mk H
   clear H
   go_wp2
   repeat (go_quiet (fail);try go_wp2)
   go_meet
   case rel=>exact ⟨_,(x4_1),(by first|rfl|(simp;done)|(simp [*];done)),H',⟨by have:=HK1.out;first|omega|exact Nat.le_refl _⟩,⟨by (with_reducible repeat first|apply Q1|apply Q2|apply Q3);exact BK319.out⟩,⟨by (with_reducible repeat first|apply Q1|apply Q2|apply Q3);exact BK324.out⟩,⟨by repeat (with_reducible first|exact HB.out|apply Q4|apply Q5|apply Q6|apply Q7 GE319.out|apply Q7 GE324.out)⟩⟩
  clear HC25
  try clear c12b0
  try clear hcz27_0
  try clear hcz27_1
  try clear hcz27_2
  try clear hcz27_3
  try clear hfz27_0
  try clear hfz27_1
  try clear hfz27_2
  try clear hfz27_3
  obtain ⟨kq,x4_24,rfl,HA,HJ24,BK319,BK324,HB⟩:=hcut
  cases kq with
  | zero=>exact absurd HA.out (by simp [impl_encode.j1])
  | succ kj24 =>
   have H:=HA.out
   clear HA
   simp only [impl_encode.j1] at H
   have HC31:=Aside0.mk H
   clear H
   go_upto_if 49 with (fail)
   repeat (go_quiet (fail);go_upto_if 49 with (fail))
   go_cut [4] (fun v4 wc=>∃ (kq:Nat) (x4_30:Int),v4=.int .i64 x4_30∧Aside0 (impl_encode.j2 kq x4_30 t333 a0_0 a0_1 a0_2 a0_3 a0_4 t320 t321 t322 t323=some r)∧Aside0 (kq≤kj24)∧Aside0 (wc.heap[gb319]?=some (.cells #[.int .i64 a0_0,.int .i64 a0_1,.int .i64 a0_2,.int .i64 a0_3,.int .i64 a0_4] 86 (0,0)))∧Aside0 (wc.heap[gb324]?=some (.cells #[.int .i64 t320,.int .i64 t321,.int .i64 t322,.int .i64 t323] 109 (0,0)))∧Aside0 (Below w.heap.size w wc))
   case first=>
    have H:=HC31.out
    clear HC31
    by_cases c32:t332=true
    ·subst c32
     rw [if_pos rfl] at H
     have H':=Aside0.mk H
     clear H
     have hnb33:=NB319_324.out
     have hnc33:=NB324_319.out
     have hcz34_0:wc.cell? ⟨gb319,0,none⟩=some (.int .i64 a0_0):=(blk_cell BK319.out 0).trans rfl
     have hcz34_1:wc.cell? ⟨gb319,1,none⟩=some (.int .i64 a0_1):=(blk_cell BK319.out 1).trans rfl
     have hcz34_2:wc.cell? ⟨gb319,2,none⟩=some (.int .i64 a0_2):=(blk_cell BK319.out 2).trans rfl
     have hcz34_3:wc.cell? ⟨gb319,3,none⟩=some (.int .i64 a0_3):=(blk_cell BK319.out 3).trans rfl
     have hcz34_4:wc.cell? ⟨gb319,4,none⟩=some (.int .i64 a0_4):=(blk_cell BK319.out 4).trans rfl
     have hfz34_0:=blk_frozen BK319.out 0
     have hfz34_1:=blk_frozen BK319.out 1
     have hfz34_2:=blk_frozen BK319.out 2
     have hfz34_3:=blk_frozen BK319.out 3
     have hfz34_4:=blk_frozen BK319.out 4
     have hcz35_0:wc.cell? ⟨gb324,0,none⟩=some (.int .i64 t320):=(blk_cell BK324.out 0).trans rfl
     have hcz35_1:wc.cell? ⟨gb324,1,none⟩=some (.int .i64 t321):=(blk_cell BK324.out 1).trans rfl
     have hcz35_2:wc.cell? ⟨gb324,2,none⟩=some (.int .i64 t322):=(blk_cell BK324.out 2).trans rfl
     have hcz35_3:wc.cell? ⟨gb324,3,none⟩=some (.int .i64 t323):=(blk_cell BK324.out 3).trans rfl
     have hfz35_0:=blk_frozen BK324.out 0
     have hfz35_1:=blk_frozen BK324.out 1
     have hfz35_2:=blk_frozen BK324.out 2
     have hfz35_3:=blk_frozen BK324.out 3
     go_wp2
     repeat (go_quiet (fail);try go_wp2)
     go_meet
     case rel=>exact ⟨_,(Go.bits .or .i64 x4_24 (Go.bits .or .i64 (wrap64 (a0_2*32768)) (wrap64 (t322*4096)))),(by first|rfl|(simp;done)|(simp [*];done)),H',⟨by have:=HK1.out;have:=HJ24.out;first|omega|exact Nat.le_refl _⟩,⟨by (with_reducible repeat first|apply Q1|apply Q2|apply Q3);exact BK319.out⟩,⟨by (with_reducible repeat first|apply Q1|apply Q2|apply Q3);exact BK324.out⟩,⟨by repeat (with_reducible first|exact HB.out|apply Q4|apply Q5|apply Q6|apply Q7 GE319.out|apply Q7 GE324.out)⟩⟩
    replace c32:=Bool.eq_false_iff.mpr c32
    subst c32
    rw [if_neg (show ¬ (false=true) by decide)] at H
    have H':=Aside0.mk H
    clear H
    go_wp2
    repeat (go_quiet (fail);try go_wp2)
    go_meet
    case rel=>exact ⟨_,(x4_24),(by first|rfl|(simp;done)|(simp [*];done)),H',⟨by have:=HK1.out;have:=HJ24.out;first|omega|exact Nat.le_refl _⟩,⟨by (with_reducible repeat first|apply Q1|apply Q2|apply Q3);exact BK319.out⟩,⟨by (with_reducible repeat first|apply Q1|apply Q2|apply Q3);exact BK324.out⟩,⟨by repeat (with_reducible first|exact HB.out|apply Q4|apply Q5|apply Q6|apply Q7 GE319.out|apply Q7 GE324.out)⟩⟩
   clear HC31
   obtain ⟨kq,x4_30,rfl,HA,HJ30,BK319,BK324,HB⟩:=hcut
   cases kq with
   | zero=>exact absurd HA.out (by simp [impl_encode.j2])
   | succ kj30 =>
    have H:=HA.out
    clear HA
    simp only [impl_encode.j2] at H
    have HC36:=Aside0.mk H
    clear H
    go_upto_if 59 with (fail)
    repeat (go_quiet (fail);go_upto_if 59 with (fail))
    go_cut [4] (fun v4 wc=>∃ (kq:Nat) (x4_35:Int),v4=.int .i64 x4_35∧Aside0 (impl_encode.j3 kq x4_35 t320 t321 t322 t323=some r)∧Aside0 (kq≤kj30)∧Aside0 (wc.heap[gb319]?=some (.cells #[.int .i64 a0_0,.int .i64 a0_1,.int .i64 a0_2,.int .i64 a0_3,.int .i64 a0_4] 86 (0,0)))∧Aside0 (wc.heap[gb324]?=some (.cells #[.int .i64 t320,.int .i64 t321,.int .i64 t322,.int .i64 t323] 109 (0,0)))∧Aside0 (Below w.heap.size w wc))
    case first=>
     have H:=HC36.out
     clear HC36
     by_cases c37:t333=true
     ·subst c37
      rw [if_pos rfl] at H
      have H':=Aside0.mk H
      clear H
      have hnb38:=NB319_324.out
      have hnc38:=NB324_319.out
      have hcz39_0:wc.cell? ⟨gb319,0,none⟩=some (.int .i64 a0_0):=(blk_cell BK319.out 0).trans rfl
      have hcz39_1:wc.cell? ⟨gb319,1,none⟩=some (.int .i64 a0_1):=(blk_cell BK319.out 1).trans rfl
      have hcz39_2:wc.cell? ⟨gb319,2,none⟩=some (.int .i64 a0_2):=(blk_cell BK319.out 2).trans rfl
      have hcz39_3:wc.cell? ⟨gb319,3,none⟩=some (.int .i64 a0_3):=(blk_cell BK319.out 3).trans rfl
      have hcz39_4:wc.cell? ⟨gb319,4,none⟩=some (.int .i64 a0_4):=(blk_cell BK319.out 4).trans rfl
      have hfz39_0:=blk_frozen BK319.out 0
      have hfz39_1:=blk_frozen BK319.out 1
      have hfz39_2:=blk_frozen BK319.out 2
      have hfz39_3:=blk_frozen BK319.out 3
      have hfz39_4:=blk_frozen BK319.out 4
      go_wp2
      repeat (go_quiet (fail);try go_wp2)
      go_meet
      case rel=>exact ⟨_,(Go.bits .or .i64 x4_30 (wrap64 (a0_3*1048576))),(by first|rfl|(simp;done)|(simp [*];done)),H',⟨by have:=HK1.out;have:=HJ24.out;have:=HJ30.out;first|omega|exact Nat.le_refl _⟩,⟨by (with_reducible repeat first|apply Q1|apply Q2|apply Q3);exact BK319.out⟩,⟨by (with_reducible repeat first|apply Q1|apply Q2|apply Q3);exact BK324.out⟩,⟨by repeat (with_reducible first|exact HB.out|apply Q4|apply Q5|apply Q6|apply Q7 GE319.out|apply Q7 GE324.out)⟩⟩
     replace c37:=Bool.eq_false_iff.mpr c37
     subst c37
     rw [if_neg (show ¬ (false=true) by decide)] at H
     have H':=Aside0.mk H
     clear H
     go_wp2
     repeat (go_quiet (fail);try go_wp2)
     go_meet
     case rel=>exact ⟨_,(x4_30),(by first|rfl|(simp;done)|(simp [*];done)),H',⟨by have:=HK1.out;have:=HJ24.out;have:=HJ30.out;first|omega|exact Nat.le_refl _⟩,⟨by (with_reducible repeat first|apply Q1|apply Q2|apply Q3);exact BK319.out⟩,⟨by (with_reducible repeat first|apply Q1|apply Q2|apply Q3);exact BK324.out⟩,⟨by repeat (with_reducible first|exact HB.out|apply Q4|apply Q5|apply Q6|apply Q7 GE319.out|apply Q7 GE324.out)⟩⟩
    clear HC36
    obtain ⟨kq,x4_35,rfl,HA,HJ35,BK319,BK324,HB⟩:=hcut
    cases kq with
    | zero=>exact absurd HA.out (by simp [impl_encode.j3])
    | succ kj35 =>
     have H:=HA.out
     clear HA
     simp only [impl_encode.j3] at H
     by_cases c40:t320=6
     ·rw [if_pos c40] at H
      obtain ⟨c40b0,c40b1⟩:=eqP c40
      clear c40
      obtain rfl:=Option.some.inj H
      have hnb41:=NB324_319.out
      have hnc41:=NB319_324.out
      have hcz42_0:wc.cell? ⟨gb324,0,none⟩=some (.int .i64 t320):=(blk_cell BK324.out 0).trans rfl
      have hcz42_1:wc.cell? ⟨gb324,1,none⟩=some (.int .i64 t321):=(blk_cell BK324.out 1).trans rfl
      have hcz42_2:wc.cell? ⟨gb324,2,none⟩=some (.int .i64 t322):=(blk_cell BK324.out 2).trans rfl
      have hcz42_3:wc.cell? ⟨gb324,3,none⟩=some (.int .i64 t323):=(blk_cell BK324.out 3).trans rfl
      have hfz42_0:=blk_frozen BK324.out 0
      have hfz42_1:=blk_frozen BK324.out 1
      have hfz42_2:=blk_frozen BK324.out 2
      have hfz42_3:=blk_frozen BK324.out 3
      go_wp2
      repeat (go_quiet (fail);try go_wp2)
      go_ret
      exact ⟨by first|rfl|(simp [errW_none,errW_some]<;>rfl)|(simp [*,errW_none,errW_some]<;>rfl),by repeat (with_reducible first|exact HB.out|apply Q4|apply Q5|apply Q6|apply Q7 GE319.out|apply Q7 GE324.out)⟩
     rw [if_neg c40] at H
     obtain ⟨c40b0,c40b1⟩:=eqN c40
     have HC43:=Aside0.mk H
     clear H
     have hnb44:=NB324_319.out
     have hnc44:=NB319_324.out
     have hcz45_0:wc.cell? ⟨gb324,0,none⟩=some (.int .i64 t320):=(blk_cell BK324.out 0).trans rfl
     have hcz45_1:wc.cell? ⟨gb324,1,none⟩=some (.int .i64 t321):=(blk_cell BK324.out 1).trans rfl
     have hcz45_2:wc.cell? ⟨gb324,2,none⟩=some (.int .i64 t322):=(blk_cell BK324.out 2).trans rfl
     have hcz45_3:wc.cell? ⟨gb324,3,none⟩=some (.int .i64 t323):=(blk_cell BK324.out 3).trans rfl
     have hfz45_0:=blk_frozen BK324.out 0
     have hfz45_1:=blk_frozen BK324.out 1
     have hfz45_2:=blk_frozen BK324.out 2
     have hfz45_3:=blk_frozen BK324.out 3
     go_upto_if 75 with (fail)
     repeat (go_quiet (fail);go_upto_if 75 with (fail))
     go_cut [75] (fun v75 wc=>∃ (kq:Nat) (x75_42:Bool),v75=.bool x75_42∧Aside0 (impl_encode.j4 kq x4_35 t320 x75_42 t320 t321 t322 t323=some r)∧Aside0 (kq≤kj35)∧Aside0 (wc.heap[gb319]?=some (.cells #[.int .i64 a0_0,.int .i64 a0_1,.int .i64 a0_2,.int .i64 a0_3,.int .i64 a0_4] 86 (0,0)))∧Aside0 (wc.heap[gb324]?=some (.cells #[.int .i64 t320,.int .i64 t321,.int .i64 t322,.int .i64 t323] 109 (0,0)))∧Aside0 (Below w.heap.size w wc))
     case first=>
      have H:=HC43.out
      clear HC43
      by_cases c46:t320=7
      ·rw [if_pos c46] at H
       obtain ⟨c46b0,c46b1⟩:=eqP c46
       clear c46
       (first|rw [c46b0]|(simp only [i64_w,i32_w];rw [c46b0])|skip)
       have H':=Aside0.mk H
       clear H
       go_wp2
       repeat (go_quiet (fail);try go_wp2)
       go_meet
       case rel=>exact ⟨_,((t320==7)),(by first|rfl|(simp;done)|(simp [*];done)),H',⟨by have:=HK1.out;have:=HJ24.out;have:=HJ30.out;have:=HJ35.out;first|omega|exact Nat.le_refl _⟩,⟨by (with_reducible repeat first|apply Q1|apply Q2|apply Q3);exact BK319.out⟩,⟨by (with_reducible repeat first|apply Q1|apply Q2|apply Q3);exact BK324.out⟩,⟨by repeat (with_reducible first|exact HB.out|apply Q4|apply Q5|apply Q6|apply Q7 GE319.out|apply Q7 GE324.out)⟩⟩
      rw [if_neg c46] at H
      obtain ⟨c46b0,c46b1⟩:=eqN c46
      (first|rw [c46b0]|(simp only [i64_w,i32_w];rw [c46b0])|skip)
      have H':=Aside0.mk H
      clear H
      go_wp2
      repeat (go_quiet (fail);try go_wp2)
      go_meet
      case rel=>exact ⟨_,((t320==8)),(by first|rfl|(simp;done)|(simp [*];done)),H',⟨by have:=HK1.out;have:=HJ24.out;have:=HJ30.out;have:=HJ35.out;first|omega|exact Nat.le_refl _⟩,⟨by (with_reducible repeat first|apply Q1|apply Q2|apply Q3);exact BK319.out⟩,⟨by (with_reducible repeat first|apply Q1|apply Q2|apply Q3);exact BK324.out⟩,⟨by repeat (with_reducible first|exact HB.out|apply Q4|apply Q5|apply Q6|apply Q7 GE319.out|apply Q7 GE324.out)⟩⟩
     clear HC43
     try clear c40
     try clear c40b0 c40b1
     try clear hcz45_0
     try clear hcz45_1
     try clear hcz45_2
     try clear hcz45_3
     try clear hfz45_0
     try clear hfz45_1
     try clear hfz45_2
     try clear hfz45_3
     obtain ⟨kq,x75_42,rfl,HA,HJ42,BK319,BK324,HB⟩:=hcut
     cases kq with
     | zero=>exact absurd HA.out (by simp [impl_encode.j4])
     | succ kj42 =>
      have H:=HA.out
      clear HA
      simp only [impl_encode.j4] at H
      by_cases c47:x75_42=true
      ·subst c47
       rw [if_pos rfl] at H
       obtain rfl:=Option.some.inj H
       have hnb48:=NB324_319.out
       have hnc48:=NB319_324.out
       have hcz49_0:wc.cell? ⟨gb324,0,none⟩=some (.int .i64 t320):=(blk_cell BK324.out 0).trans rfl
       have hcz49_1:wc.cell? ⟨gb324,1,none⟩=some (.int .i64 t321):=(blk_cell BK324.out 1).trans rfl
       have hcz49_2:wc.cell? ⟨gb324,2,none⟩=some (.int .i64 t322):=(blk_cell BK324.out 2).trans rfl
       have hcz49_3:wc.cell? ⟨gb324,3,none⟩=some (.int .i64 t323):=(blk_cell BK324.out 3).trans rfl
       have hfz49_0:=blk_frozen BK324.out 0
       have hfz49_1:=blk_frozen BK324.out 1
       have hfz49_2:=blk_frozen BK324.out 2
       have hfz49_3:=blk_frozen BK324.out 3
       go_wp2
       repeat (go_quiet (fail);try go_wp2)
       go_ret
       exact ⟨by first|rfl|(simp [errW_none,errW_some]<;>rfl)|(simp [*,errW_none,errW_some]<;>rfl),by repeat (with_reducible first|exact HB.out|apply Q4|apply Q5|apply Q6|apply Q7 GE319.out|apply Q7 GE324.out)⟩
      replace c47:=Bool.eq_false_iff.mpr c47
      subst c47
      rw [if_neg (show ¬ (false=true) by decide)] at H
      by_cases c50:t320=9
      ·rw [if_pos c50] at H
       obtain ⟨c50b0,c50b1⟩:=eqP c50
       clear c50
       obtain rfl:=Option.some.inj H
       have hnb51:=NB324_319.out
       have hnc51:=NB319_324.out
       have hcz52_0:wc.cell? ⟨gb324,0,none⟩=some (.int .i64 t320):=(blk_cell BK324.out 0).trans rfl
       have hcz52_1:wc.cell? ⟨gb324,1,none⟩=some (.int .i64 t321):=(blk_cell BK324.out 1).trans rfl
       have hcz52_2:wc.cell? ⟨gb324,2,none⟩=some (.int .i64 t322):=(blk_cell BK324.out 2).trans rfl
       have hcz52_3:wc.cell? ⟨gb324,3,none⟩=some (.int .i64 t323):=(blk_cell BK324.out 3).trans rfl
       have hfz52_0:=blk_frozen BK324.out 0
       have hfz52_1:=blk_frozen BK324.out 1
       have hfz52_2:=blk_frozen BK324.out 2
       have hfz52_3:=blk_frozen BK324.out 3
       go_wp2
       repeat (go_quiet (fail);try go_wp2)
       go_ret
       exact ⟨by first|rfl|(simp [errW_none,errW_some]<;>rfl)|(simp [*,errW_none,errW_some]<;>rfl),by repeat (with_reducible first|exact HB.out|apply Q4|apply Q5|apply Q6|apply Q7 GE319.out|apply Q7 GE324.out)⟩
      rw [if_neg c50] at H
      obtain ⟨c50b0,c50b1⟩:=eqN c50
      obtain rfl:=Option.some.inj H
      go_wp2
      repeat (go_quiet (fail);try go_wp2)
      go_ret
      exact ⟨by first|rfl|(simp [errW_none,errW_some]<;>rfl)|(simp [*,errW_none,errW_some]<;>rfl),by repeat (with_reducible first|exact HB.out|apply Q4|apply Q5|apply Q6|apply Q7 GE319.out|apply Q7 GE324.out)⟩
end Go.Proofs.Ythepmdlpjdlajaa.PFnExactCallsOf
