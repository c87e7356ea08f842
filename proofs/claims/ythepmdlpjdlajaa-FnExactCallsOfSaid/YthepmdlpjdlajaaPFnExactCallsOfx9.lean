/- The walk of FnExactCallsOf: each Go function that the law reaches as a plain Lean function, with the proof that a call does what it says; no conditions. Written by a program for this claim. -/
import Derived.Test.YthepmdlpjdlajaaPFnExactCallsOfx0
import Derived.Test.YthepmdlpjdlajaaPFnExactCallsOfx6
import Derived.Test.YthepmdlpjdlajaaPFnExactCallsOfx7
import Derived.Test.YthepmdlpjdlajaaPFnExactCallsOfx8
namespace Go.Proofs.Ythepmdlpjdlajaa.PFnExactCallsOf
open Go.RowKit Go.Proofs.YthepmdlpjdlajaaW.PrintWords Go.Proofs.YthepmdlpjdlajaaW.PrintLast Go.Proofs.YthepmdlpjdlajaaW.PrintMore
attribute [local go_sem] max2_int min2_int max_two min_two max_three min_three max_four min_four   -- for this text's walks alone
set_option linter.unusedVariables false
set_option linter.unusedSimpArgs false
mutual
def impl_decode.l0:Nat→Int→List (S120)→Int→Int→Option (Int × Int × Int × Int × Int × Bool)
  | 0,_,_,_,_=>none
  | k+1,x0,x14,x15,x16=>if x16 < x15 then (if 0≤x16 then (if x16 < (x14.length:Int) then (if x16=0 then (impl_decode.j1 k x0 x16 x14 x15 x16 true ((rd_T120 x14 x16).f1.f0) ((rd_T120 x14 x16).f1.f1) ((rd_T120 x14 x16).f1.f2) ((rd_T120 x14 x16).f1.f3)) else ((impl_bitsOf.f x0 0 7).bind fun t341=>(impl_decode.j1 k x0 x16 x14 x15 x16 (((rd_T120 x14 x16).f1.f1) != t341) ((rd_T120 x14 x16).f1.f0) ((rd_T120 x14 x16).f1.f1) ((rd_T120 x14 x16).f1.f2) ((rd_T120 x14 x16).f1.f3)))) else (none)) else (none)) else (some (0,0,0,0,0,false))
def impl_decode.j1:Nat→Int→Int→List (S120)→Int→Int→Bool→Int→Int→Int→Int→Option (Int × Int × Int × Int × Int × Bool)
  | 0,_,_,_,_,_,_,_,_,_,_=>none
  | k+1,x0,x4,x14,x15,x16,x31,x341000,x341001,x341002,x341003=>if x31=true then (impl_decode.l0 k x0 x14 x15 (wrap64 (x16+1))) else ((impl_pieces.f x341000).bind fun t343=>(impl_decode.l1 k x0 x14 x15 x16 t343 (t343.length:Int) 0 x341000 x341001 x341002 x341003 x4 0 0 0 0))
def impl_decode.l1:Nat→Int→List (S120)→Int→Int→List (S125)→Int→Int→Int→Int→Int→Int→Int→Int→Int→Int→Int→Option (Int × Int × Int × Int × Int × Bool)
  | 0,_,_,_,_,_,_,_,_,_,_,_,_,_,_,_,_=>none
  | k+1,x0,x14,x15,x16,x36,x37,x38,x341000,x341001,x341002,x341003,x343000,x343001,x343002,x343003,x343004=>if x38 < x37 then (if 0≤x38 then (if x38 < (x36.length:Int) then ((impl_bitsOf.f x0 ((rd_T125 x36 x38).f2) ((rd_T125 x36 x38).f1)).bind fun t348=>(if 0≤((rd_T125 x36 x38).f0) then (impl_decode.l1 k x0 x14 x15 x16 x36 x37 (wrap64 (x38+1)) x341000 x341001 x341002 x341003 x343000 x343001 x343002 x343003 (Go.bits .or .i64 x343004 (shl .i64 t348 ((rd_T125 x36 x38).f0)))) else (none))) else (none)) else (none)) else ((impl_immBits.f k x341000).bind fun t349=>(if t349 > 0 then ((impl_signOf.f x343004 t349).bind fun t350=>(impl_decode.j3 k x0 x14 x15 x16 x341000 x341001 x341002 x341003 x343000 x343001 x343002 x343003 t350)) else (impl_decode.j3 k x0 x14 x15 x16 x341000 x341001 x341002 x341003 x343000 x343001 x343002 x343003 x343004)))
def impl_decode.j3:Nat→Int→List (S120)→Int→Int→Int→Int→Int→Int→Int→Int→Int→Int→Int→Option (Int × Int × Int × Int × Int × Bool)
  | 0,_,_,_,_,_,_,_,_,_,_,_,_,_=>none
  | k+1,x0,x14,x15,x16,x341000,x341001,x341002,x341003,x343000,x343001,x343002,x343003,x343004=>(impl_fields.f k x341000).bind fun bt351=>(if bt351.1=true then ((impl_bitsOf.f x0 7 5).bind fun t354=>(impl_decode.j4 k x0 bt351.2.1 bt351.2.2 x14 x15 x16 x343000 t354 x343002 x343003 x343004)) else (impl_decode.j4 k x0 bt351.2.1 bt351.2.2 x14 x15 x16 x343000 x343001 x343002 x343003 x343004))
def impl_decode.j4:Nat→Int→Bool→Bool→List (S120)→Int→Int→Int→Int→Int→Int→Int→Option (Int × Int × Int × Int × Int × Bool)
  | 0,_,_,_,_,_,_,_,_,_,_,_=>none
  | k+1,x0,x12,x13,x14,x15,x16,x343000,x343001,x343002,x343003,x343004=>if x12=true then ((impl_bitsOf.f x0 15 5).bind fun t355=>(impl_decode.j5 k x0 x13 x14 x15 x16 x343000 x343001 t355 x343003 x343004)) else (impl_decode.j5 k x0 x13 x14 x15 x16 x343000 x343001 x343002 x343003 x343004)
def impl_decode.j5:Nat→Int→Bool→List (S120)→Int→Int→Int→Int→Int→Int→Int→Option (Int × Int × Int × Int × Int × Bool)
  | 0,_,_,_,_,_,_,_,_,_,_=>none
  | k+1,x0,x13,x14,x15,x16,x343000,x343001,x343002,x343003,x343004=>if x13=true then ((impl_bitsOf.f x0 20 5).bind fun t356=>((impl_encode.f k x343000 x343001 x343002 t356 x343004).bind fun t357=>(if t357=x0 then (some (x343000,x343001,x343002,t356,x343004,true)) else (impl_decode.l0 k x0 x14 x15 (wrap64 (x16+1)))))) else ((impl_encode.f k x343000 x343001 x343002 x343003 x343004).bind fun t358=>(if t358=x0 then (some (x343000,x343001,x343002,x343003,x343004,true)) else (impl_decode.l0 k x0 x14 x15 (wrap64 (x16+1)))))
end
def impl_decode.f (k:Nat) (a0:Int):Option (Int × Int × Int × Int × Int × Bool):=(impl_ops.f).bind fun t335=>(impl_decode.l0 k a0 t335 (t335.length:Int) 0)
theorem impl_decode.mono_l : ∀ k,(∀ y0 y1 y2 y3,LeO (impl_decode.l0 k y0 y1 y2 y3) (impl_decode.l0 (k+1) y0 y1 y2 y3))∧(∀ y0 y1 y2 y3 y4 y5 y6 y7 y8 y9,LeO (impl_decode.j1 k y0 y1 y2 y3 y4 y5 y6 y7 y8 y9) (impl_decode.j1 (k+1) y0 y1 y2 y3 y4 y5 y6 y7 y8 y9))∧(∀ y0 y1 y2 y3 y4 y5 y6 y7 y8 y9 y10 y11 y12 y13 y14 y15,LeO (impl_decode.l1 k y0 y1 y2 y3 y4 y5 y6 y7 y8 y9 y10 y11 y12 y13 y14 y15) (impl_decode.l1 (k+1) y0 y1 y2 y3 y4 y5 y6 y7 y8 y9 y10 y11 y12 y13 y14 y15))∧(∀ y0 y1 y2 y3 y4 y5 y6 y7 y8 y9 y10 y11 y12,LeO (impl_decode.j3 k y0 y1 y2 y3 y4 y5 y6 y7 y8 y9 y10 y11 y12) (impl_decode.j3 (k+1) y0 y1 y2 y3 y4 y5 y6 y7 y8 y9 y10 y11 y12))∧(∀ y0 y1 y2 y3 y4 y5 y6 y7 y8 y9 y10,LeO (impl_decode.j4 k y0 y1 y2 y3 y4 y5 y6 y7 y8 y9 y10) (impl_decode.j4 (k+1) y0 y1 y2 y3 y4 y5 y6 y7 y8 y9 y10))∧(∀ y0 y1 y2 y3 y4 y5 y6 y7 y8 y9,LeO (impl_decode.j5 k y0 y1 y2 y3 y4 y5 y6 y7 y8 y9) (impl_decode.j5 (k+1) y0 y1 y2 y3 y4 y5 y6 y7 y8 y9))
  | 0=>⟨fun _ _ _ _ r h=>by simp [impl_decode.l0] at h,fun _ _ _ _ _ _ _ _ _ _ r h=>by simp [impl_decode.j1] at h,fun _ _ _ _ _ _ _ _ _ _ _ _ _ _ _ _ r h=>by simp [impl_decode.l1] at h,fun _ _ _ _ _ _ _ _ _ _ _ _ _ r h=>by simp [impl_decode.j3] at h,fun _ _ _ _ _ _ _ _ _ _ _ r h=>by simp [impl_decode.j4] at h,fun _ _ _ _ _ _ _ _ _ _ r h=>by simp [impl_decode.j5] at h⟩
  | k+1=>by
    obtain ⟨ih0,ih1,ih2,ih3,ih4,ih5⟩:=impl_decode.mono_l k
    refine ⟨?_,?_,?_,?_,?_,?_⟩<;>intros<;>(first|unfold impl_decode.l0|unfold impl_decode.j1|unfold impl_decode.l1|unfold impl_decode.j3|unfold impl_decode.j4|unfold impl_decode.j5)<;>repeat' (with_reducible first|apply ih0|apply ih1|apply ih2|apply ih3|apply ih4|apply ih5|apply impl_encode.mono|apply impl_fields.mono|apply impl_immBits.mono|apply LeO.refl|apply LeO.none|apply LeO.ite|refine LeO.bind ?_ (fun _=>?_))
theorem impl_decode.mono : ∀ a0 k,LeO (impl_decode.f k a0) (impl_decode.f (k+1) a0):=by
 intro a0 k
 obtain ⟨ih0,ih1,ih2,ih3,ih4,ih5⟩:=impl_decode.mono_l k
 unfold impl_decode.f
 repeat' (with_reducible first|apply ih0|apply ih1|apply ih2|apply ih3|apply ih4|apply ih5|apply impl_encode.mono|apply impl_fields.mono|apply impl_immBits.mono|apply LeO.refl|apply LeO.none|apply LeO.ite|refine LeO.bind ?_ (fun _=>?_))
def impl_decode.T5:Bool × List (List Nat × List Nat):=(true,[([],[]),([0],[0]),([1],[1]),([2],[2]),([3,2],[2,3]),([2],[2]),([5,2,2],[2,5]),([4,6,2],[2,4,6]),([2,7],[2,7])])
def impl_decode.B5:List Nat:=[0,1,3,7,15,7,39,127,255]
theorem impl_decode.tab5:rtab .any (opsOf Try.f89 5)=impl_decode.T5:=by kernel_rfl
theorem impl_decode.bits5:waitsOk impl_decode.T5.2 impl_decode.B5=true:=by kernel_rfl
def impl_decode.T10:Bool × List (List Nat × List Nat):=(true,[([],[]),([0],[0]),([],[]),([],[]),([3],[3]),([],[]),([5],[5]),([2,4,6],[2,4,6]),([],[]),([8],[8]),([7,9],[7,9]),([1,10],[1,10]),([0,1,2,3,4,5,6,7,8,9,10,11],[]),([12,11,7,0,1,2,3,4,5,6,7,8,9,10,11],[11,12])])
def impl_decode.B10:List Nat:=[0,1,0,0,8,0,32,124,0,256,1020,2047,4095,8191]
theorem impl_decode.tab10:rtab .any (opsOf Try.f89 10)=impl_decode.T10:=by kernel_rfl
theorem impl_decode.bits10:waitsOk impl_decode.T10.2 impl_decode.B10=true:=by kernel_rfl
set_option maxHeartbeats 8000000 in
set_option maxRecDepth 100000 in
theorem impl_decode.calls (k:Nat) (a0:Int) (r1:Int) (r2:Int) (r3:Int) (r4:Int) (r5:Int) (r6:Bool) (w:World) (h:impl_decode.f k a0=some (r1,r2,r3,r4,r5,r6)) :
    Calls Try.prog 89 #[.int .i64 a0] w fun e w'=>e=.returned (.tuple #[.agg #[.int .i64 r1,.int .i64 r2,.int .i64 r3,.int .i64 r4,.int .i64 r5],.bool r6])∧Below w.heap.size w w':=by
 have hu86:=Try.underlying86
 have hu120:=Try.underlying120
 have hu109:=Try.underlying109
 have hu125:=Try.underlying125
 have HB:=Aside0.mk (Below.refl w.heap.size w)
 have H:((impl_ops.f).bind fun t335=>(impl_decode.l0 k a0 t335 (t335.length:Int) 0))=some (r1,r2,r3,r4,r5,r6):=h
 clear h
 obtain ⟨t335,A2,H⟩:=bindA H
 have H':=Aside0.mk H
 clear H
 go_enter Try.func89,Try.ntmps89
 go_wp2_with (first|((with_reducible refine gate_dst (N:=2) rfl ?_);refine box_event ?hg (N:=2) ?hd (cs:=#[.int .i64 0,.int .i64 0,.int .i64 0,.int .i64 0,.int .i64 0]) (t:=86) ?hr ?_;(case hd=>rfl);(case hg=>rfl);(case hr=>first|(go_simp;done)|(go_simp;rfl));intro gb334 hg w3 hbox hb;have n0_:=Aside0.mk (below_step (by repeat (with_reducible first|exact HB.out|apply Q4|apply Q5|apply Q6)) hb);have n1_:=Aside0.mk (hbox);have n2_:=Aside0.mk ((by rw [hg];exact (below_size (by repeat (with_reducible first|exact HB.out|apply Q4|apply Q5|apply Q6))):w.heap.size≤gb334));have n3_:=Aside0.mk ((by rw [hg];exact (below_size (by repeat (with_reducible first|exact HB.out|apply Q4|apply Q5|apply Q6))):w.heap.size≤gb334));clear HB;have HB:=n0_;have BK334:=n1_;have GW334:=n2_;have GE334:=n3_;clear n0_ n1_ n2_ n3_;clear hb hbox hg)|((with_reducible refine gate_callee (f:=106) rfl ?_);refine goesL_ (some 14) rfl rfl Try.func106 (by kernel_rfl) rfl #[] rfl (by (try simp only [List.map_toArray,List.map_cons,List.map_nil]);first|done|rfl|(simp only [List.length_drop,List.length_take];rfl)) ?_;(with_reducible refine (impl_ops.calls  t335 _ A2.out).mono ?_);rintro e w4 ⟨v336,rfl,ho0,hb⟩;refine ⟨_,rfl,?_⟩;have n0_:=Aside0.mk (Kd.R_lower ho0 (below_size (by repeat (with_reducible first|exact HB.out|apply Q4|apply Q5|apply Q6|apply Q7 GE334.out))));have n1_:=Aside0.mk (blk_below (g:=gb334) (o:=.cells #[.int .i64 0,.int .i64 0,.int .i64 0,.int .i64 0,.int .i64 0] 86 (0,0)) (by (with_reducible repeat first|apply Q1|apply Q2|apply Q3);exact BK334.out) hb);have n2_:=Aside0.mk (below_step (by repeat (with_reducible first|exact HB.out|apply Q4|apply Q5|apply Q6|apply Q7 GE334.out)) hb);clear BK334;clear HB;have HO337:=n0_;have BK334:=n1_;have HB:=n2_;clear n0_ n1_ n2_;(try clear hb);(try clear hb2);(try clear hk);(try clear hi);(try clear ho0);obtain ⟨Ao5,co5,eo5⟩:=Kd.R_slice HO337.out;subst eo5))
 go_loopg [16] k (fun kq v16 w'=>∃ (x16_1:Int) (x335000_1:Int) (x335001_1:Int) (x335002_1:Int) (x335003_1:Int) (x335004_1:Int),v16=.int .i64 x16_1∧Aside0 (impl_decode.l0 kq a0 t335 (t335.length:Int) x16_1=some (r1,r2,r3,r4,r5,r6))∧Aside0 (kq≤k)∧Aside0 (Kd.R k120 120 w' w.heap.size (fun _=>True) (.slice Ao5 t335.length co5) t335)∧Aside0 (w'.heap[gb334]?=some (.cells #[.int .i64 x335000_1,.int .i64 x335001_1,.int .i64 x335002_1,.int .i64 x335003_1,.int .i64 x335004_1] 86 (0,0)))∧Aside0 (Below w.heap.size w w'))
 case atStart=>exact ⟨(0),(0),(0),(0),(0),(0),(by first|rfl|(simp;done)|(simp [*];done)),H',⟨Nat.le_refl _⟩,⟨by (with_reducible repeat (first|apply Kd.R_alloc|apply Kd.R_drewN|apply Kd.R_drew));exact HO337.out⟩,⟨by (with_reducible repeat first|apply Q1|apply Q2|apply Q3);exact BK334.out⟩,⟨by repeat (with_reducible first|exact HB.out|apply Q4|apply Q5|apply Q6|apply Q7 GE334.out)⟩⟩
 clear H'
 obtain ⟨x16_1,x335000_1,x335001_1,x335002_1,x335003_1,x335004_1,rfl,HA,HK1,HO_14,BK334,HB⟩:=hrel
 cases gk with
 | zero=>exact absurd HA.out (by simp [impl_decode.l0])
 | succ k1 =>
  have H:=HA.out
  clear HA
  simp only [impl_decode.l0] at H
  by_cases c6:x16_1 < (t335.length:Int)
  ·rw [if_pos c6] at H
   have c6b0:decide (x16_1 < (t335.length:Int))=true:=decide_eq_true c6
   clear c6
   by_cases c7:0≤x16_1
   ·rw [if_pos c7] at H
    have c7b0:decide (0≤x16_1)=true:=decide_eq_true c7
    clear c7
    by_cases c8:x16_1 < (t335.length:Int)
    ·rw [if_pos c8] at H
     have c8b0:decide (x16_1 < (t335.length:Int))=true:=decide_eq_true c8
     clear c8
     have HC9:=Aside0.mk H
     clear H
     have p338:0≤(x16_1:Int):=of_decide_eq_true (by first|(with_reducible assumption)|assumption)
     have q338:x16_1 < (t335.length:Int):=of_decide_eq_true (by first|(with_reducible assumption)|assumption)
     obtain ⟨ad338,e338,hx338_0,hx338_1,hx338_2,hx338_3,hx338_4⟩:=at_T120 (Kd.R_reads' HO_14.out).2.2 x16_1 p338 q338
     cases e338
     replace p338:=eq_true p338
     replace q338:=eq_true q338
     go_upto_region 5 with (first|((with_reducible refine gate_dst (N:=5) rfl ?_);refine box_event ?hg (N:=5) ?hd (cs:=#[.string (⟨#[]⟩:ByteArray),.int .i64 0,.int .i64 0,.int .i64 0,.int .i64 0]) (t:=120) ?hr ?_;(case hd=>rfl);(case hg=>rfl);(case hr=>first|(go_simp;done)|(go_simp;rfl));intro gb339 hg w10 hbox hb;have n0_:=Aside0.mk (Kd.R_below (Kd.R_elderB (by (with_reducible repeat (first|apply Kd.R_alloc|apply Kd.R_drewN|apply Kd.R_drew));exact HO_14.out) gb339 (Nat.le_of_eq hg.symm)) hb);have n1_:=Aside0.mk (blk_below (g:=gb334) (o:=.cells #[.int .i64 x335000_1,.int .i64 x335001_1,.int .i64 x335002_1,.int .i64 x335003_1,.int .i64 x335004_1] 86 (0,0)) (by (with_reducible repeat first|apply Q1|apply Q2|apply Q3);exact BK334.out) hb);have n2_:=Aside0.mk (below_step (by repeat (with_reducible first|exact HB.out|apply Q4|apply Q5|apply Q6|apply Q7 GE334.out)) hb);have n3_:=Aside0.mk (hbox);have n4_:=Aside0.mk ((by rw [hg];exact (below_size (by repeat (with_reducible first|exact HB.out|apply Q4|apply Q5|apply Q6|apply Q7 GE334.out))):w.heap.size≤gb339));have n5_:=Aside0.mk ((by rw [hg];exact (below_size (by repeat (with_reducible first|exact HB.out|apply Q4|apply Q5|apply Q6|apply Q7 GE334.out))):w.heap.size≤gb339));have n6_:=Aside0.mk ((by rw [hg];exact Nat.ne_of_lt (blk_lt (g:=gb334) (o:=.cells #[.int .i64 x335000_1,.int .i64 x335001_1,.int .i64 x335002_1,.int .i64 x335003_1,.int .i64 x335004_1] 86 (0,0)) (by (with_reducible repeat first|apply Q1|apply Q2|apply Q3);exact BK334.out)):gb334≠gb339));have n7_:=Aside0.mk ((by rw [hg];exact Nat.ne_of_gt (blk_lt (g:=gb334) (o:=.cells #[.int .i64 x335000_1,.int .i64 x335001_1,.int .i64 x335002_1,.int .i64 x335003_1,.int .i64 x335004_1] 86 (0,0)) (by (with_reducible repeat first|apply Q1|apply Q2|apply Q3);exact BK334.out)):gb339≠gb334));clear HO_14;clear BK334;clear HB;have HO_14:=n0_;have BK334:=n1_;have HB:=n2_;have BK339:=n3_;have GW339:=n4_;have GE339:=n5_;have NB334_339:=n6_;have NB339_334:=n7_;clear n0_ n1_ n2_ n3_ n4_ n5_ n6_ n7_;clear hb hbox hg;have hnb11:=NB339_334.out;have hnc11:=NB334_339.out;have hcz12_0:w10.cell? ⟨gb339,0,none⟩=some (.string (⟨#[]⟩:ByteArray)):=(blk_cell BK339.out 0).trans rfl;have hcz12_1:w10.cell? ⟨gb339,1,none⟩=some (.int .i64 0):=(blk_cell BK339.out 1).trans rfl;have hcz12_2:w10.cell? ⟨gb339,2,none⟩=some (.int .i64 0):=(blk_cell BK339.out 2).trans rfl;have hcz12_3:w10.cell? ⟨gb339,3,none⟩=some (.int .i64 0):=(blk_cell BK339.out 3).trans rfl;have hcz12_4:w10.cell? ⟨gb339,4,none⟩=some (.int .i64 0):=(blk_cell BK339.out 4).trans rfl;have hfz12_0:=blk_frozen BK339.out 0;have hfz12_1:=blk_frozen BK339.out 1;have hfz12_2:=blk_frozen BK339.out 2;have hfz12_3:=blk_frozen BK339.out 3;have hfz12_4:=blk_frozen BK339.out 4)|((with_reducible refine gate_dst (N:=6) rfl ?_);refine box_event ?hg (N:=6) ?hd (cs:=#[.int .i64 0,.int .i64 0,.int .i64 0,.int .i64 0]) (t:=109) ?hr ?_;(case hd=>rfl);(case hg=>rfl);(case hr=>first|(go_simp;done)|(go_simp;rfl));intro gb340 hg w13 hbox hb;have n0_:=Aside0.mk (Kd.R_below (by (with_reducible repeat (first|apply Kd.R_alloc|apply Kd.R_drewN|apply Kd.R_drew));exact (Kd.R_mono (Kd.R_far (p:=⟨gb339,4,none⟩) (Kd.R_far (p:=⟨gb339,3,none⟩) (Kd.R_far (p:=⟨gb339,2,none⟩) (Kd.R_far (p:=⟨gb339,1,none⟩) (Kd.R_far (p:=⟨gb339,0,none⟩) (Kd.R_mono HO_14.out (fun k_ hk=>(⟨hk,hk.2⟩:_∧k_≠gb339))) (fun _ hk=>hk.2) (.string ((rd_T120 t335 x16_1).f0))) (fun _ hk=>hk.2) (.int .i64 ((rd_T120 t335 x16_1).f1.f0))) (fun _ hk=>hk.2) (.int .i64 ((rd_T120 t335 x16_1).f1.f1))) (fun _ hk=>hk.2) (.int .i64 ((rd_T120 t335 x16_1).f1.f2))) (fun _ hk=>hk.2) (.int .i64 ((rd_T120 t335 x16_1).f1.f3))) (fun _ h_=>h_.1))) hb);have n1_:=Aside0.mk (blk_below (g:=gb334) (o:=.cells #[.int .i64 x335000_1,.int .i64 x335001_1,.int .i64 x335002_1,.int .i64 x335003_1,.int .i64 x335004_1] 86 (0,0)) (by (with_reducible repeat first|apply Q1|apply Q2|apply Q3);refine blk_far ?_ NB334_339.out _;(with_reducible repeat first|apply Q1|apply Q2|apply Q3);refine blk_far ?_ NB334_339.out _;(with_reducible repeat first|apply Q1|apply Q2|apply Q3);refine blk_far ?_ NB334_339.out _;(with_reducible repeat first|apply Q1|apply Q2|apply Q3);refine blk_far ?_ NB334_339.out _;(with_reducible repeat first|apply Q1|apply Q2|apply Q3);refine blk_far ?_ NB334_339.out _;(with_reducible repeat first|apply Q1|apply Q2|apply Q3);exact BK334.out) hb);have n2_:=Aside0.mk (blk_below (g:=gb339) (o:=.cells #[.string ((rd_T120 t335 x16_1).f0),.int .i64 ((rd_T120 t335 x16_1).f1.f0),.int .i64 ((rd_T120 t335 x16_1).f1.f1),.int .i64 ((rd_T120 t335 x16_1).f1.f2),.int .i64 ((rd_T120 t335 x16_1).f1.f3)] 120 (0,0)) (by (with_reducible repeat first|apply Q1|apply Q2|apply Q3);refine blk_put (cs:=#[.string ((rd_T120 t335 x16_1).f0),.int .i64 ((rd_T120 t335 x16_1).f1.f0),.int .i64 ((rd_T120 t335 x16_1).f1.f1),.int .i64 ((rd_T120 t335 x16_1).f1.f2),.int .i64 0]) ?_ 4 _ rfl;(with_reducible repeat first|apply Q1|apply Q2|apply Q3);refine blk_put (cs:=#[.string ((rd_T120 t335 x16_1).f0),.int .i64 ((rd_T120 t335 x16_1).f1.f0),.int .i64 ((rd_T120 t335 x16_1).f1.f1),.int .i64 0,.int .i64 0]) ?_ 3 _ rfl;(with_reducible repeat first|apply Q1|apply Q2|apply Q3);refine blk_put (cs:=#[.string ((rd_T120 t335 x16_1).f0),.int .i64 ((rd_T120 t335 x16_1).f1.f0),.int .i64 0,.int .i64 0,.int .i64 0]) ?_ 2 _ rfl;(with_reducible repeat first|apply Q1|apply Q2|apply Q3);refine blk_put (cs:=#[.string ((rd_T120 t335 x16_1).f0),.int .i64 0,.int .i64 0,.int .i64 0,.int .i64 0]) ?_ 1 _ rfl;(with_reducible repeat first|apply Q1|apply Q2|apply Q3);refine blk_put (cs:=#[.string (⟨#[]⟩:ByteArray),.int .i64 0,.int .i64 0,.int .i64 0,.int .i64 0]) ?_ 0 _ rfl;(with_reducible repeat first|apply Q1|apply Q2|apply Q3);exact BK339.out) hb);have n3_:=Aside0.mk (below_step (by repeat (with_reducible first|exact HB.out|apply Q4|apply Q5|apply Q6|apply Q7 GE334.out|apply Q7 GE339.out)) hb);have n4_:=Aside0.mk (hbox);have n5_:=Aside0.mk ((by rw [hg];exact (below_size (by repeat (with_reducible first|exact HB.out|apply Q4|apply Q5|apply Q6|apply Q7 GE334.out|apply Q7 GE339.out))):w.heap.size≤gb340));have n6_:=Aside0.mk ((by rw [hg];exact (below_size (by repeat (with_reducible first|exact HB.out|apply Q4|apply Q5|apply Q6|apply Q7 GE334.out|apply Q7 GE339.out))):w.heap.size≤gb340));have n7_:=Aside0.mk ((by rw [hg];exact Nat.ne_of_lt (blk_lt (g:=gb334) (o:=.cells #[.int .i64 x335000_1,.int .i64 x335001_1,.int .i64 x335002_1,.int .i64 x335003_1,.int .i64 x335004_1] 86 (0,0)) (by (with_reducible repeat first|apply Q1|apply Q2|apply Q3);refine blk_far ?_ NB334_339.out _;(with_reducible repeat first|apply Q1|apply Q2|apply Q3);refine blk_far ?_ NB334_339.out _;(with_reducible repeat first|apply Q1|apply Q2|apply Q3);refine blk_far ?_ NB334_339.out _;(with_reducible repeat first|apply Q1|apply Q2|apply Q3);refine blk_far ?_ NB334_339.out _;(with_reducible repeat first|apply Q1|apply Q2|apply Q3);refine blk_far ?_ NB334_339.out _;(with_reducible repeat first|apply Q1|apply Q2|apply Q3);exact BK334.out)):gb334≠gb340));have n8_:=Aside0.mk ((by rw [hg];exact Nat.ne_of_gt (blk_lt (g:=gb334) (o:=.cells #[.int .i64 x335000_1,.int .i64 x335001_1,.int .i64 x335002_1,.int .i64 x335003_1,.int .i64 x335004_1] 86 (0,0)) (by (with_reducible repeat first|apply Q1|apply Q2|apply Q3);refine blk_far ?_ NB334_339.out _;(with_reducible repeat first|apply Q1|apply Q2|apply Q3);refine blk_far ?_ NB334_339.out _;(with_reducible repeat first|apply Q1|apply Q2|apply Q3);refine blk_far ?_ NB334_339.out _;(with_reducible repeat first|apply Q1|apply Q2|apply Q3);refine blk_far ?_ NB334_339.out _;(with_reducible repeat first|apply Q1|apply Q2|apply Q3);refine blk_far ?_ NB334_339.out _;(with_reducible repeat first|apply Q1|apply Q2|apply Q3);exact BK334.out)):gb340≠gb334));have n9_:=Aside0.mk ((by rw [hg];exact Nat.ne_of_lt (blk_lt (g:=gb339) (o:=.cells #[.string ((rd_T120 t335 x16_1).f0),.int .i64 ((rd_T120 t335 x16_1).f1.f0),.int .i64 ((rd_T120 t335 x16_1).f1.f1),.int .i64 ((rd_T120 t335 x16_1).f1.f2),.int .i64 ((rd_T120 t335 x16_1).f1.f3)] 120 (0,0)) (by (with_reducible repeat first|apply Q1|apply Q2|apply Q3);refine blk_put (cs:=#[.string ((rd_T120 t335 x16_1).f0),.int .i64 ((rd_T120 t335 x16_1).f1.f0),.int .i64 ((rd_T120 t335 x16_1).f1.f1),.int .i64 ((rd_T120 t335 x16_1).f1.f2),.int .i64 0]) ?_ 4 _ rfl;(with_reducible repeat first|apply Q1|apply Q2|apply Q3);refine blk_put (cs:=#[.string ((rd_T120 t335 x16_1).f0),.int .i64 ((rd_T120 t335 x16_1).f1.f0),.int .i64 ((rd_T120 t335 x16_1).f1.f1),.int .i64 0,.int .i64 0]) ?_ 3 _ rfl;(with_reducible repeat first|apply Q1|apply Q2|apply Q3);refine blk_put (cs:=#[.string ((rd_T120 t335 x16_1).f0),.int .i64 ((rd_T120 t335 x16_1).f1.f0),.int .i64 0,.int .i64 0,.int .i64 0]) ?_ 2 _ rfl;(with_reducible repeat first|apply Q1|apply Q2|apply Q3);refine blk_put (cs:=#[.string ((rd_T120 t335 x16_1).f0),.int .i64 0,.int .i64 0,.int .i64 0,.int .i64 0]) ?_ 1 _ rfl;(with_reducible repeat first|apply Q1|apply Q2|apply Q3);refine blk_put (cs:=#[.string (⟨#[]⟩:ByteArray),.int .i64 0,.int .i64 0,.int .i64 0,.int .i64 0]) ?_ 0 _ rfl;(with_reducible repeat first|apply Q1|apply Q2|apply Q3);exact BK339.out)):gb339≠gb340));have n10_:=Aside0.mk ((by rw [hg];exact Nat.ne_of_gt (blk_lt (g:=gb339) (o:=.cells #[.string ((rd_T120 t335 x16_1).f0),.int .i64 ((rd_T120 t335 x16_1).f1.f0),.int .i64 ((rd_T120 t335 x16_1).f1.f1),.int .i64 ((rd_T120 t335 x16_1).f1.f2),.int .i64 ((rd_T120 t335 x16_1).f1.f3)] 120 (0,0)) (by (with_reducible repeat first|apply Q1|apply Q2|apply Q3);refine blk_put (cs:=#[.string ((rd_T120 t335 x16_1).f0),.int .i64 ((rd_T120 t335 x16_1).f1.f0),.int .i64 ((rd_T120 t335 x16_1).f1.f1),.int .i64 ((rd_T120 t335 x16_1).f1.f2),.int .i64 0]) ?_ 4 _ rfl;(with_reducible repeat first|apply Q1|apply Q2|apply Q3);refine blk_put (cs:=#[.string ((rd_T120 t335 x16_1).f0),.int .i64 ((rd_T120 t335 x16_1).f1.f0),.int .i64 ((rd_T120 t335 x16_1).f1.f1),.int .i64 0,.int .i64 0]) ?_ 3 _ rfl;(with_reducible repeat first|apply Q1|apply Q2|apply Q3);refine blk_put (cs:=#[.string ((rd_T120 t335 x16_1).f0),.int .i64 ((rd_T120 t335 x16_1).f1.f0),.int .i64 0,.int .i64 0,.int .i64 0]) ?_ 2 _ rfl;(with_reducible repeat first|apply Q1|apply Q2|apply Q3);refine blk_put (cs:=#[.string ((rd_T120 t335 x16_1).f0),.int .i64 0,.int .i64 0,.int .i64 0,.int .i64 0]) ?_ 1 _ rfl;(with_reducible repeat first|apply Q1|apply Q2|apply Q3);refine blk_put (cs:=#[.string (⟨#[]⟩:ByteArray),.int .i64 0,.int .i64 0,.int .i64 0,.int .i64 0]) ?_ 0 _ rfl;(with_reducible repeat first|apply Q1|apply Q2|apply Q3);exact BK339.out)):gb340≠gb339));clear HO_14;clear BK334;clear BK339;clear HB;have HO_14:=n0_;have BK334:=n1_;have BK339:=n2_;have HB:=n3_;have BK340:=n4_;have GW340:=n5_;have GE340:=n6_;have NB334_340:=n7_;have NB340_334:=n8_;have NB339_340:=n9_;have NB340_339:=n10_;clear n0_ n1_ n2_ n3_ n4_ n5_ n6_ n7_ n8_ n9_ n10_;clear hb hbox hg;have hnb14:=NB340_334.out;have hnc14:=NB334_340.out;have hnb15:=NB340_339.out;have hnc15:=NB339_340.out;have hcz16_0:w13.cell? ⟨gb340,0,none⟩=some (.int .i64 0):=(blk_cell BK340.out 0).trans rfl;have hcz16_1:w13.cell? ⟨gb340,1,none⟩=some (.int .i64 0):=(blk_cell BK340.out 1).trans rfl;have hcz16_2:w13.cell? ⟨gb340,2,none⟩=some (.int .i64 0):=(blk_cell BK340.out 2).trans rfl;have hcz16_3:w13.cell? ⟨gb340,3,none⟩=some (.int .i64 0):=(blk_cell BK340.out 3).trans rfl;have hfz16_0:=blk_frozen BK340.out 0;have hfz16_1:=blk_frozen BK340.out 1;have hfz16_2:=blk_frozen BK340.out 2;have hfz16_3:=blk_frozen BK340.out 3))
     (try simp only [Act.put,List.setIfInBounds_toArray,List.set_cons_zero,List.set_cons_succ])
     go_cut [31] (fun v31 wc=>∃ (kq:Nat) (x31_8:Bool),v31=.bool x31_8∧Aside0 (impl_decode.j1 kq a0 x16_1 t335 (t335.length:Int) x16_1 x31_8 ((rd_T120 t335 x16_1).f1.f0) ((rd_T120 t335 x16_1).f1.f1) ((rd_T120 t335 x16_1).f1.f2) ((rd_T120 t335 x16_1).f1.f3)=some (r1,r2,r3,r4,r5,r6))∧Aside0 (kq≤k1)∧Aside0 (Kd.R k120 120 wc w.heap.size (fun k_=>k_≠gb339) (.slice (some ad338) t335.length co5) t335)∧Aside0 (wc.heap[gb334]?=some (.cells #[.int .i64 x335000_1,.int .i64 x335001_1,.int .i64 x335002_1,.int .i64 x335003_1,.int .i64 x335004_1] 86 (0,0)))∧Aside0 (wc.heap[gb339]?=some (.cells #[.string ((rd_T120 t335 x16_1).f0),.int .i64 ((rd_T120 t335 x16_1).f1.f0),.int .i64 ((rd_T120 t335 x16_1).f1.f1),.int .i64 ((rd_T120 t335 x16_1).f1.f2),.int .i64 ((rd_T120 t335 x16_1).f1.f3)] 120 (0,0)))∧Aside0 (wc.heap[gb340]?=some (.cells #[.int .i64 ((rd_T120 t335 x16_1).f1.f0),.int .i64 ((rd_T120 t335 x16_1).f1.f1),.int .i64 ((rd_T120 t335 x16_1).f1.f2),.int .i64 ((rd_T120 t335 x16_1).f1.f3)] 109 (0,0)))∧Aside0 (Below w.heap.size w wc))
     case first=>
      have H:=HC9.out
      clear HC9
      by_cases c17:x16_1=0
      ·rw [if_pos c17] at H
       obtain ⟨c17b0,c17b1⟩:=eqP c17
       clear c17
       (first|rw [c17b0]|(simp only [i64_w,i32_w];rw [c17b0])|skip)
       have H':=Aside0.mk H
       clear H
       try go_wp2
       have n0_:Aside0 (Kd.R k120 120 ((((w13.setCell ⟨gb340,0,none⟩ (.int .i64 ((rd_T120 t335 x16_1).f1.f0))).setCell ⟨gb340,1,none⟩ (.int .i64 ((rd_T120 t335 x16_1).f1.f1))).setCell ⟨gb340,2,none⟩ (.int .i64 ((rd_T120 t335 x16_1).f1.f2))).setCell ⟨gb340,3,none⟩ (.int .i64 ((rd_T120 t335 x16_1).f1.f3))) w.heap.size (fun k_=>k_≠gb339) (.slice (some ad338) t335.length co5) t335):=⟨by (with_reducible repeat (first|apply Kd.R_alloc|apply Kd.R_drewN|apply Kd.R_drew));exact Kd.R_mono (Kd.R_far (p:=⟨gb340,3,none⟩) (Kd.R_far (p:=⟨gb340,2,none⟩) (Kd.R_far (p:=⟨gb340,1,none⟩) (Kd.R_far (p:=⟨gb340,0,none⟩) (Kd.R_types HO_14.out BK340.out (by decide)) (fun _ hk=>hk.2) (.int .i64 ((rd_T120 t335 x16_1).f1.f0))) (fun _ hk=>hk.2) (.int .i64 ((rd_T120 t335 x16_1).f1.f1))) (fun _ hk=>hk.2) (.int .i64 ((rd_T120 t335 x16_1).f1.f2))) (fun _ hk=>hk.2) (.int .i64 ((rd_T120 t335 x16_1).f1.f3))) (fun _ hk=>hk.1.2)⟩
       have n1_:Aside0 (((((w13.setCell ⟨gb340,0,none⟩ (.int .i64 ((rd_T120 t335 x16_1).f1.f0))).setCell ⟨gb340,1,none⟩ (.int .i64 ((rd_T120 t335 x16_1).f1.f1))).setCell ⟨gb340,2,none⟩ (.int .i64 ((rd_T120 t335 x16_1).f1.f2))).setCell ⟨gb340,3,none⟩ (.int .i64 ((rd_T120 t335 x16_1).f1.f3))).heap[gb334]?=some (.cells #[.int .i64 x335000_1,.int .i64 x335001_1,.int .i64 x335002_1,.int .i64 x335003_1,.int .i64 x335004_1] 86 (0,0))):=⟨by (with_reducible repeat first|apply Q1|apply Q2|apply Q3);refine blk_far ?_ NB334_340.out _;(with_reducible repeat first|apply Q1|apply Q2|apply Q3);refine blk_far ?_ NB334_340.out _;(with_reducible repeat first|apply Q1|apply Q2|apply Q3);refine blk_far ?_ NB334_340.out _;(with_reducible repeat first|apply Q1|apply Q2|apply Q3);refine blk_far ?_ NB334_340.out _;(with_reducible repeat first|apply Q1|apply Q2|apply Q3);exact BK334.out⟩
       have n2_:Aside0 (((((w13.setCell ⟨gb340,0,none⟩ (.int .i64 ((rd_T120 t335 x16_1).f1.f0))).setCell ⟨gb340,1,none⟩ (.int .i64 ((rd_T120 t335 x16_1).f1.f1))).setCell ⟨gb340,2,none⟩ (.int .i64 ((rd_T120 t335 x16_1).f1.f2))).setCell ⟨gb340,3,none⟩ (.int .i64 ((rd_T120 t335 x16_1).f1.f3))).heap[gb339]?=some (.cells #[.string ((rd_T120 t335 x16_1).f0),.int .i64 ((rd_T120 t335 x16_1).f1.f0),.int .i64 ((rd_T120 t335 x16_1).f1.f1),.int .i64 ((rd_T120 t335 x16_1).f1.f2),.int .i64 ((rd_T120 t335 x16_1).f1.f3)] 120 (0,0))):=⟨by (with_reducible repeat first|apply Q1|apply Q2|apply Q3);refine blk_far ?_ NB339_340.out _;(with_reducible repeat first|apply Q1|apply Q2|apply Q3);refine blk_far ?_ NB339_340.out _;(with_reducible repeat first|apply Q1|apply Q2|apply Q3);refine blk_far ?_ NB339_340.out _;(with_reducible repeat first|apply Q1|apply Q2|apply Q3);refine blk_far ?_ NB339_340.out _;(with_reducible repeat first|apply Q1|apply Q2|apply Q3);exact BK339.out⟩
       have n3_:Aside0 (((((w13.setCell ⟨gb340,0,none⟩ (.int .i64 ((rd_T120 t335 x16_1).f1.f0))).setCell ⟨gb340,1,none⟩ (.int .i64 ((rd_T120 t335 x16_1).f1.f1))).setCell ⟨gb340,2,none⟩ (.int .i64 ((rd_T120 t335 x16_1).f1.f2))).setCell ⟨gb340,3,none⟩ (.int .i64 ((rd_T120 t335 x16_1).f1.f3))).heap[gb340]?=some (.cells #[.int .i64 ((rd_T120 t335 x16_1).f1.f0),.int .i64 ((rd_T120 t335 x16_1).f1.f1),.int .i64 ((rd_T120 t335 x16_1).f1.f2),.int .i64 ((rd_T120 t335 x16_1).f1.f3)] 109 (0,0))):=⟨by (with_reducible repeat first|apply Q1|apply Q2|apply Q3);refine blk_put (cs:=#[.int .i64 ((rd_T120 t335 x16_1).f1.f0),.int .i64 ((rd_T120 t335 x16_1).f1.f1),.int .i64 ((rd_T120 t335 x16_1).f1.f2),.int .i64 0]) ?_ 3 _ rfl;(with_reducible repeat first|apply Q1|apply Q2|apply Q3);refine blk_put (cs:=#[.int .i64 ((rd_T120 t335 x16_1).f1.f0),.int .i64 ((rd_T120 t335 x16_1).f1.f1),.int .i64 0,.int .i64 0]) ?_ 2 _ rfl;(with_reducible repeat first|apply Q1|apply Q2|apply Q3);refine blk_put (cs:=#[.int .i64 ((rd_T120 t335 x16_1).f1.f0),.int .i64 0,.int .i64 0,.int .i64 0]) ?_ 1 _ rfl;(with_reducible repeat first|apply Q1|apply Q2|apply Q3);refine blk_put (cs:=#[.int .i64 0,.int .i64 0,.int .i64 0,.int .i64 0]) ?_ 0 _ rfl;(with_reducible repeat first|apply Q1|apply Q2|apply Q3);exact BK340.out⟩
       have n4_:Aside0 (Below w.heap.size w ((((w13.setCell ⟨gb340,0,none⟩ (.int .i64 ((rd_T120 t335 x16_1).f1.f0))).setCell ⟨gb340,1,none⟩ (.int .i64 ((rd_T120 t335 x16_1).f1.f1))).setCell ⟨gb340,2,none⟩ (.int .i64 ((rd_T120 t335 x16_1).f1.f2))).setCell ⟨gb340,3,none⟩ (.int .i64 ((rd_T120 t335 x16_1).f1.f3)))):=⟨by repeat (with_reducible first|exact HB.out|apply Q4|apply Q5|apply Q6|apply Q7 GE334.out|apply Q7 GE339.out|apply Q7 GE340.out)⟩
       try clear HO_14
       try clear BK334
       try clear BK339 BK340
       try clear HB
       generalize ((((w13.setCell ⟨gb340,0,none⟩ (.int .i64 ((rd_T120 t335 x16_1).f1.f0))).setCell ⟨gb340,1,none⟩ (.int .i64 ((rd_T120 t335 x16_1).f1.f1))).setCell ⟨gb340,2,none⟩ (.int .i64 ((rd_T120 t335 x16_1).f1.f2))).setCell ⟨gb340,3,none⟩ (.int .i64 ((rd_T120 t335 x16_1).f1.f3)))=w18 at n0_ n1_ n2_ n3_ n4_ ⊢
       have HO_14:=n0_
       have BK334:=n1_
       have BK339:=n2_
       have BK340:=n3_
       have HB:=n4_
       clear n0_ n1_ n2_ n3_ n4_
       have n0_:=Aside0.mk (Kd.R_drew HO_14.out)
       have n1_:=Aside0.mk (blk_drew BK334.out)
       have n2_:=Aside0.mk (blk_drew BK339.out)
       have n3_:=Aside0.mk (blk_drew BK340.out)
       have n4_:=Aside0.mk (below_drew1 HB.out)
       clear HO_14
       clear BK334
       clear BK339
       clear BK340
       clear HB
       have HO_14:=n0_
       have BK334:=n1_
       have BK339:=n2_
       have BK340:=n3_
       have HB:=n4_
       clear n0_ n1_ n2_ n3_ n4_
       refine start_ (n:=9) (S:=fun w'=>True) (ds:=[]) #[false,false,false,false,false,false,false,false,false] (by kernel_rfl) rfl rfl trivial (fun hHeld=>?_);refine with_tabW impl_decode.tab5 impl_decode.bits5 (fun HT_ HW_=>?_)
       generalize w18.drew=w19 at HO_14 BK334 BK339 BK340 HB hHeld ⊢
       refine pure_ (i:=0) (N:=some 23) (v:=?_) (a':=?_) #[true,false,false,false,false,false,false,false,false] rfl rfl (any_of HT_.out (by kernel_rfl)) (fun _ _ _ h=>h) (Or.inl ⟨by rfl,?_⟩) ?_ ?_
       rotate_left
       ·intro w'
        go_simp
        with_reducible rfl
       rotate_left
       ·simp only [Act.put,List.setIfInBounds_toArray,List.set_cons_zero,List.set_cons_succ,i64_w,i32_w]
        rfl
       refine pure_ (i:=1) (N:=some 24) (v:=?_) (a':=?_) #[true,true,false,false,false,false,false,false,false] rfl rfl (any_of HT_.out (by kernel_rfl)) (fun _ _ _ h=>h) (Or.inl ⟨by rfl,?_⟩) ?_ ?_
       rotate_left
       ·intro w'
        go_simp
        with_reducible rfl
       rotate_left
       ·simp only [Act.put,List.setIfInBounds_toArray,List.set_cons_zero,List.set_cons_succ,i64_w,i32_w]
        rfl
       refine pure_ (i:=2) (N:=some 25) (v:=?_) (a':=?_) #[true,true,true,false,false,false,false,false,false] rfl rfl (any_of HT_.out (by kernel_rfl)) (fun _ _ _ h=>h) (Or.inl ⟨by rfl,?_⟩) ?_ ?_
       rotate_left
       ·intro w'
        go_simp
        with_reducible rfl
       rotate_left
       ·simp only [Act.put,List.setIfInBounds_toArray,List.set_cons_zero,List.set_cons_succ,i64_w,i32_w]
        rfl
       refine pure_ (i:=3) (N:=some 26) (v:=undef) (a':=?_) #[true,true,true,true,false,false,false,false,false] rfl rfl (any_of HT_.out (by kernel_rfl)) (fun _ _ _ h=>h) (Or.inr ⟨by rfl,rfl⟩) ?_ ?_
       rotate_left
       ·simp only [Act.put,List.setIfInBounds_toArray,List.set_cons_zero,List.set_cons_succ,i64_w,i32_w]
        rfl
       refine pure_ (i:=4) (N:=some 27) (v:=undef) (a':=?_) #[true,true,true,true,true,false,false,false,false] rfl rfl (any_of HT_.out (by kernel_rfl)) (fun _ _ _ h=>h) (Or.inr ⟨by rfl,rfl⟩) ?_ ?_
       rotate_left
       ·simp only [Act.put,List.setIfInBounds_toArray,List.set_cons_zero,List.set_cons_succ,i64_w,i32_w]
        rfl
       refine pure_ (i:=5) (N:=some 28) (v:=undef) (a':=?_) #[true,true,true,true,true,true,false,false,false] rfl rfl (any_of HT_.out (by kernel_rfl)) (fun _ _ _ h=>h) (Or.inr ⟨by rfl,rfl⟩) ?_ ?_
       rotate_left
       ·simp only [Act.put,List.setIfInBounds_toArray,List.set_cons_zero,List.set_cons_succ,i64_w,i32_w]
        rfl
       refine pure_ (i:=6) (N:=some 29) (v:=undef) (a':=?_) #[true,true,true,true,true,true,true,false,false] rfl rfl (any_of HT_.out (by kernel_rfl)) (fun _ _ _ h=>h) (Or.inr ⟨by rfl,rfl⟩) ?_ ?_
       rotate_left
       ·simp only [Act.put,List.setIfInBounds_toArray,List.set_cons_zero,List.set_cons_succ,i64_w,i32_w]
        rfl
       refine pure_ (i:=7) (N:=some 30) (v:=undef) (a':=?_) #[true,true,true,true,true,true,true,true,false] rfl rfl (any_of HT_.out (by kernel_rfl)) (fun _ _ _ h=>h) (Or.inr ⟨by rfl,rfl⟩) ?_ ?_
       rotate_left
       ·simp only [Act.put,List.setIfInBounds_toArray,List.set_cons_zero,List.set_cons_succ,i64_w,i32_w]
        rfl
       refine pure_ (i:=8) (N:=some 31) (v:=?_) (a':=?_) #[true,true,true,true,true,true,true,true,true] rfl rfl (any_of HT_.out (by kernel_rfl)) (fun _ _ _ h=>h) (Or.inl ⟨by rfl,?_⟩) ?_ ?_
       rotate_left
       ·intro w'
        go_simp
        with_reducible rfl
       rotate_left
       ·simp only [Act.put,List.setIfInBounds_toArray,List.set_cons_zero,List.set_cons_succ,i64_w,i32_w]
        rfl
       refine done_ (done_of HT_.out (by kernel_rfl)) ?_
       try go_wp2
       go_meet
       case rel=>exact ⟨_,(true),(by first|rfl|(simp;done)|(simp [*];done)),H',⟨by have:=HK1.out;first|omega|exact Nat.le_refl _⟩,⟨by (with_reducible repeat (first|apply Kd.R_alloc|apply Kd.R_drewN|apply Kd.R_drew));exact HO_14.out⟩,⟨by (with_reducible repeat first|apply Q1|apply Q2|apply Q3);exact BK334.out⟩,⟨by (with_reducible repeat first|apply Q1|apply Q2|apply Q3);exact BK339.out⟩,⟨by (with_reducible repeat first|apply Q1|apply Q2|apply Q3);exact BK340.out⟩,⟨by repeat (with_reducible first|exact HB.out|apply Q4|apply Q5|apply Q6|apply Q7 GE334.out|apply Q7 GE339.out|apply Q7 GE340.out)⟩⟩
      rw [if_neg c17] at H
      obtain ⟨c17b0,c17b1⟩:=eqN c17
      (first|rw [c17b0]|(simp only [i64_w,i32_w];rw [c17b0])|skip)
      obtain ⟨t341,A20,H⟩:=bindA H
      have H':=Aside0.mk H
      clear H
      try go_wp2
      have n0_:Aside0 (Kd.R k120 120 ((((w13.setCell ⟨gb340,0,none⟩ (.int .i64 ((rd_T120 t335 x16_1).f1.f0))).setCell ⟨gb340,1,none⟩ (.int .i64 ((rd_T120 t335 x16_1).f1.f1))).setCell ⟨gb340,2,none⟩ (.int .i64 ((rd_T120 t335 x16_1).f1.f2))).setCell ⟨gb340,3,none⟩ (.int .i64 ((rd_T120 t335 x16_1).f1.f3))) w.heap.size (fun k_=>k_≠gb339) (.slice (some ad338) t335.length co5) t335):=⟨by (with_reducible repeat (first|apply Kd.R_alloc|apply Kd.R_drewN|apply Kd.R_drew));exact Kd.R_mono (Kd.R_far (p:=⟨gb340,3,none⟩) (Kd.R_far (p:=⟨gb340,2,none⟩) (Kd.R_far (p:=⟨gb340,1,none⟩) (Kd.R_far (p:=⟨gb340,0,none⟩) (Kd.R_types HO_14.out BK340.out (by decide)) (fun _ hk=>hk.2) (.int .i64 ((rd_T120 t335 x16_1).f1.f0))) (fun _ hk=>hk.2) (.int .i64 ((rd_T120 t335 x16_1).f1.f1))) (fun _ hk=>hk.2) (.int .i64 ((rd_T120 t335 x16_1).f1.f2))) (fun _ hk=>hk.2) (.int .i64 ((rd_T120 t335 x16_1).f1.f3))) (fun _ hk=>hk.1.2)⟩
      have n1_:Aside0 (((((w13.setCell ⟨gb340,0,none⟩ (.int .i64 ((rd_T120 t335 x16_1).f1.f0))).setCell ⟨gb340,1,none⟩ (.int .i64 ((rd_T120 t335 x16_1).f1.f1))).setCell ⟨gb340,2,none⟩ (.int .i64 ((rd_T120 t335 x16_1).f1.f2))).setCell ⟨gb340,3,none⟩ (.int .i64 ((rd_T120 t335 x16_1).f1.f3))).heap[gb334]?=some (.cells #[.int .i64 x335000_1,.int .i64 x335001_1,.int .i64 x335002_1,.int .i64 x335003_1,.int .i64 x335004_1] 86 (0,0))):=⟨by (with_reducible repeat first|apply Q1|apply Q2|apply Q3);refine blk_far ?_ NB334_340.out _;(with_reducible repeat first|apply Q1|apply Q2|apply Q3);refine blk_far ?_ NB334_340.out _;(with_reducible repeat first|apply Q1|apply Q2|apply Q3);refine blk_far ?_ NB334_340.out _;(with_reducible repeat first|apply Q1|apply Q2|apply Q3);refine blk_far ?_ NB334_340.out _;(with_reducible repeat first|apply Q1|apply Q2|apply Q3);exact BK334.out⟩
      have n2_:Aside0 (((((w13.setCell ⟨gb340,0,none⟩ (.int .i64 ((rd_T120 t335 x16_1).f1.f0))).setCell ⟨gb340,1,none⟩ (.int .i64 ((rd_T120 t335 x16_1).f1.f1))).setCell ⟨gb340,2,none⟩ (.int .i64 ((rd_T120 t335 x16_1).f1.f2))).setCell ⟨gb340,3,none⟩ (.int .i64 ((rd_T120 t335 x16_1).f1.f3))).heap[gb339]?=some (.cells #[.string ((rd_T120 t335 x16_1).f0),.int .i64 ((rd_T120 t335 x16_1).f1.f0),.int .i64 ((rd_T120 t335 x16_1).f1.f1),.int .i64 ((rd_T120 t335 x16_1).f1.f2),.int .i64 ((rd_T120 t335 x16_1).f1.f3)] 120 (0,0))):=⟨by (with_reducible repeat first|apply Q1|apply Q2|apply Q3);refine blk_far ?_ NB339_340.out _;(with_reducible repeat first|apply Q1|apply Q2|apply Q3);refine blk_far ?_ NB339_340.out _;(with_reducible repeat first|apply Q1|apply Q2|apply Q3);refine blk_far ?_ NB339_340.out _;(with_reducible repeat first|apply Q1|apply Q2|apply Q3);refine blk_far ?_ NB339_340.out _;(with_reducible repeat first|apply Q1|apply Q2|apply Q3);exact BK339.out⟩
      have n3_:Aside0 (((((w13.setCell ⟨gb340,0,none⟩ (.int .i64 ((rd_T120 t335 x16_1).f1.f0))).setCell ⟨gb340,1,none⟩ (.int .i64 ((rd_T120 t335 x16_1).f1.f1))).setCell ⟨gb340,2,none⟩ (.int .i64 ((rd_T120 t335 x16_1).f1.f2))).setCell ⟨gb340,3,none⟩ (.int .i64 ((rd_T120 t335 x16_1).f1.f3))).heap[gb340]?=some (.cells #[.int .i64 ((rd_T120 t335 x16_1).f1.f0),.int .i64 ((rd_T120 t335 x16_1).f1.f1),.int .i64 ((rd_T120 t335 x16_1).f1.f2),.int .i64 ((rd_T120 t335 x16_1).f1.f3)] 109 (0,0))):=⟨by (with_reducible repeat first|apply Q1|apply Q2|apply Q3);refine blk_put (cs:=#[.int .i64 ((rd_T120 t335 x16_1).f1.f0),.int .i64 ((rd_T120 t335 x16_1).f1.f1),.int .i64 ((rd_T120 t335 x16_1).f1.f2),.int .i64 0]) ?_ 3 _ rfl;(with_reducible repeat first|apply Q1|apply Q2|apply Q3);refine blk_put (cs:=#[.int .i64 ((rd_T120 t335 x16_1).f1.f0),.int .i64 ((rd_T120 t335 x16_1).f1.f1),.int .i64 0,.int .i64 0]) ?_ 2 _ rfl;(with_reducible repeat first|apply Q1|apply Q2|apply Q3);refine blk_put (cs:=#[.int .i64 ((rd_T120 t335 x16_1).f1.f0),.int .i64 0,.int .i64 0,.int .i64 0]) ?_ 1 _ rfl;(with_reducible repeat first|apply Q1|apply Q2|apply Q3);refine blk_put (cs:=#[.int .i64 0,.int .i64 0,.int .i64 0,.int .i64 0]) ?_ 0 _ rfl;(with_reducible repeat first|apply Q1|apply Q2|apply Q3);exact BK340.out⟩
      have n4_:Aside0 (Below w.heap.size w ((((w13.setCell ⟨gb340,0,none⟩ (.int .i64 ((rd_T120 t335 x16_1).f1.f0))).setCell ⟨gb340,1,none⟩ (.int .i64 ((rd_T120 t335 x16_1).f1.f1))).setCell ⟨gb340,2,none⟩ (.int .i64 ((rd_T120 t335 x16_1).f1.f2))).setCell ⟨gb340,3,none⟩ (.int .i64 ((rd_T120 t335 x16_1).f1.f3)))):=⟨by repeat (with_reducible first|exact HB.out|apply Q4|apply Q5|apply Q6|apply Q7 GE334.out|apply Q7 GE339.out|apply Q7 GE340.out)⟩
      try clear HO_14
      try clear BK334
      try clear BK339 BK340
      try clear HB
      generalize ((((w13.setCell ⟨gb340,0,none⟩ (.int .i64 ((rd_T120 t335 x16_1).f1.f0))).setCell ⟨gb340,1,none⟩ (.int .i64 ((rd_T120 t335 x16_1).f1.f1))).setCell ⟨gb340,2,none⟩ (.int .i64 ((rd_T120 t335 x16_1).f1.f2))).setCell ⟨gb340,3,none⟩ (.int .i64 ((rd_T120 t335 x16_1).f1.f3)))=w21 at n0_ n1_ n2_ n3_ n4_ ⊢
      have HO_14:=n0_
      have BK334:=n1_
      have BK339:=n2_
      have BK340:=n3_
      have HB:=n4_
      clear n0_ n1_ n2_ n3_ n4_
      have n0_:=Aside0.mk (Kd.R_drew HO_14.out)
      have n1_:=Aside0.mk (blk_drew BK334.out)
      have n2_:=Aside0.mk (blk_drew BK339.out)
      have n3_:=Aside0.mk (blk_drew BK340.out)
      have n4_:=Aside0.mk (below_drew1 HB.out)
      clear HO_14
      clear BK334
      clear BK339
      clear BK340
      clear HB
      have HO_14:=n0_
      have BK334:=n1_
      have BK339:=n2_
      have BK340:=n3_
      have HB:=n4_
      clear n0_ n1_ n2_ n3_ n4_
      refine start_ (n:=9) (S:=fun w'=>w'.cell? ⟨gb340,0,none⟩=some (.int .i64 ((rd_T120 t335 x16_1).f1.f0))∧w'.cell? ⟨gb340,1,none⟩=some (.int .i64 ((rd_T120 t335 x16_1).f1.f1))∧w'.cell? ⟨gb340,2,none⟩=some (.int .i64 ((rd_T120 t335 x16_1).f1.f2))∧w'.cell? ⟨gb340,3,none⟩=some (.int .i64 ((rd_T120 t335 x16_1).f1.f3))) (ds:=[]) #[false,false,false,false,false,false,false,false,false] (by kernel_rfl) rfl rfl ⟨(blk_cell BK340.out 0).trans rfl,(blk_cell BK340.out 1).trans rfl,(blk_cell BK340.out 2).trans rfl,(blk_cell BK340.out 3).trans rfl⟩ (fun hHeld=>?_);refine with_tabW impl_decode.tab5 impl_decode.bits5 (fun HT_ HW_=>?_)
      generalize w21.drew=w22 at HO_14 BK334 BK339 BK340 HB hHeld ⊢
      refine pure_ (i:=0) (N:=some 23) (v:=?_) (a':=?_) #[true,false,false,false,false,false,false,false,false] rfl rfl (any_of HT_.out (by kernel_rfl)) (fun _ _ _ h=>h) (Or.inl ⟨by rfl,?_⟩) ?_ ?_
      rotate_left
      ·intro w'
       go_simp
       with_reducible rfl
      rotate_left
      ·simp only [Act.put,List.setIfInBounds_toArray,List.set_cons_zero,List.set_cons_succ,i64_w,i32_w]
       rfl
      refine pure_ (i:=1) (N:=some 24) (v:=?_) (a':=?_) #[true,true,false,false,false,false,false,false,false] rfl rfl (any_of HT_.out (by kernel_rfl)) (fun _ _ _ h=>h) (Or.inl ⟨by rfl,?_⟩) ?_ ?_
      rotate_left
      ·intro w'
       go_simp
       with_reducible rfl
      rotate_left
      ·simp only [Act.put,List.setIfInBounds_toArray,List.set_cons_zero,List.set_cons_succ,i64_w,i32_w]
       rfl
      refine pure_ (i:=2) (N:=some 25) (v:=?_) (a':=?_) #[true,true,true,false,false,false,false,false,false] rfl rfl (any_of HT_.out (by kernel_rfl)) (fun _ _ _ h=>h) (Or.inl ⟨by rfl,?_⟩) ?_ ?_
      rotate_left
      ·intro w'
       go_simp
       with_reducible rfl
      rotate_left
      ·simp only [Act.put,List.setIfInBounds_toArray,List.set_cons_zero,List.set_cons_succ,i64_w,i32_w]
       rfl
      refine pure_ (i:=3) (N:=some 26) (v:=?_) (a':=?_) #[true,true,true,true,false,false,false,false,false] rfl rfl (any_of HT_.out (by kernel_rfl)) (fun _ _ _ h=>h) (Or.inl ⟨by rfl,?_⟩) ?_ ?_
      rotate_left
      ·intro w'
       go_simp
       with_reducible rfl
      rotate_left
      ·simp only [Act.put,List.setIfInBounds_toArray,List.set_cons_zero,List.set_cons_succ,i64_w,i32_w]
       rfl
      refine pure_ (i:=5) (N:=some 28) (v:=?_) (a':=?_) #[true,true,true,true,false,true,false,false,false] rfl rfl (any_of HT_.out (by kernel_rfl)) (fun _ _ _ h=>h) (Or.inl ⟨by rfl,?_⟩) ?_ ?_
      rotate_left
      ·intro w'
       go_simp
       with_reducible rfl
      rotate_left
      ·simp only [Act.put,List.setIfInBounds_toArray,List.set_cons_zero,List.set_cons_succ,i64_w,i32_w]
       rfl
      refine take_ (i:=4) (N:=some 27) (v:=?_) (a':=?_) #[true,true,true,true,true,true,false,false,false] rfl rfl (take_ofW HT_.out HW_.out (by kernel_rfl)) (fun _ _ _ h=>h) (Or.inl ⟨by rfl,?_⟩) hHeld ?_ ?_
      rotate_left
      ·rintro w' ⟨s0,s1,s2,s3⟩
       go_simp
       with_reducible rfl
      rotate_left
      ·simp only [Act.put,List.setIfInBounds_toArray,List.set_cons_zero,List.set_cons_succ,i64_w,i32_w]
       rfl
      refine one_ (i:=6) (N:=some 29) #[true,true,true,true,true,true,true,false,false] rfl rfl (one_of HT_.out (by kernel_rfl)) (by decide) (fun K hK=>?_)
      refine goes_ Try.func107 (by kernel_rfl) rfl #[.int .i64 a0,.int .i64 0,.int .i64 7] (by rfl) rfl rfl (by (try simp only [List.map_toArray,List.map_cons,List.map_nil]);first|done|rfl|(simp only [List.length_drop,List.length_take];rfl)) ?_
      with_reducible refine (impl_bitsOf.calls a0 0 7 t341 _ A20.out).mono ?_
      rintro e w' ⟨rfl,⟨nd,rfl⟩⟩
      refine ⟨_,rfl,?_⟩
      refine hK.out _ _ ⟨(blk_cell BK340.out 0).trans rfl,(blk_cell BK340.out 1).trans rfl,(blk_cell BK340.out 2).trans rfl,(blk_cell BK340.out 3).trans rfl⟩ (fun hHeld=>?_)
      clear hK K
      refine norm_ (a':=?_) ?_ ?_
      rotate_left
      ·show Act.put _ (some 29) _=_
       simp only [Act.put,List.setIfInBounds_toArray,List.set_cons_zero,List.set_cons_succ,i64_w,i32_w]
       rfl
      refine pure_ (i:=7) (N:=some 30) (v:=?_) (a':=?_) #[true,true,true,true,true,true,true,true,false] rfl rfl (any_of HT_.out (by kernel_rfl)) (fun _ _ _ h=>h) (Or.inl ⟨by rfl,?_⟩) ?_ ?_
      rotate_left
      ·intro w'
       go_simp
       with_reducible rfl
      rotate_left
      ·simp only [Act.put,List.setIfInBounds_toArray,List.set_cons_zero,List.set_cons_succ,i64_w,i32_w]
       rfl
      refine pure_ (i:=8) (N:=some 31) (v:=?_) (a':=?_) #[true,true,true,true,true,true,true,true,true] rfl rfl (any_of HT_.out (by kernel_rfl)) (fun _ _ _ h=>h) (Or.inl ⟨by rfl,?_⟩) ?_ ?_
      rotate_left
      ·intro w'
       go_simp
       with_reducible rfl
      rotate_left
      ·simp only [Act.put,List.setIfInBounds_toArray,List.set_cons_zero,List.set_cons_succ,i64_w,i32_w]
       rfl
      refine done_ (done_of HT_.out (by kernel_rfl)) ?_
      try go_wp2
      go_meet
      case rel=>exact ⟨_,((((rd_T120 t335 x16_1).f1.f1) != t341)),(by first|rfl|(simp;done)|(simp [*];done)),H',⟨by have:=HK1.out;first|omega|exact Nat.le_refl _⟩,⟨by (with_reducible repeat (first|apply Kd.R_alloc|apply Kd.R_drewN|apply Kd.R_drew));exact HO_14.out⟩,⟨by (with_reducible repeat first|apply Q1|apply Q2|apply Q3);exact BK334.out⟩,⟨by (with_reducible repeat first|apply Q1|apply Q2|apply Q3);exact BK339.out⟩,⟨by (with_reducible repeat first|apply Q1|apply Q2|apply Q3);exact BK340.out⟩,⟨by repeat (with_reducible first|exact HB.out|apply Q4|apply Q5|apply Q6|apply Q7 GE334.out|apply Q7 GE339.out|apply Q7 GE340.out)⟩⟩
     clear HC9
     try clear c6b0
     try clear c7b0
     try clear c8b0
     try clear hcz12_0 hcz12_1 hcz12_2 hcz12_3 hcz12_4
     try clear hcz16_0 hcz16_1 hcz16_2 hcz16_3
     try clear hfz12_0 hfz12_1 hfz12_2 hfz12_3 hfz12_4
     try clear hfz16_0 hfz16_1 hfz16_2 hfz16_3
     try clear hx338_0 hx338_1 hx338_2 hx338_3 hx338_4
     try clear p338
     try clear q338
     obtain ⟨kq,x31_8,rfl,HA,HJ8,HO_14,BK334,BK339,BK340,HB⟩:=hcut
     cases kq with
     | zero=>exact absurd HA.out (by simp [impl_decode.j1])
     | succ kj8 =>
      have H:=HA.out
      clear HA
      simp only [impl_decode.j1] at H
      by_cases c23:x31_8=true
      ·subst c23
       rw [if_pos rfl] at H
       have H':=Aside0.mk H
       clear H
       go_wp2
       go_roundg kj8
       case measure=>have:=HK1.out;have:=HJ8.out;omega
       case rel=>exact ⟨(wrap64 (x16_1+1)),(x335000_1),(x335001_1),(x335002_1),(x335003_1),(x335004_1),(by first|rfl|(simp;done)|(simp [*];done)),H',⟨by have:=HK1.out;have:=HJ8.out;omega⟩,⟨by (with_reducible repeat (first|apply Kd.R_alloc|apply Kd.R_drewN|apply Kd.R_drew));exact Kd.R_mono HO_14.out (fun _ hk=>trivial)⟩,⟨by (with_reducible repeat first|apply Q1|apply Q2|apply Q3);exact BK334.out⟩,⟨by repeat (with_reducible first|exact HB.out|apply Q4|apply Q5|apply Q6|apply Q7 GE334.out|apply Q7 GE339.out|apply Q7 GE340.out)⟩⟩
      replace c23:=Bool.eq_false_iff.mpr c23
      subst c23
      rw [if_neg (show ¬ (false=true) by decide)] at H
      obtain ⟨t343,A24,H⟩:=bindA H
      have H':=Aside0.mk H
      clear H
      go_wp2_with (first|((with_reducible refine gate_dst (N:=7) rfl ?_);refine box_event ?hg (N:=7) ?hd (cs:=#[.int .i64 0,.int .i64 0,.int .i64 0,.int .i64 0,.int .i64 0]) (t:=86) ?hr ?_;(case hd=>rfl);(case hg=>rfl);(case hr=>first|(go_simp;done)|(go_simp;rfl));intro gb342 hg w25 hbox hb;have n0_:=Aside0.mk (Kd.R_below (by (with_reducible repeat (first|apply Kd.R_alloc|apply Kd.R_drewN|apply Kd.R_drew));exact HO_14.out) hb);have n1_:=Aside0.mk (blk_below (g:=gb334) (o:=.cells #[.int .i64 x335000_1,.int .i64 x335001_1,.int .i64 x335002_1,.int .i64 x335003_1,.int .i64 x335004_1] 86 (0,0)) (by (with_reducible repeat first|apply Q1|apply Q2|apply Q3);exact BK334.out) hb);have n2_:=Aside0.mk (blk_below (g:=gb339) (o:=.cells #[.string ((rd_T120 t335 x16_1).f0),.int .i64 ((rd_T120 t335 x16_1).f1.f0),.int .i64 ((rd_T120 t335 x16_1).f1.f1),.int .i64 ((rd_T120 t335 x16_1).f1.f2),.int .i64 ((rd_T120 t335 x16_1).f1.f3)] 120 (0,0)) (by (with_reducible repeat first|apply Q1|apply Q2|apply Q3);exact BK339.out) hb);have n3_:=Aside0.mk (blk_below (g:=gb340) (o:=.cells #[.int .i64 ((rd_T120 t335 x16_1).f1.f0),.int .i64 ((rd_T120 t335 x16_1).f1.f1),.int .i64 ((rd_T120 t335 x16_1).f1.f2),.int .i64 ((rd_T120 t335 x16_1).f1.f3)] 109 (0,0)) (by (with_reducible repeat first|apply Q1|apply Q2|apply Q3);exact BK340.out) hb);have n4_:=Aside0.mk (below_step (by repeat (with_reducible first|exact HB.out|apply Q4|apply Q5|apply Q6|apply Q7 GE334.out|apply Q7 GE339.out|apply Q7 GE340.out)) hb);have n5_:=Aside0.mk (hbox);have n6_:=Aside0.mk ((by rw [hg];exact (below_size (by repeat (with_reducible first|exact HB.out|apply Q4|apply Q5|apply Q6|apply Q7 GE334.out|apply Q7 GE339.out|apply Q7 GE340.out))):w.heap.size≤gb342));have n7_:=Aside0.mk ((by rw [hg];exact (below_size (by repeat (with_reducible first|exact HB.out|apply Q4|apply Q5|apply Q6|apply Q7 GE334.out|apply Q7 GE339.out|apply Q7 GE340.out))):w.heap.size≤gb342));have n8_:=Aside0.mk ((by rw [hg];exact Nat.ne_of_lt (blk_lt (g:=gb334) (o:=.cells #[.int .i64 x335000_1,.int .i64 x335001_1,.int .i64 x335002_1,.int .i64 x335003_1,.int .i64 x335004_1] 86 (0,0)) (by (with_reducible repeat first|apply Q1|apply Q2|apply Q3);exact BK334.out)):gb334≠gb342));have n9_:=Aside0.mk ((by rw [hg];exact Nat.ne_of_gt (blk_lt (g:=gb334) (o:=.cells #[.int .i64 x335000_1,.int .i64 x335001_1,.int .i64 x335002_1,.int .i64 x335003_1,.int .i64 x335004_1] 86 (0,0)) (by (with_reducible repeat first|apply Q1|apply Q2|apply Q3);exact BK334.out)):gb342≠gb334));have n10_:=Aside0.mk ((by rw [hg];exact Nat.ne_of_lt (blk_lt (g:=gb339) (o:=.cells #[.string ((rd_T120 t335 x16_1).f0),.int .i64 ((rd_T120 t335 x16_1).f1.f0),.int .i64 ((rd_T120 t335 x16_1).f1.f1),.int .i64 ((rd_T120 t335 x16_1).f1.f2),.int .i64 ((rd_T120 t335 x16_1).f1.f3)] 120 (0,0)) (by (with_reducible repeat first|apply Q1|apply Q2|apply Q3);exact BK339.out)):gb339≠gb342));have n11_:=Aside0.mk ((by rw [hg];exact Nat.ne_of_gt (blk_lt (g:=gb339) (o:=.cells #[.string ((rd_T120 t335 x16_1).f0),.int .i64 ((rd_T120 t335 x16_1).f1.f0),.int .i64 ((rd_T120 t335 x16_1).f1.f1),.int .i64 ((rd_T120 t335 x16_1).f1.f2),.int .i64 ((rd_T120 t335 x16_1).f1.f3)] 120 (0,0)) (by (with_reducible repeat first|apply Q1|apply Q2|apply Q3);exact BK339.out)):gb342≠gb339));have n12_:=Aside0.mk ((by rw [hg];exact Nat.ne_of_lt (blk_lt (g:=gb340) (o:=.cells #[.int .i64 ((rd_T120 t335 x16_1).f1.f0),.int .i64 ((rd_T120 t335 x16_1).f1.f1),.int .i64 ((rd_T120 t335 x16_1).f1.f2),.int .i64 ((rd_T120 t335 x16_1).f1.f3)] 109 (0,0)) (by (with_reducible repeat first|apply Q1|apply Q2|apply Q3);exact BK340.out)):gb340≠gb342));have n13_:=Aside0.mk ((by rw [hg];exact Nat.ne_of_gt (blk_lt (g:=gb340) (o:=.cells #[.int .i64 ((rd_T120 t335 x16_1).f1.f0),.int .i64 ((rd_T120 t335 x16_1).f1.f1),.int .i64 ((rd_T120 t335 x16_1).f1.f2),.int .i64 ((rd_T120 t335 x16_1).f1.f3)] 109 (0,0)) (by (with_reducible repeat first|apply Q1|apply Q2|apply Q3);exact BK340.out)):gb342≠gb340));clear HO_14;clear BK334;clear BK339;clear BK340;clear HB;have HO_14:=n0_;have BK334:=n1_;have BK339:=n2_;have BK340:=n3_;have HB:=n4_;have BK342:=n5_;have GW342:=n6_;have GE342:=n7_;have NB334_342:=n8_;have NB342_334:=n9_;have NB339_342:=n10_;have NB342_339:=n11_;have NB340_342:=n12_;have NB342_340:=n13_;clear n0_ n1_ n2_ n3_ n4_ n5_ n6_ n7_ n8_ n9_ n10_ n11_ n12_ n13_;clear hb hbox hg;have hnb26:=NB342_334.out;have hnc26:=NB334_342.out;have hnb27:=NB342_339.out;have hnc27:=NB339_342.out;have hnb28:=NB342_340.out;have hnc28:=NB340_342.out;have hcz29_0:w25.cell? ⟨gb342,0,none⟩=some (.int .i64 0):=(blk_cell BK342.out 0).trans rfl;have hcz29_1:w25.cell? ⟨gb342,1,none⟩=some (.int .i64 0):=(blk_cell BK342.out 1).trans rfl;have hcz29_2:w25.cell? ⟨gb342,2,none⟩=some (.int .i64 0):=(blk_cell BK342.out 2).trans rfl;have hcz29_3:w25.cell? ⟨gb342,3,none⟩=some (.int .i64 0):=(blk_cell BK342.out 3).trans rfl;have hcz29_4:w25.cell? ⟨gb342,4,none⟩=some (.int .i64 0):=(blk_cell BK342.out 4).trans rfl;have hfz29_0:=blk_frozen BK342.out 0;have hfz29_1:=blk_frozen BK342.out 1;have hfz29_2:=blk_frozen BK342.out 2;have hfz29_3:=blk_frozen BK342.out 3;have hfz29_4:=blk_frozen BK342.out 4;have hnb30:=NB340_334.out;have hnc30:=NB334_340.out;have hnb31:=NB340_339.out;have hnc31:=NB339_340.out;have hcz32_0:w25.cell? ⟨gb340,0,none⟩=some (.int .i64 ((rd_T120 t335 x16_1).f1.f0)):=(blk_cell BK340.out 0).trans rfl;have hcz32_1:w25.cell? ⟨gb340,1,none⟩=some (.int .i64 ((rd_T120 t335 x16_1).f1.f1)):=(blk_cell BK340.out 1).trans rfl;have hcz32_2:w25.cell? ⟨gb340,2,none⟩=some (.int .i64 ((rd_T120 t335 x16_1).f1.f2)):=(blk_cell BK340.out 2).trans rfl;have hcz32_3:w25.cell? ⟨gb340,3,none⟩=some (.int .i64 ((rd_T120 t335 x16_1).f1.f3)):=(blk_cell BK340.out 3).trans rfl;have hfz32_0:=blk_frozen BK340.out 0;have hfz32_1:=blk_frozen BK340.out 1;have hfz32_2:=blk_frozen BK340.out 2;have hfz32_3:=blk_frozen BK340.out 3)|((with_reducible refine gate_callee (f:=108) rfl ?_);refine goesL_ (some 36) rfl rfl Try.func108 (by kernel_rfl) rfl #[.int .i64 ((rd_T120 t335 x16_1).f1.f0)] rfl (by (try simp only [List.map_toArray,List.map_cons,List.map_nil]);first|done|rfl|(simp only [List.length_drop,List.length_take];rfl)) ?_;(with_reducible refine (impl_pieces.calls ((rd_T120 t335 x16_1).f1.f0) t343 _ A24.out).mono ?_);rintro e w33 ⟨v344,rfl,ho0,hb⟩;refine ⟨_,rfl,?_⟩;have n0_:=Aside0.mk (Kd.R_below (by (with_reducible repeat (first|apply Kd.R_alloc|apply Kd.R_drewN|apply Kd.R_drew));exact (Kd.R_mono (Kd.R_far (p:=⟨gb342,4,none⟩) (Kd.R_far (p:=⟨gb342,3,none⟩) (Kd.R_far (p:=⟨gb342,2,none⟩) (Kd.R_far (p:=⟨gb342,1,none⟩) (Kd.R_far (p:=⟨gb342,0,none⟩) (Kd.R_types HO_14.out BK342.out (by decide)) (fun _ hk=>hk.2) (.int .i64 x16_1)) (fun _ hk=>hk.2) (.int .i64 0)) (fun _ hk=>hk.2) (.int .i64 0)) (fun _ hk=>hk.2) (.int .i64 0)) (fun _ hk=>hk.2) (.int .i64 0)) (fun _ h_=>h_.1))) hb);have n1_:=Aside0.mk (Kd.R_lower ho0 (below_size (by repeat (with_reducible first|exact HB.out|apply Q4|apply Q5|apply Q6|apply Q7 GE334.out|apply Q7 GE339.out|apply Q7 GE340.out|apply Q7 GE342.out))));have n2_:=Aside0.mk (blk_below (g:=gb334) (o:=.cells #[.int .i64 x335000_1,.int .i64 x335001_1,.int .i64 x335002_1,.int .i64 x335003_1,.int .i64 x335004_1] 86 (0,0)) (by (with_reducible repeat first|apply Q1|apply Q2|apply Q3);refine blk_far ?_ NB334_342.out _;(with_reducible repeat first|apply Q1|apply Q2|apply Q3);refine blk_far ?_ NB334_342.out _;(with_reducible repeat first|apply Q1|apply Q2|apply Q3);refine blk_far ?_ NB334_342.out _;(with_reducible repeat first|apply Q1|apply Q2|apply Q3);refine blk_far ?_ NB334_342.out _;(with_reducible repeat first|apply Q1|apply Q2|apply Q3);refine blk_far ?_ NB334_342.out _;(with_reducible repeat first|apply Q1|apply Q2|apply Q3);exact BK334.out) hb);have n3_:=Aside0.mk (blk_below (g:=gb339) (o:=.cells #[.string ((rd_T120 t335 x16_1).f0),.int .i64 ((rd_T120 t335 x16_1).f1.f0),.int .i64 ((rd_T120 t335 x16_1).f1.f1),.int .i64 ((rd_T120 t335 x16_1).f1.f2),.int .i64 ((rd_T120 t335 x16_1).f1.f3)] 120 (0,0)) (by (with_reducible repeat first|apply Q1|apply Q2|apply Q3);refine blk_far ?_ NB339_342.out _;(with_reducible repeat first|apply Q1|apply Q2|apply Q3);refine blk_far ?_ NB339_342.out _;(with_reducible repeat first|apply Q1|apply Q2|apply Q3);refine blk_far ?_ NB339_342.out _;(with_reducible repeat first|apply Q1|apply Q2|apply Q3);refine blk_far ?_ NB339_342.out _;(with_reducible repeat first|apply Q1|apply Q2|apply Q3);refine blk_far ?_ NB339_342.out _;(with_reducible repeat first|apply Q1|apply Q2|apply Q3);exact BK339.out) hb);have n4_:=Aside0.mk (blk_below (g:=gb340) (o:=.cells #[.int .i64 ((rd_T120 t335 x16_1).f1.f0),.int .i64 ((rd_T120 t335 x16_1).f1.f1),.int .i64 ((rd_T120 t335 x16_1).f1.f2),.int .i64 ((rd_T120 t335 x16_1).f1.f3)] 109 (0,0)) (by (with_reducible repeat first|apply Q1|apply Q2|apply Q3);refine blk_far ?_ NB340_342.out _;(with_reducible repeat first|apply Q1|apply Q2|apply Q3);refine blk_far ?_ NB340_342.out _;(with_reducible repeat first|apply Q1|apply Q2|apply Q3);refine blk_far ?_ NB340_342.out _;(with_reducible repeat first|apply Q1|apply Q2|apply Q3);refine blk_far ?_ NB340_342.out _;(with_reducible repeat first|apply Q1|apply Q2|apply Q3);refine blk_far ?_ NB340_342.out _;(with_reducible repeat first|apply Q1|apply Q2|apply Q3);exact BK340.out) hb);have n5_:=Aside0.mk (blk_below (g:=gb342) (o:=.cells #[.int .i64 x16_1,.int .i64 0,.int .i64 0,.int .i64 0,.int .i64 0] 86 (0,0)) (by (with_reducible repeat first|apply Q1|apply Q2|apply Q3);refine blk_put (cs:=#[.int .i64 x16_1,.int .i64 0,.int .i64 0,.int .i64 0,.int .i64 0]) ?_ 4 _ rfl;(with_reducible repeat first|apply Q1|apply Q2|apply Q3);refine blk_put (cs:=#[.int .i64 x16_1,.int .i64 0,.int .i64 0,.int .i64 0,.int .i64 0]) ?_ 3 _ rfl;(with_reducible repeat first|apply Q1|apply Q2|apply Q3);refine blk_put (cs:=#[.int .i64 x16_1,.int .i64 0,.int .i64 0,.int .i64 0,.int .i64 0]) ?_ 2 _ rfl;(with_reducible repeat first|apply Q1|apply Q2|apply Q3);refine blk_put (cs:=#[.int .i64 x16_1,.int .i64 0,.int .i64 0,.int .i64 0,.int .i64 0]) ?_ 1 _ rfl;(with_reducible repeat first|apply Q1|apply Q2|apply Q3);refine blk_put (cs:=#[.int .i64 0,.int .i64 0,.int .i64 0,.int .i64 0,.int .i64 0]) ?_ 0 _ rfl;(with_reducible repeat first|apply Q1|apply Q2|apply Q3);exact BK342.out) hb);have n6_:=Aside0.mk (below_step (by repeat (with_reducible first|exact HB.out|apply Q4|apply Q5|apply Q6|apply Q7 GE334.out|apply Q7 GE339.out|apply Q7 GE340.out|apply Q7 GE342.out)) hb);clear HO_14;clear BK334;clear BK339;clear BK340;clear BK342;clear HB;have HO_14:=n0_;have HO345:=n1_;have BK334:=n2_;have BK339:=n3_;have BK340:=n4_;have BK342:=n5_;have HB:=n6_;clear n0_ n1_ n2_ n3_ n4_ n5_ n6_;(try clear hb);(try clear hb2);(try clear hk);(try clear hi);(try clear ho0);obtain ⟨Ao34,co34,eo34⟩:=Kd.R_slice HO345.out;subst eo34))
      go_loopg [38] kj8 (fun kq v38 w'=>∃ (x38_3:Int) (x343004_3:Int),v38=.int .i64 x38_3∧Aside0 (impl_decode.l1 kq a0 t335 (t335.length:Int) x16_1 t343 (t343.length:Int) x38_3 ((rd_T120 t335 x16_1).f1.f0) ((rd_T120 t335 x16_1).f1.f1) ((rd_T120 t335 x16_1).f1.f2) ((rd_T120 t335 x16_1).f1.f3) x16_1 0 0 0 x343004_3=some (r1,r2,r3,r4,r5,r6))∧Aside0 (kq≤kj8)∧Aside0 (Kd.R k120 120 w' w.heap.size (fun k_=>k_≠gb339) (.slice (some ad338) t335.length co5) t335)∧Aside0 (Kd.R k125 125 w' w.heap.size (fun _=>True) (.slice Ao34 t343.length co34) t343)∧Aside0 (w'.heap[gb334]?=some (.cells #[.int .i64 x335000_1,.int .i64 x335001_1,.int .i64 x335002_1,.int .i64 x335003_1,.int .i64 x335004_1] 86 (0,0)))∧Aside0 (w'.heap[gb339]?=some (.cells #[.string ((rd_T120 t335 x16_1).f0),.int .i64 ((rd_T120 t335 x16_1).f1.f0),.int .i64 ((rd_T120 t335 x16_1).f1.f1),.int .i64 ((rd_T120 t335 x16_1).f1.f2),.int .i64 ((rd_T120 t335 x16_1).f1.f3)] 120 (0,0)))∧Aside0 (w'.heap[gb340]?=some (.cells #[.int .i64 ((rd_T120 t335 x16_1).f1.f0),.int .i64 ((rd_T120 t335 x16_1).f1.f1),.int .i64 ((rd_T120 t335 x16_1).f1.f2),.int .i64 ((rd_T120 t335 x16_1).f1.f3)] 109 (0,0)))∧Aside0 (w'.heap[gb342]?=some (.cells #[.int .i64 x16_1,.int .i64 0,.int .i64 0,.int .i64 0,.int .i64 x343004_3] 86 (0,0)))∧Aside0 (Below w.heap.size w w'))
      case atStart=>exact ⟨(0),(0),(by first|rfl|(simp;done)|(simp [*];done)),H',⟨Nat.le_refl _⟩,⟨by (with_reducible repeat (first|apply Kd.R_alloc|apply Kd.R_drewN|apply Kd.R_drew));exact HO_14.out⟩,⟨by (with_reducible repeat (first|apply Kd.R_alloc|apply Kd.R_drewN|apply Kd.R_drew));exact HO345.out⟩,⟨by (with_reducible repeat first|apply Q1|apply Q2|apply Q3);exact BK334.out⟩,⟨by (with_reducible repeat first|apply Q1|apply Q2|apply Q3);exact BK339.out⟩,⟨by (with_reducible repeat first|apply Q1|apply Q2|apply Q3);exact BK340.out⟩,⟨by (with_reducible repeat first|apply Q1|apply Q2|apply Q3);exact BK342.out⟩,⟨by repeat (with_reducible first|exact HB.out|apply Q4|apply Q5|apply Q6|apply Q7 GE334.out|apply Q7 GE339.out|apply Q7 GE340.out|apply Q7 GE342.out)⟩⟩
      clear H'
      try clear c23
      try clear hcz29_0 hcz29_1 hcz29_2 hcz29_3 hcz29_4
      try clear hcz32_0 hcz32_1 hcz32_2 hcz32_3
      try clear hfz29_0 hfz29_1 hfz29_2 hfz29_3 hfz29_4
      try clear hfz32_0 hfz32_1 hfz32_2 hfz32_3
      obtain ⟨x38_3,x343004_3,rfl,HA,HK3,HO_14,HO_36,BK334,BK339,BK340,BK342,HB⟩:=hrel
      cases gk with
      | zero=>exact absurd HA.out (by simp [impl_decode.l1])
      | succ k3 =>
       have H:=HA.out
       clear HA
       simp only [impl_decode.l1] at H
       by_cases c35:x38_3 < (t343.length:Int)
       ·rw [if_pos c35] at H
        have c35b0:decide (x38_3 < (t343.length:Int))=true:=decide_eq_true c35
        clear c35
        by_cases c36:0≤x38_3
        ·rw [if_pos c36] at H
         have c36b0:decide (0≤x38_3)=true:=decide_eq_true c36
         clear c36
         by_cases c37:x38_3 < (t343.length:Int)
         ·rw [if_pos c37] at H
          have c37b0:decide (x38_3 < (t343.length:Int))=true:=decide_eq_true c37
          clear c37
          obtain ⟨t348,A38,H⟩:=bindA H
          by_cases c39:0≤((rd_T125 t343 x38_3).f0)
          ·rw [if_pos c39] at H
           have c39b0:=eq_true c39
           have c39b1:decide (0≤((rd_T125 t343 x38_3).f0))=true:=decide_eq_true c39
           clear c39
           obtain ⟨ji40,hji40⟩ : ∃ j_:Int,(shl .i64 t348 ((rd_T125 t343 x38_3).f0))=j_:=⟨_,rfl⟩
           replace H:(impl_decode.l1 k3 a0 t335 (t335.length:Int) x16_1 t343 (t343.length:Int) (wrap64 (x38_3+1)) ((rd_T120 t335 x16_1).f1.f0) ((rd_T120 t335 x16_1).f1.f1) ((rd_T120 t335 x16_1).f1.f2) ((rd_T120 t335 x16_1).f1.f3) x16_1 0 0 0 (Go.bits .or .i64 x343004_3 (ji40)))=some (r1,r2,r3,r4,r5,r6):=by first|(rw [hji40] at H;exact H)|(simp only [hji40] at H ⊢;exact H)
           (try rw [hji40] at A38)
           have hji40_:(IntKind.i64.wrap (t348*2 ^ min ((rd_T125 t343 x38_3).f0).toNat 64))=ji40:=hji40
           have hji40z:((rd_T125 t343 x38_3).f0)≤64→(IntKind.i64.wrap (t348*2 ^ ((rd_T125 t343 x38_3).f0).toNat))=ji40:=shl_small hji40
           have hji40y:(wrap64 (t348*2 ^ min ((rd_T125 t343 x38_3).f0).toNat 64))=ji40:=(i64_w _).symm.trans hji40_
           have hji40x:((rd_T125 t343 x38_3).f0)≤64→(wrap64 (t348*2 ^ ((rd_T125 t343 x38_3).f0).toNat))=ji40:=fun h_=>(i64_w _).symm.trans (hji40z h_)
           have H':=Aside0.mk H
           clear H
           have p346:0≤(x38_3:Int):=of_decide_eq_true (by first|(with_reducible assumption)|assumption)
           have q346:x38_3 < (t343.length:Int):=of_decide_eq_true (by first|(with_reducible assumption)|assumption)
           obtain ⟨ad346,e346,hx346_0,hx346_1,hx346_2⟩:=at_T125 (Kd.R_reads' HO_36.out).2.2 x38_3 p346 q346
           cases e346
           replace p346:=eq_true p346
           replace q346:=eq_true q346
           try go_wp2_with (first|((with_reducible refine gate_dst (N:=9) rfl ?_);refine box_event ?hg (N:=9) ?hd (cs:=#[.int .i64 0,.int .i64 0,.int .i64 0]) (t:=125) ?hr ?_;(case hd=>rfl);(case hg=>rfl);(case hr=>first|(go_simp;done)|(go_simp;rfl));intro gb347 hg w41 hbox hb;have n0_:=Aside0.mk (Kd.R_below (by (with_reducible repeat (first|apply Kd.R_alloc|apply Kd.R_drewN|apply Kd.R_drew));exact HO_14.out) hb);have n1_:=Aside0.mk (Kd.R_below (Kd.R_elderB (by (with_reducible repeat (first|apply Kd.R_alloc|apply Kd.R_drewN|apply Kd.R_drew));exact HO_36.out) gb347 (Nat.le_of_eq hg.symm)) hb);have n2_:=Aside0.mk (blk_below (g:=gb334) (o:=.cells #[.int .i64 x335000_1,.int .i64 x335001_1,.int .i64 x335002_1,.int .i64 x335003_1,.int .i64 x335004_1] 86 (0,0)) (by (with_reducible repeat first|apply Q1|apply Q2|apply Q3);exact BK334.out) hb);have n3_:=Aside0.mk (blk_below (g:=gb339) (o:=.cells #[.string ((rd_T120 t335 x16_1).f0),.int .i64 ((rd_T120 t335 x16_1).f1.f0),.int .i64 ((rd_T120 t335 x16_1).f1.f1),.int .i64 ((rd_T120 t335 x16_1).f1.f2),.int .i64 ((rd_T120 t335 x16_1).f1.f3)] 120 (0,0)) (by (with_reducible repeat first|apply Q1|apply Q2|apply Q3);exact BK339.out) hb);have n4_:=Aside0.mk (blk_below (g:=gb340) (o:=.cells #[.int .i64 ((rd_T120 t335 x16_1).f1.f0),.int .i64 ((rd_T120 t335 x16_1).f1.f1),.int .i64 ((rd_T120 t335 x16_1).f1.f2),.int .i64 ((rd_T120 t335 x16_1).f1.f3)] 109 (0,0)) (by (with_reducible repeat first|apply Q1|apply Q2|apply Q3);exact BK340.out) hb);have n5_:=Aside0.mk (blk_below (g:=gb342) (o:=.cells #[.int .i64 x16_1,.int .i64 0,.int .i64 0,.int .i64 0,.int .i64 x343004_3] 86 (0,0)) (by (with_reducible repeat first|apply Q1|apply Q2|apply Q3);exact BK342.out) hb);have n6_:=Aside0.mk (below_step (by repeat (with_reducible first|exact HB.out|apply Q4|apply Q5|apply Q6|apply Q7 GE334.out|apply Q7 GE339.out|apply Q7 GE340.out|apply Q7 GE342.out)) hb);have n7_:=Aside0.mk (hbox);have n8_:=Aside0.mk ((by rw [hg];exact (below_size (by repeat (with_reducible first|exact HB.out|apply Q4|apply Q5|apply Q6|apply Q7 GE334.out|apply Q7 GE339.out|apply Q7 GE340.out|apply Q7 GE342.out))):w.heap.size≤gb347));have n9_:=Aside0.mk ((by rw [hg];exact (below_size (by repeat (with_reducible first|exact HB.out|apply Q4|apply Q5|apply Q6|apply Q7 GE334.out|apply Q7 GE339.out|apply Q7 GE340.out|apply Q7 GE342.out))):w.heap.size≤gb347));have n10_:=Aside0.mk ((by rw [hg];exact Nat.ne_of_lt (blk_lt (g:=gb334) (o:=.cells #[.int .i64 x335000_1,.int .i64 x335001_1,.int .i64 x335002_1,.int .i64 x335003_1,.int .i64 x335004_1] 86 (0,0)) (by (with_reducible repeat first|apply Q1|apply Q2|apply Q3);exact BK334.out)):gb334≠gb347));have n11_:=Aside0.mk ((by rw [hg];exact Nat.ne_of_gt (blk_lt (g:=gb334) (o:=.cells #[.int .i64 x335000_1,.int .i64 x335001_1,.int .i64 x335002_1,.int .i64 x335003_1,.int .i64 x335004_1] 86 (0,0)) (by (with_reducible repeat first|apply Q1|apply Q2|apply Q3);exact BK334.out)):gb347≠gb334));have n12_:=Aside0.mk ((by rw [hg];exact Nat.ne_of_lt (blk_lt (g:=gb339) (o:=.cells #[.string ((rd_T120 t335 x16_1).f0),.int .i64 ((rd_T120 t335 x16_1).f1.f0),.int .i64 ((rd_T120 t335 x16_1).f1.f1),.int .i64 ((rd_T120 t335 x16_1).f1.f2),.int .i64 ((rd_T120 t335 x16_1).f1.f3)] 120 (0,0)) (by (with_reducible repeat first|apply Q1|apply Q2|apply Q3);exact BK339.out)):gb339≠gb347));have n13_:=Aside0.mk ((by rw [hg];exact Nat.ne_of_gt (blk_lt (g:=gb339) (o:=.cells #[.string ((rd_T120 t335 x16_1).f0),.int .i64 ((rd_T120 t335 x16_1).f1.f0),.int .i64 ((rd_T120 t335 x16_1).f1.f1),.int .i64 ((rd_T120 t335 x16_1).f1.f2),.int .i64 ((rd_T120 t335 x16_1).f1.f3)] 120 (0,0)) (by (with_reducible repeat first|apply Q1|apply Q2|apply Q3);exact BK339.out)):gb347≠gb339));have n14_:=Aside0.mk ((by rw [hg];exact Nat.ne_of_lt (blk_lt (g:=gb340) (o:=.cells #[.int .i64 ((rd_T120 t335 x16_1).f1.f0),.int .i64 ((rd_T120 t335 x16_1).f1.f1),.int .i64 ((rd_T120 t335 x16_1).f1.f2),.int .i64 ((rd_T120 t335 x16_1).f1.f3)] 109 (0,0)) (by (with_reducible repeat first|apply Q1|apply Q2|apply Q3);exact BK340.out)):gb340≠gb347));have n15_:=Aside0.mk ((by rw [hg];exact Nat.ne_of_gt (blk_lt (g:=gb340) (o:=.cells #[.int .i64 ((rd_T120 t335 x16_1).f1.f0),.int .i64 ((rd_T120 t335 x16_1).f1.f1),.int .i64 ((rd_T120 t335 x16_1).f1.f2),.int .i64 ((rd_T120 t335 x16_1).f1.f3)] 109 (0,0)) (by (with_reducible repeat first|apply Q1|apply Q2|apply Q3);exact BK340.out)):gb347≠gb340));have n16_:=Aside0.mk ((by rw [hg];exact Nat.ne_of_lt (blk_lt (g:=gb342) (o:=.cells #[.int .i64 x16_1,.int .i64 0,.int .i64 0,.int .i64 0,.int .i64 x343004_3] 86 (0,0)) (by (with_reducible repeat first|apply Q1|apply Q2|apply Q3);exact BK342.out)):gb342≠gb347));have n17_:=Aside0.mk ((by rw [hg];exact Nat.ne_of_gt (blk_lt (g:=gb342) (o:=.cells #[.int .i64 x16_1,.int .i64 0,.int .i64 0,.int .i64 0,.int .i64 x343004_3] 86 (0,0)) (by (with_reducible repeat first|apply Q1|apply Q2|apply Q3);exact BK342.out)):gb347≠gb342));clear HO_14;clear HO_36;clear BK334;clear BK339;clear BK340;clear BK342;clear HB;have HO_14:=n0_;have HO_36:=n1_;have BK334:=n2_;have BK339:=n3_;have BK340:=n4_;have BK342:=n5_;have HB:=n6_;have BK347:=n7_;have GW347:=n8_;have GE347:=n9_;have NB334_347:=n10_;have NB347_334:=n11_;have NB339_347:=n12_;have NB347_339:=n13_;have NB340_347:=n14_;have NB347_340:=n15_;have NB342_347:=n16_;have NB347_342:=n17_;clear n0_ n1_ n2_ n3_ n4_ n5_ n6_ n7_ n8_ n9_ n10_ n11_ n12_ n13_ n14_ n15_ n16_ n17_;clear hb hbox hg;have hnb42:=NB347_334.out;have hnc42:=NB334_347.out;have hnb43:=NB347_339.out;have hnc43:=NB339_347.out;have hnb44:=NB347_340.out;have hnc44:=NB340_347.out;have hnb45:=NB347_342.out;have hnc45:=NB342_347.out;have hcz46_0:w41.cell? ⟨gb347,0,none⟩=some (.int .i64 0):=(blk_cell BK347.out 0).trans rfl;have hcz46_1:w41.cell? ⟨gb347,1,none⟩=some (.int .i64 0):=(blk_cell BK347.out 1).trans rfl;have hcz46_2:w41.cell? ⟨gb347,2,none⟩=some (.int .i64 0):=(blk_cell BK347.out 2).trans rfl;have hfz46_0:=blk_frozen BK347.out 0;have hfz46_1:=blk_frozen BK347.out 1;have hfz46_2:=blk_frozen BK347.out 2))
           have n0_:Aside0 (Kd.R k120 120 (((w41.setCell ⟨gb347,0,none⟩ (.int .i64 ((rd_T125 t343 x38_3).f0))).setCell ⟨gb347,1,none⟩ (.int .i64 ((rd_T125 t343 x38_3).f1))).setCell ⟨gb347,2,none⟩ (.int .i64 ((rd_T125 t343 x38_3).f2))) w.heap.size (fun k_=>k_≠gb339) (.slice (some ad338) t335.length co5) t335):=⟨by (with_reducible repeat (first|apply Kd.R_alloc|apply Kd.R_drewN|apply Kd.R_drew));exact Kd.R_mono (Kd.R_far (p:=⟨gb347,2,none⟩) (Kd.R_far (p:=⟨gb347,1,none⟩) (Kd.R_far (p:=⟨gb347,0,none⟩) (Kd.R_types HO_14.out BK347.out (by decide)) (fun _ hk=>hk.2) (.int .i64 ((rd_T125 t343 x38_3).f0))) (fun _ hk=>hk.2) (.int .i64 ((rd_T125 t343 x38_3).f1))) (fun _ hk=>hk.2) (.int .i64 ((rd_T125 t343 x38_3).f2))) (fun _ hk=>hk.1)⟩
           have n1_:Aside0 (Kd.R k125 125 (((w41.setCell ⟨gb347,0,none⟩ (.int .i64 ((rd_T125 t343 x38_3).f0))).setCell ⟨gb347,1,none⟩ (.int .i64 ((rd_T125 t343 x38_3).f1))).setCell ⟨gb347,2,none⟩ (.int .i64 ((rd_T125 t343 x38_3).f2))) w.heap.size (fun k_=>k_≠gb347) (.slice (some ad346) t343.length co34) t343):=⟨by (with_reducible repeat (first|apply Kd.R_alloc|apply Kd.R_drewN|apply Kd.R_drew));exact Kd.R_mono (Kd.R_far (p:=⟨gb347,2,none⟩) (Kd.R_far (p:=⟨gb347,1,none⟩) (Kd.R_far (p:=⟨gb347,0,none⟩) (Kd.R_mono HO_36.out (fun k_ hk=>(⟨hk,hk.2⟩:_∧k_≠gb347))) (fun _ hk=>hk.2) (.int .i64 ((rd_T125 t343 x38_3).f0))) (fun _ hk=>hk.2) (.int .i64 ((rd_T125 t343 x38_3).f1))) (fun _ hk=>hk.2) (.int .i64 ((rd_T125 t343 x38_3).f2))) (fun _ hk=>hk.1.2)⟩
           have n2_:Aside0 ((((w41.setCell ⟨gb347,0,none⟩ (.int .i64 ((rd_T125 t343 x38_3).f0))).setCell ⟨gb347,1,none⟩ (.int .i64 ((rd_T125 t343 x38_3).f1))).setCell ⟨gb347,2,none⟩ (.int .i64 ((rd_T125 t343 x38_3).f2))).heap[gb334]?=some (.cells #[.int .i64 x335000_1,.int .i64 x335001_1,.int .i64 x335002_1,.int .i64 x335003_1,.int .i64 x335004_1] 86 (0,0))):=⟨by (with_reducible repeat first|apply Q1|apply Q2|apply Q3);refine blk_far ?_ NB334_347.out _;(with_reducible repeat first|apply Q1|apply Q2|apply Q3);refine blk_far ?_ NB334_347.out _;(with_reducible repeat first|apply Q1|apply Q2|apply Q3);refine blk_far ?_ NB334_347.out _;(with_reducible repeat first|apply Q1|apply Q2|apply Q3);exact BK334.out⟩
           have n3_:Aside0 ((((w41.setCell ⟨gb347,0,none⟩ (.int .i64 ((rd_T125 t343 x38_3).f0))).setCell ⟨gb347,1,none⟩ (.int .i64 ((rd_T125 t343 x38_3).f1))).setCell ⟨gb347,2,none⟩ (.int .i64 ((rd_T125 t343 x38_3).f2))).heap[gb339]?=some (.cells #[.string ((rd_T120 t335 x16_1).f0),.int .i64 ((rd_T120 t335 x16_1).f1.f0),.int .i64 ((rd_T120 t335 x16_1).f1.f1),.int .i64 ((rd_T120 t335 x16_1).f1.f2),.int .i64 ((rd_T120 t335 x16_1).f1.f3)] 120 (0,0))):=⟨by (with_reducible repeat first|apply Q1|apply Q2|apply Q3);refine blk_far ?_ NB339_347.out _;(with_reducible repeat first|apply Q1|apply Q2|apply Q3);refine blk_far ?_ NB339_347.out _;(with_reducible repeat first|apply Q1|apply Q2|apply Q3);refine blk_far ?_ NB339_347.out _;(with_reducible repeat first|apply Q1|apply Q2|apply Q3);exact BK339.out⟩
           have n4_:Aside0 ((((w41.setCell ⟨gb347,0,none⟩ (.int .i64 ((rd_T125 t343 x38_3).f0))).setCell ⟨gb347,1,none⟩ (.int .i64 ((rd_T125 t343 x38_3).f1))).setCell ⟨gb347,2,none⟩ (.int .i64 ((rd_T125 t343 x38_3).f2))).heap[gb340]?=some (.cells #[.int .i64 ((rd_T120 t335 x16_1).f1.f0),.int .i64 ((rd_T120 t335 x16_1).f1.f1),.int .i64 ((rd_T120 t335 x16_1).f1.f2),.int .i64 ((rd_T120 t335 x16_1).f1.f3)] 109 (0,0))):=⟨by (with_reducible repeat first|apply Q1|apply Q2|apply Q3);refine blk_far ?_ NB340_347.out _;(with_reducible repeat first|apply Q1|apply Q2|apply Q3);refine blk_far ?_ NB340_347.out _;(with_reducible repeat first|apply Q1|apply Q2|apply Q3);refine blk_far ?_ NB340_347.out _;(with_reducible repeat first|apply Q1|apply Q2|apply Q3);exact BK340.out⟩
           have n5_:Aside0 ((((w41.setCell ⟨gb347,0,none⟩ (.int .i64 ((rd_T125 t343 x38_3).f0))).setCell ⟨gb347,1,none⟩ (.int .i64 ((rd_T125 t343 x38_3).f1))).setCell ⟨gb347,2,none⟩ (.int .i64 ((rd_T125 t343 x38_3).f2))).heap[gb342]?=some (.cells #[.int .i64 x16_1,.int .i64 0,.int .i64 0,.int .i64 0,.int .i64 x343004_3] 86 (0,0))):=⟨by (with_reducible repeat first|apply Q1|apply Q2|apply Q3);refine blk_far ?_ NB342_347.out _;(with_reducible repeat first|apply Q1|apply Q2|apply Q3);refine blk_far ?_ NB342_347.out _;(with_reducible repeat first|apply Q1|apply Q2|apply Q3);refine blk_far ?_ NB342_347.out _;(with_reducible repeat first|apply Q1|apply Q2|apply Q3);exact BK342.out⟩
           have n6_:Aside0 ((((w41.setCell ⟨gb347,0,none⟩ (.int .i64 ((rd_T125 t343 x38_3).f0))).setCell ⟨gb347,1,none⟩ (.int .i64 ((rd_T125 t343 x38_3).f1))).setCell ⟨gb347,2,none⟩ (.int .i64 ((rd_T125 t343 x38_3).f2))).heap[gb347]?=some (.cells #[.int .i64 ((rd_T125 t343 x38_3).f0),.int .i64 ((rd_T125 t343 x38_3).f1),.int .i64 ((rd_T125 t343 x38_3).f2)] 125 (0,0))):=⟨by (with_reducible repeat first|apply Q1|apply Q2|apply Q3);refine blk_put (cs:=#[.int .i64 ((rd_T125 t343 x38_3).f0),.int .i64 ((rd_T125 t343 x38_3).f1),.int .i64 0]) ?_ 2 _ rfl;(with_reducible repeat first|apply Q1|apply Q2|apply Q3);refine blk_put (cs:=#[.int .i64 ((rd_T125 t343 x38_3).f0),.int .i64 0,.int .i64 0]) ?_ 1 _ rfl;(with_reducible repeat first|apply Q1|apply Q2|apply Q3);refine blk_put (cs:=#[.int .i64 0,.int .i64 0,.int .i64 0]) ?_ 0 _ rfl;(with_reducible repeat first|apply Q1|apply Q2|apply Q3);exact BK347.out⟩
           have n7_:Aside0 (Below w.heap.size w (((w41.setCell ⟨gb347,0,none⟩ (.int .i64 ((rd_T125 t343 x38_3).f0))).setCell ⟨gb347,1,none⟩ (.int .i64 ((rd_T125 t343 x38_3).f1))).setCell ⟨gb347,2,none⟩ (.int .i64 ((rd_T125 t343 x38_3).f2)))):=⟨by repeat (with_reducible first|exact HB.out|apply Q4|apply Q5|apply Q6|apply Q7 GE334.out|apply Q7 GE339.out|apply Q7 GE340.out|apply Q7 GE342.out|apply Q7 GE347.out)⟩
           try clear HO_14
           try clear HO_36
           try clear BK334
           try clear BK339 BK340
           try clear BK342
           try clear BK347
           try clear HB
           generalize (((w41.setCell ⟨gb347,0,none⟩ (.int .i64 ((rd_T125 t343 x38_3).f0))).setCell ⟨gb347,1,none⟩ (.int .i64 ((rd_T125 t343 x38_3).f1))).setCell ⟨gb347,2,none⟩ (.int .i64 ((rd_T125 t343 x38_3).f2)))=w47 at n0_ n1_ n2_ n3_ n4_ n5_ n6_ n7_ ⊢
           have HO_14:=n0_
           have HO_36:=n1_
           have BK334:=n2_
           have BK339:=n3_
           have BK340:=n4_
           have BK342:=n5_
           have BK347:=n6_
           have HB:=n7_
           clear n0_ n1_ n2_ n3_ n4_ n5_ n6_ n7_
           have n0_:=Aside0.mk (Kd.R_drew HO_14.out)
           have n1_:=Aside0.mk (Kd.R_drew HO_36.out)
           have n2_:=Aside0.mk (blk_drew BK334.out)
           have n3_:=Aside0.mk (blk_drew BK339.out)
           have n4_:=Aside0.mk (blk_drew BK340.out)
           have n5_:=Aside0.mk (blk_drew BK342.out)
           have n6_:=Aside0.mk (blk_drew BK347.out)
           have n7_:=Aside0.mk (below_drew1 HB.out)
           clear HO_14
           clear HO_36
           clear BK334
           clear BK339
           clear BK340
           clear BK342
           clear BK347
           clear HB
           have HO_14:=n0_
           have HO_36:=n1_
           have BK334:=n2_
           have BK339:=n3_
           have BK340:=n4_
           have BK342:=n5_
           have BK347:=n6_
           have HB:=n7_
           clear n0_ n1_ n2_ n3_ n4_ n5_ n6_ n7_
           refine start_ (n:=14) (S:=fun w'=>w'.cell? ⟨gb342,0,none⟩=some (.int .i64 x16_1)∧w'.cell? ⟨gb342,1,none⟩=some (.int .i64 0)∧w'.cell? ⟨gb342,2,none⟩=some (.int .i64 0)∧w'.cell? ⟨gb342,3,none⟩=some (.int .i64 0)∧w'.cell? ⟨gb342,4,none⟩=some (.int .i64 x343004_3)∧w'.cell? ⟨gb347,0,none⟩=some (.int .i64 ((rd_T125 t343 x38_3).f0))∧w'.cell? ⟨gb347,1,none⟩=some (.int .i64 ((rd_T125 t343 x38_3).f1))∧w'.cell? ⟨gb347,2,none⟩=some (.int .i64 ((rd_T125 t343 x38_3).f2))) (ds:=[13]) #[false,false,false,false,false,false,false,false,false,false,false,false,false,false] (by kernel_rfl) rfl rfl ⟨(blk_cell BK342.out 0).trans rfl,(blk_cell BK342.out 1).trans rfl,(blk_cell BK342.out 2).trans rfl,(blk_cell BK342.out 3).trans rfl,(blk_cell BK342.out 4).trans rfl,(blk_cell BK347.out 0).trans rfl,(blk_cell BK347.out 1).trans rfl,(blk_cell BK347.out 2).trans rfl⟩ (fun hHeld=>?_);refine with_tabW impl_decode.tab10 impl_decode.bits10 (fun HT_ HW_=>?_)
           generalize w47.drew=w48 at HO_14 HO_36 BK334 BK339 BK340 BK342 BK347 HB hHeld ⊢
           refine pure_ (i:=0) (N:=some 42) (v:=?_) (a':=?_) #[true,false,false,false,false,false,false,false,false,false,false,false,false,false] rfl rfl (any_of HT_.out (by kernel_rfl)) (fun _ _ _ h=>h) (Or.inl ⟨by rfl,?_⟩) ?_ ?_
           rotate_left
           ·intro w'
            go_simp
            with_reducible rfl
           rotate_left
           ·simp only [Act.put,List.setIfInBounds_toArray,List.set_cons_zero,List.set_cons_succ,i64_w,i32_w]
            rfl
           refine pure_ (i:=2) (N:=some 44) (v:=?_) (a':=?_) #[true,false,true,false,false,false,false,false,false,false,false,false,false,false] rfl rfl (any_of HT_.out (by kernel_rfl)) (fun _ _ _ h=>h) (Or.inl ⟨by rfl,?_⟩) ?_ ?_
           rotate_left
           ·intro w'
            go_simp
            with_reducible rfl
           rotate_left
           ·simp only [Act.put,List.setIfInBounds_toArray,List.set_cons_zero,List.set_cons_succ,i64_w,i32_w]
            rfl
           refine pure_ (i:=3) (N:=some 45) (v:=?_) (a':=?_) #[true,false,true,true,false,false,false,false,false,false,false,false,false,false] rfl rfl (any_of HT_.out (by kernel_rfl)) (fun _ _ _ h=>h) (Or.inl ⟨by rfl,?_⟩) ?_ ?_
           rotate_left
           ·intro w'
            go_simp
            with_reducible rfl
           rotate_left
           ·simp only [Act.put,List.setIfInBounds_toArray,List.set_cons_zero,List.set_cons_succ,i64_w,i32_w]
            rfl
           refine pure_ (i:=5) (N:=some 47) (v:=?_) (a':=?_) #[true,false,true,true,false,true,false,false,false,false,false,false,false,false] rfl rfl (any_of HT_.out (by kernel_rfl)) (fun _ _ _ h=>h) (Or.inl ⟨by rfl,?_⟩) ?_ ?_
           rotate_left
           ·intro w'
            go_simp
            with_reducible rfl
           rotate_left
           ·simp only [Act.put,List.setIfInBounds_toArray,List.set_cons_zero,List.set_cons_succ,i64_w,i32_w]
            rfl
           refine pure_ (i:=8) (N:=some 50) (v:=?_) (a':=?_) #[true,false,true,true,false,true,false,false,true,false,false,false,false,false] rfl rfl (any_of HT_.out (by kernel_rfl)) (fun _ _ _ h=>h) (Or.inl ⟨by rfl,?_⟩) ?_ ?_
           rotate_left
           ·intro w'
            go_simp
            with_reducible rfl
           rotate_left
           ·simp only [Act.put,List.setIfInBounds_toArray,List.set_cons_zero,List.set_cons_succ,i64_w,i32_w]
            rfl
           refine take_ (i:=1) (N:=some 43) (v:=?_) (a':=?_) #[true,true,true,true,false,true,false,false,true,false,false,false,false,false] rfl rfl (take_ofW HT_.out HW_.out (by kernel_rfl)) (fun _ _ _ h=>h) (Or.inl ⟨by rfl,?_⟩) hHeld ?_ ?_
           rotate_left
           ·rintro w' ⟨s0,s1,s2,s3,s4,s5,s6,s7⟩
            go_simp
            with_reducible rfl
           rotate_left
           ·simp only [Act.put,List.setIfInBounds_toArray,List.set_cons_zero,List.set_cons_succ,i64_w,i32_w]
            rfl
           refine take_ (i:=4) (N:=some 46) (v:=?_) (a':=?_) #[true,true,true,true,true,true,false,false,true,false,false,false,false,false] rfl rfl (take_ofW HT_.out HW_.out (by kernel_rfl)) (fun _ _ _ h=>h) (Or.inl ⟨by rfl,?_⟩) hHeld ?_ ?_
           rotate_left
           ·rintro w' ⟨s0,s1,s2,s3,s4,s5,s6,s7⟩
            go_simp
            with_reducible rfl
           rotate_left
           ·simp only [Act.put,List.setIfInBounds_toArray,List.set_cons_zero,List.set_cons_succ,i64_w,i32_w]
            rfl
           refine take_ (i:=6) (N:=some 48) (v:=?_) (a':=?_) #[true,true,true,true,true,true,true,false,true,false,false,false,false,false] rfl rfl (take_ofW HT_.out HW_.out (by kernel_rfl)) (fun _ _ _ h=>h) (Or.inl ⟨by rfl,?_⟩) hHeld ?_ ?_
           rotate_left
           ·rintro w' ⟨s0,s1,s2,s3,s4,s5,s6,s7⟩
            go_simp
            with_reducible rfl
           rotate_left
           ·simp only [Act.put,List.setIfInBounds_toArray,List.set_cons_zero,List.set_cons_succ,i64_w,i32_w]
            rfl
           refine take_ (i:=9) (N:=some 51) (v:=?_) (a':=?_) #[true,true,true,true,true,true,true,false,true,true,false,false,false,false] rfl rfl (take_ofW HT_.out HW_.out (by kernel_rfl)) (fun _ _ _ h=>h) (Or.inl ⟨by rfl,?_⟩) hHeld ?_ ?_
           rotate_left
           ·rintro w' ⟨s0,s1,s2,s3,s4,s5,s6,s7⟩
            go_simp
            with_reducible rfl
           rotate_left
           ·simp only [Act.put,List.setIfInBounds_toArray,List.set_cons_zero,List.set_cons_succ,i64_w,i32_w]
            rfl
           refine one_ (i:=7) (N:=some 49) #[true,true,true,true,true,true,true,true,true,true,false,false,false,false] rfl rfl (one_of HT_.out (by kernel_rfl)) (by decide) (fun K hK=>?_)
           refine goes_ Try.func107 (by kernel_rfl) rfl #[.int .i64 a0,.int .i64 ((rd_T125 t343 x38_3).f2),.int .i64 ((rd_T125 t343 x38_3).f1)] (by rfl) rfl rfl (by (try simp only [List.map_toArray,List.map_cons,List.map_nil]);first|done|rfl|(simp only [List.length_drop,List.length_take];rfl)) ?_
           with_reducible refine (impl_bitsOf.calls a0 ((rd_T125 t343 x38_3).f2) ((rd_T125 t343 x38_3).f1) t348 _ A38.out).mono ?_
           rintro e w' ⟨rfl,⟨nd,rfl⟩⟩
           refine ⟨_,rfl,?_⟩
           refine hK.out _ _ ⟨(blk_cell BK342.out 0).trans rfl,(blk_cell BK342.out 1).trans rfl,(blk_cell BK342.out 2).trans rfl,(blk_cell BK342.out 3).trans rfl,(blk_cell BK342.out 4).trans rfl,(blk_cell BK347.out 0).trans rfl,(blk_cell BK347.out 1).trans rfl,(blk_cell BK347.out 2).trans rfl⟩ (fun hHeld=>?_)
           clear hK K
           refine norm_ (a':=?_) ?_ ?_
           rotate_left
           ·show Act.put _ (some 49) _=_
            simp only [Act.put,List.setIfInBounds_toArray,List.set_cons_zero,List.set_cons_succ,i64_w,i32_w]
            rfl
           refine pure_ (i:=10) (N:=some 52) (v:=?_) (a':=?_) #[true,true,true,true,true,true,true,true,true,true,true,false,false,false] rfl rfl (any_of HT_.out (by kernel_rfl)) (fun _ _ _ h=>h) (Or.inl ⟨by rfl,?_⟩) ?_ ?_
           rotate_left
           ·intro w'
            go_simp
            with_reducible rfl
           rotate_left
           ·simp only [Act.put,List.setIfInBounds_toArray,List.set_cons_zero,List.set_cons_succ,i64_w,i32_w]
            rfl
           refine pure_ (i:=11) (N:=some 53) (v:=?_) (a':=?_) #[true,true,true,true,true,true,true,true,true,true,true,true,false,false] rfl rfl (any_of HT_.out (by kernel_rfl)) (fun _ _ _ h=>h) (Or.inl ⟨by rfl,?_⟩) ?_ ?_
           rotate_left
           ·intro w'
            go_simp
            with_reducible rfl
           rotate_left
           ·simp only [Act.put,List.setIfInBounds_toArray,List.set_cons_zero,List.set_cons_succ,i64_w,i32_w]
            rfl
           refine pure_ (i:=12) (N:=some 54) (v:=?_) (a':=?_) #[true,true,true,true,true,true,true,true,true,true,true,true,true,false] rfl rfl (any_of HT_.out (by kernel_rfl)) (fun _ _ _ h=>h) (Or.inl ⟨by rfl,?_⟩) ?_ ?_
           rotate_left
           ·intro w'
            go_simp
            with_reducible rfl
           rotate_left
           ·simp only [Act.put,List.setIfInBounds_toArray,List.set_cons_zero,List.set_cons_succ,i64_w,i32_w]
            rfl
           refine last_ (i:=13) (N:=none) #[true,true,true,true,true,true,true,true,true,true,true,true,true,true] rfl rfl (one_of HT_.out (by kernel_rfl)) (by decide) (fun K hK=>?_)
           have hs49:w48.cell? ⟨gb342,4,none⟩=some (.int .i64 x343004_3):=(blk_cell BK342.out 4).trans rfl
           have hfs49:=blk_frozen BK342.out 4
           have hns49_0:=NB334_342.out
           have hns49_1:=NB339_342.out
           have hns49_2:=NB340_342.out
           have hns49_4:=NB347_342.out
           have hms49_0:=NB342_334.out
           have hms49_1:=NB342_339.out
           have hms49_2:=NB342_340.out
           have hms49_4:=NB342_347.out
           refine skip_ (w1:=?_) (by rfl) rfl ?_ ?_
           rotate_left
           ·go_simp
            rfl
           refine hK.out _ _ ?_
           clear hK K
           refine done_ (done_of HT_.out (by kernel_rfl)) ?_
           try go_wp2
           go_roundg k3
           case measure=>have:=HK1.out;have:=HJ8.out;have:=HK3.out;omega
           case rel=>exact ⟨(wrap64 (x38_3+1)),(Go.bits .or .i64 x343004_3 (ji40)),(by first|rfl|(simp;done)|(simp [*];done)),H',⟨by have:=HK1.out;have:=HJ8.out;have:=HK3.out;omega⟩,⟨by (with_reducible repeat (first|apply Kd.R_alloc|apply Kd.R_drewN|apply Kd.R_drew));exact Kd.R_mono (Kd.R_far (p:=⟨gb342,4,none⟩) (Kd.R_types HO_14.out BK342.out (by decide)) (fun _ hk=>hk.2) (.int .i64 (Go.bits .or .i64 x343004_3 (ji40)))) (fun _ hk=>hk.1)⟩,⟨by (with_reducible repeat (first|apply Kd.R_alloc|apply Kd.R_drewN|apply Kd.R_drew));exact Kd.R_mono (Kd.R_far (p:=⟨gb342,4,none⟩) (Kd.R_types HO_36.out BK342.out (by decide)) (fun _ hk=>hk.2) (.int .i64 (Go.bits .or .i64 x343004_3 (ji40)))) (fun _ hk=>trivial)⟩,⟨by (with_reducible repeat first|apply Q1|apply Q2|apply Q3);refine blk_far ?_ NB334_342.out _;(with_reducible repeat first|apply Q1|apply Q2|apply Q3);exact BK334.out⟩,⟨by (with_reducible repeat first|apply Q1|apply Q2|apply Q3);refine blk_far ?_ NB339_342.out _;(with_reducible repeat first|apply Q1|apply Q2|apply Q3);exact BK339.out⟩,⟨by (with_reducible repeat first|apply Q1|apply Q2|apply Q3);refine blk_far ?_ NB340_342.out _;(with_reducible repeat first|apply Q1|apply Q2|apply Q3);exact BK340.out⟩,⟨by (with_reducible repeat first|apply Q1|apply Q2|apply Q3);refine blk_put (cs:=#[.int .i64 x16_1,.int .i64 0,.int .i64 0,.int .i64 0,.int .i64 x343004_3]) ?_ 4 _ rfl;(with_reducible repeat first|apply Q1|apply Q2|apply Q3);exact BK342.out⟩,⟨by repeat (with_reducible first|exact HB.out|apply Q4|apply Q5|apply Q6|apply Q7 GE334.out|apply Q7 GE339.out|apply Q7 GE340.out|apply Q7 GE342.out|apply Q7 GE347.out)⟩⟩
          rw [if_neg c39] at H
          exact absurd H (by simp)
         rw [if_neg c37] at H
         exact absurd H (by simp)
        rw [if_neg c36] at H
        exact absurd H (by simp)
       rw [if_neg c35] at H
       have c35b0:decide (x38_3 < (t343.length:Int))=false:=decide_eq_false c35
       clear c35
       obtain ⟨t349,A50,H⟩:=bindA H
       have HC51:=Aside0.mk H
       clear H
       have hnb52:=NB340_334.out
       have hnc52:=NB334_340.out
       have hnb53:=NB340_339.out
       have hnc53:=NB339_340.out
       have hnb54:=NB340_342.out
       have hnc54:=NB342_340.out
       have hcz55_0:wr.cell? ⟨gb340,0,none⟩=some (.int .i64 ((rd_T120 t335 x16_1).f1.f0)):=(blk_cell BK340.out 0).trans rfl
       have hcz55_1:wr.cell? ⟨gb340,1,none⟩=some (.int .i64 ((rd_T120 t335 x16_1).f1.f1)):=(blk_cell BK340.out 1).trans rfl
       have hcz55_2:wr.cell? ⟨gb340,2,none⟩=some (.int .i64 ((rd_T120 t335 x16_1).f1.f2)):=(blk_cell BK340.out 2).trans rfl
       have hcz55_3:wr.cell? ⟨gb340,3,none⟩=some (.int .i64 ((rd_T120 t335 x16_1).f1.f3)):=(blk_cell BK340.out 3).trans rfl
       have hfz55_0:=blk_frozen BK340.out 0
       have hfz55_1:=blk_frozen BK340.out 1
       have hfz55_2:=blk_frozen BK340.out 2
       have hfz55_3:=blk_frozen BK340.out 3
       go_upto_if 60 with (first|((with_reducible refine gate_callee (f:=109) rfl ?_);refine goesL_ (some 58) rfl rfl Try.func109 (by kernel_rfl) rfl #[.int .i64 ((rd_T120 t335 x16_1).f1.f0)] rfl (by (try simp only [List.map_toArray,List.map_cons,List.map_nil]);first|done|rfl|(simp only [List.length_drop,List.length_take];rfl)) ?_;(with_reducible refine (impl_immBits.calls k3 ((rd_T120 t335 x16_1).f1.f0) t349 _ A50.out).mono ?_);rintro e w' ⟨rfl,⟨nd,rfl⟩⟩;refine ⟨_,rfl,?_⟩))
       (try simp only [Act.put,List.setIfInBounds_toArray,List.set_cons_zero,List.set_cons_succ])
       go_cut [] (fun wc=>∃ (kq:Nat) (x343004_50:Int),Aside0 (impl_decode.j3 kq a0 t335 (t335.length:Int) x16_1 ((rd_T120 t335 x16_1).f1.f0) ((rd_T120 t335 x16_1).f1.f1) ((rd_T120 t335 x16_1).f1.f2) ((rd_T120 t335 x16_1).f1.f3) x16_1 0 0 0 x343004_50=some (r1,r2,r3,r4,r5,r6))∧Aside0 (kq≤k3)∧Aside0 (Kd.R k120 120 wc w.heap.size (fun k_=>k_≠gb339) (.slice (some ad338) t335.length co5) t335)∧Aside0 (wc.heap[gb334]?=some (.cells #[.int .i64 x335000_1,.int .i64 x335001_1,.int .i64 x335002_1,.int .i64 x335003_1,.int .i64 x335004_1] 86 (0,0)))∧Aside0 (wc.heap[gb339]?=some (.cells #[.string ((rd_T120 t335 x16_1).f0),.int .i64 ((rd_T120 t335 x16_1).f1.f0),.int .i64 ((rd_T120 t335 x16_1).f1.f1),.int .i64 ((rd_T120 t335 x16_1).f1.f2),.int .i64 ((rd_T120 t335 x16_1).f1.f3)] 120 (0,0)))∧Aside0 (wc.heap[gb340]?=some (.cells #[.int .i64 ((rd_T120 t335 x16_1).f1.f0),.int .i64 ((rd_T120 t335 x16_1).f1.f1),.int .i64 ((rd_T120 t335 x16_1).f1.f2),.int .i64 ((rd_T120 t335 x16_1).f1.f3)] 109 (0,0)))∧Aside0 (wc.heap[gb342]?=some (.cells #[.int .i64 x16_1,.int .i64 0,.int .i64 0,.int .i64 0,.int .i64 x343004_50] 86 (0,0)))∧Aside0 (Below w.heap.size w wc))
       case first=>
        have H:=HC51.out
        clear HC51
        by_cases c56:t349 > 0
        ·rw [if_pos c56] at H
         have c56b0:decide (0 < t349)=true:=decide_eq_true c56
         clear c56
         (first|rw [c56b0]|(simp only [i64_w,i32_w];rw [c56b0])|skip)
         obtain ⟨t350,A57,H⟩:=bindA H
         have H':=Aside0.mk H
         clear H
         have hnb58:=NB342_334.out
         have hnc58:=NB334_342.out
         have hnb59:=NB342_339.out
         have hnc59:=NB339_342.out
         have hnb60:=NB342_340.out
         have hnc60:=NB340_342.out
         have hcz61_0:wr.cell? ⟨gb342,0,none⟩=some (.int .i64 x16_1):=(blk_cell BK342.out 0).trans rfl
         have hcz61_1:wr.cell? ⟨gb342,1,none⟩=some (.int .i64 0):=(blk_cell BK342.out 1).trans rfl
         have hcz61_2:wr.cell? ⟨gb342,2,none⟩=some (.int .i64 0):=(blk_cell BK342.out 2).trans rfl
         have hcz61_3:wr.cell? ⟨gb342,3,none⟩=some (.int .i64 0):=(blk_cell BK342.out 3).trans rfl
         have hcz61_4:wr.cell? ⟨gb342,4,none⟩=some (.int .i64 x343004_3):=(blk_cell BK342.out 4).trans rfl
         have hfz61_0:=blk_frozen BK342.out 0
         have hfz61_1:=blk_frozen BK342.out 1
         have hfz61_2:=blk_frozen BK342.out 2
         have hfz61_3:=blk_frozen BK342.out 3
         have hfz61_4:=blk_frozen BK342.out 4
         go_wp2_with (first|((with_reducible refine gate_callee (f:=110) rfl ?_);refine goesL_ (some 64) rfl rfl Try.func110 (by kernel_rfl) rfl #[.int .i64 x343004_3,.int .i64 t349] rfl (by (try simp only [List.map_toArray,List.map_cons,List.map_nil]);first|done|rfl|(simp only [List.length_drop,List.length_take];rfl)) ?_;(with_reducible refine (impl_signOf.calls x343004_3 t349 t350 _ A57.out).mono ?_);rintro e w' ⟨rfl,⟨nd,rfl⟩⟩;refine ⟨_,rfl,?_⟩;(try (rw [drewN_self wr];generalize hq_:World.drewN wr _=wr;have n0_:Aside0 (Kd.R k120 120 wr w.heap.size (fun k_=>k_≠gb339) (.slice (some ad338) t335.length co5) t335):=⟨by rw [← hq_];exact (by (with_reducible repeat (first|apply Kd.R_alloc|apply Kd.R_drewN|apply Kd.R_drew));exact HO_14.out)⟩;have n1_:Aside0 (Kd.R k125 125 wr w.heap.size (fun _=>True) (.slice Ao34 t343.length co34) t343):=⟨by rw [← hq_];exact (by (with_reducible repeat (first|apply Kd.R_alloc|apply Kd.R_drewN|apply Kd.R_drew));exact HO_36.out)⟩;have n2_:Aside0 (wr.heap[gb334]?=some (.cells #[.int .i64 x335000_1,.int .i64 x335001_1,.int .i64 x335002_1,.int .i64 x335003_1,.int .i64 x335004_1] 86 (0,0))):=⟨by rw [← hq_];exact (by (with_reducible repeat first|apply Q1|apply Q2|apply Q3);exact BK334.out)⟩;have n3_:Aside0 (wr.heap[gb339]?=some (.cells #[.string ((rd_T120 t335 x16_1).f0),.int .i64 ((rd_T120 t335 x16_1).f1.f0),.int .i64 ((rd_T120 t335 x16_1).f1.f1),.int .i64 ((rd_T120 t335 x16_1).f1.f2),.int .i64 ((rd_T120 t335 x16_1).f1.f3)] 120 (0,0))):=⟨by rw [← hq_];exact (by (with_reducible repeat first|apply Q1|apply Q2|apply Q3);exact BK339.out)⟩;have n4_:Aside0 (wr.heap[gb340]?=some (.cells #[.int .i64 ((rd_T120 t335 x16_1).f1.f0),.int .i64 ((rd_T120 t335 x16_1).f1.f1),.int .i64 ((rd_T120 t335 x16_1).f1.f2),.int .i64 ((rd_T120 t335 x16_1).f1.f3)] 109 (0,0))):=⟨by rw [← hq_];exact (by (with_reducible repeat first|apply Q1|apply Q2|apply Q3);exact BK340.out)⟩;have n5_:Aside0 (wr.heap[gb342]?=some (.cells #[.int .i64 x16_1,.int .i64 0,.int .i64 0,.int .i64 0,.int .i64 x343004_3] 86 (0,0))):=⟨by rw [← hq_];exact (by (with_reducible repeat first|apply Q1|apply Q2|apply Q3);exact BK342.out)⟩;have n6_:Aside0 (Below w.heap.size w wr):=⟨by rw [← hq_];exact (by repeat (with_reducible first|exact HB.out|apply Q4|apply Q5|apply Q6|apply Q7 GE334.out|apply Q7 GE339.out|apply Q7 GE340.out|apply Q7 GE342.out))⟩;clear HO_14 HO_36 BK334 BK339 BK340 BK342 HB hq_;have HO_14:=n0_;have HO_36:=n1_;have BK334:=n2_;have BK339:=n3_;have BK340:=n4_;have BK342:=n5_;have HB:=n6_;clear n0_ n1_ n2_ n3_ n4_ n5_ n6_;have hcz61_0:wr.cell? ⟨gb342,0,none⟩=some (.int .i64 x16_1):=(blk_cell BK342.out 0).trans rfl;have hcz61_1:wr.cell? ⟨gb342,1,none⟩=some (.int .i64 0):=(blk_cell BK342.out 1).trans rfl;have hcz61_2:wr.cell? ⟨gb342,2,none⟩=some (.int .i64 0):=(blk_cell BK342.out 2).trans rfl;have hcz61_3:wr.cell? ⟨gb342,3,none⟩=some (.int .i64 0):=(blk_cell BK342.out 3).trans rfl;have hcz61_4:wr.cell? ⟨gb342,4,none⟩=some (.int .i64 x343004_3):=(blk_cell BK342.out 4).trans rfl;have hfz61_0:=blk_frozen BK342.out 0;have hfz61_1:=blk_frozen BK342.out 1;have hfz61_2:=blk_frozen BK342.out 2;have hfz61_3:=blk_frozen BK342.out 3;have hfz61_4:=blk_frozen BK342.out 4))))
         go_meet
         case rel=>exact ⟨_,(t350),H',⟨by have:=HK1.out;have:=HJ8.out;have:=HK3.out;first|omega|exact Nat.le_refl _⟩,⟨by (with_reducible repeat (first|apply Kd.R_alloc|apply Kd.R_drewN|apply Kd.R_drew));exact Kd.R_mono (Kd.R_far (p:=⟨gb342,4,none⟩) (Kd.R_types HO_14.out BK342.out (by decide)) (fun _ hk=>hk.2) (.int .i64 t350)) (fun _ hk=>hk.1)⟩,⟨by (with_reducible repeat first|apply Q1|apply Q2|apply Q3);refine blk_far ?_ NB334_342.out _;(with_reducible repeat first|apply Q1|apply Q2|apply Q3);exact BK334.out⟩,⟨by (with_reducible repeat first|apply Q1|apply Q2|apply Q3);refine blk_far ?_ NB339_342.out _;(with_reducible repeat first|apply Q1|apply Q2|apply Q3);exact BK339.out⟩,⟨by (with_reducible repeat first|apply Q1|apply Q2|apply Q3);refine blk_far ?_ NB340_342.out _;(with_reducible repeat first|apply Q1|apply Q2|apply Q3);exact BK340.out⟩,⟨by (with_reducible repeat first|apply Q1|apply Q2|apply Q3);refine blk_put (cs:=#[.int .i64 x16_1,.int .i64 0,.int .i64 0,.int .i64 0,.int .i64 x343004_3]) ?_ 4 _ rfl;(with_reducible repeat first|apply Q1|apply Q2|apply Q3);exact BK342.out⟩,⟨by repeat (with_reducible first|exact HB.out|apply Q4|apply Q5|apply Q6|apply Q7 GE334.out|apply Q7 GE339.out|apply Q7 GE340.out|apply Q7 GE342.out)⟩⟩
        rw [if_neg c56] at H
        have c56b0:decide (0 < t349)=false:=decide_eq_false c56
        clear c56
        (first|rw [c56b0]|(simp only [i64_w,i32_w];rw [c56b0])|skip)
        have H':=Aside0.mk H
        clear H
        go_wp2
        go_meet
        case rel=>exact ⟨_,(x343004_3),H',⟨by have:=HK1.out;have:=HJ8.out;have:=HK3.out;first|omega|exact Nat.le_refl _⟩,⟨by (with_reducible repeat (first|apply Kd.R_alloc|apply Kd.R_drewN|apply Kd.R_drew));exact HO_14.out⟩,⟨by (with_reducible repeat first|apply Q1|apply Q2|apply Q3);exact BK334.out⟩,⟨by (with_reducible repeat first|apply Q1|apply Q2|apply Q3);exact BK339.out⟩,⟨by (with_reducible repeat first|apply Q1|apply Q2|apply Q3);exact BK340.out⟩,⟨by (with_reducible repeat first|apply Q1|apply Q2|apply Q3);exact BK342.out⟩,⟨by repeat (with_reducible first|exact HB.out|apply Q4|apply Q5|apply Q6|apply Q7 GE334.out|apply Q7 GE339.out|apply Q7 GE340.out|apply Q7 GE342.out)⟩⟩
       clear HC51
       try clear c35b0
       try clear hcz55_0
       try clear hcz55_1
       try clear hcz55_2
       try clear hcz55_3
       try clear hfz55_0
       try clear hfz55_1
       try clear hfz55_2
       try clear hfz55_3
       obtain ⟨kq,x343004_50,HA,HJ50,HO_14,BK334,BK339,BK340,BK342,HB⟩:=hcut
       cases kq with
       | zero=>exact absurd HA.out (by simp [impl_decode.j3])
       | succ kj50 =>
        have H:=HA.out
        clear HA
        simp only [impl_decode.j3] at H
        obtain ⟨⟨t351,t352,t353⟩,A62,H⟩:=bindA H
        try dsimp only at H
        have HC63:=Aside0.mk H
        clear H
        have hnb64:=NB340_334.out
        have hnc64:=NB334_340.out
        have hnb65:=NB340_339.out
        have hnc65:=NB339_340.out
        have hnb66:=NB340_342.out
        have hnc66:=NB342_340.out
        have hcz67_0:wc.cell? ⟨gb340,0,none⟩=some (.int .i64 ((rd_T120 t335 x16_1).f1.f0)):=(blk_cell BK340.out 0).trans rfl
        have hcz67_1:wc.cell? ⟨gb340,1,none⟩=some (.int .i64 ((rd_T120 t335 x16_1).f1.f1)):=(blk_cell BK340.out 1).trans rfl
        have hcz67_2:wc.cell? ⟨gb340,2,none⟩=some (.int .i64 ((rd_T120 t335 x16_1).f1.f2)):=(blk_cell BK340.out 2).trans rfl
        have hcz67_3:wc.cell? ⟨gb340,3,none⟩=some (.int .i64 ((rd_T120 t335 x16_1).f1.f3)):=(blk_cell BK340.out 3).trans rfl
        have hfz67_0:=blk_frozen BK340.out 0
        have hfz67_1:=blk_frozen BK340.out 1
        have hfz67_2:=blk_frozen BK340.out 2
        have hfz67_3:=blk_frozen BK340.out 3
        go_upto_if 73 with (first|((with_reducible refine gate_callee (f:=111) rfl ?_);refine goesL_ (some 69) rfl rfl Try.func111 (by kernel_rfl) rfl #[.int .i64 ((rd_T120 t335 x16_1).f1.f0)] rfl (by (try simp only [List.map_toArray,List.map_cons,List.map_nil]);first|done|rfl|(simp only [List.length_drop,List.length_take];rfl)) ?_;(with_reducible refine (impl_fields.calls kj50 ((rd_T120 t335 x16_1).f1.f0) t351 t352 t353 _ A62.out).mono ?_);rintro e w' ⟨rfl,⟨nd,rfl⟩⟩;refine ⟨_,rfl,?_⟩))
        (try simp only [Act.put,List.setIfInBounds_toArray,List.set_cons_zero,List.set_cons_succ])
        go_cut [] (fun wc=>∃ (kq:Nat) (x343001_62:Int),Aside0 (impl_decode.j4 kq a0 t352 t353 t335 (t335.length:Int) x16_1 x16_1 x343001_62 0 0 x343004_50=some (r1,r2,r3,r4,r5,r6))∧Aside0 (kq≤kj50)∧Aside0 (Kd.R k120 120 wc w.heap.size (fun k_=>k_≠gb339) (.slice (some ad338) t335.length co5) t335)∧Aside0 (wc.heap[gb334]?=some (.cells #[.int .i64 x335000_1,.int .i64 x335001_1,.int .i64 x335002_1,.int .i64 x335003_1,.int .i64 x335004_1] 86 (0,0)))∧Aside0 (wc.heap[gb339]?=some (.cells #[.string ((rd_T120 t335 x16_1).f0),.int .i64 ((rd_T120 t335 x16_1).f1.f0),.int .i64 ((rd_T120 t335 x16_1).f1.f1),.int .i64 ((rd_T120 t335 x16_1).f1.f2),.int .i64 ((rd_T120 t335 x16_1).f1.f3)] 120 (0,0)))∧Aside0 (wc.heap[gb340]?=some (.cells #[.int .i64 ((rd_T120 t335 x16_1).f1.f0),.int .i64 ((rd_T120 t335 x16_1).f1.f1),.int .i64 ((rd_T120 t335 x16_1).f1.f2),.int .i64 ((rd_T120 t335 x16_1).f1.f3)] 109 (0,0)))∧Aside0 (wc.heap[gb342]?=some (.cells #[.int .i64 x16_1,.int .i64 x343001_62,.int .i64 0,.int .i64 0,.int .i64 x343004_50] 86 (0,0)))∧Aside0 (Below w.heap.size w wc))
        case first=>
         have H:=HC63.out
         clear HC63
         by_cases c68:t351=true
         ·subst c68
          rw [if_pos rfl] at H
          obtain ⟨t354,A69,H⟩:=bindA H
          have H':=Aside0.mk H
          clear H
          go_wp2_with (first|((with_reducible refine gate_callee (f:=107) rfl ?_);refine goesL_ (some 75) rfl rfl Try.func107 (by kernel_rfl) rfl #[.int .i64 a0,.int .i64 7,.int .i64 5] rfl (by (try simp only [List.map_toArray,List.map_cons,List.map_nil]);first|done|rfl|(simp only [List.length_drop,List.length_take];rfl)) ?_;(with_reducible refine (impl_bitsOf.calls a0 7 5 t354 _ A69.out).mono ?_);rintro e w' ⟨rfl,⟨nd,rfl⟩⟩;refine ⟨_,rfl,?_⟩;(try (rw [drewN_self wc];generalize hq_:World.drewN wc _=wc;have n0_:Aside0 (Kd.R k120 120 wc w.heap.size (fun k_=>k_≠gb339) (.slice (some ad338) t335.length co5) t335):=⟨by rw [← hq_];exact (by (with_reducible repeat (first|apply Kd.R_alloc|apply Kd.R_drewN|apply Kd.R_drew));exact HO_14.out)⟩;have n1_:Aside0 (wc.heap[gb334]?=some (.cells #[.int .i64 x335000_1,.int .i64 x335001_1,.int .i64 x335002_1,.int .i64 x335003_1,.int .i64 x335004_1] 86 (0,0))):=⟨by rw [← hq_];exact (by (with_reducible repeat first|apply Q1|apply Q2|apply Q3);exact BK334.out)⟩;have n2_:Aside0 (wc.heap[gb339]?=some (.cells #[.string ((rd_T120 t335 x16_1).f0),.int .i64 ((rd_T120 t335 x16_1).f1.f0),.int .i64 ((rd_T120 t335 x16_1).f1.f1),.int .i64 ((rd_T120 t335 x16_1).f1.f2),.int .i64 ((rd_T120 t335 x16_1).f1.f3)] 120 (0,0))):=⟨by rw [← hq_];exact (by (with_reducible repeat first|apply Q1|apply Q2|apply Q3);exact BK339.out)⟩;have n3_:Aside0 (wc.heap[gb340]?=some (.cells #[.int .i64 ((rd_T120 t335 x16_1).f1.f0),.int .i64 ((rd_T120 t335 x16_1).f1.f1),.int .i64 ((rd_T120 t335 x16_1).f1.f2),.int .i64 ((rd_T120 t335 x16_1).f1.f3)] 109 (0,0))):=⟨by rw [← hq_];exact (by (with_reducible repeat first|apply Q1|apply Q2|apply Q3);exact BK340.out)⟩;have n4_:Aside0 (wc.heap[gb342]?=some (.cells #[.int .i64 x16_1,.int .i64 0,.int .i64 0,.int .i64 0,.int .i64 x343004_50] 86 (0,0))):=⟨by rw [← hq_];exact (by (with_reducible repeat first|apply Q1|apply Q2|apply Q3);exact BK342.out)⟩;have n5_:Aside0 (Below w.heap.size w wc):=⟨by rw [← hq_];exact (by repeat (with_reducible first|exact HB.out|apply Q4|apply Q5|apply Q6|apply Q7 GE334.out|apply Q7 GE339.out|apply Q7 GE340.out|apply Q7 GE342.out))⟩;clear HO_14 BK334 BK339 BK340 BK342 HB hq_;have HO_14:=n0_;have BK334:=n1_;have BK339:=n2_;have BK340:=n3_;have BK342:=n4_;have HB:=n5_;clear n0_ n1_ n2_ n3_ n4_ n5_));have hnb70:=NB342_334.out;have hnc70:=NB334_342.out;have hnb71:=NB342_339.out;have hnc71:=NB339_342.out;have hnb72:=NB342_340.out;have hnc72:=NB340_342.out;have hcz73_0:wc.cell? ⟨gb342,0,none⟩=some (.int .i64 x16_1):=(blk_cell BK342.out 0).trans rfl;have hcz73_1:wc.cell? ⟨gb342,1,none⟩=some (.int .i64 0):=(blk_cell BK342.out 1).trans rfl;have hcz73_2:wc.cell? ⟨gb342,2,none⟩=some (.int .i64 0):=(blk_cell BK342.out 2).trans rfl;have hcz73_3:wc.cell? ⟨gb342,3,none⟩=some (.int .i64 0):=(blk_cell BK342.out 3).trans rfl;have hcz73_4:wc.cell? ⟨gb342,4,none⟩=some (.int .i64 x343004_50):=(blk_cell BK342.out 4).trans rfl;have hfz73_0:=blk_frozen BK342.out 0;have hfz73_1:=blk_frozen BK342.out 1;have hfz73_2:=blk_frozen BK342.out 2;have hfz73_3:=blk_frozen BK342.out 3;have hfz73_4:=blk_frozen BK342.out 4))
          go_meet
          case rel=>exact ⟨_,(t354),H',⟨by have:=HK1.out;have:=HJ8.out;have:=HK3.out;have:=HJ50.out;first|omega|exact Nat.le_refl _⟩,⟨by (with_reducible repeat (first|apply Kd.R_alloc|apply Kd.R_drewN|apply Kd.R_drew));exact Kd.R_mono (Kd.R_far (p:=⟨gb342,1,none⟩) (Kd.R_types HO_14.out BK342.out (by decide)) (fun _ hk=>hk.2) (.int .i64 t354)) (fun _ hk=>hk.1)⟩,⟨by (with_reducible repeat first|apply Q1|apply Q2|apply Q3);refine blk_far ?_ NB334_342.out _;(with_reducible repeat first|apply Q1|apply Q2|apply Q3);exact BK334.out⟩,⟨by (with_reducible repeat first|apply Q1|apply Q2|apply Q3);refine blk_far ?_ NB339_342.out _;(with_reducible repeat first|apply Q1|apply Q2|apply Q3);exact BK339.out⟩,⟨by (with_reducible repeat first|apply Q1|apply Q2|apply Q3);refine blk_far ?_ NB340_342.out _;(with_reducible repeat first|apply Q1|apply Q2|apply Q3);exact BK340.out⟩,⟨by (with_reducible repeat first|apply Q1|apply Q2|apply Q3);refine blk_put (cs:=#[.int .i64 x16_1,.int .i64 0,.int .i64 0,.int .i64 0,.int .i64 x343004_50]) ?_ 1 _ rfl;(with_reducible repeat first|apply Q1|apply Q2|apply Q3);exact BK342.out⟩,⟨by repeat (with_reducible first|exact HB.out|apply Q4|apply Q5|apply Q6|apply Q7 GE334.out|apply Q7 GE339.out|apply Q7 GE340.out|apply Q7 GE342.out)⟩⟩
         replace c68:=Bool.eq_false_iff.mpr c68
         subst c68
         rw [if_neg (show ¬ (false=true) by decide)] at H
         have H':=Aside0.mk H
         clear H
         go_wp2
         go_meet
         case rel=>exact ⟨_,(0),H',⟨by have:=HK1.out;have:=HJ8.out;have:=HK3.out;have:=HJ50.out;first|omega|exact Nat.le_refl _⟩,⟨by (with_reducible repeat (first|apply Kd.R_alloc|apply Kd.R_drewN|apply Kd.R_drew));exact HO_14.out⟩,⟨by (with_reducible repeat first|apply Q1|apply Q2|apply Q3);exact BK334.out⟩,⟨by (with_reducible repeat first|apply Q1|apply Q2|apply Q3);exact BK339.out⟩,⟨by (with_reducible repeat first|apply Q1|apply Q2|apply Q3);exact BK340.out⟩,⟨by (with_reducible repeat first|apply Q1|apply Q2|apply Q3);exact BK342.out⟩,⟨by repeat (with_reducible first|exact HB.out|apply Q4|apply Q5|apply Q6|apply Q7 GE334.out|apply Q7 GE339.out|apply Q7 GE340.out|apply Q7 GE342.out)⟩⟩
        clear HC63
        try clear hcz67_0
        try clear hcz67_1
        try clear hcz67_2
        try clear hcz67_3
        try clear hfz67_0
        try clear hfz67_1
        try clear hfz67_2
        try clear hfz67_3
        obtain ⟨kq,x343001_62,HA,HJ62,HO_14,BK334,BK339,BK340,BK342,HB⟩:=hcut
        cases kq with
        | zero=>exact absurd HA.out (by simp [impl_decode.j4])
        | succ kj62 =>
         have H:=HA.out
         clear HA
         simp only [impl_decode.j4] at H
         have HC74:=Aside0.mk H
         clear H
         go_upto_if 77 with (fail)
         go_cut [] (fun wc=>∃ (kq:Nat) (x343002_73:Int),Aside0 (impl_decode.j5 kq a0 t353 t335 (t335.length:Int) x16_1 x16_1 x343001_62 x343002_73 0 x343004_50=some (r1,r2,r3,r4,r5,r6))∧Aside0 (kq≤kj62)∧Aside0 (Kd.R k120 120 wc w.heap.size (fun k_=>k_≠gb339) (.slice (some ad338) t335.length co5) t335)∧Aside0 (wc.heap[gb334]?=some (.cells #[.int .i64 x335000_1,.int .i64 x335001_1,.int .i64 x335002_1,.int .i64 x335003_1,.int .i64 x335004_1] 86 (0,0)))∧Aside0 (wc.heap[gb339]?=some (.cells #[.string ((rd_T120 t335 x16_1).f0),.int .i64 ((rd_T120 t335 x16_1).f1.f0),.int .i64 ((rd_T120 t335 x16_1).f1.f1),.int .i64 ((rd_T120 t335 x16_1).f1.f2),.int .i64 ((rd_T120 t335 x16_1).f1.f3)] 120 (0,0)))∧Aside0 (wc.heap[gb340]?=some (.cells #[.int .i64 ((rd_T120 t335 x16_1).f1.f0),.int .i64 ((rd_T120 t335 x16_1).f1.f1),.int .i64 ((rd_T120 t335 x16_1).f1.f2),.int .i64 ((rd_T120 t335 x16_1).f1.f3)] 109 (0,0)))∧Aside0 (wc.heap[gb342]?=some (.cells #[.int .i64 x16_1,.int .i64 x343001_62,.int .i64 x343002_73,.int .i64 0,.int .i64 x343004_50] 86 (0,0)))∧Aside0 (Below w.heap.size w wc))
         case first=>
          have H:=HC74.out
          clear HC74
          by_cases c75:t352=true
          ·subst c75
           rw [if_pos rfl] at H
           obtain ⟨t355,A76,H⟩:=bindA H
           have H':=Aside0.mk H
           clear H
           go_wp2_with (first|((with_reducible refine gate_callee (f:=107) rfl ?_);refine goesL_ (some 79) rfl rfl Try.func107 (by kernel_rfl) rfl #[.int .i64 a0,.int .i64 15,.int .i64 5] rfl (by (try simp only [List.map_toArray,List.map_cons,List.map_nil]);first|done|rfl|(simp only [List.length_drop,List.length_take];rfl)) ?_;(with_reducible refine (impl_bitsOf.calls a0 15 5 t355 _ A76.out).mono ?_);rintro e w' ⟨rfl,⟨nd,rfl⟩⟩;refine ⟨_,rfl,?_⟩;(try (rw [drewN_self wc];generalize hq_:World.drewN wc _=wc;have n0_:Aside0 (Kd.R k120 120 wc w.heap.size (fun k_=>k_≠gb339) (.slice (some ad338) t335.length co5) t335):=⟨by rw [← hq_];exact (by (with_reducible repeat (first|apply Kd.R_alloc|apply Kd.R_drewN|apply Kd.R_drew));exact HO_14.out)⟩;have n1_:Aside0 (wc.heap[gb334]?=some (.cells #[.int .i64 x335000_1,.int .i64 x335001_1,.int .i64 x335002_1,.int .i64 x335003_1,.int .i64 x335004_1] 86 (0,0))):=⟨by rw [← hq_];exact (by (with_reducible repeat first|apply Q1|apply Q2|apply Q3);exact BK334.out)⟩;have n2_:Aside0 (wc.heap[gb339]?=some (.cells #[.string ((rd_T120 t335 x16_1).f0),.int .i64 ((rd_T120 t335 x16_1).f1.f0),.int .i64 ((rd_T120 t335 x16_1).f1.f1),.int .i64 ((rd_T120 t335 x16_1).f1.f2),.int .i64 ((rd_T120 t335 x16_1).f1.f3)] 120 (0,0))):=⟨by rw [← hq_];exact (by (with_reducible repeat first|apply Q1|apply Q2|apply Q3);exact BK339.out)⟩;have n3_:Aside0 (wc.heap[gb340]?=some (.cells #[.int .i64 ((rd_T120 t335 x16_1).f1.f0),.int .i64 ((rd_T120 t335 x16_1).f1.f1),.int .i64 ((rd_T120 t335 x16_1).f1.f2),.int .i64 ((rd_T120 t335 x16_1).f1.f3)] 109 (0,0))):=⟨by rw [← hq_];exact (by (with_reducible repeat first|apply Q1|apply Q2|apply Q3);exact BK340.out)⟩;have n4_:Aside0 (wc.heap[gb342]?=some (.cells #[.int .i64 x16_1,.int .i64 x343001_62,.int .i64 0,.int .i64 0,.int .i64 x343004_50] 86 (0,0))):=⟨by rw [← hq_];exact (by (with_reducible repeat first|apply Q1|apply Q2|apply Q3);exact BK342.out)⟩;have n5_:Aside0 (Below w.heap.size w wc):=⟨by rw [← hq_];exact (by repeat (with_reducible first|exact HB.out|apply Q4|apply Q5|apply Q6|apply Q7 GE334.out|apply Q7 GE339.out|apply Q7 GE340.out|apply Q7 GE342.out))⟩;clear HO_14 BK334 BK339 BK340 BK342 HB hq_;have HO_14:=n0_;have BK334:=n1_;have BK339:=n2_;have BK340:=n3_;have BK342:=n4_;have HB:=n5_;clear n0_ n1_ n2_ n3_ n4_ n5_));have hnb77:=NB342_334.out;have hnc77:=NB334_342.out;have hnb78:=NB342_339.out;have hnc78:=NB339_342.out;have hnb79:=NB342_340.out;have hnc79:=NB340_342.out;have hcz80_0:wc.cell? ⟨gb342,0,none⟩=some (.int .i64 x16_1):=(blk_cell BK342.out 0).trans rfl;have hcz80_1:wc.cell? ⟨gb342,1,none⟩=some (.int .i64 x343001_62):=(blk_cell BK342.out 1).trans rfl;have hcz80_2:wc.cell? ⟨gb342,2,none⟩=some (.int .i64 0):=(blk_cell BK342.out 2).trans rfl;have hcz80_3:wc.cell? ⟨gb342,3,none⟩=some (.int .i64 0):=(blk_cell BK342.out 3).trans rfl;have hcz80_4:wc.cell? ⟨gb342,4,none⟩=some (.int .i64 x343004_50):=(blk_cell BK342.out 4).trans rfl;have hfz80_0:=blk_frozen BK342.out 0;have hfz80_1:=blk_frozen BK342.out 1;have hfz80_2:=blk_frozen BK342.out 2;have hfz80_3:=blk_frozen BK342.out 3;have hfz80_4:=blk_frozen BK342.out 4))
           go_meet
           case rel=>exact ⟨_,(t355),H',⟨by have:=HK1.out;have:=HJ8.out;have:=HK3.out;have:=HJ50.out;have:=HJ62.out;first|omega|exact Nat.le_refl _⟩,⟨by (with_reducible repeat (first|apply Kd.R_alloc|apply Kd.R_drewN|apply Kd.R_drew));exact Kd.R_mono (Kd.R_far (p:=⟨gb342,2,none⟩) (Kd.R_types HO_14.out BK342.out (by decide)) (fun _ hk=>hk.2) (.int .i64 t355)) (fun _ hk=>hk.1)⟩,⟨by (with_reducible repeat first|apply Q1|apply Q2|apply Q3);refine blk_far ?_ NB334_342.out _;(with_reducible repeat first|apply Q1|apply Q2|apply Q3);exact BK334.out⟩,⟨by (with_reducible repeat first|apply Q1|apply Q2|apply Q3);refine blk_far ?_ NB339_342.out _;(with_reducible repeat first|apply Q1|apply Q2|apply Q3);exact BK339.out⟩,⟨by (with_reducible repeat first|apply Q1|apply Q2|apply Q3);refine blk_far ?_ NB340_342.out _;(with_reducible repeat first|apply Q1|apply Q2|apply Q3);exact BK340.out⟩,⟨by (with_reducible repeat first|apply Q1|apply Q2|apply Q3);refine blk_put (cs:=#[.int .i64 x16_1,.int .i64 x343001_62,.int .i64 0,.int .i64 0,.int .i64 x343004_50]) ?_ 2 _ rfl;(with_reducible repeat first|apply Q1|apply Q2|apply Q3);exact BK342.out⟩,⟨by repeat (with_reducible first|exact HB.out|apply Q4|apply Q5|apply Q6|apply Q7 GE334.out|apply Q7 GE339.out|apply Q7 GE340.out|apply Q7 GE342.out)⟩⟩
          replace c75:=Bool.eq_false_iff.mpr c75
          subst c75
          rw [if_neg (show ¬ (false=true) by decide)] at H
          have H':=Aside0.mk H
          clear H
          go_wp2
          go_meet
          case rel=>exact ⟨_,(0),H',⟨by have:=HK1.out;have:=HJ8.out;have:=HK3.out;have:=HJ50.out;have:=HJ62.out;first|omega|exact Nat.le_refl _⟩,⟨by (with_reducible repeat (first|apply Kd.R_alloc|apply Kd.R_drewN|apply Kd.R_drew));exact HO_14.out⟩,⟨by (with_reducible repeat first|apply Q1|apply Q2|apply Q3);exact BK334.out⟩,⟨by (with_reducible repeat first|apply Q1|apply Q2|apply Q3);exact BK339.out⟩,⟨by (with_reducible repeat first|apply Q1|apply Q2|apply Q3);exact BK340.out⟩,⟨by (with_reducible repeat first|apply Q1|apply Q2|apply Q3);exact BK342.out⟩,⟨by repeat (with_reducible first|exact HB.out|apply Q4|apply Q5|apply Q6|apply Q7 GE334.out|apply Q7 GE339.out|apply Q7 GE340.out|apply Q7 GE342.out)⟩⟩
         clear HC74
         obtain ⟨kq,x343002_73,HA,HJ73,HO_14,BK334,BK339,BK340,BK342,HB⟩:=hcut
         cases kq with
         | zero=>exact absurd HA.out (by simp [impl_decode.j5])
         | succ kj73 =>
          have H:=HA.out
          clear HA
          simp only [impl_decode.j5] at H
          by_cases c81:t353=true
          ·subst c81
           rw [if_pos rfl] at H
           obtain ⟨t356,A82,H⟩:=bindA H
           obtain ⟨t357,A83,H⟩:=bindA H
           by_cases c84:t357=a0
           ·rw [if_pos c84] at H
            obtain ⟨c84b0,c84b1⟩:=eqP c84
            clear c84
            simp only [Option.some.injEq,Prod.mk.injEq] at H
            obtain ⟨rfl,rfl,rfl,rfl,rfl,rfl⟩:=H
            go_wp2_with (first|((with_reducible refine gate_callee (f:=107) rfl ?_);refine goesL_ (some 83) rfl rfl Try.func107 (by kernel_rfl) rfl #[.int .i64 a0,.int .i64 20,.int .i64 5] rfl (by (try simp only [List.map_toArray,List.map_cons,List.map_nil]);first|done|rfl|(simp only [List.length_drop,List.length_take];rfl)) ?_;(with_reducible refine (impl_bitsOf.calls a0 20 5 t356 _ A82.out).mono ?_);rintro e w' ⟨rfl,⟨nd,rfl⟩⟩;refine ⟨_,rfl,?_⟩;(try (rw [drewN_self wc];generalize hq_:World.drewN wc _=wc;have n0_:Aside0 (Kd.R k120 120 wc w.heap.size (fun k_=>k_≠gb339) (.slice (some ad338) t335.length co5) t335):=⟨by rw [← hq_];exact (by (with_reducible repeat (first|apply Kd.R_alloc|apply Kd.R_drewN|apply Kd.R_drew));exact HO_14.out)⟩;have n1_:Aside0 (wc.heap[gb334]?=some (.cells #[.int .i64 x335000_1,.int .i64 x335001_1,.int .i64 x335002_1,.int .i64 x335003_1,.int .i64 x335004_1] 86 (0,0))):=⟨by rw [← hq_];exact (by (with_reducible repeat first|apply Q1|apply Q2|apply Q3);exact BK334.out)⟩;have n2_:Aside0 (wc.heap[gb339]?=some (.cells #[.string ((rd_T120 t335 x16_1).f0),.int .i64 ((rd_T120 t335 x16_1).f1.f0),.int .i64 ((rd_T120 t335 x16_1).f1.f1),.int .i64 ((rd_T120 t335 x16_1).f1.f2),.int .i64 ((rd_T120 t335 x16_1).f1.f3)] 120 (0,0))):=⟨by rw [← hq_];exact (by (with_reducible repeat first|apply Q1|apply Q2|apply Q3);exact BK339.out)⟩;have n3_:Aside0 (wc.heap[gb340]?=some (.cells #[.int .i64 ((rd_T120 t335 x16_1).f1.f0),.int .i64 ((rd_T120 t335 x16_1).f1.f1),.int .i64 ((rd_T120 t335 x16_1).f1.f2),.int .i64 ((rd_T120 t335 x16_1).f1.f3)] 109 (0,0))):=⟨by rw [← hq_];exact (by (with_reducible repeat first|apply Q1|apply Q2|apply Q3);exact BK340.out)⟩;have n4_:Aside0 (wc.heap[gb342]?=some (.cells #[.int .i64 x16_1,.int .i64 x343001_62,.int .i64 x343002_73,.int .i64 0,.int .i64 x343004_50] 86 (0,0))):=⟨by rw [← hq_];exact (by (with_reducible repeat first|apply Q1|apply Q2|apply Q3);exact BK342.out)⟩;have n5_:Aside0 (Below w.heap.size w wc):=⟨by rw [← hq_];exact (by repeat (with_reducible first|exact HB.out|apply Q4|apply Q5|apply Q6|apply Q7 GE334.out|apply Q7 GE339.out|apply Q7 GE340.out|apply Q7 GE342.out))⟩;clear HO_14 BK334 BK339 BK340 BK342 HB hq_;have HO_14:=n0_;have BK334:=n1_;have BK339:=n2_;have BK340:=n3_;have BK342:=n4_;have HB:=n5_;clear n0_ n1_ n2_ n3_ n4_ n5_));have hnb85:=NB342_334.out;have hnc85:=NB334_342.out;have hnb86:=NB342_339.out;have hnc86:=NB339_342.out;have hnb87:=NB342_340.out;have hnc87:=NB340_342.out;have hcz88_0:wc.cell? ⟨gb342,0,none⟩=some (.int .i64 x16_1):=(blk_cell BK342.out 0).trans rfl;have hcz88_1:wc.cell? ⟨gb342,1,none⟩=some (.int .i64 x343001_62):=(blk_cell BK342.out 1).trans rfl;have hcz88_2:wc.cell? ⟨gb342,2,none⟩=some (.int .i64 x343002_73):=(blk_cell BK342.out 2).trans rfl;have hcz88_3:wc.cell? ⟨gb342,3,none⟩=some (.int .i64 0):=(blk_cell BK342.out 3).trans rfl;have hcz88_4:wc.cell? ⟨gb342,4,none⟩=some (.int .i64 x343004_50):=(blk_cell BK342.out 4).trans rfl;have hfz88_0:=blk_frozen BK342.out 0;have hfz88_1:=blk_frozen BK342.out 1;have hfz88_2:=blk_frozen BK342.out 2;have hfz88_3:=blk_frozen BK342.out 3;have hfz88_4:=blk_frozen BK342.out 4)|((with_reducible refine gate_callee (f:=112) rfl ?_);refine goesL_ (some 86) rfl rfl Try.func112 (by kernel_rfl) rfl #[.agg #[.int .i64 x16_1,.int .i64 x343001_62,.int .i64 x343002_73,.int .i64 t356,.int .i64 x343004_50]] rfl (by (try simp only [List.map_toArray,List.map_cons,List.map_nil]);first|done|rfl|(simp only [List.length_drop,List.length_take];rfl)) ?_;(with_reducible refine (impl_encode.calls kj73 x16_1 x343001_62 x343002_73 t356 x343004_50 t357 _ A83.out).mono ?_);rintro e w89 ⟨rfl,hb⟩;refine ⟨_,rfl,?_⟩;have n0_:=Aside0.mk (Kd.R_below (by (with_reducible repeat (first|apply Kd.R_alloc|apply Kd.R_drewN|apply Kd.R_drew));exact (Kd.R_mono (Kd.R_far (p:=⟨gb342,3,none⟩) (Kd.R_types HO_14.out BK342.out (by decide)) (fun _ hk=>hk.2) (.int .i64 t356)) (fun _ h_=>h_.1))) hb);have n1_:=Aside0.mk (blk_below (g:=gb334) (o:=.cells #[.int .i64 x335000_1,.int .i64 x335001_1,.int .i64 x335002_1,.int .i64 x335003_1,.int .i64 x335004_1] 86 (0,0)) (by (with_reducible repeat first|apply Q1|apply Q2|apply Q3);refine blk_far ?_ NB334_342.out _;(with_reducible repeat first|apply Q1|apply Q2|apply Q3);exact BK334.out) hb);have n2_:=Aside0.mk (blk_below (g:=gb339) (o:=.cells #[.string ((rd_T120 t335 x16_1).f0),.int .i64 ((rd_T120 t335 x16_1).f1.f0),.int .i64 ((rd_T120 t335 x16_1).f1.f1),.int .i64 ((rd_T120 t335 x16_1).f1.f2),.int .i64 ((rd_T120 t335 x16_1).f1.f3)] 120 (0,0)) (by (with_reducible repeat first|apply Q1|apply Q2|apply Q3);refine blk_far ?_ NB339_342.out _;(with_reducible repeat first|apply Q1|apply Q2|apply Q3);exact BK339.out) hb);have n3_:=Aside0.mk (blk_below (g:=gb340) (o:=.cells #[.int .i64 ((rd_T120 t335 x16_1).f1.f0),.int .i64 ((rd_T120 t335 x16_1).f1.f1),.int .i64 ((rd_T120 t335 x16_1).f1.f2),.int .i64 ((rd_T120 t335 x16_1).f1.f3)] 109 (0,0)) (by (with_reducible repeat first|apply Q1|apply Q2|apply Q3);refine blk_far ?_ NB340_342.out _;(with_reducible repeat first|apply Q1|apply Q2|apply Q3);exact BK340.out) hb);have n4_:=Aside0.mk (blk_below (g:=gb342) (o:=.cells #[.int .i64 x16_1,.int .i64 x343001_62,.int .i64 x343002_73,.int .i64 t356,.int .i64 x343004_50] 86 (0,0)) (by (with_reducible repeat first|apply Q1|apply Q2|apply Q3);refine blk_put (cs:=#[.int .i64 x16_1,.int .i64 x343001_62,.int .i64 x343002_73,.int .i64 0,.int .i64 x343004_50]) ?_ 3 _ rfl;(with_reducible repeat first|apply Q1|apply Q2|apply Q3);exact BK342.out) hb);have n5_:=Aside0.mk (below_step (by repeat (with_reducible first|exact HB.out|apply Q4|apply Q5|apply Q6|apply Q7 GE334.out|apply Q7 GE339.out|apply Q7 GE340.out|apply Q7 GE342.out)) hb);clear HO_14;clear BK334;clear BK339;clear BK340;clear BK342;clear HB;have HO_14:=n0_;have BK334:=n1_;have BK339:=n2_;have BK340:=n3_;have BK342:=n4_;have HB:=n5_;clear n0_ n1_ n2_ n3_ n4_ n5_;(try clear hb);(try clear hb2);(try clear hk);(try clear hi);have hcz90_0:w89.cell? ⟨gb342,0,none⟩=some (.int .i64 x16_1):=(blk_cell BK342.out 0).trans rfl;have hcz90_1:w89.cell? ⟨gb342,1,none⟩=some (.int .i64 x343001_62):=(blk_cell BK342.out 1).trans rfl;have hcz90_2:w89.cell? ⟨gb342,2,none⟩=some (.int .i64 x343002_73):=(blk_cell BK342.out 2).trans rfl;have hcz90_3:w89.cell? ⟨gb342,3,none⟩=some (.int .i64 t356):=(blk_cell BK342.out 3).trans rfl;have hcz90_4:w89.cell? ⟨gb342,4,none⟩=some (.int .i64 x343004_50):=(blk_cell BK342.out 4).trans rfl;have hfz90_0:=blk_frozen BK342.out 0;have hfz90_1:=blk_frozen BK342.out 1;have hfz90_2:=blk_frozen BK342.out 2;have hfz90_3:=blk_frozen BK342.out 3;have hfz90_4:=blk_frozen BK342.out 4;have hnb91:=NB334_339.out;have hnc91:=NB339_334.out;have hnb92:=NB334_340.out;have hnc92:=NB340_334.out;have hcz93_0:w89.cell? ⟨gb334,0,none⟩=some (.int .i64 x335000_1):=(blk_cell BK334.out 0).trans rfl;have hcz93_1:w89.cell? ⟨gb334,1,none⟩=some (.int .i64 x335001_1):=(blk_cell BK334.out 1).trans rfl;have hcz93_2:w89.cell? ⟨gb334,2,none⟩=some (.int .i64 x335002_1):=(blk_cell BK334.out 2).trans rfl;have hcz93_3:w89.cell? ⟨gb334,3,none⟩=some (.int .i64 x335003_1):=(blk_cell BK334.out 3).trans rfl;have hcz93_4:w89.cell? ⟨gb334,4,none⟩=some (.int .i64 x335004_1):=(blk_cell BK334.out 4).trans rfl;have hfz93_0:=blk_frozen BK334.out 0;have hfz93_1:=blk_frozen BK334.out 1;have hfz93_2:=blk_frozen BK334.out 2;have hfz93_3:=blk_frozen BK334.out 3;have hfz93_4:=blk_frozen BK334.out 4))
            refine bodyPost_ret (results_ct rfl _ _ gb334 86 #[.int .i64 x16_1,.int .i64 x343001_62,.int .i64 x343002_73,.int .i64 t356,.int .i64 x343004_50] (0,0) _ rfl (by (with_reducible repeat first|apply Q1|apply Q2|apply Q3);refine blk_put (cs:=#[.int .i64 x16_1,.int .i64 x343001_62,.int .i64 x343002_73,.int .i64 t356,.int .i64 x335004_1]) ?_ 4 _ rfl;(with_reducible repeat first|apply Q1|apply Q2|apply Q3);refine blk_put (cs:=#[.int .i64 x16_1,.int .i64 x343001_62,.int .i64 x343002_73,.int .i64 x335003_1,.int .i64 x335004_1]) ?_ 3 _ rfl;(with_reducible repeat first|apply Q1|apply Q2|apply Q3);refine blk_put (cs:=#[.int .i64 x16_1,.int .i64 x343001_62,.int .i64 x335002_1,.int .i64 x335003_1,.int .i64 x335004_1]) ?_ 2 _ rfl;(with_reducible repeat first|apply Q1|apply Q2|apply Q3);refine blk_put (cs:=#[.int .i64 x16_1,.int .i64 x335001_1,.int .i64 x335002_1,.int .i64 x335003_1,.int .i64 x335004_1]) ?_ 1 _ rfl;(with_reducible repeat first|apply Q1|apply Q2|apply Q3);refine blk_put (cs:=#[.int .i64 x335000_1,.int .i64 x335001_1,.int .i64 x335002_1,.int .i64 x335003_1,.int .i64 x335004_1]) ?_ 0 _ rfl;(with_reducible repeat first|apply Q1|apply Q2|apply Q3);exact BK334.out) Try.underlying86 rfl (by kernel_rfl)) rfl ?_
            exact ⟨by first|rfl|(simp [errW_none,errW_some]<;>rfl)|(simp [*,errW_none,errW_some]<;>rfl),by repeat (with_reducible first|exact HB.out|apply Q4|apply Q5|apply Q6|apply Q7 GE334.out|apply Q7 GE339.out|apply Q7 GE340.out|apply Q7 GE342.out)⟩
           rw [if_neg c84] at H
           obtain ⟨c84b0,c84b1⟩:=eqN c84
           have H':=Aside0.mk H
           clear H
           go_wp2_with (first|((with_reducible refine gate_callee (f:=107) rfl ?_);refine goesL_ (some 83) rfl rfl Try.func107 (by kernel_rfl) rfl #[.int .i64 a0,.int .i64 20,.int .i64 5] rfl (by (try simp only [List.map_toArray,List.map_cons,List.map_nil]);first|done|rfl|(simp only [List.length_drop,List.length_take];rfl)) ?_;(with_reducible refine (impl_bitsOf.calls a0 20 5 t356 _ A82.out).mono ?_);rintro e w' ⟨rfl,⟨nd,rfl⟩⟩;refine ⟨_,rfl,?_⟩;(try (rw [drewN_self wc];generalize hq_:World.drewN wc _=wc;have n0_:Aside0 (Kd.R k120 120 wc w.heap.size (fun k_=>k_≠gb339) (.slice (some ad338) t335.length co5) t335):=⟨by rw [← hq_];exact (by (with_reducible repeat (first|apply Kd.R_alloc|apply Kd.R_drewN|apply Kd.R_drew));exact HO_14.out)⟩;have n1_:Aside0 (wc.heap[gb334]?=some (.cells #[.int .i64 x335000_1,.int .i64 x335001_1,.int .i64 x335002_1,.int .i64 x335003_1,.int .i64 x335004_1] 86 (0,0))):=⟨by rw [← hq_];exact (by (with_reducible repeat first|apply Q1|apply Q2|apply Q3);exact BK334.out)⟩;have n2_:Aside0 (wc.heap[gb339]?=some (.cells #[.string ((rd_T120 t335 x16_1).f0),.int .i64 ((rd_T120 t335 x16_1).f1.f0),.int .i64 ((rd_T120 t335 x16_1).f1.f1),.int .i64 ((rd_T120 t335 x16_1).f1.f2),.int .i64 ((rd_T120 t335 x16_1).f1.f3)] 120 (0,0))):=⟨by rw [← hq_];exact (by (with_reducible repeat first|apply Q1|apply Q2|apply Q3);exact BK339.out)⟩;have n3_:Aside0 (wc.heap[gb340]?=some (.cells #[.int .i64 ((rd_T120 t335 x16_1).f1.f0),.int .i64 ((rd_T120 t335 x16_1).f1.f1),.int .i64 ((rd_T120 t335 x16_1).f1.f2),.int .i64 ((rd_T120 t335 x16_1).f1.f3)] 109 (0,0))):=⟨by rw [← hq_];exact (by (with_reducible repeat first|apply Q1|apply Q2|apply Q3);exact BK340.out)⟩;have n4_:Aside0 (wc.heap[gb342]?=some (.cells #[.int .i64 x16_1,.int .i64 x343001_62,.int .i64 x343002_73,.int .i64 0,.int .i64 x343004_50] 86 (0,0))):=⟨by rw [← hq_];exact (by (with_reducible repeat first|apply Q1|apply Q2|apply Q3);exact BK342.out)⟩;have n5_:Aside0 (Below w.heap.size w wc):=⟨by rw [← hq_];exact (by repeat (with_reducible first|exact HB.out|apply Q4|apply Q5|apply Q6|apply Q7 GE334.out|apply Q7 GE339.out|apply Q7 GE340.out|apply Q7 GE342.out))⟩;clear HO_14 BK334 BK339 BK340 BK342 HB hq_;have HO_14:=n0_;have BK334:=n1_;have BK339:=n2_;have BK340:=n3_;have BK342:=n4_;have HB:=n5_;clear n0_ n1_ n2_ n3_ n4_ n5_));have hnb94:=NB342_334.out;have hnc94:=NB334_342.out;have hnb95:=NB342_339.out;have hnc95:=NB339_342.out;have hnb96:=NB342_340.out;have hnc96:=NB340_342.out;have hcz97_0:wc.cell? ⟨gb342,0,none⟩=some (.int .i64 x16_1):=(blk_cell BK342.out 0).trans rfl;have hcz97_1:wc.cell? ⟨gb342,1,none⟩=some (.int .i64 x343001_62):=(blk_cell BK342.out 1).trans rfl;have hcz97_2:wc.cell? ⟨gb342,2,none⟩=some (.int .i64 x343002_73):=(blk_cell BK342.out 2).trans rfl;have hcz97_3:wc.cell? ⟨gb342,3,none⟩=some (.int .i64 0):=(blk_cell BK342.out 3).trans rfl;have hcz97_4:wc.cell? ⟨gb342,4,none⟩=some (.int .i64 x343004_50):=(blk_cell BK342.out 4).trans rfl;have hfz97_0:=blk_frozen BK342.out 0;have hfz97_1:=blk_frozen BK342.out 1;have hfz97_2:=blk_frozen BK342.out 2;have hfz97_3:=blk_frozen BK342.out 3;have hfz97_4:=blk_frozen BK342.out 4)|((with_reducible refine gate_callee (f:=112) rfl ?_);refine goesL_ (some 86) rfl rfl Try.func112 (by kernel_rfl) rfl #[.agg #[.int .i64 x16_1,.int .i64 x343001_62,.int .i64 x343002_73,.int .i64 t356,.int .i64 x343004_50]] rfl (by (try simp only [List.map_toArray,List.map_cons,List.map_nil]);first|done|rfl|(simp only [List.length_drop,List.length_take];rfl)) ?_;(with_reducible refine (impl_encode.calls kj73 x16_1 x343001_62 x343002_73 t356 x343004_50 t357 _ A83.out).mono ?_);rintro e w98 ⟨rfl,hb⟩;refine ⟨_,rfl,?_⟩;have n0_:=Aside0.mk (Kd.R_below (by (with_reducible repeat (first|apply Kd.R_alloc|apply Kd.R_drewN|apply Kd.R_drew));exact (Kd.R_mono (Kd.R_far (p:=⟨gb342,3,none⟩) (Kd.R_types HO_14.out BK342.out (by decide)) (fun _ hk=>hk.2) (.int .i64 t356)) (fun _ h_=>h_.1))) hb);have n1_:=Aside0.mk (blk_below (g:=gb334) (o:=.cells #[.int .i64 x335000_1,.int .i64 x335001_1,.int .i64 x335002_1,.int .i64 x335003_1,.int .i64 x335004_1] 86 (0,0)) (by (with_reducible repeat first|apply Q1|apply Q2|apply Q3);refine blk_far ?_ NB334_342.out _;(with_reducible repeat first|apply Q1|apply Q2|apply Q3);exact BK334.out) hb);have n2_:=Aside0.mk (blk_below (g:=gb339) (o:=.cells #[.string ((rd_T120 t335 x16_1).f0),.int .i64 ((rd_T120 t335 x16_1).f1.f0),.int .i64 ((rd_T120 t335 x16_1).f1.f1),.int .i64 ((rd_T120 t335 x16_1).f1.f2),.int .i64 ((rd_T120 t335 x16_1).f1.f3)] 120 (0,0)) (by (with_reducible repeat first|apply Q1|apply Q2|apply Q3);refine blk_far ?_ NB339_342.out _;(with_reducible repeat first|apply Q1|apply Q2|apply Q3);exact BK339.out) hb);have n3_:=Aside0.mk (blk_below (g:=gb340) (o:=.cells #[.int .i64 ((rd_T120 t335 x16_1).f1.f0),.int .i64 ((rd_T120 t335 x16_1).f1.f1),.int .i64 ((rd_T120 t335 x16_1).f1.f2),.int .i64 ((rd_T120 t335 x16_1).f1.f3)] 109 (0,0)) (by (with_reducible repeat first|apply Q1|apply Q2|apply Q3);refine blk_far ?_ NB340_342.out _;(with_reducible repeat first|apply Q1|apply Q2|apply Q3);exact BK340.out) hb);have n4_:=Aside0.mk (blk_below (g:=gb342) (o:=.cells #[.int .i64 x16_1,.int .i64 x343001_62,.int .i64 x343002_73,.int .i64 t356,.int .i64 x343004_50] 86 (0,0)) (by (with_reducible repeat first|apply Q1|apply Q2|apply Q3);refine blk_put (cs:=#[.int .i64 x16_1,.int .i64 x343001_62,.int .i64 x343002_73,.int .i64 0,.int .i64 x343004_50]) ?_ 3 _ rfl;(with_reducible repeat first|apply Q1|apply Q2|apply Q3);exact BK342.out) hb);have n5_:=Aside0.mk (below_step (by repeat (with_reducible first|exact HB.out|apply Q4|apply Q5|apply Q6|apply Q7 GE334.out|apply Q7 GE339.out|apply Q7 GE340.out|apply Q7 GE342.out)) hb);clear HO_14;clear BK334;clear BK339;clear BK340;clear BK342;clear HB;have HO_14:=n0_;have BK334:=n1_;have BK339:=n2_;have BK340:=n3_;have BK342:=n4_;have HB:=n5_;clear n0_ n1_ n2_ n3_ n4_ n5_;(try clear hb);(try clear hb2);(try clear hk);(try clear hi)))
           go_roundg kj73
           case measure=>have:=HK1.out;have:=HJ8.out;have:=HK3.out;have:=HJ50.out;have:=HJ62.out;have:=HJ73.out;omega
           case rel=>exact ⟨(wrap64 (x16_1+1)),(x335000_1),(x335001_1),(x335002_1),(x335003_1),(x335004_1),(by first|rfl|(simp;done)|(simp [*];done)),H',⟨by have:=HK1.out;have:=HJ8.out;have:=HK3.out;have:=HJ50.out;have:=HJ62.out;have:=HJ73.out;omega⟩,⟨by (with_reducible repeat (first|apply Kd.R_alloc|apply Kd.R_drewN|apply Kd.R_drew));exact Kd.R_mono HO_14.out (fun _ hk=>trivial)⟩,⟨by (with_reducible repeat first|apply Q1|apply Q2|apply Q3);exact BK334.out⟩,⟨by repeat (with_reducible first|exact HB.out|apply Q4|apply Q5|apply Q6|apply Q7 GE334.out|apply Q7 GE339.out|apply Q7 GE340.out|apply Q7 GE342.out)⟩⟩
          replace c81:=Bool.eq_false_iff.mpr c81
          subst c81
          rw [if_neg (show ¬ (false=true) by decide)] at H
          obtain ⟨t358,A99,H⟩:=bindA H
          by_cases c100:t358=a0
          ·rw [if_pos c100] at H
           obtain ⟨c100b0,c100b1⟩:=eqP c100
           clear c100
           simp only [Option.some.injEq,Prod.mk.injEq] at H
           obtain ⟨rfl,rfl,rfl,rfl,rfl,rfl⟩:=H
           have hnb101:=NB342_334.out
           have hnc101:=NB334_342.out
           have hnb102:=NB342_339.out
           have hnc102:=NB339_342.out
           have hnb103:=NB342_340.out
           have hnc103:=NB340_342.out
           have hcz104_0:wc.cell? ⟨gb342,0,none⟩=some (.int .i64 x16_1):=(blk_cell BK342.out 0).trans rfl
           have hcz104_1:wc.cell? ⟨gb342,1,none⟩=some (.int .i64 x343001_62):=(blk_cell BK342.out 1).trans rfl
           have hcz104_2:wc.cell? ⟨gb342,2,none⟩=some (.int .i64 x343002_73):=(blk_cell BK342.out 2).trans rfl
           have hcz104_3:wc.cell? ⟨gb342,3,none⟩=some (.int .i64 0):=(blk_cell BK342.out 3).trans rfl
           have hcz104_4:wc.cell? ⟨gb342,4,none⟩=some (.int .i64 x343004_50):=(blk_cell BK342.out 4).trans rfl
           have hfz104_0:=blk_frozen BK342.out 0
           have hfz104_1:=blk_frozen BK342.out 1
           have hfz104_2:=blk_frozen BK342.out 2
           have hfz104_3:=blk_frozen BK342.out 3
           have hfz104_4:=blk_frozen BK342.out 4
           go_wp2_with (first|((with_reducible refine gate_callee (f:=112) rfl ?_);refine goesL_ (some 86) rfl rfl Try.func112 (by kernel_rfl) rfl #[.agg #[.int .i64 x16_1,.int .i64 x343001_62,.int .i64 x343002_73,.int .i64 0,.int .i64 x343004_50]] rfl (by (try simp only [List.map_toArray,List.map_cons,List.map_nil]);first|done|rfl|(simp only [List.length_drop,List.length_take];rfl)) ?_;(with_reducible refine (impl_encode.calls kj73 x16_1 x343001_62 x343002_73 0 x343004_50 t358 _ A99.out).mono ?_);rintro e w105 ⟨rfl,hb⟩;refine ⟨_,rfl,?_⟩;have n0_:=Aside0.mk (Kd.R_below (by (with_reducible repeat (first|apply Kd.R_alloc|apply Kd.R_drewN|apply Kd.R_drew));exact HO_14.out) hb);have n1_:=Aside0.mk (blk_below (g:=gb334) (o:=.cells #[.int .i64 x335000_1,.int .i64 x335001_1,.int .i64 x335002_1,.int .i64 x335003_1,.int .i64 x335004_1] 86 (0,0)) (by (with_reducible repeat first|apply Q1|apply Q2|apply Q3);exact BK334.out) hb);have n2_:=Aside0.mk (blk_below (g:=gb339) (o:=.cells #[.string ((rd_T120 t335 x16_1).f0),.int .i64 ((rd_T120 t335 x16_1).f1.f0),.int .i64 ((rd_T120 t335 x16_1).f1.f1),.int .i64 ((rd_T120 t335 x16_1).f1.f2),.int .i64 ((rd_T120 t335 x16_1).f1.f3)] 120 (0,0)) (by (with_reducible repeat first|apply Q1|apply Q2|apply Q3);exact BK339.out) hb);have n3_:=Aside0.mk (blk_below (g:=gb340) (o:=.cells #[.int .i64 ((rd_T120 t335 x16_1).f1.f0),.int .i64 ((rd_T120 t335 x16_1).f1.f1),.int .i64 ((rd_T120 t335 x16_1).f1.f2),.int .i64 ((rd_T120 t335 x16_1).f1.f3)] 109 (0,0)) (by (with_reducible repeat first|apply Q1|apply Q2|apply Q3);exact BK340.out) hb);have n4_:=Aside0.mk (blk_below (g:=gb342) (o:=.cells #[.int .i64 x16_1,.int .i64 x343001_62,.int .i64 x343002_73,.int .i64 0,.int .i64 x343004_50] 86 (0,0)) (by (with_reducible repeat first|apply Q1|apply Q2|apply Q3);exact BK342.out) hb);have n5_:=Aside0.mk (below_step (by repeat (with_reducible first|exact HB.out|apply Q4|apply Q5|apply Q6|apply Q7 GE334.out|apply Q7 GE339.out|apply Q7 GE340.out|apply Q7 GE342.out)) hb);clear HO_14;clear BK334;clear BK339;clear BK340;clear BK342;clear HB;have HO_14:=n0_;have BK334:=n1_;have BK339:=n2_;have BK340:=n3_;have BK342:=n4_;have HB:=n5_;clear n0_ n1_ n2_ n3_ n4_ n5_;(try clear hb);(try clear hb2);(try clear hk);(try clear hi);have hcz106_0:w105.cell? ⟨gb342,0,none⟩=some (.int .i64 x16_1):=(blk_cell BK342.out 0).trans rfl;have hcz106_1:w105.cell? ⟨gb342,1,none⟩=some (.int .i64 x343001_62):=(blk_cell BK342.out 1).trans rfl;have hcz106_2:w105.cell? ⟨gb342,2,none⟩=some (.int .i64 x343002_73):=(blk_cell BK342.out 2).trans rfl;have hcz106_3:w105.cell? ⟨gb342,3,none⟩=some (.int .i64 0):=(blk_cell BK342.out 3).trans rfl;have hcz106_4:w105.cell? ⟨gb342,4,none⟩=some (.int .i64 x343004_50):=(blk_cell BK342.out 4).trans rfl;have hfz106_0:=blk_frozen BK342.out 0;have hfz106_1:=blk_frozen BK342.out 1;have hfz106_2:=blk_frozen BK342.out 2;have hfz106_3:=blk_frozen BK342.out 3;have hfz106_4:=blk_frozen BK342.out 4;have hnb107:=NB334_339.out;have hnc107:=NB339_334.out;have hnb108:=NB334_340.out;have hnc108:=NB340_334.out;have hcz109_0:w105.cell? ⟨gb334,0,none⟩=some (.int .i64 x335000_1):=(blk_cell BK334.out 0).trans rfl;have hcz109_1:w105.cell? ⟨gb334,1,none⟩=some (.int .i64 x335001_1):=(blk_cell BK334.out 1).trans rfl;have hcz109_2:w105.cell? ⟨gb334,2,none⟩=some (.int .i64 x335002_1):=(blk_cell BK334.out 2).trans rfl;have hcz109_3:w105.cell? ⟨gb334,3,none⟩=some (.int .i64 x335003_1):=(blk_cell BK334.out 3).trans rfl;have hcz109_4:w105.cell? ⟨gb334,4,none⟩=some (.int .i64 x335004_1):=(blk_cell BK334.out 4).trans rfl;have hfz109_0:=blk_frozen BK334.out 0;have hfz109_1:=blk_frozen BK334.out 1;have hfz109_2:=blk_frozen BK334.out 2;have hfz109_3:=blk_frozen BK334.out 3;have hfz109_4:=blk_frozen BK334.out 4))
           refine bodyPost_ret (results_ct rfl _ _ gb334 86 #[.int .i64 x16_1,.int .i64 x343001_62,.int .i64 x343002_73,.int .i64 0,.int .i64 x343004_50] (0,0) _ rfl (by (with_reducible repeat first|apply Q1|apply Q2|apply Q3);refine blk_put (cs:=#[.int .i64 x16_1,.int .i64 x343001_62,.int .i64 x343002_73,.int .i64 0,.int .i64 x335004_1]) ?_ 4 _ rfl;(with_reducible repeat first|apply Q1|apply Q2|apply Q3);refine blk_put (cs:=#[.int .i64 x16_1,.int .i64 x343001_62,.int .i64 x343002_73,.int .i64 x335003_1,.int .i64 x335004_1]) ?_ 3 _ rfl;(with_reducible repeat first|apply Q1|apply Q2|apply Q3);refine blk_put (cs:=#[.int .i64 x16_1,.int .i64 x343001_62,.int .i64 x335002_1,.int .i64 x335003_1,.int .i64 x335004_1]) ?_ 2 _ rfl;(with_reducible repeat first|apply Q1|apply Q2|apply Q3);refine blk_put (cs:=#[.int .i64 x16_1,.int .i64 x335001_1,.int .i64 x335002_1,.int .i64 x335003_1,.int .i64 x335004_1]) ?_ 1 _ rfl;(with_reducible repeat first|apply Q1|apply Q2|apply Q3);refine blk_put (cs:=#[.int .i64 x335000_1,.int .i64 x335001_1,.int .i64 x335002_1,.int .i64 x335003_1,.int .i64 x335004_1]) ?_ 0 _ rfl;(with_reducible repeat first|apply Q1|apply Q2|apply Q3);exact BK334.out) Try.underlying86 rfl (by kernel_rfl)) rfl ?_
           exact ⟨by first|rfl|(simp [errW_none,errW_some]<;>rfl)|(simp [*,errW_none,errW_some]<;>rfl),by repeat (with_reducible first|exact HB.out|apply Q4|apply Q5|apply Q6|apply Q7 GE334.out|apply Q7 GE339.out|apply Q7 GE340.out|apply Q7 GE342.out)⟩
          rw [if_neg c100] at H
          obtain ⟨c100b0,c100b1⟩:=eqN c100
          have H':=Aside0.mk H
          clear H
          have hnb110:=NB342_334.out
          have hnc110:=NB334_342.out
          have hnb111:=NB342_339.out
          have hnc111:=NB339_342.out
          have hnb112:=NB342_340.out
          have hnc112:=NB340_342.out
          have hcz113_0:wc.cell? ⟨gb342,0,none⟩=some (.int .i64 x16_1):=(blk_cell BK342.out 0).trans rfl
          have hcz113_1:wc.cell? ⟨gb342,1,none⟩=some (.int .i64 x343001_62):=(blk_cell BK342.out 1).trans rfl
          have hcz113_2:wc.cell? ⟨gb342,2,none⟩=some (.int .i64 x343002_73):=(blk_cell BK342.out 2).trans rfl
          have hcz113_3:wc.cell? ⟨gb342,3,none⟩=some (.int .i64 0):=(blk_cell BK342.out 3).trans rfl
          have hcz113_4:wc.cell? ⟨gb342,4,none⟩=some (.int .i64 x343004_50):=(blk_cell BK342.out 4).trans rfl
          have hfz113_0:=blk_frozen BK342.out 0
          have hfz113_1:=blk_frozen BK342.out 1
          have hfz113_2:=blk_frozen BK342.out 2
          have hfz113_3:=blk_frozen BK342.out 3
          have hfz113_4:=blk_frozen BK342.out 4
          go_wp2_with (first|((with_reducible refine gate_callee (f:=112) rfl ?_);refine goesL_ (some 86) rfl rfl Try.func112 (by kernel_rfl) rfl #[.agg #[.int .i64 x16_1,.int .i64 x343001_62,.int .i64 x343002_73,.int .i64 0,.int .i64 x343004_50]] rfl (by (try simp only [List.map_toArray,List.map_cons,List.map_nil]);first|done|rfl|(simp only [List.length_drop,List.length_take];rfl)) ?_;(with_reducible refine (impl_encode.calls kj73 x16_1 x343001_62 x343002_73 0 x343004_50 t358 _ A99.out).mono ?_);rintro e w114 ⟨rfl,hb⟩;refine ⟨_,rfl,?_⟩;have n0_:=Aside0.mk (Kd.R_below (by (with_reducible repeat (first|apply Kd.R_alloc|apply Kd.R_drewN|apply Kd.R_drew));exact HO_14.out) hb);have n1_:=Aside0.mk (blk_below (g:=gb334) (o:=.cells #[.int .i64 x335000_1,.int .i64 x335001_1,.int .i64 x335002_1,.int .i64 x335003_1,.int .i64 x335004_1] 86 (0,0)) (by (with_reducible repeat first|apply Q1|apply Q2|apply Q3);exact BK334.out) hb);have n2_:=Aside0.mk (blk_below (g:=gb339) (o:=.cells #[.string ((rd_T120 t335 x16_1).f0),.int .i64 ((rd_T120 t335 x16_1).f1.f0),.int .i64 ((rd_T120 t335 x16_1).f1.f1),.int .i64 ((rd_T120 t335 x16_1).f1.f2),.int .i64 ((rd_T120 t335 x16_1).f1.f3)] 120 (0,0)) (by (with_reducible repeat first|apply Q1|apply Q2|apply Q3);exact BK339.out) hb);have n3_:=Aside0.mk (blk_below (g:=gb340) (o:=.cells #[.int .i64 ((rd_T120 t335 x16_1).f1.f0),.int .i64 ((rd_T120 t335 x16_1).f1.f1),.int .i64 ((rd_T120 t335 x16_1).f1.f2),.int .i64 ((rd_T120 t335 x16_1).f1.f3)] 109 (0,0)) (by (with_reducible repeat first|apply Q1|apply Q2|apply Q3);exact BK340.out) hb);have n4_:=Aside0.mk (blk_below (g:=gb342) (o:=.cells #[.int .i64 x16_1,.int .i64 x343001_62,.int .i64 x343002_73,.int .i64 0,.int .i64 x343004_50] 86 (0,0)) (by (with_reducible repeat first|apply Q1|apply Q2|apply Q3);exact BK342.out) hb);have n5_:=Aside0.mk (below_step (by repeat (with_reducible first|exact HB.out|apply Q4|apply Q5|apply Q6|apply Q7 GE334.out|apply Q7 GE339.out|apply Q7 GE340.out|apply Q7 GE342.out)) hb);clear HO_14;clear BK334;clear BK339;clear BK340;clear BK342;clear HB;have HO_14:=n0_;have BK334:=n1_;have BK339:=n2_;have BK340:=n3_;have BK342:=n4_;have HB:=n5_;clear n0_ n1_ n2_ n3_ n4_ n5_;(try clear hb);(try clear hb2);(try clear hk);(try clear hi)))
          go_roundg kj73
          case measure=>have:=HK1.out;have:=HJ8.out;have:=HK3.out;have:=HJ50.out;have:=HJ62.out;have:=HJ73.out;omega
          case rel=>exact ⟨(wrap64 (x16_1+1)),(x335000_1),(x335001_1),(x335002_1),(x335003_1),(x335004_1),(by first|rfl|(simp;done)|(simp [*];done)),H',⟨by have:=HK1.out;have:=HJ8.out;have:=HK3.out;have:=HJ50.out;have:=HJ62.out;have:=HJ73.out;omega⟩,⟨by (with_reducible repeat (first|apply Kd.R_alloc|apply Kd.R_drewN|apply Kd.R_drew));exact Kd.R_mono HO_14.out (fun _ hk=>trivial)⟩,⟨by (with_reducible repeat first|apply Q1|apply Q2|apply Q3);exact BK334.out⟩,⟨by repeat (with_reducible first|exact HB.out|apply Q4|apply Q5|apply Q6|apply Q7 GE334.out|apply Q7 GE339.out|apply Q7 GE340.out|apply Q7 GE342.out)⟩⟩
    rw [if_neg c8] at H
    exact absurd H (by simp)
   rw [if_neg c7] at H
   exact absurd H (by simp)
  rw [if_neg c6] at H
  have c6b0:decide (x16_1 < (t335.length:Int))=false:=decide_eq_false c6
  clear c6
  simp only [Option.some.injEq,Prod.mk.injEq] at H
  obtain ⟨rfl,rfl,rfl,rfl,rfl,rfl⟩:=H
  have hcz115_0:wr.cell? ⟨gb334,0,none⟩=some (.int .i64 x335000_1):=(blk_cell BK334.out 0).trans rfl
  have hcz115_1:wr.cell? ⟨gb334,1,none⟩=some (.int .i64 x335001_1):=(blk_cell BK334.out 1).trans rfl
  have hcz115_2:wr.cell? ⟨gb334,2,none⟩=some (.int .i64 x335002_1):=(blk_cell BK334.out 2).trans rfl
  have hcz115_3:wr.cell? ⟨gb334,3,none⟩=some (.int .i64 x335003_1):=(blk_cell BK334.out 3).trans rfl
  have hcz115_4:wr.cell? ⟨gb334,4,none⟩=some (.int .i64 x335004_1):=(blk_cell BK334.out 4).trans rfl
  have hfz115_0:=blk_frozen BK334.out 0
  have hfz115_1:=blk_frozen BK334.out 1
  have hfz115_2:=blk_frozen BK334.out 2
  have hfz115_3:=blk_frozen BK334.out 3
  have hfz115_4:=blk_frozen BK334.out 4
  go_wp2
  refine bodyPost_ret (results_ct rfl _ _ gb334 86 #[.int .i64 0,.int .i64 0,.int .i64 0,.int .i64 0,.int .i64 0] (0,0) _ rfl (by (with_reducible repeat first|apply Q1|apply Q2|apply Q3);refine blk_put (cs:=#[.int .i64 0,.int .i64 0,.int .i64 0,.int .i64 0,.int .i64 x335004_1]) ?_ 4 _ rfl;(with_reducible repeat first|apply Q1|apply Q2|apply Q3);refine blk_put (cs:=#[.int .i64 0,.int .i64 0,.int .i64 0,.int .i64 x335003_1,.int .i64 x335004_1]) ?_ 3 _ rfl;(with_reducible repeat first|apply Q1|apply Q2|apply Q3);refine blk_put (cs:=#[.int .i64 0,.int .i64 0,.int .i64 x335002_1,.int .i64 x335003_1,.int .i64 x335004_1]) ?_ 2 _ rfl;(with_reducible repeat first|apply Q1|apply Q2|apply Q3);refine blk_put (cs:=#[.int .i64 0,.int .i64 x335001_1,.int .i64 x335002_1,.int .i64 x335003_1,.int .i64 x335004_1]) ?_ 1 _ rfl;(with_reducible repeat first|apply Q1|apply Q2|apply Q3);refine blk_put (cs:=#[.int .i64 x335000_1,.int .i64 x335001_1,.int .i64 x335002_1,.int .i64 x335003_1,.int .i64 x335004_1]) ?_ 0 _ rfl;(with_reducible repeat first|apply Q1|apply Q2|apply Q3);exact BK334.out) Try.underlying86 rfl (by kernel_rfl)) rfl ?_
  exact ⟨by first|rfl|(simp [errW_none,errW_some]<;>rfl)|(simp [*,errW_none,errW_some]<;>rfl),by repeat (with_reducible first|exact HB.out|apply Q4|apply Q5|apply Q6|apply Q7 GE334.out)⟩
end Go.Proofs.Ythepmdlpjdlajaa.PFnExactCallsOf
