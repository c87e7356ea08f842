-- Written by a program for this claim.
import Derived.Test.YthepmdlpjdlajaaPFnExactLintImagex0
import Derived.Test.YthepmdlpjdlajaaPFnExactLintImagex16
import Derived.Test.YthepmdlpjdlajaaPFnExactLintImagex17
import Derived.Test.YthepmdlpjdlajaaPFnExactLintImagex18
namespace Go.Proofs.Ythepmdlpjdlajaa.PFnExactLintImage
open Go.RowKit Go.Proofs.YthepmdlpjdlajaaW.PrintWords Go.Proofs.YthepmdlpjdlajaaW.PrintLast Go.Proofs.YthepmdlpjdlajaaW.PrintMore
attribute [local go_sem] max2_int min2_int max_two min_two max_three min_three max_four min_four   -- for this text's walks alone
set_option linter.unusedVariables false
set_option linter.unusedSimpArgs false
mutual
def impl_decode.l0:Nat→Int→List (S120)→Int→Int→Option (Int × Int × Int × Int × Int × Bool)
  | 0,_,_,_,_=>none
  | k+1,x0,x14,x15,x16=>if x16 < x15 then (if 0≤x16 then (if x16 < (x14.length:Int) then (if x16=0 then (impl_decode.j1 k x0 x16 x14 x15 x16 true ((rd_T120 x14 x16).f1.f0) ((rd_T120 x14 x16).f1.f1) ((rd_T120 x14 x16).f1.f2) ((rd_T120 x14 x16).f1.f3)) else ((impl_bitsOf.f x0 0 7).bind fun t390=>(impl_decode.j1 k x0 x16 x14 x15 x16 (((rd_T120 x14 x16).f1.f1) != t390) ((rd_T120 x14 x16).f1.f0) ((rd_T120 x14 x16).f1.f1) ((rd_T120 x14 x16).f1.f2) ((rd_T120 x14 x16).f1.f3)))) else (none)) else (none)) else (some (0,0,0,0,0,false))
def impl_decode.j1:Nat→Int→Int→List (S120)→Int→Int→Bool→Int→Int→Int→Int→Option (Int × Int × Int × Int × Int × Bool)
  | 0,_,_,_,_,_,_,_,_,_,_=>none
  | k+1,x0,x4,x14,x15,x16,x31,x390000,x390001,x390002,x390003=>if x31=true then (impl_decode.l0 k x0 x14 x15 (wrap64 (x16+1))) else ((impl_pieces.f x390000).bind fun t392=>(impl_decode.l1 k x0 x14 x15 x16 t392 (t392.length:Int) 0 x390000 x390001 x390002 x390003 x4 0 0 0 0))
def impl_decode.l1:Nat→Int→List (S120)→Int→Int→List (S125)→Int→Int→Int→Int→Int→Int→Int→Int→Int→Int→Int→Option (Int × Int × Int × Int × Int × Bool)
  | 0,_,_,_,_,_,_,_,_,_,_,_,_,_,_,_,_=>none
  | k+1,x0,x14,x15,x16,x36,x37,x38,x390000,x390001,x390002,x390003,x392000,x392001,x392002,x392003,x392004=>if x38 < x37 then (if 0≤x38 then (if x38 < (x36.length:Int) then ((impl_bitsOf.f x0 ((rd_T125 x36 x38).f2) ((rd_T125 x36 x38).f1)).bind fun t397=>(if 0≤((rd_T125 x36 x38).f0) then (impl_decode.l1 k x0 x14 x15 x16 x36 x37 (wrap64 (x38+1)) x390000 x390001 x390002 x390003 x392000 x392001 x392002 x392003 (Go.bits .or .i64 x392004 (shl .i64 t397 ((rd_T125 x36 x38).f0)))) else (none))) else (none)) else (none)) else ((impl_immBits.f k x390000).bind fun t398=>(if t398 > 0 then ((impl_signOf.f x392004 t398).bind fun t399=>(impl_decode.j3 k x0 x14 x15 x16 x390000 x390001 x390002 x390003 x392000 x392001 x392002 x392003 t399)) else (impl_decode.j3 k x0 x14 x15 x16 x390000 x390001 x390002 x390003 x392000 x392001 x392002 x392003 x392004)))
def impl_decode.j3:Nat→Int→List (S120)→Int→Int→Int→Int→Int→Int→Int→Int→Int→Int→Int→Option (Int × Int × Int × Int × Int × Bool)
  | 0,_,_,_,_,_,_,_,_,_,_,_,_,_=>none
  | k+1,x0,x14,x15,x16,x390000,x390001,x390002,x390003,x392000,x392001,x392002,x392003,x392004=>(impl_fields.f k x390000).bind fun bt400=>(if bt400.1=true then ((impl_bitsOf.f x0 7 5).bind fun t403=>(impl_decode.j4 k x0 bt400.2.1 bt400.2.2 x14 x15 x16 x392000 t403 x392002 x392003 x392004)) else (impl_decode.j4 k x0 bt400.2.1 bt400.2.2 x14 x15 x16 x392000 x392001 x392002 x392003 x392004))
def impl_decode.j4:Nat→Int→Bool→Bool→List (S120)→Int→Int→Int→Int→Int→Int→Int→Option (Int × Int × Int × Int × Int × Bool)
  | 0,_,_,_,_,_,_,_,_,_,_,_=>none
  | k+1,x0,x12,x13,x14,x15,x16,x392000,x392001,x392002,x392003,x392004=>if x12=true then ((impl_bitsOf.f x0 15 5).bind fun t404=>(impl_decode.j5 k x0 x13 x14 x15 x16 x392000 x392001 t404 x392003 x392004)) else (impl_decode.j5 k x0 x13 x14 x15 x16 x392000 x392001 x392002 x392003 x392004)
def impl_decode.j5:Nat→Int→Bool→List (S120)→Int→Int→Int→Int→Int→Int→Int→Option (Int × Int × Int × Int × Int × Bool)
  | 0,_,_,_,_,_,_,_,_,_,_=>none
  | k+1,x0,x13,x14,x15,x16,x392000,x392001,x392002,x392003,x392004=>if x13=true then ((impl_bitsOf.f x0 20 5).bind fun t405=>((impl_encode.f k x392000 x392001 x392002 t405 x392004).bind fun t406=>(if t406=x0 then (some (x392000,x392001,x392002,t405,x392004,true)) else (impl_decode.l0 k x0 x14 x15 (wrap64 (x16+1)))))) else ((impl_encode.f k x392000 x392001 x392002 x392003 x392004).bind fun t407=>(if t407=x0 then (some (x392000,x392001,x392002,x392003,x392004,true)) else (impl_decode.l0 k x0 x14 x15 (wrap64 (x16+1)))))
end
def impl_decode.f (k:Nat) (a0:Int):Option (Int × Int × Int × Int × Int × Bool):=(impl_ops.f).bind fun t384=>(impl_decode.l0 k a0 t384 (t384.length:Int) 0)
theorem impl_decode.mono_l : ∀ k,(∀ y0 y1 y2 y3,LeO (impl_decode.l0 k y0 y1 y2 y3) (impl_decode.l0 (k+1) y0 y1 y2 y3))∧(∀ y0 y1 y2 y3 y4 y5 y6 y7 y8 y9,LeO (impl_decode.j1 k y0 y1 y2 y3 y4 y5 y6 y7 y8 y9) (impl_decode.j1 (k+1) y0 y1 y2 y3 y4 y5 y6 y7 y8 y9))∧(∀ y0 y1 y2 y3 y4 y5 y6 y7 y8 y9 y10 y11 y12 y13 y14 y15,LeO (impl_decode.l1 k y0 y1 y2 y3 y4 y5 y6 y7 y8 y9 y10 y11 y12 y13 y14 y15) (impl_decode.l1 (k+1) y0 y1 y2 y3 y4 y5 y6 y7 y8 y9 y10 y11 y12 y13 y14 y15))∧(∀ y0 y1 y2 y3 y4 y5 y6 y7 y8 y9 y10 y11 y12,LeO (impl_decode.j3 k y0 y1 y2 y3 y4 y5 y6 y7 y8 y9 y10 y11 y12) (impl_decode.j3 (k+1) y0 y1 y2 y3 y4 y5 y6 y7 y8 y9 y10 y11 y12))∧(∀ y0 y1 y2 y3 y4 y5 y6 y7 y8 y9 y10,LeO (impl_decode.j4 k y0 y1 y2 y3 y4 y5 y6 y7 y8 y9 y10) (impl_decode.j4 (k+1) y0 y1 y2 y3 y4 y5 y6 y7 y8 y9 y10))∧(∀ y0 y1 y2 y3 y4 y5 y6 y7 y8 y9,LeO (impl_decode.j5 k y0 y1 y2 y3 y4 y5 y6 y7 y8 y9) (impl_decode.j5 (k+1) y0 y1 y2 y3 y4 y5 y6 y7 y8 y9))
  | 0=>⟨fun _ _ _ _ r h=>by simp [impl_decode.l0] at h,fun _ _ _ _ _ _ _ _ _ _ r h=>by simp [impl_decode.j1] at h,fun _ _ _ _ _ _ _ _ _ _ _ _ _ _ _ _ r h=>by simp [impl_decode.l1] at h,fun _ _ _ _ _ _ _ _ _ _ _ _ _ r h=>by simp [impl_decode.j3] at h,fun _ _ _ _ _ _ _ _ _ _ _ r h=>by simp [impl_decode.j4] at h,fun _ _ _ _ _ _ _ _ _ _ r h=>by simp [impl_decode.j5] at h⟩
  | k+1=>by
    obtain ⟨ih0,ih1,ih2,ih3,ih4,ih5⟩:=impl_decode.mono_l k
    refine ⟨?_,?_,?_,?_,?_,?_⟩<;>intros<;>(first|unfold impl_decode.l0|unfold impl_decode.j1|unfold impl_decode.l1|unfold impl_decode.j3|unfold impl_decode.j4|unfold impl_decode.j5)<;>repeat' (with_reducible first|apply ih0|apply ih1|apply ih2|apply ih3|apply ih4|apply ih5|apply impl_encode.mono|apply impl_fields.mono|apply impl_immBits.mono|apply LeO.refl|apply LeO.none|apply LeO.ite|refine LeO.bind ?_ (fun _=>?_))
theorem impl_decode.mono : ∀ a0 k,LeO (impl_decode.f k a0) (impl_decode.f (k+1) a0):=by
 intro a0 k
 obtain ⟨ih0,ih1,ih2,ih3,ih4,ih5⟩:=impl_decode.mono_l k
 unfold impl_decode.f
 repeat' (with_reducible first|apply ih0|apply ih1|apply ih2|apply ih3|apply ih4|apply ih5|apply impl_encode.mono|apply impl_fields.mono|apply impl_immBits.mono|apply LeO.refl|apply LeO.none|apply LeO.ite|refine LeO.bind ?_ (fun _=>?_))
def impl_decode.T5:Bool × List (List Nat × List Nat):=(true,[([],[]),([0],[0]),([1],[1]),([2],[2]),([3,2],[2,3]),([2],[2]),([5,2,2],[2,5]),([4,6,2],[2,4,6]),([2,7],[2,7])])
def impl_decode.B5:List Nat:=[0,1,3,7,15,7,39,127,255]
theorem impl_decode.tab5:rtab .any (opsOf Try.f89 5)=impl_decode.T5:=by kernel_rfl
theorem impl_decode.bits5:waitsOk impl_decode.T5.2 impl_decode.B5=true:=by kernel_rfl
def impl_decode.T10:Bool × List (List Nat × List Nat):=(true,[([],[]),([0],[0]),([],[]),([],[]),([3],[3]),([],[]),([5],[5]),([2,4,6],[2,4,6]),([],[]),([8],[8]),([7,9],[7,9]),([1,10],[1,10]),([0,1,2,3,4,5,6,7,8,9,10,11],[]),([12,11,7,0,1,2,3,4,5,6,7,8,9,10,11],[11,12])])
def impl_decode.B10:List Nat:=[0,1,0,0,8,0,32,124,0,256,1020,2047,4095,8191]
theorem impl_decode.tab10:rtab .any (opsOf Try.f89 10)=impl_decode.T10:=by kernel_rfl
theorem impl_decode.bits10:waitsOk impl_decode.T10.2 impl_decode.B10=true:=by kernel_rfl
set_option maxHeartbeats 8000000 in
set_option maxRecDepth 100000 in
theorem impl_decode.calls (k:Nat) (a0:Int) (r1:Int) (r2:Int) (r3:Int) (r4:Int) (r5:Int) (r6:Bool) (w:World) (h:impl_decode.f k a0=some (r1,r2,r3,r4,r5,r6)) :
    Calls Try.prog 89 #[.int .i64 a0] w fun e w'=>e=.returned (.tuple #[.agg #[.int .i64 r1,.int .i64 r2,.int .i64 r3,.int .i64 r4,.int .i64 r5],.bool r6])∧Below w.heap.size w w':=by
 have hu86:=Try.underlying86
 have hu120:=Try.underlying120
 have hu109:=Try.underlying109
 have hu125:=Try.underlying125
 have HB:=Aside0.mk (Below.refl w.heap.size w)
 have H:((impl_ops.f).bind fun t384=>(impl_decode.l0 k a0 t384 (t384.length:Int) 0))=some (r1,r2,r3,r4,r5,r6):=h
 clear h
 obtain ⟨t384,A2,H⟩:=bindA H
 have H':=Aside0.mk H
 clear H
 go_enter Try.func89,Try.ntmps89
 go_wp2_with (first|(refine bv 2 #[.int .i64 0,.int .i64 0,.int .i64 0,.int .i64 0,.int .i64 0] 86 ?_;intro gb383 hg w3 hbox hb;obtain ⟨n0_,n2_⟩:=bx0 hbx hb hg;have n1_:=Aside0.mk (hbox);clear HB;have HB:=n0_;have BK383:=n1_;have GW383:=n2_;have GE383:=n2_;clear n0_ n1_ n2_;clear hb hbox hg)|(refine gl 106 14 Try.func106 #[] ?_;(with_reducible refine (impl_ops.calls  t384 _ A2.out).mono ?_);rintro e w4 ⟨v385,rfl,ho0,hb⟩;refine ⟨_,rfl,?_⟩;have n0_:=Aside0.mk (Kd.R_lower ho0 (below_size (hb1 GE383.out)));have n1_:=Aside0.mk (blk_below (qx BK383.out) hb);replace HB:=Aside0.mk (below_step (hb1 GE383.out) hb);clear BK383;have HO386:=n0_;have BK383:=n1_;clear n0_ n1_;(try clear hb);(try clear hb2);(try clear hk);(try clear hi);(try clear ho0);obtain ⟨Ao5,co5,eo5⟩:=Kd.R_slice HO386.out;subst eo5))
 go_loopg [16] k (fun kq v16 w'=>∃ (x16_1:Int) (x384000_1:Int) (x384001_1:Int) (x384002_1:Int) (x384003_1:Int) (x384004_1:Int),v16=.int .i64 x16_1∧Aside0 (impl_decode.l0 kq a0 t384 (t384.length:Int) x16_1=some (r1,r2,r3,r4,r5,r6))∧Aside0 (kq≤k)∧Aside0 (Kd.R k120 120 w' w.heap.size (fun _=>True) (.slice Ao5 t384.length co5) t384)∧Aside0 (w'.heap[gb383]?=some (.cells #[.int .i64 x384000_1,.int .i64 x384001_1,.int .i64 x384002_1,.int .i64 x384003_1,.int .i64 x384004_1] 86 (0,0)))∧Aside0 (Below w.heap.size w w'))
 case atStart=>exact ⟨(0),(0),(0),(0),(0),(0),rs,H',⟨Nat.le_refl _⟩,⟨kr HO386.out⟩,⟨qx BK383.out⟩,⟨hb1 GE383.out⟩⟩
 clear H'
 obtain ⟨x16_1,x384000_1,x384001_1,x384002_1,x384003_1,x384004_1,rfl,HA,HK1,HO_14,BK383,HB⟩:=hrel
 cases gk with
 | zero=>exact absurd HA.out (by simp [impl_decode.l0])
 | succ k1 =>
  have H:=HA.out
  clear HA
  simp only [impl_decode.l0] at H
  by_cases c6:x16_1 < (t384.length:Int)
  ·rw [if_pos c6] at H
   have c6b0:decide (x16_1 < (t384.length:Int))=true:=decide_eq_true c6
   clear c6
   by_cases c7:0≤x16_1
   ·rw [if_pos c7] at H
    have c7b0:decide (0≤x16_1)=true:=decide_eq_true c7
    clear c7
    by_cases c8:x16_1 < (t384.length:Int)
    ·rw [if_pos c8] at H
     have c8b0:decide (x16_1 < (t384.length:Int))=true:=decide_eq_true c8
     clear c8
     have HC9:=Aside0.mk H
     clear H
     have p387:0≤(x16_1:Int):=od
     have q387:x16_1 < (t384.length:Int):=od
     obtain ⟨ad387,e387,hx387_0,hx387_1,hx387_2,hx387_3,hx387_4⟩:=at_T120 (Kd.R_reads' HO_14.out).2.2 x16_1 p387 q387
     cases e387
     replace p387:=eq_true p387
     replace q387:=eq_true q387
     go_upto_region 5 with (first|(refine bv 5 #[.string (⟨#[]⟩:ByteArray),.int .i64 0,.int .i64 0,.int .i64 0,.int .i64 0] 120 ?_;intro gb388 hg w10 hbox hb;obtain ⟨n2_,n4_⟩:=bx0 (hb1 GE383.out) hb hg;have n0_:=Aside0.mk (Kd.R_below (Kd.R_elderB (kr HO_14.out) gb388 (Nat.le_of_eq hg.symm)) hb);obtain ⟨n1_,n6_,n7_⟩:=bx3 (qx BK383.out) hb hg;have n3_:=Aside0.mk (hbox);clear HO_14;clear BK383;clear HB;have HO_14:=n0_;have BK383:=n1_;have HB:=n2_;have BK388:=n3_;have GW388:=n4_;have GE388:=n4_;have NB383_388:=n6_;have NB388_383:=n7_;clear n0_ n1_ n2_ n3_ n4_ n6_ n7_;clear hb hbox hg;have hnb11:=NB388_383.out;have hnc11:=NB383_388.out;obtain ⟨Z12_0,Z12_1,Z12_2,Z12_3,Z12_4,Y12_0,Y12_1,Y12_2,Y12_3,Y12_4⟩:=cel5 BK388.out)|(refine bv 6 #[.int .i64 0,.int .i64 0,.int .i64 0,.int .i64 0] 109 ?_;intro gb389 hg w13 hbox hb;obtain ⟨n3_,n5_⟩:=bx0 (hb2 GE383.out GE388.out) hb hg;have n0_:=Aside0.mk (Kd.R_below (by (with_reducible repeat (first|apply Kd.R_alloc|apply Kd.R_drewN|apply Kd.R_drew));exact (Kd.R_mono (Kd.R_far (p:=⟨gb388,4,none⟩) (Kd.R_far (p:=⟨gb388,3,none⟩) (Kd.R_far (p:=⟨gb388,2,none⟩) (Kd.R_far (p:=⟨gb388,1,none⟩) (Kd.R_far (p:=⟨gb388,0,none⟩) (Kd.R_mono HO_14.out (fun k_ hk=>(⟨hk,hk.2⟩:_∧k_≠gb388))) (fun _ hk=>hk.2) (.string ((rd_T120 t384 x16_1).f0))) (fun _ hk=>hk.2) (.int .i64 ((rd_T120 t384 x16_1).f1.f0))) (fun _ hk=>hk.2) (.int .i64 ((rd_T120 t384 x16_1).f1.f1))) (fun _ hk=>hk.2) (.int .i64 ((rd_T120 t384 x16_1).f1.f2))) (fun _ hk=>hk.2) (.int .i64 ((rd_T120 t384 x16_1).f1.f3))) (fun _ h_=>h_.1))) hb);obtain ⟨n1_,n7_,n8_⟩:=bx3 (qg NB383_388.out BK383.out) hb hg;obtain ⟨n2_,n9_,n10_⟩:=bx3 (g:=gb388) (o:=.cells #[.string ((rd_T120 t384 x16_1).f0),.int .i64 ((rd_T120 t384 x16_1).f1.f0),.int .i64 ((rd_T120 t384 x16_1).f1.f1),.int .i64 ((rd_T120 t384 x16_1).f1.f2),.int .i64 ((rd_T120 t384 x16_1).f1.f3)] 120 (0,0)) (by (with_reducible repeat first|apply Q1|apply Q2|apply Q3);refine blk_put (cs:=#[.string ((rd_T120 t384 x16_1).f0),.int .i64 ((rd_T120 t384 x16_1).f1.f0),.int .i64 ((rd_T120 t384 x16_1).f1.f1),.int .i64 ((rd_T120 t384 x16_1).f1.f2),.int .i64 0]) ?_ 4 _ rfl;(with_reducible repeat first|apply Q1|apply Q2|apply Q3);refine blk_put (cs:=#[.string ((rd_T120 t384 x16_1).f0),.int .i64 ((rd_T120 t384 x16_1).f1.f0),.int .i64 ((rd_T120 t384 x16_1).f1.f1),.int .i64 0,.int .i64 0]) ?_ 3 _ rfl;(with_reducible repeat first|apply Q1|apply Q2|apply Q3);refine blk_put (cs:=#[.string ((rd_T120 t384 x16_1).f0),.int .i64 ((rd_T120 t384 x16_1).f1.f0),.int .i64 0,.int .i64 0,.int .i64 0]) ?_ 2 _ rfl;(with_reducible repeat first|apply Q1|apply Q2|apply Q3);refine blk_put (cs:=#[.string ((rd_T120 t384 x16_1).f0),.int .i64 0,.int .i64 0,.int .i64 0,.int .i64 0]) ?_ 1 _ rfl;(with_reducible repeat first|apply Q1|apply Q2|apply Q3);refine blk_put (cs:=#[.string (⟨#[]⟩:ByteArray),.int .i64 0,.int .i64 0,.int .i64 0,.int .i64 0]) ?_ 0 _ rfl;(with_reducible repeat first|apply Q1|apply Q2|apply Q3);exact BK388.out) hb hg;have n4_:=Aside0.mk (hbox);clear HO_14;clear BK383;clear BK388;clear HB;have HO_14:=n0_;have BK383:=n1_;have BK388:=n2_;have HB:=n3_;have BK389:=n4_;have GW389:=n5_;have GE389:=n5_;have NB383_389:=n7_;have NB389_383:=n8_;have NB388_389:=n9_;have NB389_388:=n10_;clear n0_ n1_ n2_ n3_ n4_ n5_ n7_ n8_ n9_ n10_;clear hb hbox hg;have hnb14:=NB389_383.out;have hnc14:=NB383_389.out;have hnb15:=NB389_388.out;have hnc15:=NB388_389.out;obtain ⟨Z16_0,Z16_1,Z16_2,Z16_3,Y16_0,Y16_1,Y16_2,Y16_3⟩:=cel4 BK389.out))
     (try simp only [Act.put,List.setIfInBounds_toArray,List.set_cons_zero,List.set_cons_succ])
     go_cut [31] (fun v31 wc=>∃ (kq:Nat) (x31_8:Bool),v31=.bool x31_8∧Aside0 (impl_decode.j1 kq a0 x16_1 t384 (t384.length:Int) x16_1 x31_8 ((rd_T120 t384 x16_1).f1.f0) ((rd_T120 t384 x16_1).f1.f1) ((rd_T120 t384 x16_1).f1.f2) ((rd_T120 t384 x16_1).f1.f3)=some (r1,r2,r3,r4,r5,r6))∧Aside0 (kq≤k1)∧Aside0 (Kd.R k120 120 wc w.heap.size (fun k_=>k_≠gb388) (.slice (some ad387) t384.length co5) t384)∧Aside0 (wc.heap[gb383]?=some (.cells #[.int .i64 x384000_1,.int .i64 x384001_1,.int .i64 x384002_1,.int .i64 x384003_1,.int .i64 x384004_1] 86 (0,0)))∧Aside0 (wc.heap[gb388]?=some (.cells #[.string ((rd_T120 t384 x16_1).f0),.int .i64 ((rd_T120 t384 x16_1).f1.f0),.int .i64 ((rd_T120 t384 x16_1).f1.f1),.int .i64 ((rd_T120 t384 x16_1).f1.f2),.int .i64 ((rd_T120 t384 x16_1).f1.f3)] 120 (0,0)))∧Aside0 (wc.heap[gb389]?=some (.cells #[.int .i64 ((rd_T120 t384 x16_1).f1.f0),.int .i64 ((rd_T120 t384 x16_1).f1.f1),.int .i64 ((rd_T120 t384 x16_1).f1.f2),.int .i64 ((rd_T120 t384 x16_1).f1.f3)] 109 (0,0)))∧Aside0 (Below w.heap.size w wc))
     case first=>
      have H:=HC9.out
      clear HC9
      by_cases c17:x16_1=0
      ·rw [if_pos c17] at H
       obtain ⟨c17b0,c17b1⟩:=eqP c17
       clear c17
       (first|rw [c17b0]|(simp only [i64_w,i32_w];rw [c17b0])|skip)
       have H':=Aside0.mk H
       clear H
       try go_wp2
       have n0_:Aside0 (Kd.R k120 120 ((((w13.setCell ⟨gb389,0,none⟩ (.int .i64 ((rd_T120 t384 x16_1).f1.f0))).setCell ⟨gb389,1,none⟩ (.int .i64 ((rd_T120 t384 x16_1).f1.f1))).setCell ⟨gb389,2,none⟩ (.int .i64 ((rd_T120 t384 x16_1).f1.f2))).setCell ⟨gb389,3,none⟩ (.int .i64 ((rd_T120 t384 x16_1).f1.f3))) w.heap.size (fun k_=>k_≠gb388) (.slice (some ad387) t384.length co5) t384):=⟨by (with_reducible repeat (first|apply Kd.R_alloc|apply Kd.R_drewN|apply Kd.R_drew));exact Kd.R_mono (Kd.R_far (p:=⟨gb389,3,none⟩) (Kd.R_far (p:=⟨gb389,2,none⟩) (Kd.R_far (p:=⟨gb389,1,none⟩) (Kd.R_far (p:=⟨gb389,0,none⟩) (Kd.R_types HO_14.out BK389.out (by decide)) (fun _ hk=>hk.2) (.int .i64 ((rd_T120 t384 x16_1).f1.f0))) (fun _ hk=>hk.2) (.int .i64 ((rd_T120 t384 x16_1).f1.f1))) (fun _ hk=>hk.2) (.int .i64 ((rd_T120 t384 x16_1).f1.f2))) (fun _ hk=>hk.2) (.int .i64 ((rd_T120 t384 x16_1).f1.f3))) (fun _ hk=>hk.1.2)⟩
       have n1_:Aside0 (((((w13.setCell ⟨gb389,0,none⟩ (.int .i64 ((rd_T120 t384 x16_1).f1.f0))).setCell ⟨gb389,1,none⟩ (.int .i64 ((rd_T120 t384 x16_1).f1.f1))).setCell ⟨gb389,2,none⟩ (.int .i64 ((rd_T120 t384 x16_1).f1.f2))).setCell ⟨gb389,3,none⟩ (.int .i64 ((rd_T120 t384 x16_1).f1.f3))).heap[gb383]?=some (.cells #[.int .i64 x384000_1,.int .i64 x384001_1,.int .i64 x384002_1,.int .i64 x384003_1,.int .i64 x384004_1] 86 (0,0))):=⟨by (with_reducible repeat first|apply Q1|apply Q2|apply Q3);refine blk_far ?_ NB383_389.out _;(with_reducible repeat first|apply Q1|apply Q2|apply Q3);refine blk_far ?_ NB383_389.out _;(with_reducible repeat first|apply Q1|apply Q2|apply Q3);refine blk_far ?_ NB383_389.out _;(with_reducible repeat first|apply Q1|apply Q2|apply Q3);refine blk_far ?_ NB383_389.out _;(with_reducible repeat first|apply Q1|apply Q2|apply Q3);exact BK383.out⟩
       have n2_:Aside0 (((((w13.setCell ⟨gb389,0,none⟩ (.int .i64 ((rd_T120 t384 x16_1).f1.f0))).setCell ⟨gb389,1,none⟩ (.int .i64 ((rd_T120 t384 x16_1).f1.f1))).setCell ⟨gb389,2,none⟩ (.int .i64 ((rd_T120 t384 x16_1).f1.f2))).setCell ⟨gb389,3,none⟩ (.int .i64 ((rd_T120 t384 x16_1).f1.f3))).heap[gb388]?=some (.cells #[.string ((rd_T120 t384 x16_1).f0),.int .i64 ((rd_T120 t384 x16_1).f1.f0),.int .i64 ((rd_T120 t384 x16_1).f1.f1),.int .i64 ((rd_T120 t384 x16_1).f1.f2),.int .i64 ((rd_T120 t384 x16_1).f1.f3)] 120 (0,0))):=⟨by (with_reducible repeat first|apply Q1|apply Q2|apply Q3);refine blk_far ?_ NB388_389.out _;(with_reducible repeat first|apply Q1|apply Q2|apply Q3);refine blk_far ?_ NB388_389.out _;(with_reducible repeat first|apply Q1|apply Q2|apply Q3);refine blk_far ?_ NB388_389.out _;(with_reducible repeat first|apply Q1|apply Q2|apply Q3);refine blk_far ?_ NB388_389.out _;(with_reducible repeat first|apply Q1|apply Q2|apply Q3);exact BK388.out⟩
       have n3_:Aside0 (((((w13.setCell ⟨gb389,0,none⟩ (.int .i64 ((rd_T120 t384 x16_1).f1.f0))).setCell ⟨gb389,1,none⟩ (.int .i64 ((rd_T120 t384 x16_1).f1.f1))).setCell ⟨gb389,2,none⟩ (.int .i64 ((rd_T120 t384 x16_1).f1.f2))).setCell ⟨gb389,3,none⟩ (.int .i64 ((rd_T120 t384 x16_1).f1.f3))).heap[gb389]?=some (.cells #[.int .i64 ((rd_T120 t384 x16_1).f1.f0),.int .i64 ((rd_T120 t384 x16_1).f1.f1),.int .i64 ((rd_T120 t384 x16_1).f1.f2),.int .i64 ((rd_T120 t384 x16_1).f1.f3)] 109 (0,0))):=⟨by (with_reducible repeat first|apply Q1|apply Q2|apply Q3);refine blk_put (cs:=#[.int .i64 ((rd_T120 t384 x16_1).f1.f0),.int .i64 ((rd_T120 t384 x16_1).f1.f1),.int .i64 ((rd_T120 t384 x16_1).f1.f2),.int .i64 0]) ?_ 3 _ rfl;(with_reducible repeat first|apply Q1|apply Q2|apply Q3);refine blk_put (cs:=#[.int .i64 ((rd_T120 t384 x16_1).f1.f0),.int .i64 ((rd_T120 t384 x16_1).f1.f1),.int .i64 0,.int .i64 0]) ?_ 2 _ rfl;(with_reducible repeat first|apply Q1|apply Q2|apply Q3);refine blk_put (cs:=#[.int .i64 ((rd_T120 t384 x16_1).f1.f0),.int .i64 0,.int .i64 0,.int .i64 0]) ?_ 1 _ rfl;(with_reducible repeat first|apply Q1|apply Q2|apply Q3);refine blk_put (cs:=#[.int .i64 0,.int .i64 0,.int .i64 0,.int .i64 0]) ?_ 0 _ rfl;(with_reducible repeat first|apply Q1|apply Q2|apply Q3);exact BK389.out⟩
       have n4_:Aside0 (Below w.heap.size w ((((w13.setCell ⟨gb389,0,none⟩ (.int .i64 ((rd_T120 t384 x16_1).f1.f0))).setCell ⟨gb389,1,none⟩ (.int .i64 ((rd_T120 t384 x16_1).f1.f1))).setCell ⟨gb389,2,none⟩ (.int .i64 ((rd_T120 t384 x16_1).f1.f2))).setCell ⟨gb389,3,none⟩ (.int .i64 ((rd_T120 t384 x16_1).f1.f3)))):=⟨hb3 GE383.out GE388.out GE389.out⟩
       try clear HO_14
       try clear BK383
       try clear BK388 BK389
       try clear HB
       generalize ((((w13.setCell ⟨gb389,0,none⟩ (.int .i64 ((rd_T120 t384 x16_1).f1.f0))).setCell ⟨gb389,1,none⟩ (.int .i64 ((rd_T120 t384 x16_1).f1.f1))).setCell ⟨gb389,2,none⟩ (.int .i64 ((rd_T120 t384 x16_1).f1.f2))).setCell ⟨gb389,3,none⟩ (.int .i64 ((rd_T120 t384 x16_1).f1.f3)))=w18 at n0_ n1_ n2_ n3_ n4_ ⊢
       have HO_14:=n0_
       have BK383:=n1_
       have BK388:=n2_
       have BK389:=n3_
       have HB:=n4_
       clear n0_ n1_ n2_ n3_ n4_
       replace HO_14:=Aside0.mk (Kd.R_drew HO_14.out);replace BK383:=Aside0.mk (blk_drew BK383.out);replace BK388:=Aside0.mk (blk_drew BK388.out);replace BK389:=Aside0.mk (blk_drew BK389.out);replace HB:=Aside0.mk (below_drew1 HB.out)
       refine start_ (n:=9) (S:=fun w'=>True) (ds:=[]) #[false,false,false,false,false,false,false,false,false] (by kernel_rfl) rfl rfl trivial (fun hHeld=>?_);refine with_tabW impl_decode.tab5 impl_decode.bits5 (fun HT_ HW_=>?_)
       generalize w18.drew=w19 at HO_14 BK383 BK388 BK389 HB hHeld ⊢
       refine pu 0 23 #[true,false,false,false,false,false,false,false,false] ?_
       refine pu 1 24 #[true,true,false,false,false,false,false,false,false] ?_
       refine pu 2 25 #[true,true,true,false,false,false,false,false,false] ?_
       refine pu 3 26 #[true,true,true,true,false,false,false,false,false] ?_
       refine pu 4 27 #[true,true,true,true,true,false,false,false,false] ?_
       refine pu 5 28 #[true,true,true,true,true,true,false,false,false] ?_
       refine pu 6 29 #[true,true,true,true,true,true,true,false,false] ?_
       refine pu 7 30 #[true,true,true,true,true,true,true,true,false] ?_
       refine pu 8 31 #[true,true,true,true,true,true,true,true,true] ?_
       refine done_ (done_of HT_.out (by kernel_rfl)) ?_
       try go_wp2
       go_meet
       case rel=>exact ⟨_,(true),rs,H',⟨om HK1.out⟩,⟨kr HO_14.out⟩,⟨qx BK383.out⟩,⟨qx BK388.out⟩,⟨qx BK389.out⟩,⟨hb3 GE383.out GE388.out GE389.out⟩⟩
      rw [if_neg c17] at H
      obtain ⟨c17b0,c17b1⟩:=eqN c17
      (first|rw [c17b0]|(simp only [i64_w,i32_w];rw [c17b0])|skip)
      obtain ⟨t390,A20,H⟩:=bindA H
      have H':=Aside0.mk H
      clear H
      try go_wp2
      have n0_:Aside0 (Kd.R k120 120 ((((w13.setCell ⟨gb389,0,none⟩ (.int .i64 ((rd_T120 t384 x16_1).f1.f0))).setCell ⟨gb389,1,none⟩ (.int .i64 ((rd_T120 t384 x16_1).f1.f1))).setCell ⟨gb389,2,none⟩ (.int .i64 ((rd_T120 t384 x16_1).f1.f2))).setCell ⟨gb389,3,none⟩ (.int .i64 ((rd_T120 t384 x16_1).f1.f3))) w.heap.size (fun k_=>k_≠gb388) (.slice (some ad387) t384.length co5) t384):=⟨by (with_reducible repeat (first|apply Kd.R_alloc|apply Kd.R_drewN|apply Kd.R_drew));exact Kd.R_mono (Kd.R_far (p:=⟨gb389,3,none⟩) (Kd.R_far (p:=⟨gb389,2,none⟩) (Kd.R_far (p:=⟨gb389,1,none⟩) (Kd.R_far (p:=⟨gb389,0,none⟩) (Kd.R_types HO_14.out BK389.out (by decide)) (fun _ hk=>hk.2) (.int .i64 ((rd_T120 t384 x16_1).f1.f0))) (fun _ hk=>hk.2) (.int .i64 ((rd_T120 t384 x16_1).f1.f1))) (fun _ hk=>hk.2) (.int .i64 ((rd_T120 t384 x16_1).f1.f2))) (fun _ hk=>hk.2) (.int .i64 ((rd_T120 t384 x16_1).f1.f3))) (fun _ hk=>hk.1.2)⟩
      have n1_:Aside0 (((((w13.setCell ⟨gb389,0,none⟩ (.int .i64 ((rd_T120 t384 x16_1).f1.f0))).setCell ⟨gb389,1,none⟩ (.int .i64 ((rd_T120 t384 x16_1).f1.f1))).setCell ⟨gb389,2,none⟩ (.int .i64 ((rd_T120 t384 x16_1).f1.f2))).setCell ⟨gb389,3,none⟩ (.int .i64 ((rd_T120 t384 x16_1).f1.f3))).heap[gb383]?=some (.cells #[.int .i64 x384000_1,.int .i64 x384001_1,.int .i64 x384002_1,.int .i64 x384003_1,.int .i64 x384004_1] 86 (0,0))):=⟨by (with_reducible repeat first|apply Q1|apply Q2|apply Q3);refine blk_far ?_ NB383_389.out _;(with_reducible repeat first|apply Q1|apply Q2|apply Q3);refine blk_far ?_ NB383_389.out _;(with_reducible repeat first|apply Q1|apply Q2|apply Q3);refine blk_far ?_ NB383_389.out _;(with_reducible repeat first|apply Q1|apply Q2|apply Q3);refine blk_far ?_ NB383_389.out _;(with_reducible repeat first|apply Q1|apply Q2|apply Q3);exact BK383.out⟩
      have n2_:Aside0 (((((w13.setCell ⟨gb389,0,none⟩ (.int .i64 ((rd_T120 t384 x16_1).f1.f0))).setCell ⟨gb389,1,none⟩ (.int .i64 ((rd_T120 t384 x16_1).f1.f1))).setCell ⟨gb389,2,none⟩ (.int .i64 ((rd_T120 t384 x16_1).f1.f2))).setCell ⟨gb389,3,none⟩ (.int .i64 ((rd_T120 t384 x16_1).f1.f3))).heap[gb388]?=some (.cells #[.string ((rd_T120 t384 x16_1).f0),.int .i64 ((rd_T120 t384 x16_1).f1.f0),.int .i64 ((rd_T120 t384 x16_1).f1.f1),.int .i64 ((rd_T120 t384 x16_1).f1.f2),.int .i64 ((rd_T120 t384 x16_1).f1.f3)] 120 (0,0))):=⟨by (with_reducible repeat first|apply Q1|apply Q2|apply Q3);refine blk_far ?_ NB388_389.out _;(with_reducible repeat first|apply Q1|apply Q2|apply Q3);refine blk_far ?_ NB388_389.out _;(with_reducible repeat first|apply Q1|apply Q2|apply Q3);refine blk_far ?_ NB388_389.out _;(with_reducible repeat first|apply Q1|apply Q2|apply Q3);refine blk_far ?_ NB388_389.out _;(with_reducible repeat first|apply Q1|apply Q2|apply Q3);exact BK388.out⟩
      have n3_:Aside0 (((((w13.setCell ⟨gb389,0,none⟩ (.int .i64 ((rd_T120 t384 x16_1).f1.f0))).setCell ⟨gb389,1,none⟩ (.int .i64 ((rd_T120 t384 x16_1).f1.f1))).setCell ⟨gb389,2,none⟩ (.int .i64 ((rd_T120 t384 x16_1).f1.f2))).setCell ⟨gb389,3,none⟩ (.int .i64 ((rd_T120 t384 x16_1).f1.f3))).heap[gb389]?=some (.cells #[.int .i64 ((rd_T120 t384 x16_1).f1.f0),.int .i64 ((rd_T120 t384 x16_1).f1.f1),.int .i64 ((rd_T120 t384 x16_1).f1.f2),.int .i64 ((rd_T120 t384 x16_1).f1.f3)] 109 (0,0))):=⟨by (with_reducible repeat first|apply Q1|apply Q2|apply Q3);refine blk_put (cs:=#[.int .i64 ((rd_T120 t384 x16_1).f1.f0),.int .i64 ((rd_T120 t384 x16_1).f1.f1),.int .i64 ((rd_T120 t384 x16_1).f1.f2),.int .i64 0]) ?_ 3 _ rfl;(with_reducible repeat first|apply Q1|apply Q2|apply Q3);refine blk_put (cs:=#[.int .i64 ((rd_T120 t384 x16_1).f1.f0),.int .i64 ((rd_T120 t384 x16_1).f1.f1),.int .i64 0,.int .i64 0]) ?_ 2 _ rfl;(with_reducible repeat first|apply Q1|apply Q2|apply Q3);refine blk_put (cs:=#[.int .i64 ((rd_T120 t384 x16_1).f1.f0),.int .i64 0,.int .i64 0,.int .i64 0]) ?_ 1 _ rfl;(with_reducible repeat first|apply Q1|apply Q2|apply Q3);refine blk_put (cs:=#[.int .i64 0,.int .i64 0,.int .i64 0,.int .i64 0]) ?_ 0 _ rfl;(with_reducible repeat first|apply Q1|apply Q2|apply Q3);exact BK389.out⟩
      have n4_:Aside0 (Below w.heap.size w ((((w13.setCell ⟨gb389,0,none⟩ (.int .i64 ((rd_T120 t384 x16_1).f1.f0))).setCell ⟨gb389,1,none⟩ (.int .i64 ((rd_T120 t384 x16_1).f1.f1))).setCell ⟨gb389,2,none⟩ (.int .i64 ((rd_T120 t384 x16_1).f1.f2))).setCell ⟨gb389,3,none⟩ (.int .i64 ((rd_T120 t384 x16_1).f1.f3)))):=⟨hb3 GE383.out GE388.out GE389.out⟩
      try clear HO_14
      try clear BK383
      try clear BK388 BK389
      try clear HB
      generalize ((((w13.setCell ⟨gb389,0,none⟩ (.int .i64 ((rd_T120 t384 x16_1).f1.f0))).setCell ⟨gb389,1,none⟩ (.int .i64 ((rd_T120 t384 x16_1).f1.f1))).setCell ⟨gb389,2,none⟩ (.int .i64 ((rd_T120 t384 x16_1).f1.f2))).setCell ⟨gb389,3,none⟩ (.int .i64 ((rd_T120 t384 x16_1).f1.f3)))=w21 at n0_ n1_ n2_ n3_ n4_ ⊢
      have HO_14:=n0_
      have BK383:=n1_
      have BK388:=n2_
      have BK389:=n3_
      have HB:=n4_
      clear n0_ n1_ n2_ n3_ n4_
      replace HO_14:=Aside0.mk (Kd.R_drew HO_14.out);replace BK383:=Aside0.mk (blk_drew BK383.out);replace BK388:=Aside0.mk (blk_drew BK388.out);replace BK389:=Aside0.mk (blk_drew BK389.out);replace HB:=Aside0.mk (below_drew1 HB.out)
      refine start_ (n:=9) (S:=fun w'=>w'.cell? ⟨gb389,0,none⟩=some (.int .i64 ((rd_T120 t384 x16_1).f1.f0))∧w'.cell? ⟨gb389,1,none⟩=some (.int .i64 ((rd_T120 t384 x16_1).f1.f1))∧w'.cell? ⟨gb389,2,none⟩=some (.int .i64 ((rd_T120 t384 x16_1).f1.f2))∧w'.cell? ⟨gb389,3,none⟩=some (.int .i64 ((rd_T120 t384 x16_1).f1.f3))) (ds:=[]) #[false,false,false,false,false,false,false,false,false] (by kernel_rfl) rfl rfl ⟨(blk_cell BK389.out 0).trans rfl,(blk_cell BK389.out 1).trans rfl,(blk_cell BK389.out 2).trans rfl,(blk_cell BK389.out 3).trans rfl⟩ (fun hHeld=>?_);refine with_tabW impl_decode.tab5 impl_decode.bits5 (fun HT_ HW_=>?_)
      generalize w21.drew=w22 at HO_14 BK383 BK388 BK389 HB hHeld ⊢
      refine pu 0 23 #[true,false,false,false,false,false,false,false,false] ?_
      refine pu 1 24 #[true,true,false,false,false,false,false,false,false] ?_
      refine pu 2 25 #[true,true,true,false,false,false,false,false,false] ?_
      refine pu 3 26 #[true,true,true,true,false,false,false,false,false] ?_
      refine pu 5 28 #[true,true,true,true,false,true,false,false,false] ?_
      refine tk4 4 27 #[true,true,true,true,true,true,false,false,false] hHeld ?_
      refine one_ (i:=6) (N:=some 29) #[true,true,true,true,true,true,true,false,false] rfl rfl (one_of HT_.out (by kernel_rfl)) (by decide) (fun K hK=>?_)
      refine goes_ Try.func107 (by kernel_rfl) rfl #[.int .i64 a0,.int .i64 0,.int .i64 7] (by rfl) rfl rfl (mp_ rfl) ?_
      with_reducible refine (impl_bitsOf.calls a0 0 7 t390 _ A20.out).mono ?_
      rintro e w' ⟨rfl,⟨nd,rfl⟩⟩
      refine ⟨_,rfl,?_⟩
      refine hK.out _ _ ⟨(blk_cell BK389.out 0).trans rfl,(blk_cell BK389.out 1).trans rfl,(blk_cell BK389.out 2).trans rfl,(blk_cell BK389.out 3).trans rfl⟩ (fun hHeld=>?_)
      clear hK K
      refine norm_ (a':=?_) ?_ ?_
      rotate_left
      ·show Act.put _ (some 29) _=_
       simp only [Act.put,List.setIfInBounds_toArray,List.set_cons_zero,List.set_cons_succ,i64_w,i32_w]
       rfl
      refine pu 7 30 #[true,true,true,true,true,true,true,true,false] ?_
      refine pu 8 31 #[true,true,true,true,true,true,true,true,true] ?_
      refine done_ (done_of HT_.out (by kernel_rfl)) ?_
      try go_wp2
      go_meet
      case rel=>exact ⟨_,((((rd_T120 t384 x16_1).f1.f1) != t390)),rs,H',⟨om HK1.out⟩,⟨kr HO_14.out⟩,⟨qx BK383.out⟩,⟨qx BK388.out⟩,⟨qx BK389.out⟩,⟨hb3 GE383.out GE388.out GE389.out⟩⟩
     clear HC9
     try clear c6b0
     try clear c7b0
     try clear c8b0
     try clear Z12_0 Z12_1 Z12_2 Z12_3 Z12_4
     try clear Z16_0 Z16_1 Z16_2 Z16_3
     try clear Y12_0 Y12_1 Y12_2 Y12_3 Y12_4
     try clear Y16_0 Y16_1 Y16_2 Y16_3
     try clear hx387_0 hx387_1 hx387_2 hx387_3 hx387_4
     try clear p387
     try clear q387
     obtain ⟨kq,x31_8,rfl,HA,HJ8,HO_14,BK383,BK388,BK389,HB⟩:=hcut
     cases kq with
     | zero=>exact absurd HA.out (by simp [impl_decode.j1])
     | succ kj8 =>
      have H:=HA.out
      clear HA
      simp only [impl_decode.j1] at H
      by_cases c23:x31_8=true
      ·subst c23
       rw [if_pos rfl] at H
       have H':=Aside0.mk H
       clear H
       go_wp2
       go_roundg kj8
       case measure=>have:=HK1.out;have:=HJ8.out;omega
       case rel=>exact ⟨(wrap64 (x16_1+1)),(x384000_1),(x384001_1),(x384002_1),(x384003_1),(x384004_1),rs,H',⟨by have:=HK1.out;have:=HJ8.out;omega⟩,⟨by (with_reducible repeat (first|apply Kd.R_alloc|apply Kd.R_drewN|apply Kd.R_drew));exact Kd.R_mono HO_14.out (fun _ hk=>trivial)⟩,⟨qx BK383.out⟩,⟨hb3 GE383.out GE388.out GE389.out⟩⟩
      replace c23:=Bool.eq_false_iff.mpr c23
      subst c23
      rw [if_neg (show ¬ (false=true) by decide)] at H
      obtain ⟨t392,A24,H⟩:=bindA H
      have H':=Aside0.mk H
      clear H
      go_wp2_with (first|(refine bv 7 #[.int .i64 0,.int .i64 0,.int .i64 0,.int .i64 0,.int .i64 0] 86 ?_;intro gb391 hg w25 hbox hb;obtain ⟨n4_,n6_⟩:=bx0 (hb3 GE383.out GE388.out GE389.out) hb hg;have n0_:=Aside0.mk (Kd.R_below (kr HO_14.out) hb);obtain ⟨n1_,n8_,n9_⟩:=bx3 (qx BK383.out) hb hg;obtain ⟨n2_,n10_,n11_⟩:=bx3 (qx BK388.out) hb hg;obtain ⟨n3_,n12_,n13_⟩:=bx3 (qx BK389.out) hb hg;have n5_:=Aside0.mk (hbox);clear HO_14;clear BK383;clear BK388;clear BK389;clear HB;have HO_14:=n0_;have BK383:=n1_;have BK388:=n2_;have BK389:=n3_;have HB:=n4_;have BK391:=n5_;have GW391:=n6_;have GE391:=n6_;have NB383_391:=n8_;have NB391_383:=n9_;have NB388_391:=n10_;have NB391_388:=n11_;have NB389_391:=n12_;have NB391_389:=n13_;clear n0_ n1_ n2_ n3_ n4_ n5_ n6_ n8_ n9_ n10_ n11_ n12_ n13_;clear hb hbox hg;have hnb26:=NB391_383.out;have hnc26:=NB383_391.out;have hnb27:=NB391_388.out;have hnc27:=NB388_391.out;have hnb28:=NB391_389.out;have hnc28:=NB389_391.out;obtain ⟨Z29_0,Z29_1,Z29_2,Z29_3,Z29_4,Y29_0,Y29_1,Y29_2,Y29_3,Y29_4⟩:=cel5 BK391.out;have hnb30:=NB389_383.out;have hnc30:=NB383_389.out;have hnb31:=NB389_388.out;have hnc31:=NB388_389.out;obtain ⟨Z32_0,Z32_1,Z32_2,Z32_3,Y32_0,Y32_1,Y32_2,Y32_3⟩:=cel4 BK389.out)|(refine gl 108 36 Try.func108 #[.int .i64 ((rd_T120 t384 x16_1).f1.f0)] ?_;(with_reducible refine (impl_pieces.calls ((rd_T120 t384 x16_1).f1.f0) t392 _ A24.out).mono ?_);rintro e w33 ⟨v393,rfl,ho0,hb⟩;refine ⟨_,rfl,?_⟩;have n0_:=Aside0.mk (Kd.R_below (by (with_reducible repeat (first|apply Kd.R_alloc|apply Kd.R_drewN|apply Kd.R_drew));exact (Kd.R_mono (Kd.R_far (p:=⟨gb391,4,none⟩) (Kd.R_far (p:=⟨gb391,3,none⟩) (Kd.R_far (p:=⟨gb391,2,none⟩) (Kd.R_far (p:=⟨gb391,1,none⟩) (Kd.R_far (p:=⟨gb391,0,none⟩) (Kd.R_types HO_14.out BK391.out (by decide)) (fun _ hk=>hk.2) (.int .i64 x16_1)) (fun _ hk=>hk.2) (.int .i64 0)) (fun _ hk=>hk.2) (.int .i64 0)) (fun _ hk=>hk.2) (.int .i64 0)) (fun _ hk=>hk.2) (.int .i64 0)) (fun _ h_=>h_.1))) hb);have n1_:=Aside0.mk (Kd.R_lower ho0 (below_size (hb4 GE383.out GE388.out GE389.out GE391.out)));have n2_:=Aside0.mk (blk_below (qg NB383_391.out BK383.out) hb);have n3_:=Aside0.mk (blk_below (qg NB388_391.out BK388.out) hb);have n4_:=Aside0.mk (blk_below (qg NB389_391.out BK389.out) hb);have n5_:=Aside0.mk (blk_below (qp BK391.out) hb);replace HB:=Aside0.mk (below_step (hb4 GE383.out GE388.out GE389.out GE391.out) hb);clear HO_14;clear BK383;clear BK388;clear BK389;clear BK391;have HO_14:=n0_;have HO394:=n1_;have BK383:=n2_;have BK388:=n3_;have BK389:=n4_;have BK391:=n5_;clear n0_ n1_ n2_ n3_ n4_ n5_;(try clear hb);(try clear hb2);(try clear hk);(try clear hi);(try clear ho0);obtain ⟨Ao34,co34,eo34⟩:=Kd.R_slice HO394.out;subst eo34))
      go_loopg [38] kj8 (fun kq v38 w'=>∃ (x38_3:Int) (x392004_3:Int),v38=.int .i64 x38_3∧Aside0 (impl_decode.l1 kq a0 t384 (t384.length:Int) x16_1 t392 (t392.length:Int) x38_3 ((rd_T120 t384 x16_1).f1.f0) ((rd_T120 t384 x16_1).f1.f1) ((rd_T120 t384 x16_1).f1.f2) ((rd_T120 t384 x16_1).f1.f3) x16_1 0 0 0 x392004_3=some (r1,r2,r3,r4,r5,r6))∧Aside0 (kq≤kj8)∧Aside0 (Kd.R k120 120 w' w.heap.size (fun k_=>k_≠gb388) (.slice (some ad387) t384.length co5) t384)∧Aside0 (Kd.R k125 125 w' w.heap.size (fun _=>True) (.slice Ao34 t392.length co34) t392)∧Aside0 (w'.heap[gb383]?=some (.cells #[.int .i64 x384000_1,.int .i64 x384001_1,.int .i64 x384002_1,.int .i64 x384003_1,.int .i64 x384004_1] 86 (0,0)))∧Aside0 (w'.heap[gb388]?=some (.cells #[.string ((rd_T120 t384 x16_1).f0),.int .i64 ((rd_T120 t384 x16_1).f1.f0),.int .i64 ((rd_T120 t384 x16_1).f1.f1),.int .i64 ((rd_T120 t384 x16_1).f1.f2),.int .i64 ((rd_T120 t384 x16_1).f1.f3)] 120 (0,0)))∧Aside0 (w'.heap[gb389]?=some (.cells #[.int .i64 ((rd_T120 t384 x16_1).f1.f0),.int .i64 ((rd_T120 t384 x16_1).f1.f1),.int .i64 ((rd_T120 t384 x16_1).f1.f2),.int .i64 ((rd_T120 t384 x16_1).f1.f3)] 109 (0,0)))∧Aside0 (w'.heap[gb391]?=some (.cells #[.int .i64 x16_1,.int .i64 0,.int .i64 0,.int .i64 0,.int .i64 x392004_3] 86 (0,0)))∧Aside0 (Below w.heap.size w w'))
      case atStart=>exact ⟨(0),(0),rs,H',⟨Nat.le_refl _⟩,⟨kr HO_14.out⟩,⟨kr HO394.out⟩,⟨qx BK383.out⟩,⟨qx BK388.out⟩,⟨qx BK389.out⟩,⟨qx BK391.out⟩,⟨hb4 GE383.out GE388.out GE389.out GE391.out⟩⟩
      clear H'
      try clear c23
      try clear Z29_0 Z29_1 Z29_2 Z29_3 Z29_4
      try clear Z32_0 Z32_1 Z32_2 Z32_3
      try clear Y29_0 Y29_1 Y29_2 Y29_3 Y29_4
      try clear Y32_0 Y32_1 Y32_2 Y32_3
      obtain ⟨x38_3,x392004_3,rfl,HA,HK3,HO_14,HO_36,BK383,BK388,BK389,BK391,HB⟩:=hrel
      cases gk with
      | zero=>exact absurd HA.out (by simp [impl_decode.l1])
      | succ k3 =>
       have H:=HA.out
       clear HA
       simp only [impl_decode.l1] at H
       by_cases c35:x38_3 < (t392.length:Int)
       ·rw [if_pos c35] at H
        have c35b0:decide (x38_3 < (t392.length:Int))=true:=decide_eq_true c35
        clear c35
        by_cases c36:0≤x38_3
        ·rw [if_pos c36] at H
         have c36b0:decide (0≤x38_3)=true:=decide_eq_true c36
         clear c36
         by_cases c37:x38_3 < (t392.length:Int)
         ·rw [if_pos c37] at H
          have c37b0:decide (x38_3 < (t392.length:Int))=true:=decide_eq_true c37
          clear c37
          obtain ⟨t397,A38,H⟩:=bindA H
          by_cases c39:0≤((rd_T125 t392 x38_3).f0)
          ·rw [if_pos c39] at H
           have c39b0:=eq_true c39
           have c39b1:decide (0≤((rd_T125 t392 x38_3).f0))=true:=decide_eq_true c39
           clear c39
           obtain ⟨ji40,hji40⟩ : ∃ j_:Int,(shl .i64 t397 ((rd_T125 t392 x38_3).f0))=j_:=⟨_,rfl⟩
           replace H:(impl_decode.l1 k3 a0 t384 (t384.length:Int) x16_1 t392 (t392.length:Int) (wrap64 (x38_3+1)) ((rd_T120 t384 x16_1).f1.f0) ((rd_T120 t384 x16_1).f1.f1) ((rd_T120 t384 x16_1).f1.f2) ((rd_T120 t384 x16_1).f1.f3) x16_1 0 0 0 (Go.bits .or .i64 x392004_3 (ji40)))=some (r1,r2,r3,r4,r5,r6):=by first|(rw [hji40] at H;exact H)|(simp only [hji40] at H ⊢;exact H)
           (try rw [hji40] at A38)
           have hji40_:(IntKind.i64.wrap (t397*2 ^ min ((rd_T125 t392 x38_3).f0).toNat 64))=ji40:=hji40
           have hji40z:((rd_T125 t392 x38_3).f0)≤64→(IntKind.i64.wrap (t397*2 ^ ((rd_T125 t392 x38_3).f0).toNat))=ji40:=shl_small hji40
           have hji40y:(wrap64 (t397*2 ^ min ((rd_T125 t392 x38_3).f0).toNat 64))=ji40:=(i64_w _).symm.trans hji40_
           have hji40x:((rd_T125 t392 x38_3).f0)≤64→(wrap64 (t397*2 ^ ((rd_T125 t392 x38_3).f0).toNat))=ji40:=fun h_=>(i64_w _).symm.trans (hji40z h_)
           have H':=Aside0.mk H
           clear H
           have p395:0≤(x38_3:Int):=od
           have q395:x38_3 < (t392.length:Int):=od
           obtain ⟨ad395,e395,hx395_0,hx395_1,hx395_2⟩:=at_T125 (Kd.R_reads' HO_36.out).2.2 x38_3 p395 q395
           cases e395
           replace p395:=eq_true p395
           replace q395:=eq_true q395
           try go_wp2_with (first|(refine bv 9 #[.int .i64 0,.int .i64 0,.int .i64 0] 125 ?_;intro gb396 hg w41 hbox hb;obtain ⟨n6_,n8_⟩:=bx0 (hb4 GE383.out GE388.out GE389.out GE391.out) hb hg;have n0_:=Aside0.mk (Kd.R_below (kr HO_14.out) hb);have n1_:=Aside0.mk (Kd.R_below (Kd.R_elderB (kr HO_36.out) gb396 (Nat.le_of_eq hg.symm)) hb);obtain ⟨n2_,n10_,n11_⟩:=bx3 (qx BK383.out) hb hg;obtain ⟨n3_,n12_,n13_⟩:=bx3 (qx BK388.out) hb hg;obtain ⟨n4_,n14_,n15_⟩:=bx3 (qx BK389.out) hb hg;obtain ⟨n5_,n16_,n17_⟩:=bx3 (qx BK391.out) hb hg;have n7_:=Aside0.mk (hbox);clear HO_14;clear HO_36;clear BK383;clear BK388;clear BK389;clear BK391;clear HB;have HO_14:=n0_;have HO_36:=n1_;have BK383:=n2_;have BK388:=n3_;have BK389:=n4_;have BK391:=n5_;have HB:=n6_;have BK396:=n7_;have GW396:=n8_;have GE396:=n8_;have NB383_396:=n10_;have NB396_383:=n11_;have NB388_396:=n12_;have NB396_388:=n13_;have NB389_396:=n14_;have NB396_389:=n15_;have NB391_396:=n16_;have NB396_391:=n17_;clear n0_ n1_ n2_ n3_ n4_ n5_ n6_ n7_ n8_ n10_ n11_ n12_ n13_ n14_ n15_ n16_ n17_;clear hb hbox hg;have hnb42:=NB396_383.out;have hnc42:=NB383_396.out;have hnb43:=NB396_388.out;have hnc43:=NB388_396.out;have hnb44:=NB396_389.out;have hnc44:=NB389_396.out;have hnb45:=NB396_391.out;have hnc45:=NB391_396.out;obtain ⟨Z46_0,Z46_1,Z46_2,Y46_0,Y46_1,Y46_2⟩:=cel3 BK396.out))
           have n0_:Aside0 (Kd.R k120 120 (((w41.setCell ⟨gb396,0,none⟩ (.int .i64 ((rd_T125 t392 x38_3).f0))).setCell ⟨gb396,1,none⟩ (.int .i64 ((rd_T125 t392 x38_3).f1))).setCell ⟨gb396,2,none⟩ (.int .i64 ((rd_T125 t392 x38_3).f2))) w.heap.size (fun k_=>k_≠gb388) (.slice (some ad387) t384.length co5) t384):=⟨by (with_reducible repeat (first|apply Kd.R_alloc|apply Kd.R_drewN|apply Kd.R_drew));exact Kd.R_mono (Kd.R_far (p:=⟨gb396,2,none⟩) (Kd.R_far (p:=⟨gb396,1,none⟩) (Kd.R_far (p:=⟨gb396,0,none⟩) (Kd.R_types HO_14.out BK396.out (by decide)) (fun _ hk=>hk.2) (.int .i64 ((rd_T125 t392 x38_3).f0))) (fun _ hk=>hk.2) (.int .i64 ((rd_T125 t392 x38_3).f1))) (fun _ hk=>hk.2) (.int .i64 ((rd_T125 t392 x38_3).f2))) (fun _ hk=>hk.1)⟩
           have n1_:Aside0 (Kd.R k125 125 (((w41.setCell ⟨gb396,0,none⟩ (.int .i64 ((rd_T125 t392 x38_3).f0))).setCell ⟨gb396,1,none⟩ (.int .i64 ((rd_T125 t392 x38_3).f1))).setCell ⟨gb396,2,none⟩ (.int .i64 ((rd_T125 t392 x38_3).f2))) w.heap.size (fun k_=>k_≠gb396) (.slice (some ad395) t392.length co34) t392):=⟨by (with_reducible repeat (first|apply Kd.R_alloc|apply Kd.R_drewN|apply Kd.R_drew));exact Kd.R_mono (Kd.R_far (p:=⟨gb396,2,none⟩) (Kd.R_far (p:=⟨gb396,1,none⟩) (Kd.R_far (p:=⟨gb396,0,none⟩) (Kd.R_mono HO_36.out (fun k_ hk=>(⟨hk,hk.2⟩:_∧k_≠gb396))) (fun _ hk=>hk.2) (.int .i64 ((rd_T125 t392 x38_3).f0))) (fun _ hk=>hk.2) (.int .i64 ((rd_T125 t392 x38_3).f1))) (fun _ hk=>hk.2) (.int .i64 ((rd_T125 t392 x38_3).f2))) (fun _ hk=>hk.1.2)⟩
           have n2_:Aside0 ((((w41.setCell ⟨gb396,0,none⟩ (.int .i64 ((rd_T125 t392 x38_3).f0))).setCell ⟨gb396,1,none⟩ (.int .i64 ((rd_T125 t392 x38_3).f1))).setCell ⟨gb396,2,none⟩ (.int .i64 ((rd_T125 t392 x38_3).f2))).heap[gb383]?=some (.cells #[.int .i64 x384000_1,.int .i64 x384001_1,.int .i64 x384002_1,.int .i64 x384003_1,.int .i64 x384004_1] 86 (0,0))):=⟨by (with_reducible repeat first|apply Q1|apply Q2|apply Q3);refine blk_far ?_ NB383_396.out _;(with_reducible repeat first|apply Q1|apply Q2|apply Q3);refine blk_far ?_ NB383_396.out _;(with_reducible repeat first|apply Q1|apply Q2|apply Q3);refine blk_far ?_ NB383_396.out _;(with_reducible repeat first|apply Q1|apply Q2|apply Q3);exact BK383.out⟩
           have n3_:Aside0 ((((w41.setCell ⟨gb396,0,none⟩ (.int .i64 ((rd_T125 t392 x38_3).f0))).setCell ⟨gb396,1,none⟩ (.int .i64 ((rd_T125 t392 x38_3).f1))).setCell ⟨gb396,2,none⟩ (.int .i64 ((rd_T125 t392 x38_3).f2))).heap[gb388]?=some (.cells #[.string ((rd_T120 t384 x16_1).f0),.int .i64 ((rd_T120 t384 x16_1).f1.f0),.int .i64 ((rd_T120 t384 x16_1).f1.f1),.int .i64 ((rd_T120 t384 x16_1).f1.f2),.int .i64 ((rd_T120 t384 x16_1).f1.f3)] 120 (0,0))):=⟨by (with_reducible repeat first|apply Q1|apply Q2|apply Q3);refine blk_far ?_ NB388_396.out _;(with_reducible repeat first|apply Q1|apply Q2|apply Q3);refine blk_far ?_ NB388_396.out _;(with_reducible repeat first|apply Q1|apply Q2|apply Q3);refine blk_far ?_ NB388_396.out _;(with_reducible repeat first|apply Q1|apply Q2|apply Q3);exact BK388.out⟩
           have n4_:Aside0 ((((w41.setCell ⟨gb396,0,none⟩ (.int .i64 ((rd_T125 t392 x38_3).f0))).setCell ⟨gb396,1,none⟩ (.int .i64 ((rd_T125 t392 x38_3).f1))).setCell ⟨gb396,2,none⟩ (.int .i64 ((rd_T125 t392 x38_3).f2))).heap[gb389]?=some (.cells #[.int .i64 ((rd_T120 t384 x16_1).f1.f0),.int .i64 ((rd_T120 t384 x16_1).f1.f1),.int .i64 ((rd_T120 t384 x16_1).f1.f2),.int .i64 ((rd_T120 t384 x16_1).f1.f3)] 109 (0,0))):=⟨by (with_reducible repeat first|apply Q1|apply Q2|apply Q3);refine blk_far ?_ NB389_396.out _;(with_reducible repeat first|apply Q1|apply Q2|apply Q3);refine blk_far ?_ NB389_396.out _;(with_reducible repeat first|apply Q1|apply Q2|apply Q3);refine blk_far ?_ NB389_396.out _;(with_reducible repeat first|apply Q1|apply Q2|apply Q3);exact BK389.out⟩
           have n5_:Aside0 ((((w41.setCell ⟨gb396,0,none⟩ (.int .i64 ((rd_T125 t392 x38_3).f0))).setCell ⟨gb396,1,none⟩ (.int .i64 ((rd_T125 t392 x38_3).f1))).setCell ⟨gb396,2,none⟩ (.int .i64 ((rd_T125 t392 x38_3).f2))).heap[gb391]?=some (.cells #[.int .i64 x16_1,.int .i64 0,.int .i64 0,.int .i64 0,.int .i64 x392004_3] 86 (0,0))):=⟨by (with_reducible repeat first|apply Q1|apply Q2|apply Q3);refine blk_far ?_ NB391_396.out _;(with_reducible repeat first|apply Q1|apply Q2|apply Q3);refine blk_far ?_ NB391_396.out _;(with_reducible repeat first|apply Q1|apply Q2|apply Q3);refine blk_far ?_ NB391_396.out _;(with_reducible repeat first|apply Q1|apply Q2|apply Q3);exact BK391.out⟩
           have n6_:Aside0 ((((w41.setCell ⟨gb396,0,none⟩ (.int .i64 ((rd_T125 t392 x38_3).f0))).setCell ⟨gb396,1,none⟩ (.int .i64 ((rd_T125 t392 x38_3).f1))).setCell ⟨gb396,2,none⟩ (.int .i64 ((rd_T125 t392 x38_3).f2))).heap[gb396]?=some (.cells #[.int .i64 ((rd_T125 t392 x38_3).f0),.int .i64 ((rd_T125 t392 x38_3).f1),.int .i64 ((rd_T125 t392 x38_3).f2)] 125 (0,0))):=⟨by (with_reducible repeat first|apply Q1|apply Q2|apply Q3);refine blk_put (cs:=#[.int .i64 ((rd_T125 t392 x38_3).f0),.int .i64 ((rd_T125 t392 x38_3).f1),.int .i64 0]) ?_ 2 _ rfl;(with_reducible repeat first|apply Q1|apply Q2|apply Q3);refine blk_put (cs:=#[.int .i64 ((rd_T125 t392 x38_3).f0),.int .i64 0,.int .i64 0]) ?_ 1 _ rfl;(with_reducible repeat first|apply Q1|apply Q2|apply Q3);refine blk_put (cs:=#[.int .i64 0,.int .i64 0,.int .i64 0]) ?_ 0 _ rfl;(with_reducible repeat first|apply Q1|apply Q2|apply Q3);exact BK396.out⟩
           have n7_:Aside0 (Below w.heap.size w (((w41.setCell ⟨gb396,0,none⟩ (.int .i64 ((rd_T125 t392 x38_3).f0))).setCell ⟨gb396,1,none⟩ (.int .i64 ((rd_T125 t392 x38_3).f1))).setCell ⟨gb396,2,none⟩ (.int .i64 ((rd_T125 t392 x38_3).f2)))):=⟨hb5 GE383.out GE388.out GE389.out GE391.out GE396.out⟩
           try clear HO_14
           try clear HO_36
           try clear BK383
           try clear BK388 BK389
           try clear BK391
           try clear BK396
           try clear HB
           generalize (((w41.setCell ⟨gb396,0,none⟩ (.int .i64 ((rd_T125 t392 x38_3).f0))).setCell ⟨gb396,1,none⟩ (.int .i64 ((rd_T125 t392 x38_3).f1))).setCell ⟨gb396,2,none⟩ (.int .i64 ((rd_T125 t392 x38_3).f2)))=w47 at n0_ n1_ n2_ n3_ n4_ n5_ n6_ n7_ ⊢
           have HO_14:=n0_
           have HO_36:=n1_
           have BK383:=n2_
           have BK388:=n3_
           have BK389:=n4_
           have BK391:=n5_
           have BK396:=n6_
           have HB:=n7_
           clear n0_ n1_ n2_ n3_ n4_ n5_ n6_ n7_
           replace HO_14:=Aside0.mk (Kd.R_drew HO_14.out);replace HO_36:=Aside0.mk (Kd.R_drew HO_36.out);replace BK383:=Aside0.mk (blk_drew BK383.out);replace BK388:=Aside0.mk (blk_drew BK388.out);replace BK389:=Aside0.mk (blk_drew BK389.out);replace BK391:=Aside0.mk (blk_drew BK391.out);replace BK396:=Aside0.mk (blk_drew BK396.out);replace HB:=Aside0.mk (below_drew1 HB.out)
           refine start_ (n:=14) (S:=fun w'=>w'.cell? ⟨gb391,0,none⟩=some (.int .i64 x16_1)∧w'.cell? ⟨gb391,1,none⟩=some (.int .i64 0)∧w'.cell? ⟨gb391,2,none⟩=some (.int .i64 0)∧w'.cell? ⟨gb391,3,none⟩=some (.int .i64 0)∧w'.cell? ⟨gb391,4,none⟩=some (.int .i64 x392004_3)∧w'.cell? ⟨gb396,0,none⟩=some (.int .i64 ((rd_T125 t392 x38_3).f0))∧w'.cell? ⟨gb396,1,none⟩=some (.int .i64 ((rd_T125 t392 x38_3).f1))∧w'.cell? ⟨gb396,2,none⟩=some (.int .i64 ((rd_T125 t392 x38_3).f2))) (ds:=[13]) #[false,false,false,false,false,false,false,false,false,false,false,false,false,false] (by kernel_rfl) rfl rfl ⟨(blk_cell BK391.out 0).trans rfl,(blk_cell BK391.out 1).trans rfl,(blk_cell BK391.out 2).trans rfl,(blk_cell BK391.out 3).trans rfl,(blk_cell BK391.out 4).trans rfl,(blk_cell BK396.out 0).trans rfl,(blk_cell BK396.out 1).trans rfl,(blk_cell BK396.out 2).trans rfl⟩ (fun hHeld=>?_);refine with_tabW impl_decode.tab10 impl_decode.bits10 (fun HT_ HW_=>?_)
           generalize w47.drew=w48 at HO_14 HO_36 BK383 BK388 BK389 BK391 BK396 HB hHeld ⊢
           refine pu 0 42 #[true,false,false,false,false,false,false,false,false,false,false,false,false,false] ?_
           refine pu 2 44 #[true,false,true,false,false,false,false,false,false,false,false,false,false,false] ?_
           refine pu 3 45 #[true,false,true,true,false,false,false,false,false,false,false,false,false,false] ?_
           refine pu 5 47 #[true,false,true,true,false,true,false,false,false,false,false,false,false,false] ?_
           refine pu 8 50 #[true,false,true,true,false,true,false,false,true,false,false,false,false,false] ?_
           refine tk8 1 43 #[true,true,true,true,false,true,false,false,true,false,false,false,false,false] hHeld ?_
           refine tk8 4 46 #[true,true,true,true,true,true,false,false,true,false,false,false,false,false] hHeld ?_
           refine tk8 6 48 #[true,true,true,true,true,true,true,false,true,false,false,false,false,false] hHeld ?_
           refine tk8 9 51 #[true,true,true,true,true,true,true,false,true,true,false,false,false,false] hHeld ?_
           refine one_ (i:=7) (N:=some 49) #[true,true,true,true,true,true,true,true,true,true,false,false,false,false] rfl rfl (one_of HT_.out (by kernel_rfl)) (by decide) (fun K hK=>?_)
           refine goes_ Try.func107 (by kernel_rfl) rfl #[.int .i64 a0,.int .i64 ((rd_T125 t392 x38_3).f2),.int .i64 ((rd_T125 t392 x38_3).f1)] (by rfl) rfl rfl (mp_ rfl) ?_
           with_reducible refine (impl_bitsOf.calls a0 ((rd_T125 t392 x38_3).f2) ((rd_T125 t392 x38_3).f1) t397 _ A38.out).mono ?_
           rintro e w' ⟨rfl,⟨nd,rfl⟩⟩
           refine ⟨_,rfl,?_⟩
           refine hK.out _ _ ⟨(blk_cell BK391.out 0).trans rfl,(blk_cell BK391.out 1).trans rfl,(blk_cell BK391.out 2).trans rfl,(blk_cell BK391.out 3).trans rfl,(blk_cell BK391.out 4).trans rfl,(blk_cell BK396.out 0).trans rfl,(blk_cell BK396.out 1).trans rfl,(blk_cell BK396.out 2).trans rfl⟩ (fun hHeld=>?_)
           clear hK K
           refine norm_ (a':=?_) ?_ ?_
           rotate_left
           ·show Act.put _ (some 49) _=_
            simp only [Act.put,List.setIfInBounds_toArray,List.set_cons_zero,List.set_cons_succ,i64_w,i32_w]
            rfl
           refine pu 10 52 #[true,true,true,true,true,true,true,true,true,true,true,false,false,false] ?_
           refine pu 11 53 #[true,true,true,true,true,true,true,true,true,true,true,true,false,false] ?_
           refine pu 12 54 #[true,true,true,true,true,true,true,true,true,true,true,true,true,false] ?_
           refine last_ (i:=13) (N:=none) #[true,true,true,true,true,true,true,true,true,true,true,true,true,true] rfl rfl (one_of HT_.out (by kernel_rfl)) (by decide) (fun K hK=>?_)
           have hs49:w48.cell? ⟨gb391,4,none⟩=some (.int .i64 x392004_3):=(blk_cell BK391.out 4).trans rfl
           have hfs49:=blk_frozen BK391.out 4
           have hns49_0:=NB383_391.out
           have hns49_1:=NB388_391.out
           have hns49_2:=NB389_391.out
           have hns49_4:=NB396_391.out
           have hms49_0:=NB391_383.out
           have hms49_1:=NB391_388.out
           have hms49_2:=NB391_389.out
           have hms49_4:=NB391_396.out
           refine skip_ (w1:=?_) (by rfl) rfl ?_ ?_
           rotate_left
           ·go_simp
            rfl
           refine hK.out _ _ ?_
           clear hK K
           refine done_ (done_of HT_.out (by kernel_rfl)) ?_
           try go_wp2
           go_roundg k3
           case measure=>have:=HK1.out;have:=HJ8.out;have:=HK3.out;omega
           case rel=>exact ⟨(wrap64 (x38_3+1)),(Go.bits .or .i64 x392004_3 (ji40)),rs,H',⟨by have:=HK1.out;have:=HJ8.out;have:=HK3.out;omega⟩,⟨by (with_reducible repeat (first|apply Kd.R_alloc|apply Kd.R_drewN|apply Kd.R_drew));exact Kd.R_mono (Kd.R_far (p:=⟨gb391,4,none⟩) (Kd.R_types HO_14.out BK391.out (by decide)) (fun _ hk=>hk.2) (.int .i64 (Go.bits .or .i64 x392004_3 (ji40)))) (fun _ hk=>hk.1)⟩,⟨by (with_reducible repeat (first|apply Kd.R_alloc|apply Kd.R_drewN|apply Kd.R_drew));exact Kd.R_mono (Kd.R_far (p:=⟨gb391,4,none⟩) (Kd.R_types HO_36.out BK391.out (by decide)) (fun _ hk=>hk.2) (.int .i64 (Go.bits .or .i64 x392004_3 (ji40)))) (fun _ hk=>trivial)⟩,⟨qf NB383_391.out BK383.out⟩,⟨qf NB388_391.out BK388.out⟩,⟨qf NB389_391.out BK389.out⟩,⟨by (with_reducible repeat first|apply Q1|apply Q2|apply Q3);refine blk_put (cs:=#[.int .i64 x16_1,.int .i64 0,.int .i64 0,.int .i64 0,.int .i64 x392004_3]) ?_ 4 _ rfl;(with_reducible repeat first|apply Q1|apply Q2|apply Q3);exact BK391.out⟩,⟨hb5 GE383.out GE388.out GE389.out GE391.out GE396.out⟩⟩
          rw [if_neg c39] at H
          exact absurd H (by simp)
         rw [if_neg c37] at H
         exact absurd H (by simp)
        rw [if_neg c36] at H
        exact absurd H (by simp)
       rw [if_neg c35] at H
       have c35b0:decide (x38_3 < (t392.length:Int))=false:=decide_eq_false c35
       clear c35
       obtain ⟨t398,A50,H⟩:=bindA H
       have HC51:=Aside0.mk H
       clear H
       have hnb52:=NB389_383.out
       have hnc52:=NB383_389.out
       have hnb53:=NB389_388.out
       have hnc53:=NB388_389.out
       have hnb54:=NB389_391.out
       have hnc54:=NB391_389.out
       obtain ⟨Z55_0,Z55_1,Z55_2,Z55_3,Y55_0,Y55_1,Y55_2,Y55_3⟩:=cel4 BK389.out
       go_upto_if 60 with (first|(refine gd 109 58 Try.func109 #[.int .i64 ((rd_T120 t384 x16_1).f1.f0)] (impl_immBits.calls k3 ((rd_T120 t384 x16_1).f1.f0) t398 _ A50.out) ?_;intro nd))
       (try simp only [Act.put,List.setIfInBounds_toArray,List.set_cons_zero,List.set_cons_succ])
       go_cut [] (fun wc=>∃ (kq:Nat) (x392004_50:Int),Aside0 (impl_decode.j3 kq a0 t384 (t384.length:Int) x16_1 ((rd_T120 t384 x16_1).f1.f0) ((rd_T120 t384 x16_1).f1.f1) ((rd_T120 t384 x16_1).f1.f2) ((rd_T120 t384 x16_1).f1.f3) x16_1 0 0 0 x392004_50=some (r1,r2,r3,r4,r5,r6))∧Aside0 (kq≤k3)∧Aside0 (Kd.R k120 120 wc w.heap.size (fun k_=>k_≠gb388) (.slice (some ad387) t384.length co5) t384)∧Aside0 (wc.heap[gb383]?=some (.cells #[.int .i64 x384000_1,.int .i64 x384001_1,.int .i64 x384002_1,.int .i64 x384003_1,.int .i64 x384004_1] 86 (0,0)))∧Aside0 (wc.heap[gb388]?=some (.cells #[.string ((rd_T120 t384 x16_1).f0),.int .i64 ((rd_T120 t384 x16_1).f1.f0),.int .i64 ((rd_T120 t384 x16_1).f1.f1),.int .i64 ((rd_T120 t384 x16_1).f1.f2),.int .i64 ((rd_T120 t384 x16_1).f1.f3)] 120 (0,0)))∧Aside0 (wc.heap[gb389]?=some (.cells #[.int .i64 ((rd_T120 t384 x16_1).f1.f0),.int .i64 ((rd_T120 t384 x16_1).f1.f1),.int .i64 ((rd_T120 t384 x16_1).f1.f2),.int .i64 ((rd_T120 t384 x16_1).f1.f3)] 109 (0,0)))∧Aside0 (wc.heap[gb391]?=some (.cells #[.int .i64 x16_1,.int .i64 0,.int .i64 0,.int .i64 0,.int .i64 x392004_50] 86 (0,0)))∧Aside0 (Below w.heap.size w wc))
       case first=>
        have H:=HC51.out
        clear HC51
        by_cases c56:t398 > 0
        ·rw [if_pos c56] at H
         have c56b0:decide (0 < t398)=true:=decide_eq_true c56
         clear c56
         (first|rw [c56b0]|(simp only [i64_w,i32_w];rw [c56b0])|skip)
         obtain ⟨t399,A57,H⟩:=bindA H
         have H':=Aside0.mk H
         clear H
         have hnb58:=NB391_383.out
         have hnc58:=NB383_391.out
         have hnb59:=NB391_388.out
         have hnc59:=NB388_391.out
         have hnb60:=NB391_389.out
         have hnc60:=NB389_391.out
         obtain ⟨Z61_0,Z61_1,Z61_2,Z61_3,Z61_4,Y61_0,Y61_1,Y61_2,Y61_3,Y61_4⟩:=cel5 BK391.out
         go_wp2_with (first|(refine gd 110 64 Try.func110 #[.int .i64 x392004_3,.int .i64 t398] (impl_signOf.calls x392004_3 t398 t399 _ A57.out) ?_;intro nd;(try (rw [drewN_self wr];generalize hq_:World.drewN wr _=wr;replace HO_14:Aside0 (Kd.R k120 120 wr w.heap.size (fun k_=>k_≠gb388) (.slice (some ad387) t384.length co5) t384):=⟨by rw [← hq_];exact (kr HO_14.out)⟩;replace HO_36:Aside0 (Kd.R k125 125 wr w.heap.size (fun _=>True) (.slice Ao34 t392.length co34) t392):=⟨by rw [← hq_];exact (kr HO_36.out)⟩;replace BK383:Aside0 (wr.heap[gb383]?=some (.cells #[.int .i64 x384000_1,.int .i64 x384001_1,.int .i64 x384002_1,.int .i64 x384003_1,.int .i64 x384004_1] 86 (0,0))):=⟨by rw [← hq_];exact (qx BK383.out)⟩;replace BK388:Aside0 (wr.heap[gb388]?=some (.cells #[.string ((rd_T120 t384 x16_1).f0),.int .i64 ((rd_T120 t384 x16_1).f1.f0),.int .i64 ((rd_T120 t384 x16_1).f1.f1),.int .i64 ((rd_T120 t384 x16_1).f1.f2),.int .i64 ((rd_T120 t384 x16_1).f1.f3)] 120 (0,0))):=⟨by rw [← hq_];exact (qx BK388.out)⟩;replace BK389:Aside0 (wr.heap[gb389]?=some (.cells #[.int .i64 ((rd_T120 t384 x16_1).f1.f0),.int .i64 ((rd_T120 t384 x16_1).f1.f1),.int .i64 ((rd_T120 t384 x16_1).f1.f2),.int .i64 ((rd_T120 t384 x16_1).f1.f3)] 109 (0,0))):=⟨by rw [← hq_];exact (qx BK389.out)⟩;replace BK391:Aside0 (wr.heap[gb391]?=some (.cells #[.int .i64 x16_1,.int .i64 0,.int .i64 0,.int .i64 0,.int .i64 x392004_3] 86 (0,0))):=⟨by rw [← hq_];exact (qx BK391.out)⟩;replace HB:Aside0 (Below w.heap.size w wr):=⟨by rw [← hq_];exact (hb4 GE383.out GE388.out GE389.out GE391.out)⟩;clear hq_;obtain ⟨Z61_0,Z61_1,Z61_2,Z61_3,Z61_4,Y61_0,Y61_1,Y61_2,Y61_3,Y61_4⟩:=cel5 BK391.out))))
         go_meet
         case rel=>exact ⟨_,(t399),H',⟨by have:=HK1.out;have:=HJ8.out;have:=HK3.out;first|omega|exact Nat.le_refl _⟩,⟨by (with_reducible repeat (first|apply Kd.R_alloc|apply Kd.R_drewN|apply Kd.R_drew));exact Kd.R_mono (Kd.R_far (p:=⟨gb391,4,none⟩) (Kd.R_types HO_14.out BK391.out (by decide)) (fun _ hk=>hk.2) (.int .i64 t399)) (fun _ hk=>hk.1)⟩,⟨qf NB383_391.out BK383.out⟩,⟨qf NB388_391.out BK388.out⟩,⟨qf NB389_391.out BK389.out⟩,⟨by (with_reducible repeat first|apply Q1|apply Q2|apply Q3);refine blk_put (cs:=#[.int .i64 x16_1,.int .i64 0,.int .i64 0,.int .i64 0,.int .i64 x392004_3]) ?_ 4 _ rfl;(with_reducible repeat first|apply Q1|apply Q2|apply Q3);exact BK391.out⟩,⟨hb4 GE383.out GE388.out GE389.out GE391.out⟩⟩
        rw [if_neg c56] at H
        have c56b0:decide (0 < t398)=false:=decide_eq_false c56
        clear c56
        (first|rw [c56b0]|(simp only [i64_w,i32_w];rw [c56b0])|skip)
        have H':=Aside0.mk H
        clear H
        go_wp2
        go_meet
        case rel=>exact ⟨_,(x392004_3),H',⟨by have:=HK1.out;have:=HJ8.out;have:=HK3.out;first|omega|exact Nat.le_refl _⟩,⟨kr HO_14.out⟩,⟨qx BK383.out⟩,⟨qx BK388.out⟩,⟨qx BK389.out⟩,⟨qx BK391.out⟩,⟨hb4 GE383.out GE388.out GE389.out GE391.out⟩⟩
       clear HC51
       try clear c35b0
       try clear Z55_0
       try clear Z55_1
       try clear Z55_2
       try clear Z55_3
       try clear Y55_0
       try clear Y55_1
       try clear Y55_2
       try clear Y55_3
       obtain ⟨kq,x392004_50,HA,HJ50,HO_14,BK383,BK388,BK389,BK391,HB⟩:=hcut
       cases kq with
       | zero=>exact absurd HA.out (by simp [impl_decode.j3])
       | succ kj50 =>
        have H:=HA.out
        clear HA
        simp only [impl_decode.j3] at H
        obtain ⟨⟨t400,t401,t402⟩,A62,H⟩:=bindA H
        try dsimp only at H
        have HC63:=Aside0.mk H
        clear H
        have hnb64:=NB389_383.out
        have hnc64:=NB383_389.out
        have hnb65:=NB389_388.out
        have hnc65:=NB388_389.out
        have hnb66:=NB389_391.out
        have hnc66:=NB391_389.out
        obtain ⟨Z67_0,Z67_1,Z67_2,Z67_3,Y67_0,Y67_1,Y67_2,Y67_3⟩:=cel4 BK389.out
        go_upto_if 73 with (first|(refine gd 111 69 Try.func111 #[.int .i64 ((rd_T120 t384 x16_1).f1.f0)] (impl_fields.calls kj50 ((rd_T120 t384 x16_1).f1.f0) t400 t401 t402 _ A62.out) ?_;intro nd))
        (try simp only [Act.put,List.setIfInBounds_toArray,List.set_cons_zero,List.set_cons_succ])
        go_cut [] (fun wc=>∃ (kq:Nat) (x392001_62:Int),Aside0 (impl_decode.j4 kq a0 t401 t402 t384 (t384.length:Int) x16_1 x16_1 x392001_62 0 0 x392004_50=some (r1,r2,r3,r4,r5,r6))∧Aside0 (kq≤kj50)∧Aside0 (Kd.R k120 120 wc w.heap.size (fun k_=>k_≠gb388) (.slice (some ad387) t384.length co5) t384)∧Aside0 (wc.heap[gb383]?=some (.cells #[.int .i64 x384000_1,.int .i64 x384001_1,.int .i64 x384002_1,.int .i64 x384003_1,.int .i64 x384004_1] 86 (0,0)))∧Aside0 (wc.heap[gb388]?=some (.cells #[.string ((rd_T120 t384 x16_1).f0),.int .i64 ((rd_T120 t384 x16_1).f1.f0),.int .i64 ((rd_T120 t384 x16_1).f1.f1),.int .i64 ((rd_T120 t384 x16_1).f1.f2),.int .i64 ((rd_T120 t384 x16_1).f1.f3)] 120 (0,0)))∧Aside0 (wc.heap[gb389]?=some (.cells #[.int .i64 ((rd_T120 t384 x16_1).f1.f0),.int .i64 ((rd_T120 t384 x16_1).f1.f1),.int .i64 ((rd_T120 t384 x16_1).f1.f2),.int .i64 ((rd_T120 t384 x16_1).f1.f3)] 109 (0,0)))∧Aside0 (wc.heap[gb391]?=some (.cells #[.int .i64 x16_1,.int .i64 x392001_62,.int .i64 0,.int .i64 0,.int .i64 x392004_50] 86 (0,0)))∧Aside0 (Below w.heap.size w wc))
        case first=>
         have H:=HC63.out
         clear HC63
         by_cases c68:t400=true
         ·subst c68
          rw [if_pos rfl] at H
          obtain ⟨t403,A69,H⟩:=bindA H
          have H':=Aside0.mk H
          clear H
          go_wp2_with (first|(refine gd 107 75 Try.func107 #[.int .i64 a0,.int .i64 7,.int .i64 5] (impl_bitsOf.calls a0 7 5 t403 _ A69.out) ?_;intro nd;(try (rw [drewN_self wc];generalize hq_:World.drewN wc _=wc;replace HO_14:Aside0 (Kd.R k120 120 wc w.heap.size (fun k_=>k_≠gb388) (.slice (some ad387) t384.length co5) t384):=⟨by rw [← hq_];exact (kr HO_14.out)⟩;replace BK383:Aside0 (wc.heap[gb383]?=some (.cells #[.int .i64 x384000_1,.int .i64 x384001_1,.int .i64 x384002_1,.int .i64 x384003_1,.int .i64 x384004_1] 86 (0,0))):=⟨by rw [← hq_];exact (qx BK383.out)⟩;replace BK388:Aside0 (wc.heap[gb388]?=some (.cells #[.string ((rd_T120 t384 x16_1).f0),.int .i64 ((rd_T120 t384 x16_1).f1.f0),.int .i64 ((rd_T120 t384 x16_1).f1.f1),.int .i64 ((rd_T120 t384 x16_1).f1.f2),.int .i64 ((rd_T120 t384 x16_1).f1.f3)] 120 (0,0))):=⟨by rw [← hq_];exact (qx BK388.out)⟩;replace BK389:Aside0 (wc.heap[gb389]?=some (.cells #[.int .i64 ((rd_T120 t384 x16_1).f1.f0),.int .i64 ((rd_T120 t384 x16_1).f1.f1),.int .i64 ((rd_T120 t384 x16_1).f1.f2),.int .i64 ((rd_T120 t384 x16_1).f1.f3)] 109 (0,0))):=⟨by rw [← hq_];exact (qx BK389.out)⟩;replace BK391:Aside0 (wc.heap[gb391]?=some (.cells #[.int .i64 x16_1,.int .i64 0,.int .i64 0,.int .i64 0,.int .i64 x392004_50] 86 (0,0))):=⟨by rw [← hq_];exact (qx BK391.out)⟩;replace HB:Aside0 (Below w.heap.size w wc):=⟨by rw [← hq_];exact (hb4 GE383.out GE388.out GE389.out GE391.out)⟩;clear hq_));have hnb70:=NB391_383.out;have hnc70:=NB383_391.out;have hnb71:=NB391_388.out;have hnc71:=NB388_391.out;have hnb72:=NB391_389.out;have hnc72:=NB389_391.out;obtain ⟨Z73_0,Z73_1,Z73_2,Z73_3,Z73_4,Y73_0,Y73_1,Y73_2,Y73_3,Y73_4⟩:=cel5 BK391.out))
          go_meet
          case rel=>exact ⟨_,(t403),H',⟨by have:=HK1.out;have:=HJ8.out;have:=HK3.out;have:=HJ50.out;first|omega|exact Nat.le_refl _⟩,⟨by (with_reducible repeat (first|apply Kd.R_alloc|apply Kd.R_drewN|apply Kd.R_drew));exact Kd.R_mono (Kd.R_far (p:=⟨gb391,1,none⟩) (Kd.R_types HO_14.out BK391.out (by decide)) (fun _ hk=>hk.2) (.int .i64 t403)) (fun _ hk=>hk.1)⟩,⟨qf NB383_391.out BK383.out⟩,⟨qf NB388_391.out BK388.out⟩,⟨qf NB389_391.out BK389.out⟩,⟨by (with_reducible repeat first|apply Q1|apply Q2|apply Q3);refine blk_put (cs:=#[.int .i64 x16_1,.int .i64 0,.int .i64 0,.int .i64 0,.int .i64 x392004_50]) ?_ 1 _ rfl;(with_reducible repeat first|apply Q1|apply Q2|apply Q3);exact BK391.out⟩,⟨hb4 GE383.out GE388.out GE389.out GE391.out⟩⟩
         replace c68:=Bool.eq_false_iff.mpr c68
         subst c68
         rw [if_neg (show ¬ (false=true) by decide)] at H
         have H':=Aside0.mk H
         clear H
         go_wp2
         go_meet
         case rel=>exact ⟨_,(0),H',⟨by have:=HK1.out;have:=HJ8.out;have:=HK3.out;have:=HJ50.out;first|omega|exact Nat.le_refl _⟩,⟨kr HO_14.out⟩,⟨qx BK383.out⟩,⟨qx BK388.out⟩,⟨qx BK389.out⟩,⟨qx BK391.out⟩,⟨hb4 GE383.out GE388.out GE389.out GE391.out⟩⟩
        clear HC63
        try clear Z67_0
        try clear Z67_1
        try clear Z67_2
        try clear Z67_3
        try clear Y67_0
        try clear Y67_1
        try clear Y67_2
        try clear Y67_3
        obtain ⟨kq,x392001_62,HA,HJ62,HO_14,BK383,BK388,BK389,BK391,HB⟩:=hcut
        cases kq with
        | zero=>exact absurd HA.out (by simp [impl_decode.j4])
        | succ kj62 =>
         have H:=HA.out
         clear HA
         simp only [impl_decode.j4] at H
         have HC74:=Aside0.mk H
         clear H
         go_upto_if 77 with (fail)
         go_cut [] (fun wc=>∃ (kq:Nat) (x392002_73:Int),Aside0 (impl_decode.j5 kq a0 t402 t384 (t384.length:Int) x16_1 x16_1 x392001_62 x392002_73 0 x392004_50=some (r1,r2,r3,r4,r5,r6))∧Aside0 (kq≤kj62)∧Aside0 (Kd.R k120 120 wc w.heap.size (fun k_=>k_≠gb388) (.slice (some ad387) t384.length co5) t384)∧Aside0 (wc.heap[gb383]?=some (.cells #[.int .i64 x384000_1,.int .i64 x384001_1,.int .i64 x384002_1,.int .i64 x384003_1,.int .i64 x384004_1] 86 (0,0)))∧Aside0 (wc.heap[gb388]?=some (.cells #[.string ((rd_T120 t384 x16_1).f0),.int .i64 ((rd_T120 t384 x16_1).f1.f0),.int .i64 ((rd_T120 t384 x16_1).f1.f1),.int .i64 ((rd_T120 t384 x16_1).f1.f2),.int .i64 ((rd_T120 t384 x16_1).f1.f3)] 120 (0,0)))∧Aside0 (wc.heap[gb389]?=some (.cells #[.int .i64 ((rd_T120 t384 x16_1).f1.f0),.int .i64 ((rd_T120 t384 x16_1).f1.f1),.int .i64 ((rd_T120 t384 x16_1).f1.f2),.int .i64 ((rd_T120 t384 x16_1).f1.f3)] 109 (0,0)))∧Aside0 (wc.heap[gb391]?=some (.cells #[.int .i64 x16_1,.int .i64 x392001_62,.int .i64 x392002_73,.int .i64 0,.int .i64 x392004_50] 86 (0,0)))∧Aside0 (Below w.heap.size w wc))
         case first=>
          have H:=HC74.out
          clear HC74
          by_cases c75:t401=true
          ·subst c75
           rw [if_pos rfl] at H
           obtain ⟨t404,A76,H⟩:=bindA H
           have H':=Aside0.mk H
           clear H
           go_wp2_with (first|(refine gd 107 79 Try.func107 #[.int .i64 a0,.int .i64 15,.int .i64 5] (impl_bitsOf.calls a0 15 5 t404 _ A76.out) ?_;intro nd;(try (rw [drewN_self wc];generalize hq_:World.drewN wc _=wc;replace HO_14:Aside0 (Kd.R k120 120 wc w.heap.size (fun k_=>k_≠gb388) (.slice (some ad387) t384.length co5) t384):=⟨by rw [← hq_];exact (kr HO_14.out)⟩;replace BK383:Aside0 (wc.heap[gb383]?=some (.cells #[.int .i64 x384000_1,.int .i64 x384001_1,.int .i64 x384002_1,.int .i64 x384003_1,.int .i64 x384004_1] 86 (0,0))):=⟨by rw [← hq_];exact (qx BK383.out)⟩;replace BK388:Aside0 (wc.heap[gb388]?=some (.cells #[.string ((rd_T120 t384 x16_1).f0),.int .i64 ((rd_T120 t384 x16_1).f1.f0),.int .i64 ((rd_T120 t384 x16_1).f1.f1),.int .i64 ((rd_T120 t384 x16_1).f1.f2),.int .i64 ((rd_T120 t384 x16_1).f1.f3)] 120 (0,0))):=⟨by rw [← hq_];exact (qx BK388.out)⟩;replace BK389:Aside0 (wc.heap[gb389]?=some (.cells #[.int .i64 ((rd_T120 t384 x16_1).f1.f0),.int .i64 ((rd_T120 t384 x16_1).f1.f1),.int .i64 ((rd_T120 t384 x16_1).f1.f2),.int .i64 ((rd_T120 t384 x16_1).f1.f3)] 109 (0,0))):=⟨by rw [← hq_];exact (qx BK389.out)⟩;replace BK391:Aside0 (wc.heap[gb391]?=some (.cells #[.int .i64 x16_1,.int .i64 x392001_62,.int .i64 0,.int .i64 0,.int .i64 x392004_50] 86 (0,0))):=⟨by rw [← hq_];exact (qx BK391.out)⟩;replace HB:Aside0 (Below w.heap.size w wc):=⟨by rw [← hq_];exact (hb4 GE383.out GE388.out GE389.out GE391.out)⟩;clear hq_));have hnb77:=NB391_383.out;have hnc77:=NB383_391.out;have hnb78:=NB391_388.out;have hnc78:=NB388_391.out;have hnb79:=NB391_389.out;have hnc79:=NB389_391.out;obtain ⟨Z80_0,Z80_1,Z80_2,Z80_3,Z80_4,Y80_0,Y80_1,Y80_2,Y80_3,Y80_4⟩:=cel5 BK391.out))
           go_meet
           case rel=>exact ⟨_,(t404),H',⟨by have:=HK1.out;have:=HJ8.out;have:=HK3.out;have:=HJ50.out;have:=HJ62.out;first|omega|exact Nat.le_refl _⟩,⟨by (with_reducible repeat (first|apply Kd.R_alloc|apply Kd.R_drewN|apply Kd.R_drew));exact Kd.R_mono (Kd.R_far (p:=⟨gb391,2,none⟩) (Kd.R_types HO_14.out BK391.out (by decide)) (fun _ hk=>hk.2) (.int .i64 t404)) (fun _ hk=>hk.1)⟩,⟨qf NB383_391.out BK383.out⟩,⟨qf NB388_391.out BK388.out⟩,⟨qf NB389_391.out BK389.out⟩,⟨by (with_reducible repeat first|apply Q1|apply Q2|apply Q3);refine blk_put (cs:=#[.int .i64 x16_1,.int .i64 x392001_62,.int .i64 0,.int .i64 0,.int .i64 x392004_50]) ?_ 2 _ rfl;(with_reducible repeat first|apply Q1|apply Q2|apply Q3);exact BK391.out⟩,⟨hb4 GE383.out GE388.out GE389.out GE391.out⟩⟩
          replace c75:=Bool.eq_false_iff.mpr c75
          subst c75
          rw [if_neg (show ¬ (false=true) by decide)] at H
          have H':=Aside0.mk H
          clear H
          go_wp2
          go_meet
          case rel=>exact ⟨_,(0),H',⟨by have:=HK1.out;have:=HJ8.out;have:=HK3.out;have:=HJ50.out;have:=HJ62.out;first|omega|exact Nat.le_refl _⟩,⟨kr HO_14.out⟩,⟨qx BK383.out⟩,⟨qx BK388.out⟩,⟨qx BK389.out⟩,⟨qx BK391.out⟩,⟨hb4 GE383.out GE388.out GE389.out GE391.out⟩⟩
         clear HC74
         obtain ⟨kq,x392002_73,HA,HJ73,HO_14,BK383,BK388,BK389,BK391,HB⟩:=hcut
         cases kq with
         | zero=>exact absurd HA.out (by simp [impl_decode.j5])
         | succ kj73 =>
          have H:=HA.out
          clear HA
          simp only [impl_decode.j5] at H
          by_cases c81:t402=true
          ·subst c81
           rw [if_pos rfl] at H
           obtain ⟨t405,A82,H⟩:=bindA H
           obtain ⟨t406,A83,H⟩:=bindA H
           by_cases c84:t406=a0
           ·rw [if_pos c84] at H
            obtain ⟨c84b0,c84b1⟩:=eqP c84
            clear c84
            simp only [Option.some.injEq,Prod.mk.injEq] at H
            obtain ⟨rfl,rfl,rfl,rfl,rfl,rfl⟩:=H
            go_wp2_with (first|(refine gd 107 83 Try.func107 #[.int .i64 a0,.int .i64 20,.int .i64 5] (impl_bitsOf.calls a0 20 5 t405 _ A82.out) ?_;intro nd;(try (rw [drewN_self wc];generalize hq_:World.drewN wc _=wc;replace HO_14:Aside0 (Kd.R k120 120 wc w.heap.size (fun k_=>k_≠gb388) (.slice (some ad387) t384.length co5) t384):=⟨by rw [← hq_];exact (kr HO_14.out)⟩;replace BK383:Aside0 (wc.heap[gb383]?=some (.cells #[.int .i64 x384000_1,.int .i64 x384001_1,.int .i64 x384002_1,.int .i64 x384003_1,.int .i64 x384004_1] 86 (0,0))):=⟨by rw [← hq_];exact (qx BK383.out)⟩;replace BK388:Aside0 (wc.heap[gb388]?=some (.cells #[.string ((rd_T120 t384 x16_1).f0),.int .i64 ((rd_T120 t384 x16_1).f1.f0),.int .i64 ((rd_T120 t384 x16_1).f1.f1),.int .i64 ((rd_T120 t384 x16_1).f1.f2),.int .i64 ((rd_T120 t384 x16_1).f1.f3)] 120 (0,0))):=⟨by rw [← hq_];exact (qx BK388.out)⟩;replace BK389:Aside0 (wc.heap[gb389]?=some (.cells #[.int .i64 ((rd_T120 t384 x16_1).f1.f0),.int .i64 ((rd_T120 t384 x16_1).f1.f1),.int .i64 ((rd_T120 t384 x16_1).f1.f2),.int .i64 ((rd_T120 t384 x16_1).f1.f3)] 109 (0,0))):=⟨by rw [← hq_];exact (qx BK389.out)⟩;replace BK391:Aside0 (wc.heap[gb391]?=some (.cells #[.int .i64 x16_1,.int .i64 x392001_62,.int .i64 x392002_73,.int .i64 0,.int .i64 x392004_50] 86 (0,0))):=⟨by rw [← hq_];exact (qx BK391.out)⟩;replace HB:Aside0 (Below w.heap.size w wc):=⟨by rw [← hq_];exact (hb4 GE383.out GE388.out GE389.out GE391.out)⟩;clear hq_));have hnb85:=NB391_383.out;have hnc85:=NB383_391.out;have hnb86:=NB391_388.out;have hnc86:=NB388_391.out;have hnb87:=NB391_389.out;have hnc87:=NB389_391.out;obtain ⟨Z88_0,Z88_1,Z88_2,Z88_3,Z88_4,Y88_0,Y88_1,Y88_2,Y88_3,Y88_4⟩:=cel5 BK391.out)|(refine gl 112 86 Try.func112 #[.agg #[.int .i64 x16_1,.int .i64 x392001_62,.int .i64 x392002_73,.int .i64 t405,.int .i64 x392004_50]] ?_;(with_reducible refine (impl_encode.calls kj73 x16_1 x392001_62 x392002_73 t405 x392004_50 t406 _ A83.out).mono ?_);rintro e w89 ⟨rfl,hb⟩;refine ⟨_,rfl,?_⟩;have n0_:=Aside0.mk (Kd.R_below (by (with_reducible repeat (first|apply Kd.R_alloc|apply Kd.R_drewN|apply Kd.R_drew));exact (Kd.R_mono (Kd.R_far (p:=⟨gb391,3,none⟩) (Kd.R_types HO_14.out BK391.out (by decide)) (fun _ hk=>hk.2) (.int .i64 t405)) (fun _ h_=>h_.1))) hb);have n1_:=Aside0.mk (blk_below (qf NB383_391.out BK383.out) hb);have n2_:=Aside0.mk (blk_below (qf NB388_391.out BK388.out) hb);have n3_:=Aside0.mk (blk_below (qf NB389_391.out BK389.out) hb);have n4_:=Aside0.mk (blk_below (g:=gb391) (o:=.cells #[.int .i64 x16_1,.int .i64 x392001_62,.int .i64 x392002_73,.int .i64 t405,.int .i64 x392004_50] 86 (0,0)) (by (with_reducible repeat first|apply Q1|apply Q2|apply Q3);refine blk_put (cs:=#[.int .i64 x16_1,.int .i64 x392001_62,.int .i64 x392002_73,.int .i64 0,.int .i64 x392004_50]) ?_ 3 _ rfl;(with_reducible repeat first|apply Q1|apply Q2|apply Q3);exact BK391.out) hb);replace HB:=Aside0.mk (below_step (hb4 GE383.out GE388.out GE389.out GE391.out) hb);clear HO_14;clear BK383;clear BK388;clear BK389;clear BK391;have HO_14:=n0_;have BK383:=n1_;have BK388:=n2_;have BK389:=n3_;have BK391:=n4_;clear n0_ n1_ n2_ n3_ n4_;(try clear hb);(try clear hb2);(try clear hk);(try clear hi);obtain ⟨Z90_0,Z90_1,Z90_2,Z90_3,Z90_4,Y90_0,Y90_1,Y90_2,Y90_3,Y90_4⟩:=cel5 BK391.out;have hnb91:=NB383_388.out;have hnc91:=NB388_383.out;have hnb92:=NB383_389.out;have hnc92:=NB389_383.out;obtain ⟨Z93_0,Z93_1,Z93_2,Z93_3,Z93_4,Y93_0,Y93_1,Y93_2,Y93_3,Y93_4⟩:=cel5 BK383.out))
            refine bodyPost_ret (results_ct rfl _ _ gb383 86 #[.int .i64 x16_1,.int .i64 x392001_62,.int .i64 x392002_73,.int .i64 t405,.int .i64 x392004_50] (0,0) _ rfl (qp BK383.out) Try.underlying86 rfl (by kernel_rfl)) rfl ?_
            exact ⟨rf,hb4 GE383.out GE388.out GE389.out GE391.out⟩
           rw [if_neg c84] at H
           obtain ⟨c84b0,c84b1⟩:=eqN c84
           have H':=Aside0.mk H
           clear H
           go_wp2_with (first|(refine gd 107 83 Try.func107 #[.int .i64 a0,.int .i64 20,.int .i64 5] (impl_bitsOf.calls a0 20 5 t405 _ A82.out) ?_;intro nd;(try (rw [drewN_self wc];generalize hq_:World.drewN wc _=wc;replace HO_14:Aside0 (Kd.R k120 120 wc w.heap.size (fun k_=>k_≠gb388) (.slice (some ad387) t384.length co5) t384):=⟨by rw [← hq_];exact (kr HO_14.out)⟩;replace BK383:Aside0 (wc.heap[gb383]?=some (.cells #[.int .i64 x384000_1,.int .i64 x384001_1,.int .i64 x384002_1,.int .i64 x384003_1,.int .i64 x384004_1] 86 (0,0))):=⟨by rw [← hq_];exact (qx BK383.out)⟩;replace BK388:Aside0 (wc.heap[gb388]?=some (.cells #[.string ((rd_T120 t384 x16_1).f0),.int .i64 ((rd_T120 t384 x16_1).f1.f0),.int .i64 ((rd_T120 t384 x16_1).f1.f1),.int .i64 ((rd_T120 t384 x16_1).f1.f2),.int .i64 ((rd_T120 t384 x16_1).f1.f3)] 120 (0,0))):=⟨by rw [← hq_];exact (qx BK388.out)⟩;replace BK389:Aside0 (wc.heap[gb389]?=some (.cells #[.int .i64 ((rd_T120 t384 x16_1).f1.f0),.int .i64 ((rd_T120 t384 x16_1).f1.f1),.int .i64 ((rd_T120 t384 x16_1).f1.f2),.int .i64 ((rd_T120 t384 x16_1).f1.f3)] 109 (0,0))):=⟨by rw [← hq_];exact (qx BK389.out)⟩;replace BK391:Aside0 (wc.heap[gb391]?=some (.cells #[.int .i64 x16_1,.int .i64 x392001_62,.int .i64 x392002_73,.int .i64 0,.int .i64 x392004_50] 86 (0,0))):=⟨by rw [← hq_];exact (qx BK391.out)⟩;replace HB:Aside0 (Below w.heap.size w wc):=⟨by rw [← hq_];exact (hb4 GE383.out GE388.out GE389.out GE391.out)⟩;clear hq_));have hnb94:=NB391_383.out;have hnc94:=NB383_391.out;have hnb95:=NB391_388.out;have hnc95:=NB388_391.out;have hnb96:=NB391_389.out;have hnc96:=NB389_391.out;obtain ⟨Z97_0,Z97_1,Z97_2,Z97_3,Z97_4,Y97_0,Y97_1,Y97_2,Y97_3,Y97_4⟩:=cel5 BK391.out)|(refine gl 112 86 Try.func112 #[.agg #[.int .i64 x16_1,.int .i64 x392001_62,.int .i64 x392002_73,.int .i64 t405,.int .i64 x392004_50]] ?_;(with_reducible refine (impl_encode.calls kj73 x16_1 x392001_62 x392002_73 t405 x392004_50 t406 _ A83.out).mono ?_);rintro e w98 ⟨rfl,hb⟩;refine ⟨_,rfl,?_⟩;have n0_:=Aside0.mk (Kd.R_below (by (with_reducible repeat (first|apply Kd.R_alloc|apply Kd.R_drewN|apply Kd.R_drew));exact (Kd.R_mono (Kd.R_far (p:=⟨gb391,3,none⟩) (Kd.R_types HO_14.out BK391.out (by decide)) (fun _ hk=>hk.2) (.int .i64 t405)) (fun _ h_=>h_.1))) hb);have n1_:=Aside0.mk (blk_below (qf NB383_391.out BK383.out) hb);have n2_:=Aside0.mk (blk_below (qf NB388_391.out BK388.out) hb);have n3_:=Aside0.mk (blk_below (qf NB389_391.out BK389.out) hb);have n4_:=Aside0.mk (blk_below (g:=gb391) (o:=.cells #[.int .i64 x16_1,.int .i64 x392001_62,.int .i64 x392002_73,.int .i64 t405,.int .i64 x392004_50] 86 (0,0)) (by (with_reducible repeat first|apply Q1|apply Q2|apply Q3);refine blk_put (cs:=#[.int .i64 x16_1,.int .i64 x392001_62,.int .i64 x392002_73,.int .i64 0,.int .i64 x392004_50]) ?_ 3 _ rfl;(with_reducible repeat first|apply Q1|apply Q2|apply Q3);exact BK391.out) hb);replace HB:=Aside0.mk (below_step (hb4 GE383.out GE388.out GE389.out GE391.out) hb);clear HO_14;clear BK383;clear BK388;clear BK389;clear BK391;have HO_14:=n0_;have BK383:=n1_;have BK388:=n2_;have BK389:=n3_;have BK391:=n4_;clear n0_ n1_ n2_ n3_ n4_;(try clear hb);(try clear hb2);(try clear hk);(try clear hi)))
           go_roundg kj73
           case measure=>have:=HK1.out;have:=HJ8.out;have:=HK3.out;have:=HJ50.out;have:=HJ62.out;have:=HJ73.out;omega
           case rel=>exact ⟨(wrap64 (x16_1+1)),(x384000_1),(x384001_1),(x384002_1),(x384003_1),(x384004_1),rs,H',⟨by have:=HK1.out;have:=HJ8.out;have:=HK3.out;have:=HJ50.out;have:=HJ62.out;have:=HJ73.out;omega⟩,⟨by (with_reducible repeat (first|apply Kd.R_alloc|apply Kd.R_drewN|apply Kd.R_drew));exact Kd.R_mono HO_14.out (fun _ hk=>trivial)⟩,⟨qx BK383.out⟩,⟨hb4 GE383.out GE388.out GE389.out GE391.out⟩⟩
          replace c81:=Bool.eq_false_iff.mpr c81
          subst c81
          rw [if_neg (show ¬ (false=true) by decide)] at H
          obtain ⟨t407,A99,H⟩:=bindA H
          by_cases c100:t407=a0
          ·rw [if_pos c100] at H
           obtain ⟨c100b0,c100b1⟩:=eqP c100
           clear c100
           simp only [Option.some.injEq,Prod.mk.injEq] at H
           obtain ⟨rfl,rfl,rfl,rfl,rfl,rfl⟩:=H
           have hnb101:=NB391_383.out
           have hnc101:=NB383_391.out
           have hnb102:=NB391_388.out
           have hnc102:=NB388_391.out
           have hnb103:=NB391_389.out
           have hnc103:=NB389_391.out
           obtain ⟨Z104_0,Z104_1,Z104_2,Z104_3,Z104_4,Y104_0,Y104_1,Y104_2,Y104_3,Y104_4⟩:=cel5 BK391.out
           go_wp2_with (first|(refine gl 112 86 Try.func112 #[.agg #[.int .i64 x16_1,.int .i64 x392001_62,.int .i64 x392002_73,.int .i64 0,.int .i64 x392004_50]] ?_;(with_reducible refine (impl_encode.calls kj73 x16_1 x392001_62 x392002_73 0 x392004_50 t407 _ A99.out).mono ?_);rintro e w105 ⟨rfl,hb⟩;refine ⟨_,rfl,?_⟩;have n0_:=Aside0.mk (Kd.R_below (kr HO_14.out) hb);have n1_:=Aside0.mk (blk_below (qx BK383.out) hb);have n2_:=Aside0.mk (blk_below (qx BK388.out) hb);have n3_:=Aside0.mk (blk_below (qx BK389.out) hb);have n4_:=Aside0.mk (blk_below (qx BK391.out) hb);replace HB:=Aside0.mk (below_step (hb4 GE383.out GE388.out GE389.out GE391.out) hb);clear HO_14;clear BK383;clear BK388;clear BK389;clear BK391;have HO_14:=n0_;have BK383:=n1_;have BK388:=n2_;have BK389:=n3_;have BK391:=n4_;clear n0_ n1_ n2_ n3_ n4_;(try clear hb);(try clear hb2);(try clear hk);(try clear hi);obtain ⟨Z106_0,Z106_1,Z106_2,Z106_3,Z106_4,Y106_0,Y106_1,Y106_2,Y106_3,Y106_4⟩:=cel5 BK391.out;have hnb107:=NB383_388.out;have hnc107:=NB388_383.out;have hnb108:=NB383_389.out;have hnc108:=NB389_383.out;obtain ⟨Z109_0,Z109_1,Z109_2,Z109_3,Z109_4,Y109_0,Y109_1,Y109_2,Y109_3,Y109_4⟩:=cel5 BK383.out))
           refine bodyPost_ret (results_ct rfl _ _ gb383 86 #[.int .i64 x16_1,.int .i64 x392001_62,.int .i64 x392002_73,.int .i64 0,.int .i64 x392004_50] (0,0) _ rfl (qp BK383.out) Try.underlying86 rfl (by kernel_rfl)) rfl ?_
           exact ⟨rf,hb4 GE383.out GE388.out GE389.out GE391.out⟩
          rw [if_neg c100] at H
          obtain ⟨c100b0,c100b1⟩:=eqN c100
          have H':=Aside0.mk H
          clear H
          have hnb110:=NB391_383.out
          have hnc110:=NB383_391.out
          have hnb111:=NB391_388.out
          have hnc111:=NB388_391.out
          have hnb112:=NB391_389.out
          have hnc112:=NB389_391.out
          obtain ⟨Z113_0,Z113_1,Z113_2,Z113_3,Z113_4,Y113_0,Y113_1,Y113_2,Y113_3,Y113_4⟩:=cel5 BK391.out
          go_wp2_with (first|(refine gl 112 86 Try.func112 #[.agg #[.int .i64 x16_1,.int .i64 x392001_62,.int .i64 x392002_73,.int .i64 0,.int .i64 x392004_50]] ?_;(with_reducible refine (impl_encode.calls kj73 x16_1 x392001_62 x392002_73 0 x392004_50 t407 _ A99.out).mono ?_);rintro e w114 ⟨rfl,hb⟩;refine ⟨_,rfl,?_⟩;have n0_:=Aside0.mk (Kd.R_below (kr HO_14.out) hb);have n1_:=Aside0.mk (blk_below (qx BK383.out) hb);have n2_:=Aside0.mk (blk_below (qx BK388.out) hb);have n3_:=Aside0.mk (blk_below (qx BK389.out) hb);have n4_:=Aside0.mk (blk_below (qx BK391.out) hb);replace HB:=Aside0.mk (below_step (hb4 GE383.out GE388.out GE389.out GE391.out) hb);clear HO_14;clear BK383;clear BK388;clear BK389;clear BK391;have HO_14:=n0_;have BK383:=n1_;have BK388:=n2_;have BK389:=n3_;have BK391:=n4_;clear n0_ n1_ n2_ n3_ n4_;(try clear hb);(try clear hb2);(try clear hk);(try clear hi)))
          go_roundg kj73
          case measure=>have:=HK1.out;have:=HJ8.out;have:=HK3.out;have:=HJ50.out;have:=HJ62.out;have:=HJ73.out;omega
          case rel=>exact ⟨(wrap64 (x16_1+1)),(x384000_1),(x384001_1),(x384002_1),(x384003_1),(x384004_1),rs,H',⟨by have:=HK1.out;have:=HJ8.out;have:=HK3.out;have:=HJ50.out;have:=HJ62.out;have:=HJ73.out;omega⟩,⟨by (with_reducible repeat (first|apply Kd.R_alloc|apply Kd.R_drewN|apply Kd.R_drew));exact Kd.R_mono HO_14.out (fun _ hk=>trivial)⟩,⟨qx BK383.out⟩,⟨hb4 GE383.out GE388.out GE389.out GE391.out⟩⟩
    rw [if_neg c8] at H
    exact absurd H (by simp)
   rw [if_neg c7] at H
   exact absurd H (by simp)
  rw [if_neg c6] at H
  have c6b0:decide (x16_1 < (t384.length:Int))=false:=decide_eq_false c6
  clear c6
  simp only [Option.some.injEq,Prod.mk.injEq] at H
  obtain ⟨rfl,rfl,rfl,rfl,rfl,rfl⟩:=H
  obtain ⟨Z115_0,Z115_1,Z115_2,Z115_3,Z115_4,Y115_0,Y115_1,Y115_2,Y115_3,Y115_4⟩:=cel5 BK383.out
  go_wp2
  refine bodyPost_ret (results_ct rfl _ _ gb383 86 #[.int .i64 0,.int .i64 0,.int .i64 0,.int .i64 0,.int .i64 0] (0,0) _ rfl (qp BK383.out) Try.underlying86 rfl (by kernel_rfl)) rfl ?_
  exact ⟨rf,hb1 GE383.out⟩
end Go.Proofs.Ythepmdlpjdlajaa.PFnExactLintImage
