/- The walk of FnExactCallsOf: each Go function that the law reaches as a plain Lean function, with the proof that a call does what it says; no conditions. Written by a program for this claim. -/
import Derived.Test.YthepmdlpjdlajaaPFnExactCallsOfx0
import Derived.Test.YthepmdlpjdlajaaPFnExactCallsOfx1
import Derived.Test.YthepmdlpjdlajaaPFnExactCallsOfx5
namespace Go.Proofs.Ythepmdlpjdlajaa.PFnExactCallsOf
open Go.RowKit Go.Proofs.YthepmdlpjdlajaaW.PrintWords Go.Proofs.YthepmdlpjdlajaaW.PrintLast Go.Proofs.YthepmdlpjdlajaaW.PrintMore
attribute [local go_sem] max2_int min2_int max_two min_two max_three min_three max_four min_four   -- for this text's walks alone
set_option linter.unusedVariables false
set_option linter.unusedSimpArgs false
mutual
def spec_l06Calls.l0:Nat→List (S86)→Int→List Int→Int→Option (List Int)
  | 0,_,_,_,_=>none
  | k+1,x0,x1,x5,x6=>if x6 < (x0.length:Int) then (if 0≤x6 then (if ((rd_T86 x0 x6).f0)=3 then (spec_l06Calls.j1 k x0 x1 x5 x6 (((rd_T86 x0 x6).f1) != 1)) else (spec_l06Calls.j1 k x0 x1 x5 x6 true)) else (none)) else (some x5)
def spec_l06Calls.j1:Nat→List (S86)→Int→List Int→Int→Bool→Option (List Int)
  | 0,_,_,_,_,_=>none
  | k+1,x0,x1,x5,x6,x30=>if x30=true then (spec_l06Calls.l0 k x0 x1 x5 (wrap64 (x6+1))) else (if 0≤x6 then (if x6 < (x0.length:Int) then ((spec_l06HasInt.f k x5 (wrap64 ((wrap64 (x1+(wrap64 (4*x6))))+((rd_T86 x0 x6).f4)))).bind fun t228=>(if t228=true then (spec_l06Calls.l0 k x0 x1 x5 (wrap64 (x6+1))) else (spec_l06Calls.l1 k x0 x1 x5 x6 (wrap64 ((wrap64 (x1+(wrap64 (4*x6))))+((rd_T86 x0 x6).f4))) 0))) else (none)) else (none))
def spec_l06Calls.l1:Nat→List (S86)→Int→List Int→Int→Int→Int→Option (List Int)
  | 0,_,_,_,_,_,_=>none
  | k+1,x0,x1,x5,x6,x7,x8=>if x8 < (x5.length:Int) then (if 0≤x8 then (if (rd x5 x8) < x7 then (spec_l06Calls.l1 k x0 x1 x5 x6 x7 (wrap64 (x8+1))) else ((some (([]:List Int):List Int)).bind fun y230=>(if x8≤(x5.length:Int) then ((some (x5.drop (x8:Int).toNat:List Int)).bind fun y233=>(if y230.length+y233.length < 17592186044416 then ((some (y230 ++ y233:List Int)).bind fun y237=>((some (x5.take (x8:Int).toNat:List Int)).bind fun y240=>(if y240.length < 17592186044416 then ((some (y240 ++ [x7]:List Int)).bind fun y243=>(if y243.length+y237.length < 17592186044416 then (spec_l06Calls.l0 k x0 x1 (y243 ++ y237) (wrap64 (x6+1))) else (none))) else (none)))) else (none))) else (none)))) else (none)) else ((some (([]:List Int):List Int)).bind fun y249=>(if 0≤x8 then (if x8≤(x5.length:Int) then ((some (x5.drop (x8:Int).toNat:List Int)).bind fun y252=>(if y249.length+y252.length < 17592186044416 then ((some (y249 ++ y252:List Int)).bind fun y256=>((some (x5.take (x8:Int).toNat:List Int)).bind fun y259=>(if y259.length < 17592186044416 then ((some (y259 ++ [x7]:List Int)).bind fun y262=>(if y262.length+y256.length < 17592186044416 then (spec_l06Calls.l0 k x0 x1 (y262 ++ y256) (wrap64 (x6+1))) else (none))) else (none)))) else (none))) else (none)) else (none)))
end
def spec_l06Calls.f (k:Nat) (l0:List (S86)) (a1:Int):Option (List Int):=spec_l06Calls.l0 k l0 a1 (([]:List Int)) 0
theorem spec_l06Calls.mono_l : ∀ k,(∀ y0 y1 y2 y3,LeO (spec_l06Calls.l0 k y0 y1 y2 y3) (spec_l06Calls.l0 (k+1) y0 y1 y2 y3))∧(∀ y0 y1 y2 y3 y4,LeO (spec_l06Calls.j1 k y0 y1 y2 y3 y4) (spec_l06Calls.j1 (k+1) y0 y1 y2 y3 y4))∧(∀ y0 y1 y2 y3 y4 y5,LeO (spec_l06Calls.l1 k y0 y1 y2 y3 y4 y5) (spec_l06Calls.l1 (k+1) y0 y1 y2 y3 y4 y5))
  | 0=>⟨fun _ _ _ _ r h=>by simp [spec_l06Calls.l0] at h,fun _ _ _ _ _ r h=>by simp [spec_l06Calls.j1] at h,fun _ _ _ _ _ _ r h=>by simp [spec_l06Calls.l1] at h⟩
  | k+1=>by
    obtain ⟨ih0,ih1,ih2⟩:=spec_l06Calls.mono_l k
    refine ⟨?_,?_,?_⟩<;>intros<;>(first|unfold spec_l06Calls.l0|unfold spec_l06Calls.j1|unfold spec_l06Calls.l1)<;>repeat' (with_reducible first|apply ih0|apply ih1|apply ih2|apply spec_l06HasInt.mono|apply LeO.refl|apply LeO.none|apply LeO.ite|refine LeO.bind ?_ (fun _=>?_))
theorem spec_l06Calls.mono : ∀ a0 a1 k,LeO (spec_l06Calls.f k a0 a1) (spec_l06Calls.f (k+1) a0 a1):=by
 intro a0 a1 k
 obtain ⟨ih0,ih1,ih2⟩:=spec_l06Calls.mono_l k
 unfold spec_l06Calls.f
 repeat' (with_reducible first|apply ih0|apply ih1|apply ih2|apply spec_l06HasInt.mono|apply LeO.refl|apply LeO.none|apply LeO.ite|refine LeO.bind ?_ (fun _=>?_))
set_option maxHeartbeats 8000000 in
set_option maxRecDepth 100000 in
theorem spec_l06Calls.calls (k:Nat) (A0:Option Addr) (c0:Nat) (l0:List (S86)) (a1:Int) (r:List Int) (w:World) (hr0:Kd.C k86 w A0 l0.length l0) (hc0:l0.length≤c0) (h:spec_l06Calls.f k l0 a1=some r) :
    Calls Try.prog 47 #[.slice A0 l0.length c0,.int .i64 a1] w fun e w'=>∃ v0_:Value,e=.returned (v0_)∧Kd.R (Kd.int .i64) 3 w' w.heap.size (fun _=>True) v0_ r∧Below w.heap.size w w':=by
 have HR0:=Aside0.mk hr0
 have HC0:=Aside0.mk hc0
 clear hr0 hc0
 have HB:=Aside0.mk (Below.refl w.heap.size w)
 have H:(spec_l06Calls.l0 k l0 a1 (([]:List Int)) 0)=some r:=h
 clear h
 obtain ⟨y222,hy222⟩ : ∃ y_:List Int,y_=(([]:List Int)):=⟨_,rfl⟩
 replace H:(spec_l06Calls.l0 k l0 a1 y222 0)=some r:=by first|(rw [hy222];with_reducible exact H)|(have H2_:=(Option.bind_some _ _).symm.trans H;rw [hy222];with_reducible exact H2_)|(have H2_:=(Option.bind_some _ _).symm.trans H;with_reducible exact H2_)|with_reducible exact H|(rw [hy222];exact H)|exact H
 have Ny222:=Aside0.mk hy222
 clear hy222
 have H':=Aside0.mk H
 clear H
 go_enter Try.func47,Try.ntmps47
 go_wp2_with (first|((with_reducible refine gate_dst (N:=10) rfl ?_);refine Kd.R_lit (Kd.int .i64) _ 3 ?hg (N:=10) ?hd (xs:=([]:List Int)) (inner:=[]) (ok:=fun _=>True) (okp:=fun _=>True) ?hr ?hp (fun _ hk=>hk) trivial (Below.refl _ _) (Nat.le_refl _) (by simp) ?_;(case hd=>rfl);(case hg=>rfl);(case hr=>first|(go_simp;done)|(go_simp;rfl));(case hp=>exact (Reps.none _ _));intro v223 w3 ho4 hb hg_ hnew_;clear hg_ hnew_;(first|rw [← Ny222.out] at ho4|(simp only [Int.reduceToNat] at ho4;rw [← Ny222.out] at ho4));have n0_:=Aside0.mk (Kd.R_lower ho4 (below_size (by repeat (with_reducible first|exact HB.out|apply Q4|apply Q5|apply Q6))));have n1_:=Aside0.mk (below_step (by repeat (with_reducible first|exact HB.out|apply Q4|apply Q5|apply Q6)) hb);clear HB;have HO224:=n0_;have HB:=n1_;clear n0_ n1_;clear hb ho4))
 go_loopg [5,6] k (fun kq v5 v6 w'=>∃ (x5_1:List Int) (x6_1:Int),v6=.int .i64 x6_1∧Aside0 (spec_l06Calls.l0 kq l0 a1 x5_1 x6_1=some r)∧Aside0 (kq≤k)∧Aside0 (Kd.R (Kd.int .i64) 3 w' w.heap.size (fun _=>True) v5 x5_1)∧Aside0 (Below w.heap.size w w'))
 case atStart=>exact ⟨(y222),(0),(by first|rfl|(simp;done)|(simp [*];done)),H',⟨Nat.le_refl _⟩,⟨by (with_reducible repeat (first|apply Kd.R_alloc|apply Kd.R_drewN|apply Kd.R_drew));exact HO224.out⟩,⟨by repeat (with_reducible first|exact HB.out|apply Q4|apply Q5|apply Q6)⟩⟩
 clear H'
 obtain ⟨x5_1,x6_1,rfl,HA,HK1,HO_5,HB⟩:=hrel
 cases gk with
 | zero=>exact absurd HA.out (by simp [spec_l06Calls.l0])
 | succ k1 =>
  have H:=HA.out
  clear HA
  simp only [spec_l06Calls.l0] at H
  by_cases c5:x6_1 < (l0.length:Int)
  ·rw [if_pos c5] at H
   have c5b0:decide (x6_1 < (l0.length:Int))=true:=decide_eq_true c5
   clear c5
   have HC6:=Aside0.mk H
   clear H
   go_upto_region 5 with (fail)
   go_cut [30] (fun v30 wc=>∃ (kq:Nat) (x30_5:Bool),v30=.bool x30_5∧Aside0 (spec_l06Calls.j1 kq l0 a1 x5_1 x6_1 x30_5=some r)∧Aside0 (kq≤k1)∧Aside0 (Kd.R (Kd.int .i64) 3 wc w.heap.size (fun _=>True) u5 x5_1)∧Aside0 (Below w.heap.size w wc))
   case first=>
    have H:=HC6.out
    clear HC6
    by_cases c7:0≤x6_1
    ·rw [if_pos c7] at H
     have c7b0:decide (0≤x6_1)=true:=decide_eq_true c7
     clear c7
     (first|rw [c7b0]|(simp only [i64_w,i32_w];rw [c7b0])|skip)
     by_cases c8:((rd_T86 l0 x6_1).f0)=3
     ·rw [if_pos c8] at H
      obtain ⟨c8b0,c8b1⟩:=eqP c8
      clear c8
      have H':=Aside0.mk H
      clear H
      have p225:0≤(x6_1:Int):=of_decide_eq_true (by first|(with_reducible assumption)|assumption)
      have q225:x6_1 < (l0.length:Int):=of_decide_eq_true (by first|(with_reducible assumption)|assumption)
      obtain ⟨ad225,e225,hx225_0,hx225_1,hx225_2,hx225_3,hx225_4⟩:=at_T86 HR0.out x6_1 p225 q225
      cases e225
      replace hx225_0:=(HB.out.cell (World.block_lt_of_cell? w _ hx225_0)).trans hx225_0
      replace hx225_1:=(HB.out.cell (World.block_lt_of_cell? w _ hx225_1)).trans hx225_1
      replace hx225_2:=(HB.out.cell (World.block_lt_of_cell? w _ hx225_2)).trans hx225_2
      replace hx225_3:=(HB.out.cell (World.block_lt_of_cell? w _ hx225_3)).trans hx225_3
      replace hx225_4:=(HB.out.cell (World.block_lt_of_cell? w _ hx225_4)).trans hx225_4
      replace p225:=eq_true p225
      replace q225:=eq_true q225
      have p226:0≤(x6_1:Int):=of_decide_eq_true (by first|(with_reducible assumption)|assumption)
      have q226:x6_1 < (l0.length:Int):=of_decide_eq_true (by first|(with_reducible assumption)|assumption)
      obtain ⟨ad226,e226,hx226_0,hx226_1,hx226_2,hx226_3,hx226_4⟩:=at_T86 HR0.out x6_1 p226 q226
      obtain rfl:ad225=ad226:=(by injection e226)
      replace hx226_0:=(HB.out.cell (World.block_lt_of_cell? w _ hx226_0)).trans hx226_0
      replace hx226_1:=(HB.out.cell (World.block_lt_of_cell? w _ hx226_1)).trans hx226_1
      replace hx226_2:=(HB.out.cell (World.block_lt_of_cell? w _ hx226_2)).trans hx226_2
      replace hx226_3:=(HB.out.cell (World.block_lt_of_cell? w _ hx226_3)).trans hx226_3
      replace hx226_4:=(HB.out.cell (World.block_lt_of_cell? w _ hx226_4)).trans hx226_4
      replace p226:=eq_true p226
      replace q226:=eq_true q226
      go_wp2
      go_meet
      case rel=>exact ⟨_,((((rd_T86 l0 x6_1).f1) != 1)),(by first|rfl|(simp;done)|(simp [*];done)),H',⟨by have:=HK1.out;first|omega|exact Nat.le_refl _⟩,⟨by (with_reducible repeat (first|apply Kd.R_alloc|apply Kd.R_drewN|apply Kd.R_drew));exact HO_5.out⟩,⟨by repeat (with_reducible first|exact HB.out|apply Q4|apply Q5|apply Q6)⟩⟩
     rw [if_neg c8] at H
     obtain ⟨c8b0,c8b1⟩:=eqN c8
     have H':=Aside0.mk H
     clear H
     have p225:0≤(x6_1:Int):=of_decide_eq_true (by first|(with_reducible assumption)|assumption)
     have q225:x6_1 < (l0.length:Int):=of_decide_eq_true (by first|(with_reducible assumption)|assumption)
     obtain ⟨ad225,e225,hx225_0,hx225_1,hx225_2,hx225_3,hx225_4⟩:=at_T86 HR0.out x6_1 p225 q225
     cases e225
     replace hx225_0:=(HB.out.cell (World.block_lt_of_cell? w _ hx225_0)).trans hx225_0
     replace hx225_1:=(HB.out.cell (World.block_lt_of_cell? w _ hx225_1)).trans hx225_1
     replace hx225_2:=(HB.out.cell (World.block_lt_of_cell? w _ hx225_2)).trans hx225_2
     replace hx225_3:=(HB.out.cell (World.block_lt_of_cell? w _ hx225_3)).trans hx225_3
     replace hx225_4:=(HB.out.cell (World.block_lt_of_cell? w _ hx225_4)).trans hx225_4
     replace p225:=eq_true p225
     replace q225:=eq_true q225
     go_wp2
     go_meet
     case rel=>exact ⟨_,(true),(by first|rfl|(simp;done)|(simp [*];done)),H',⟨by have:=HK1.out;first|omega|exact Nat.le_refl _⟩,⟨by (with_reducible repeat (first|apply Kd.R_alloc|apply Kd.R_drewN|apply Kd.R_drew));exact HO_5.out⟩,⟨by repeat (with_reducible first|exact HB.out|apply Q4|apply Q5|apply Q6)⟩⟩
    rw [if_neg c7] at H
    exact absurd H (by simp)
   clear HC6
   try clear c5b0
   obtain ⟨kq,x30_5,rfl,HA,HJ5,HO_5,HB⟩:=hcut
   cases kq with
   | zero=>exact absurd HA.out (by simp [spec_l06Calls.j1])
   | succ kj5 =>
    have H:=HA.out
    clear HA
    simp only [spec_l06Calls.j1] at H
    by_cases c9:x30_5=true
    ·subst c9
     rw [if_pos rfl] at H
     have H':=Aside0.mk H
     clear H
     go_wp2
     go_roundg kj5
     case measure=>have:=HK1.out;have:=HJ5.out;omega
     case rel=>exact ⟨(x5_1),(wrap64 (x6_1+1)),(by first|rfl|(simp;done)|(simp [*];done)),H',⟨by have:=HK1.out;have:=HJ5.out;omega⟩,⟨by (with_reducible repeat (first|apply Kd.R_alloc|apply Kd.R_drewN|apply Kd.R_drew));exact HO_5.out⟩,⟨by repeat (with_reducible first|exact HB.out|apply Q4|apply Q5|apply Q6)⟩⟩
    replace c9:=Bool.eq_false_iff.mpr c9
    subst c9
    rw [if_neg (show ¬ (false=true) by decide)] at H
    by_cases c10:0≤x6_1
    ·rw [if_pos c10] at H
     have c10b0:decide (0≤x6_1)=true:=decide_eq_true c10
     clear c10
     by_cases c11:x6_1 < (l0.length:Int)
     ·rw [if_pos c11] at H
      have c11b0:decide (x6_1 < (l0.length:Int))=true:=decide_eq_true c11
      clear c11
      obtain ⟨t228,A12,H⟩:=bindA H
      by_cases c13:t228=true
      ·subst c13
       rw [if_pos rfl] at H
       have H':=Aside0.mk H
       clear H
       have p227:0≤(x6_1:Int):=of_decide_eq_true (by first|(with_reducible assumption)|assumption)
       have q227:x6_1 < (l0.length:Int):=of_decide_eq_true (by first|(with_reducible assumption)|assumption)
       obtain ⟨ad227,e227,hx227_0,hx227_1,hx227_2,hx227_3,hx227_4⟩:=at_T86 HR0.out x6_1 p227 q227
       cases e227
       replace hx227_0:=(HB.out.cell (World.block_lt_of_cell? w _ hx227_0)).trans hx227_0
       replace hx227_1:=(HB.out.cell (World.block_lt_of_cell? w _ hx227_1)).trans hx227_1
       replace hx227_2:=(HB.out.cell (World.block_lt_of_cell? w _ hx227_2)).trans hx227_2
       replace hx227_3:=(HB.out.cell (World.block_lt_of_cell? w _ hx227_3)).trans hx227_3
       replace hx227_4:=(HB.out.cell (World.block_lt_of_cell? w _ hx227_4)).trans hx227_4
       replace p227:=eq_true p227
       replace q227:=eq_true q227
       obtain ⟨Ao14,co14,eo14⟩:=Kd.R_slice HO_5.out
       subst eo14
       go_wp2_with (first|((with_reducible refine gate_callee (f:=78) rfl ?_);refine goesL_ (some 43) rfl rfl Try.func78 (by kernel_rfl) rfl #[.slice Ao14 x5_1.length co14,.int .i64 (wrap64 ((wrap64 (a1+(wrap64 (4*x6_1))))+((rd_T86 l0 x6_1).f4)))] rfl (by (try simp only [List.map_toArray,List.map_cons,List.map_nil]);first|done|rfl|(simp only [List.length_drop,List.length_take];rfl)) ?_;(with_reducible refine (spec_l06HasInt.calls kj5 _ _ x5_1 (wrap64 ((wrap64 (a1+(wrap64 (4*x6_1))))+((rd_T86 l0 x6_1).f4))) true _ ?side1 ?side2 A12.out).mono ?_);(case side1=>repeat (first|exact (Kd.R_reads' HO_5.out).2.2|(with_reducible refine Kd.C_alloc ?_ _)|(with_reducible refine Kd.C_drewN ?_ _)|(with_reducible refine Kd.C_drew ?_)));(case side2=>exact (Kd.R_reads' HO_5.out).2.1);rintro e w' ⟨rfl,⟨nd,rfl⟩⟩;refine ⟨_,rfl,?_⟩))
       go_roundg kj5
       case measure=>have:=HK1.out;have:=HJ5.out;omega
       case rel=>exact ⟨(x5_1),(wrap64 (x6_1+1)),(by first|rfl|(simp;done)|(simp [*];done)),H',⟨by have:=HK1.out;have:=HJ5.out;omega⟩,⟨by (with_reducible repeat (first|apply Kd.R_alloc|apply Kd.R_drewN|apply Kd.R_drew));exact HO_5.out⟩,⟨by repeat (with_reducible first|exact HB.out|apply Q4|apply Q5|apply Q6)⟩⟩
      replace c13:=Bool.eq_false_iff.mpr c13
      subst c13
      rw [if_neg (show ¬ (false=true) by decide)] at H
      have H':=Aside0.mk H
      clear H
      have p227:0≤(x6_1:Int):=of_decide_eq_true (by first|(with_reducible assumption)|assumption)
      have q227:x6_1 < (l0.length:Int):=of_decide_eq_true (by first|(with_reducible assumption)|assumption)
      obtain ⟨ad227,e227,hx227_0,hx227_1,hx227_2,hx227_3,hx227_4⟩:=at_T86 HR0.out x6_1 p227 q227
      cases e227
      replace hx227_0:=(HB.out.cell (World.block_lt_of_cell? w _ hx227_0)).trans hx227_0
      replace hx227_1:=(HB.out.cell (World.block_lt_of_cell? w _ hx227_1)).trans hx227_1
      replace hx227_2:=(HB.out.cell (World.block_lt_of_cell? w _ hx227_2)).trans hx227_2
      replace hx227_3:=(HB.out.cell (World.block_lt_of_cell? w _ hx227_3)).trans hx227_3
      replace hx227_4:=(HB.out.cell (World.block_lt_of_cell? w _ hx227_4)).trans hx227_4
      replace p227:=eq_true p227
      replace q227:=eq_true q227
      obtain ⟨Ao15,co15,eo15⟩:=Kd.R_slice HO_5.out
      subst eo15
      go_wp2_with (first|((with_reducible refine gate_callee (f:=78) rfl ?_);refine goesL_ (some 43) rfl rfl Try.func78 (by kernel_rfl) rfl #[.slice Ao15 x5_1.length co15,.int .i64 (wrap64 ((wrap64 (a1+(wrap64 (4*x6_1))))+((rd_T86 l0 x6_1).f4)))] rfl (by (try simp only [List.map_toArray,List.map_cons,List.map_nil]);first|done|rfl|(simp only [List.length_drop,List.length_take];rfl)) ?_;(with_reducible refine (spec_l06HasInt.calls kj5 _ _ x5_1 (wrap64 ((wrap64 (a1+(wrap64 (4*x6_1))))+((rd_T86 l0 x6_1).f4))) false _ ?side1 ?side2 A12.out).mono ?_);(case side1=>repeat (first|exact (Kd.R_reads' HO_5.out).2.2|(with_reducible refine Kd.C_alloc ?_ _)|(with_reducible refine Kd.C_drewN ?_ _)|(with_reducible refine Kd.C_drew ?_)));(case side2=>exact (Kd.R_reads' HO_5.out).2.1);rintro e w' ⟨rfl,⟨nd,rfl⟩⟩;refine ⟨_,rfl,?_⟩))
      go_loopg [8] kj5 (fun kq v8 w'=>∃ (x8_3:Int),v8=.int .i64 x8_3∧Aside0 (spec_l06Calls.l1 kq l0 a1 x5_1 x6_1 (wrap64 ((wrap64 (a1+(wrap64 (4*x6_1))))+((rd_T86 l0 x6_1).f4))) x8_3=some r)∧Aside0 (kq≤kj5)∧Aside0 (Kd.R (Kd.int .i64) 3 w' w.heap.size (fun _=>True) (.slice Ao15 x5_1.length co15) x5_1)∧Aside0 (Below w.heap.size w w'))
      case atStart=>exact ⟨(0),(by first|rfl|(simp;done)|(simp [*];done)),H',⟨Nat.le_refl _⟩,⟨by (with_reducible repeat (first|apply Kd.R_alloc|apply Kd.R_drewN|apply Kd.R_drew));exact HO_5.out⟩,⟨by repeat (with_reducible first|exact HB.out|apply Q4|apply Q5|apply Q6)⟩⟩
      clear H'
      try clear c9
      try clear c10b0
      try clear c11b0
      try clear c13
      try clear hx227_0 hx227_1 hx227_2 hx227_3 hx227_4
      try clear p227
      try clear q227
      obtain ⟨x8_3,rfl,HA,HK3,HO_5,HB⟩:=hrel
      cases gk with
      | zero=>exact absurd HA.out (by simp [spec_l06Calls.l1])
      | succ k3 =>
       have H:=HA.out
       clear HA
       simp only [spec_l06Calls.l1] at H
       by_cases c16:x8_3 < (x5_1.length:Int)
       ·rw [if_pos c16] at H
        have c16b0:decide (x8_3 < (x5_1.length:Int))=true:=decide_eq_true c16
        clear c16
        by_cases c17:0≤x8_3
        ·rw [if_pos c17] at H
         have c17b0:decide (0≤x8_3)=true:=decide_eq_true c17
         clear c17
         by_cases c18:(rd x5_1 x8_3) < (wrap64 ((wrap64 (a1+(wrap64 (4*x6_1))))+((rd_T86 l0 x6_1).f4)))
         ·rw [if_pos c18] at H
          have c18b0:decide ((rd x5_1 x8_3) < (wrap64 ((wrap64 (a1+(wrap64 (4*x6_1))))+((rd_T86 l0 x6_1).f4))))=true:=decide_eq_true c18
          clear c18
          have H':=Aside0.mk H
          clear H
          have p229:0≤(x8_3:Int):=of_decide_eq_true (by first|(with_reducible assumption)|assumption)
          have q229:x8_3 < (x5_1.length:Int):=of_decide_eq_true (by first|(with_reducible assumption)|assumption)
          obtain ⟨ad229,e229,hx229_0⟩:=Kd.at_int (Kd.R_reads' HO_5.out).2.2 x8_3 p229 q229
          cases e229
          replace p229:=eq_true p229
          replace q229:=eq_true q229
          go_wp2
          go_roundg k3
          case measure=>have:=HK1.out;have:=HJ5.out;have:=HK3.out;omega
          case rel=>exact ⟨(wrap64 (x8_3+1)),(by first|rfl|(simp;done)|(simp [*];done)),H',⟨by have:=HK1.out;have:=HJ5.out;have:=HK3.out;omega⟩,⟨by (with_reducible repeat (first|apply Kd.R_alloc|apply Kd.R_drewN|apply Kd.R_drew));exact HO_5.out⟩,⟨by repeat (with_reducible first|exact HB.out|apply Q4|apply Q5|apply Q6)⟩⟩
         rw [if_neg c18] at H
         have c18b0:decide ((rd x5_1 x8_3) < (wrap64 ((wrap64 (a1+(wrap64 (4*x6_1))))+((rd_T86 l0 x6_1).f4))))=false:=decide_eq_false c18
         clear c18
         obtain ⟨y230,hy230⟩ : ∃ y_:List Int,y_=(([]:List Int)):=⟨_,rfl⟩
         replace H:(if x8_3≤(x5_1.length:Int) then ((some (x5_1.drop (x8_3:Int).toNat:List Int)).bind fun y233=>(if y230.length+y233.length < 17592186044416 then ((some (y230 ++ y233:List Int)).bind fun y237=>((some (x5_1.take (x8_3:Int).toNat:List Int)).bind fun y240=>(if y240.length < 17592186044416 then ((some (y240 ++ [(wrap64 ((wrap64 (a1+(wrap64 (4*x6_1))))+((rd_T86 l0 x6_1).f4)))]:List Int)).bind fun y243=>(if y243.length+y237.length < 17592186044416 then (spec_l06Calls.l0 k3 l0 a1 (y243 ++ y237) (wrap64 (x6_1+1))) else (none))) else (none)))) else (none))) else (none))=some r:=by first|(rw [hy230];with_reducible exact H)|(have H2_:=(Option.bind_some _ _).symm.trans H;rw [hy230];with_reducible exact H2_)|(have H2_:=(Option.bind_some _ _).symm.trans H;with_reducible exact H2_)|with_reducible exact H|(rw [hy230];exact H)|exact H
         have Ny230:=Aside0.mk hy230
         clear hy230
         have c19b0:=eq_true (of_decide_eq_true (by first|(with_reducible assumption)|assumption):0≤x8_3)
         by_cases c20:x8_3≤(x5_1.length:Int)
         ·rw [if_pos c20] at H
          have c20b0:=eq_true c20
          have c20b1:decide (x8_3≤(x5_1.length:Int))=true:=decide_eq_true c20
          clear c20
          obtain ⟨y233,hy233⟩ : ∃ y_:List Int,y_=(x5_1.drop (x8_3:Int).toNat):=⟨_,rfl⟩
          replace H:(if y230.length+y233.length < 17592186044416 then ((some (y230 ++ y233:List Int)).bind fun y237=>((some (x5_1.take (x8_3:Int).toNat:List Int)).bind fun y240=>(if y240.length < 17592186044416 then ((some (y240 ++ [(wrap64 ((wrap64 (a1+(wrap64 (4*x6_1))))+((rd_T86 l0 x6_1).f4)))]:List Int)).bind fun y243=>(if y243.length+y237.length < 17592186044416 then (spec_l06Calls.l0 k3 l0 a1 (y243 ++ y237) (wrap64 (x6_1+1))) else (none))) else (none)))) else (none))=some r:=by first|(rw [hy233];with_reducible exact H)|(have H2_:=(Option.bind_some _ _).symm.trans H;rw [hy233];with_reducible exact H2_)|(have H2_:=(Option.bind_some _ _).symm.trans H;with_reducible exact H2_)|with_reducible exact H|(rw [hy233];exact H)|exact H
          have Ny233:=Aside0.mk hy233
          clear hy233
          by_cases c21:y230.length+y233.length < 17592186044416
          ·rw [if_pos c21] at H
           have LMc21:=Aside0.mk c21
           clear c21
           obtain ⟨y237,hy237⟩ : ∃ y_:List Int,y_=(y230 ++ y233):=⟨_,rfl⟩
           replace H:((some (x5_1.take (x8_3:Int).toNat:List Int)).bind fun y240=>(if y240.length < 17592186044416 then ((some (y240 ++ [(wrap64 ((wrap64 (a1+(wrap64 (4*x6_1))))+((rd_T86 l0 x6_1).f4)))]:List Int)).bind fun y243=>(if y243.length+y237.length < 17592186044416 then (spec_l06Calls.l0 k3 l0 a1 (y243 ++ y237) (wrap64 (x6_1+1))) else (none))) else (none)))=some r:=by first|(rw [hy237];with_reducible exact H)|(have H2_:=(Option.bind_some _ _).symm.trans H;rw [hy237];with_reducible exact H2_)|(have H2_:=(Option.bind_some _ _).symm.trans H;with_reducible exact H2_)|with_reducible exact H|(rw [hy237];exact H)|exact H
           have Ny237:=Aside0.mk hy237
           clear hy237
           have c22b0:=eq_true (of_decide_eq_true (by first|(with_reducible assumption)|assumption):x8_3≤(x5_1.length:Int))
           obtain ⟨y240,hy240⟩ : ∃ y_:List Int,y_=(x5_1.take (x8_3:Int).toNat):=⟨_,rfl⟩
           replace H:(if y240.length < 17592186044416 then ((some (y240 ++ [(wrap64 ((wrap64 (a1+(wrap64 (4*x6_1))))+((rd_T86 l0 x6_1).f4)))]:List Int)).bind fun y243=>(if y243.length+y237.length < 17592186044416 then (spec_l06Calls.l0 k3 l0 a1 (y243 ++ y237) (wrap64 (x6_1+1))) else (none))) else (none))=some r:=by first|(rw [hy240];with_reducible exact H)|(have H2_:=(Option.bind_some _ _).symm.trans H;rw [hy240];with_reducible exact H2_)|(have H2_:=(Option.bind_some _ _).symm.trans H;with_reducible exact H2_)|with_reducible exact H|(rw [hy240];exact H)|exact H
           have Ny240:=Aside0.mk hy240
           clear hy240
           by_cases c23:y240.length < 17592186044416
           ·rw [if_pos c23] at H
            have LMc23:=Aside0.mk c23
            clear c23
            obtain ⟨y243,hy243⟩ : ∃ y_:List Int,y_=(y240 ++ [(wrap64 ((wrap64 (a1+(wrap64 (4*x6_1))))+((rd_T86 l0 x6_1).f4)))]):=⟨_,rfl⟩
            replace H:(if y243.length+y237.length < 17592186044416 then (spec_l06Calls.l0 k3 l0 a1 (y243 ++ y237) (wrap64 (x6_1+1))) else (none))=some r:=by first|(rw [hy243];with_reducible exact H)|(have H2_:=(Option.bind_some _ _).symm.trans H;rw [hy243];with_reducible exact H2_)|(have H2_:=(Option.bind_some _ _).symm.trans H;with_reducible exact H2_)|with_reducible exact H|(rw [hy243];exact H)|exact H
            have Ny243:=Aside0.mk hy243
            clear hy243
            by_cases c24:y243.length+y237.length < 17592186044416
            ·rw [if_pos c24] at H
             have LMc24:=Aside0.mk c24
             clear c24
             obtain ⟨y246,hy246⟩ : ∃ y_:List Int,y_=(y243 ++ y237):=⟨_,rfl⟩
             replace H:(spec_l06Calls.l0 k3 l0 a1 y246 (wrap64 (x6_1+1)))=some r:=by first|(rw [hy246];with_reducible exact H)|(have H2_:=(Option.bind_some _ _).symm.trans H;rw [hy246];with_reducible exact H2_)|(have H2_:=(Option.bind_some _ _).symm.trans H;with_reducible exact H2_)|with_reducible exact H|(rw [hy246];exact H)|exact H
             have Ny246:=Aside0.mk hy246
             clear hy246
             have H':=Aside0.mk H
             clear H
             have p229:0≤(x8_3:Int):=of_decide_eq_true (by first|(with_reducible assumption)|assumption)
             have q229:x8_3 < (x5_1.length:Int):=of_decide_eq_true (by first|(with_reducible assumption)|assumption)
             obtain ⟨ad229,e229,hx229_0⟩:=Kd.at_int (Kd.R_reads' HO_5.out).2.2 x8_3 p229 q229
             cases e229
             replace p229:=eq_true p229
             replace q229:=eq_true q229
             go_wp2_with (first|((with_reducible refine gate_dst (N:=58) rfl ?_);refine Kd.R_lit (Kd.int .i64) _ 3 ?hg (N:=58) ?hd (xs:=([]:List Int)) (inner:=[]) (ok:=fun _=>True) (okp:=fun _=>True) ?hr ?hp (fun _ hk=>hk) trivial (Below.refl _ _) (Nat.le_refl _) (by simp) ?_;(case hd=>rfl);(case hg=>rfl);(case hr=>first|(go_simp;done)|(go_simp;rfl));(case hp=>exact (Reps.none _ _));intro v231 w25 ho26 hb hg_ hnew_;clear hg_ hnew_;(first|rw [← Ny230.out] at ho26|(simp only [Int.reduceToNat] at ho26;rw [← Ny230.out] at ho26));have n0_:=Aside0.mk (Kd.R_elder' (by (with_reducible repeat (first|apply Kd.R_alloc|apply Kd.R_drewN|apply Kd.R_drew));exact HO_5.out) (Kd.R_base ho26) hb);have n1_:=Aside0.mk (Kd.R_lower (Kd.R_new' ho26 (Kd.R_lt (by (with_reducible repeat (first|apply Kd.R_alloc|apply Kd.R_drewN|apply Kd.R_drew));exact HO_5.out))) (below_size (by repeat (with_reducible first|exact HB.out|apply Q4|apply Q5|apply Q6))));have n2_:=Aside0.mk (below_step (by repeat (with_reducible first|exact HB.out|apply Q4|apply Q5|apply Q6)) hb);clear HO_5;clear HB;have HO_5:=n0_;have HO232:=n1_;have HB:=n2_;clear n0_ n1_ n2_;clear hb ho26;have q27:(x8_3:Int)≤((x5_1.length:Int):Int):=of_decide_eq_true (by first|(with_reducible assumption)|assumption);obtain ⟨i027,hi027,_,hsz27,_⟩:=info_parts info3;have hroom27:x5_1.length≤co15:=(Kd.R_reads' HO_5.out).2.1;have hC27:Kd.C (Kd.int .i64) _ (some ad229) x5_1.length x5_1:=(Kd.R_reads' HO_5.out).2.2;have q027:(0:Int)≤(x8_3:Int):=of_decide_eq_true (by first|(with_reducible assumption)|assumption);have hcut27:=cut_from (P:=Try.prog) 37 3 .i64 Try.underlying37 hi027 1 hsz27 (some ad229) x5_1.length co15 x8_3 q027 q27;have hr27:=Kd.C_drop (m:=(x8_3:Int).toNat) (c:=co15) hC27 (by omega) hroom27;obtain ⟨A27,hA27⟩ : ∃ A1,A1=(if co15=(x8_3:Int).toNat then (some ad229) else ((some ad229):Option Addr).map (·.add ((x8_3:Int).toNat*1))):=⟨_,rfl⟩;obtain ⟨c27,hc27⟩ : ∃ c1,c1=co15 - (x8_3:Int).toNat:=⟨_,rfl⟩;have hy27:y233.length=x5_1.length - (x8_3:Int).toNat:=(by rw [Ny233.out,List.length_drop]<;>omega);rw [show (x5_1).drop (x8_3:Int).toNat=y233 from Ny233.out.symm] at hr27;replace hr27:Kd.C (Kd.int .i64) _ A27 y233.length y233:=(by rw [hA27];exact hr27);rw [← hy27,← hA27,← hc27] at hcut27;have HR236:=Aside0.mk hr27;have HC236:=Aside0.mk (show y233.length≤c27 from by rw [hy27,hc27];exact Nat.sub_le_sub_right hroom27 _);clear hr27 hC27 hroom27 hi027 hsz27 hc27;have KY27:=Aside0.mk hy27;have KA27:=Aside0.mk hA27;clear hy27 hA27;have KL27:=Aside0.mk (show (x8_3:Int).toNat≤x5_1.length from by omega);replace q27:=eq_true q27)|((with_reducible refine gate_builtin (b:=.append) (xs:=#[.tmp 58,.tmp 61]) rfl ?_);at_builtin;refine Kd.R_append_rows (Kd.int .i64) (w0:=w) w.heap.size rfl (.tmp 58) (.tmp 61) 37 3 (.int .i64 0) 8 rfl Try.underlying37 info3 rfl (by decide) (by omega) v231 y230 y233 _ _ _ (fun k_=>some k_≠(.slice (some ad229) x5_1.length co15:Value).ownBlock) (fun _=>False) rfl rfl ?aO ?aR (fun _ _ h=>h) (fun _ h=>h.elim) ?aF ?aB ?aS ?aL ?_;(case aR=>repeat (first|exact (by repeat (first|(with_reducible exact HR236.out)|(with_reducible refine Kd.C_alloc ?_ _)|(with_reducible refine Kd.C_drewN ?_ _)|(with_reducible refine Kd.C_drew ?_)|exact HR236.out))|(with_reducible refine Kd.C_alloc ?_ _)|(with_reducible refine Kd.C_drewN ?_ _)|(with_reducible refine Kd.C_drew ?_)));(case aB=>exact (by repeat (with_reducible first|exact HB.out|apply Q4|apply Q5|apply Q6)));(case aF=>exact (fun k_ hk=>Kd.fresh' (Kd.R_lt (by (with_reducible repeat (first|apply Kd.R_alloc|apply Kd.R_drewN|apply Kd.R_drew));exact HO_5.out)) k_ hk));(case aO=>exact (by (with_reducible repeat (first|apply Kd.R_alloc|apply Kd.R_drewN|apply Kd.R_drew));exact Kd.R_mono HO232.out (fun _ hk=>hk.2)));(case aS=>exact (below_size (by repeat (with_reducible first|exact HB.out|apply Q4|apply Q5|apply Q6))));(case aL=>have:=LMc21.out;omega);intro v238 w28 ho hb hg hat;rw [← Ny237.out] at ho;have n0_:=Aside0.mk (Kd.R_after (ok:=(fun _=>True)) (by (with_reducible repeat (first|apply Kd.R_alloc|apply Kd.R_drewN|apply Kd.R_drew));exact HO_5.out) hg hat);have n1_:=Aside0.mk (hb);have n2_:=Aside0.mk ((show Kd.C (Kd.int .i64) w28 A27 y233.length y233 from by rw [Ny233.out,KA27.out];exact Kd.C_drop (m:=(x8_3:Int).toNat) (c:=co15) ((Kd.R_reads' (Kd.R_after (ok:=(fun _=>True)) (by (with_reducible repeat (first|apply Kd.R_alloc|apply Kd.R_drewN|apply Kd.R_drew));exact HO_5.out) hg hat)).2.2) KL27.out ((Kd.R_reads' (Kd.R_after (ok:=(fun _=>True)) (by (with_reducible repeat (first|apply Kd.R_alloc|apply Kd.R_drewN|apply Kd.R_drew));exact HO_5.out) hg hat)).2.1)));have n3_:=Aside0.mk (ho);clear HO_5;clear HB;clear HR236;clear HO232;have HO_5:=n0_;have HB:=n1_;have HR236:=n2_;have HO239:=n3_;clear n0_ n1_ n2_ n3_;clear ho hb hg hat;have q29:(x8_3:Int)≤((x5_1.length:Int):Int):=of_decide_eq_true (by first|(with_reducible assumption)|assumption);obtain ⟨i029,hi029,_,hsz29,_⟩:=info_parts info3;have hcut29:=cut_to (P:=Try.prog) 37 3 .i64 Try.underlying37 hi029 (some ad229) x5_1.length co15 x8_3 (of_decide_eq_true (by first|(with_reducible assumption)|assumption)) q29 (Kd.R_reads' HO_5.out).2.1;have hr29:=Kd.R_take (m:=(x8_3:Int).toNat) HO_5.out (by omega);have hy29:y240.length=(x8_3:Int).toNat:=(by rw [Ny240.out,List.length_take];omega);rw [← Ny240.out] at hr29;rw [← hy29] at hr29 hcut29;clear hy29 hi029 hsz29 HO_5;have HO242:=Aside0.mk hr29;clear hr29;replace q29:=eq_true q29)|((with_reducible refine gate_builtin (b:=.append) (xs:=#[.tmp 65,.tmp 67]) rfl ?_);at_builtin;refine Kd.R_append (Kd.int .i64) (w0:=w) w.heap.size rfl (.tmp 65) (.tmp 67) 37 3 (.int .i64 0) 8 rfl Try.underlying37 info3 rfl (by decide) (by omega) (.slice (some ad229) y240.length co15) y240 (wrap64 ((wrap64 (a1+(wrap64 (4*x6_1))))+((rd_T86 l0 x6_1).f4))) [.int .i64 (wrap64 ((wrap64 (a1+(wrap64 (4*x6_1))))+((rd_T86 l0 x6_1).f4)))] (fun k_=>some k_≠(v238:Value).ownBlock) (fun _=>False) rfl rfl ?aP (fun _ hk=>hk.elim) ?aF ?aO ?aB ?aS ?aL ?_;(case aP=>exact rfl);(case aB=>exact (by repeat (with_reducible first|exact HB.out|apply Q4|apply Q5|apply Q6)));(case aF=>exact (fun k_ hk=>Kd.fresh' (Kd.R_lt (by (with_reducible repeat (first|apply Kd.R_alloc|apply Kd.R_drewN|apply Kd.R_drew));exact HO239.out)) k_ hk));(case aO=>exact (by (with_reducible repeat (first|apply Kd.R_alloc|apply Kd.R_drewN|apply Kd.R_drew));exact Kd.R_mono HO242.out (fun _ hk=>hk.2)));(case aS=>exact (below_size (by repeat (with_reducible first|exact HB.out|apply Q4|apply Q5|apply Q6))));(case aL=>have:=LMc23.out;omega);intro v244 w30 ho hb hg hat;rw [← Ny243.out] at ho;have n0_:=Aside0.mk (Kd.R_after (ok:=(fun _=>True)) (by (with_reducible repeat (first|apply Kd.R_alloc|apply Kd.R_drewN|apply Kd.R_drew));exact Kd.R_mono HO239.out (fun _ hk=>⟨trivial,hk⟩)) hg hat);have n1_:=Aside0.mk (hb);have n2_:=Aside0.mk (ho);clear HO239;clear HB;clear HO242;have HO239:=n0_;have HB:=n1_;have HO245:=n2_;clear n0_ n1_ n2_;clear ho hb hg hat;obtain ⟨Ao32,co32,eo32⟩:=Kd.R_slice HO239.out;subst eo32)|((with_reducible refine gate_builtin (b:=.append) (xs:=#[.tmp 68,.tmp 69]) rfl ?_);at_builtin;refine Kd.R_append_rows (Kd.int .i64) (w0:=w) w.heap.size rfl (.tmp 68) (.tmp 69) 37 3 (.int .i64 0) 8 rfl Try.underlying37 info3 rfl (by decide) (by omega) v244 y243 y237 _ _ _ (fun k_=>some k_≠(.slice Ao32 y237.length co32:Value).ownBlock) (fun _=>False) rfl rfl ?aO ?aR (fun _ _ h=>h) (fun _ h=>h.elim) ?aF ?aB ?aS ?aL ?_;(case aR=>repeat (first|exact (Kd.R_reads' HO239.out).2.2|(with_reducible refine Kd.C_alloc ?_ _)|(with_reducible refine Kd.C_drewN ?_ _)|(with_reducible refine Kd.C_drew ?_)));(case aB=>exact (by repeat (with_reducible first|exact HB.out|apply Q4|apply Q5|apply Q6)));(case aF=>exact (fun k_ hk=>Kd.fresh' (Kd.R_lt (by (with_reducible repeat (first|apply Kd.R_alloc|apply Kd.R_drewN|apply Kd.R_drew));exact HO239.out)) k_ hk));(case aO=>exact (by (with_reducible repeat (first|apply Kd.R_alloc|apply Kd.R_drewN|apply Kd.R_drew));exact HO245.out));(case aS=>exact (below_size (by repeat (with_reducible first|exact HB.out|apply Q4|apply Q5|apply Q6))));(case aL=>have:=LMc24.out;omega);intro v247 w31 ho hb hg hat;rw [← Ny246.out] at ho;have n0_:=Aside0.mk (Kd.R_after (ok:=(fun _=>True)) (by (with_reducible repeat (first|apply Kd.R_alloc|apply Kd.R_drewN|apply Kd.R_drew));exact HO239.out) hg hat);have n1_:=Aside0.mk (hb);have n2_:=Aside0.mk (ho);clear HO239;clear HB;clear HO245;have HO239:=n0_;have HB:=n1_;have HO248:=n2_;clear n0_ n1_ n2_;clear ho hb hg hat))
             go_roundg k3
             case measure=>have:=HK1.out;have:=HJ5.out;have:=HK3.out;omega
             case rel=>exact ⟨(y246),(wrap64 (x6_1+1)),(by first|rfl|(simp;done)|(simp [*];done)),H',⟨by have:=HK1.out;have:=HJ5.out;have:=HK3.out;omega⟩,⟨by (with_reducible repeat (first|apply Kd.R_alloc|apply Kd.R_drewN|apply Kd.R_drew));exact Kd.R_mono HO248.out (fun _ hk=>trivial)⟩,⟨by repeat (with_reducible first|exact HB.out|apply Q4|apply Q5|apply Q6)⟩⟩
            rw [if_neg c24] at H
            exact absurd H (by simp)
           rw [if_neg c23] at H
           exact absurd H (by simp)
          rw [if_neg c21] at H
          exact absurd H (by simp)
         rw [if_neg c20] at H
         exact absurd H (by simp)
        rw [if_neg c17] at H
        exact absurd H (by simp)
       rw [if_neg c16] at H
       have c16b0:decide (x8_3 < (x5_1.length:Int))=false:=decide_eq_false c16
       clear c16
       obtain ⟨y249,hy249⟩ : ∃ y_:List Int,y_=(([]:List Int)):=⟨_,rfl⟩
       replace H:(if 0≤x8_3 then (if x8_3≤(x5_1.length:Int) then ((some (x5_1.drop (x8_3:Int).toNat:List Int)).bind fun y252=>(if y249.length+y252.length < 17592186044416 then ((some (y249 ++ y252:List Int)).bind fun y256=>((some (x5_1.take (x8_3:Int).toNat:List Int)).bind fun y259=>(if y259.length < 17592186044416 then ((some (y259 ++ [(wrap64 ((wrap64 (a1+(wrap64 (4*x6_1))))+((rd_T86 l0 x6_1).f4)))]:List Int)).bind fun y262=>(if y262.length+y256.length < 17592186044416 then (spec_l06Calls.l0 k3 l0 a1 (y262 ++ y256) (wrap64 (x6_1+1))) else (none))) else (none)))) else (none))) else (none)) else (none))=some r:=by first|(rw [hy249];with_reducible exact H)|(have H2_:=(Option.bind_some _ _).symm.trans H;rw [hy249];with_reducible exact H2_)|(have H2_:=(Option.bind_some _ _).symm.trans H;with_reducible exact H2_)|with_reducible exact H|(rw [hy249];exact H)|exact H
       have Ny249:=Aside0.mk hy249
       clear hy249
       by_cases c33:0≤x8_3
       ·rw [if_pos c33] at H
        have c33b0:=eq_true c33
        have c33b1:decide (0≤x8_3)=true:=decide_eq_true c33
        clear c33
        by_cases c34:x8_3≤(x5_1.length:Int)
        ·rw [if_pos c34] at H
         have c34b0:=eq_true c34
         have c34b1:decide (x8_3≤(x5_1.length:Int))=true:=decide_eq_true c34
         clear c34
         obtain ⟨y252,hy252⟩ : ∃ y_:List Int,y_=(x5_1.drop (x8_3:Int).toNat):=⟨_,rfl⟩
         replace H:(if y249.length+y252.length < 17592186044416 then ((some (y249 ++ y252:List Int)).bind fun y256=>((some (x5_1.take (x8_3:Int).toNat:List Int)).bind fun y259=>(if y259.length < 17592186044416 then ((some (y259 ++ [(wrap64 ((wrap64 (a1+(wrap64 (4*x6_1))))+((rd_T86 l0 x6_1).f4)))]:List Int)).bind fun y262=>(if y262.length+y256.length < 17592186044416 then (spec_l06Calls.l0 k3 l0 a1 (y262 ++ y256) (wrap64 (x6_1+1))) else (none))) else (none)))) else (none))=some r:=by first|(rw [hy252];with_reducible exact H)|(have H2_:=(Option.bind_some _ _).symm.trans H;rw [hy252];with_reducible exact H2_)|(have H2_:=(Option.bind_some _ _).symm.trans H;with_reducible exact H2_)|with_reducible exact H|(rw [hy252];exact H)|exact H
         have Ny252:=Aside0.mk hy252
         clear hy252
         by_cases c35:y249.length+y252.length < 17592186044416
         ·rw [if_pos c35] at H
          have LMc35:=Aside0.mk c35
          clear c35
          obtain ⟨y256,hy256⟩ : ∃ y_:List Int,y_=(y249 ++ y252):=⟨_,rfl⟩
          replace H:((some (x5_1.take (x8_3:Int).toNat:List Int)).bind fun y259=>(if y259.length < 17592186044416 then ((some (y259 ++ [(wrap64 ((wrap64 (a1+(wrap64 (4*x6_1))))+((rd_T86 l0 x6_1).f4)))]:List Int)).bind fun y262=>(if y262.length+y256.length < 17592186044416 then (spec_l06Calls.l0 k3 l0 a1 (y262 ++ y256) (wrap64 (x6_1+1))) else (none))) else (none)))=some r:=by first|(rw [hy256];with_reducible exact H)|(have H2_:=(Option.bind_some _ _).symm.trans H;rw [hy256];with_reducible exact H2_)|(have H2_:=(Option.bind_some _ _).symm.trans H;with_reducible exact H2_)|with_reducible exact H|(rw [hy256];exact H)|exact H
          have Ny256:=Aside0.mk hy256
          clear hy256
          have c36b0:=eq_true (of_decide_eq_true (by first|(with_reducible assumption)|assumption):x8_3≤(x5_1.length:Int))
          obtain ⟨y259,hy259⟩ : ∃ y_:List Int,y_=(x5_1.take (x8_3:Int).toNat):=⟨_,rfl⟩
          replace H:(if y259.length < 17592186044416 then ((some (y259 ++ [(wrap64 ((wrap64 (a1+(wrap64 (4*x6_1))))+((rd_T86 l0 x6_1).f4)))]:List Int)).bind fun y262=>(if y262.length+y256.length < 17592186044416 then (spec_l06Calls.l0 k3 l0 a1 (y262 ++ y256) (wrap64 (x6_1+1))) else (none))) else (none))=some r:=by first|(rw [hy259];with_reducible exact H)|(have H2_:=(Option.bind_some _ _).symm.trans H;rw [hy259];with_reducible exact H2_)|(have H2_:=(Option.bind_some _ _).symm.trans H;with_reducible exact H2_)|with_reducible exact H|(rw [hy259];exact H)|exact H
          have Ny259:=Aside0.mk hy259
          clear hy259
          by_cases c37:y259.length < 17592186044416
          ·rw [if_pos c37] at H
           have LMc37:=Aside0.mk c37
           clear c37
           obtain ⟨y262,hy262⟩ : ∃ y_:List Int,y_=(y259 ++ [(wrap64 ((wrap64 (a1+(wrap64 (4*x6_1))))+((rd_T86 l0 x6_1).f4)))]):=⟨_,rfl⟩
           replace H:(if y262.length+y256.length < 17592186044416 then (spec_l06Calls.l0 k3 l0 a1 (y262 ++ y256) (wrap64 (x6_1+1))) else (none))=some r:=by first|(rw [hy262];with_reducible exact H)|(have H2_:=(Option.bind_some _ _).symm.trans H;rw [hy262];with_reducible exact H2_)|(have H2_:=(Option.bind_some _ _).symm.trans H;with_reducible exact H2_)|with_reducible exact H|(rw [hy262];exact H)|exact H
           have Ny262:=Aside0.mk hy262
           clear hy262
           by_cases c38:y262.length+y256.length < 17592186044416
           ·rw [if_pos c38] at H
            have LMc38:=Aside0.mk c38
            clear c38
            obtain ⟨y265,hy265⟩ : ∃ y_:List Int,y_=(y262 ++ y256):=⟨_,rfl⟩
            replace H:(spec_l06Calls.l0 k3 l0 a1 y265 (wrap64 (x6_1+1)))=some r:=by first|(rw [hy265];with_reducible exact H)|(have H2_:=(Option.bind_some _ _).symm.trans H;rw [hy265];with_reducible exact H2_)|(have H2_:=(Option.bind_some _ _).symm.trans H;with_reducible exact H2_)|with_reducible exact H|(rw [hy265];exact H)|exact H
            have Ny265:=Aside0.mk hy265
            clear hy265
            have H':=Aside0.mk H
            clear H
            go_wp2_with (first|((with_reducible refine gate_dst (N:=58) rfl ?_);refine Kd.R_lit (Kd.int .i64) _ 3 ?hg (N:=58) ?hd (xs:=([]:List Int)) (inner:=[]) (ok:=fun _=>True) (okp:=fun _=>True) ?hr ?hp (fun _ hk=>hk) trivial (Below.refl _ _) (Nat.le_refl _) (by simp) ?_;(case hd=>rfl);(case hg=>rfl);(case hr=>first|(go_simp;done)|(go_simp;rfl));(case hp=>exact (Reps.none _ _));intro v250 w39 ho40 hb hg_ hnew_;clear hg_ hnew_;(first|rw [← Ny249.out] at ho40|(simp only [Int.reduceToNat] at ho40;rw [← Ny249.out] at ho40));have n0_:=Aside0.mk (Kd.R_elder' (by (with_reducible repeat (first|apply Kd.R_alloc|apply Kd.R_drewN|apply Kd.R_drew));exact HO_5.out) (Kd.R_base ho40) hb);have n1_:=Aside0.mk (Kd.R_lower (Kd.R_new' ho40 (Kd.R_lt (by (with_reducible repeat (first|apply Kd.R_alloc|apply Kd.R_drewN|apply Kd.R_drew));exact HO_5.out))) (below_size (by repeat (with_reducible first|exact HB.out|apply Q4|apply Q5|apply Q6))));have n2_:=Aside0.mk (below_step (by repeat (with_reducible first|exact HB.out|apply Q4|apply Q5|apply Q6)) hb);clear HO_5;clear HB;have HO_5:=n0_;have HO251:=n1_;have HB:=n2_;clear n0_ n1_ n2_;clear hb ho40;have q41:(x8_3:Int)≤((x5_1.length:Int):Int):=of_decide_eq_true (by first|(with_reducible assumption)|assumption);obtain ⟨i041,hi041,_,hsz41,_⟩:=info_parts info3;have hroom41:x5_1.length≤co15:=(Kd.R_reads' HO_5.out).2.1;have hC41:Kd.C (Kd.int .i64) _ Ao15 x5_1.length x5_1:=(Kd.R_reads' HO_5.out).2.2;have q041:(0:Int)≤(x8_3:Int):=of_decide_eq_true (by first|(with_reducible assumption)|assumption);have hcut41:=cut_from (P:=Try.prog) 37 3 .i64 Try.underlying37 hi041 1 hsz41 Ao15 x5_1.length co15 x8_3 q041 q41;have hr41:=Kd.C_drop (m:=(x8_3:Int).toNat) (c:=co15) hC41 (by omega) hroom41;obtain ⟨A41,hA41⟩ : ∃ A1,A1=(if co15=(x8_3:Int).toNat then Ao15 else (Ao15:Option Addr).map (·.add ((x8_3:Int).toNat*1))):=⟨_,rfl⟩;obtain ⟨c41,hc41⟩ : ∃ c1,c1=co15 - (x8_3:Int).toNat:=⟨_,rfl⟩;have hy41:y252.length=x5_1.length - (x8_3:Int).toNat:=(by rw [Ny252.out,List.length_drop]<;>omega);rw [show (x5_1).drop (x8_3:Int).toNat=y252 from Ny252.out.symm] at hr41;replace hr41:Kd.C (Kd.int .i64) _ A41 y252.length y252:=(by rw [hA41];exact hr41);rw [← hy41,← hA41,← hc41] at hcut41;have HR255:=Aside0.mk hr41;have HC255:=Aside0.mk (show y252.length≤c41 from by rw [hy41,hc41];exact Nat.sub_le_sub_right hroom41 _);clear hr41 hC41 hroom41 hi041 hsz41 hc41;have KY41:=Aside0.mk hy41;have KA41:=Aside0.mk hA41;clear hy41 hA41;have KL41:=Aside0.mk (show (x8_3:Int).toNat≤x5_1.length from by omega);replace q41:=eq_true q41)|((with_reducible refine gate_builtin (b:=.append) (xs:=#[.tmp 58,.tmp 61]) rfl ?_);at_builtin;refine Kd.R_append_rows (Kd.int .i64) (w0:=w) w.heap.size rfl (.tmp 58) (.tmp 61) 37 3 (.int .i64 0) 8 rfl Try.underlying37 info3 rfl (by decide) (by omega) v250 y249 y252 _ _ _ (fun k_=>some k_≠(.slice Ao15 x5_1.length co15:Value).ownBlock) (fun _=>False) rfl rfl ?aO ?aR (fun _ _ h=>h) (fun _ h=>h.elim) ?aF ?aB ?aS ?aL ?_;(case aR=>repeat (first|exact (by repeat (first|(with_reducible exact HR255.out)|(with_reducible refine Kd.C_alloc ?_ _)|(with_reducible refine Kd.C_drewN ?_ _)|(with_reducible refine Kd.C_drew ?_)|exact HR255.out))|(with_reducible refine Kd.C_alloc ?_ _)|(with_reducible refine Kd.C_drewN ?_ _)|(with_reducible refine Kd.C_drew ?_)));(case aB=>exact (by repeat (with_reducible first|exact HB.out|apply Q4|apply Q5|apply Q6)));(case aF=>exact (fun k_ hk=>Kd.fresh' (Kd.R_lt (by (with_reducible repeat (first|apply Kd.R_alloc|apply Kd.R_drewN|apply Kd.R_drew));exact HO_5.out)) k_ hk));(case aO=>exact (by (with_reducible repeat (first|apply Kd.R_alloc|apply Kd.R_drewN|apply Kd.R_drew));exact Kd.R_mono HO251.out (fun _ hk=>hk.2)));(case aS=>exact (below_size (by repeat (with_reducible first|exact HB.out|apply Q4|apply Q5|apply Q6))));(case aL=>have:=LMc35.out;omega);intro v257 w42 ho hb hg hat;rw [← Ny256.out] at ho;have n0_:=Aside0.mk (Kd.R_after (ok:=(fun _=>True)) (by (with_reducible repeat (first|apply Kd.R_alloc|apply Kd.R_drewN|apply Kd.R_drew));exact HO_5.out) hg hat);have n1_:=Aside0.mk (hb);have n2_:=Aside0.mk ((show Kd.C (Kd.int .i64) w42 A41 y252.length y252 from by rw [Ny252.out,KA41.out];exact Kd.C_drop (m:=(x8_3:Int).toNat) (c:=co15) ((Kd.R_reads' (Kd.R_after (ok:=(fun _=>True)) (by (with_reducible repeat (first|apply Kd.R_alloc|apply Kd.R_drewN|apply Kd.R_drew));exact HO_5.out) hg hat)).2.2) KL41.out ((Kd.R_reads' (Kd.R_after (ok:=(fun _=>True)) (by (with_reducible repeat (first|apply Kd.R_alloc|apply Kd.R_drewN|apply Kd.R_drew));exact HO_5.out) hg hat)).2.1)));have n3_:=Aside0.mk (ho);clear HO_5;clear HB;clear HR255;clear HO251;have HO_5:=n0_;have HB:=n1_;have HR255:=n2_;have HO258:=n3_;clear n0_ n1_ n2_ n3_;clear ho hb hg hat;have q43:(x8_3:Int)≤((x5_1.length:Int):Int):=of_decide_eq_true (by first|(with_reducible assumption)|assumption);obtain ⟨i043,hi043,_,hsz43,_⟩:=info_parts info3;have hcut43:=cut_to (P:=Try.prog) 37 3 .i64 Try.underlying37 hi043 Ao15 x5_1.length co15 x8_3 (of_decide_eq_true (by first|(with_reducible assumption)|assumption)) q43 (Kd.R_reads' HO_5.out).2.1;have hr43:=Kd.R_take (m:=(x8_3:Int).toNat) HO_5.out (by omega);have hy43:y259.length=(x8_3:Int).toNat:=(by rw [Ny259.out,List.length_take];omega);rw [← Ny259.out] at hr43;rw [← hy43] at hr43 hcut43;clear hy43 hi043 hsz43 HO_5;have HO261:=Aside0.mk hr43;clear hr43;replace q43:=eq_true q43)|((with_reducible refine gate_builtin (b:=.append) (xs:=#[.tmp 65,.tmp 67]) rfl ?_);at_builtin;refine Kd.R_append (Kd.int .i64) (w0:=w) w.heap.size rfl (.tmp 65) (.tmp 67) 37 3 (.int .i64 0) 8 rfl Try.underlying37 info3 rfl (by decide) (by omega) (.slice Ao15 y259.length co15) y259 (wrap64 ((wrap64 (a1+(wrap64 (4*x6_1))))+((rd_T86 l0 x6_1).f4))) [.int .i64 (wrap64 ((wrap64 (a1+(wrap64 (4*x6_1))))+((rd_T86 l0 x6_1).f4)))] (fun k_=>some k_≠(v257:Value).ownBlock) (fun _=>False) rfl rfl ?aP (fun _ hk=>hk.elim) ?aF ?aO ?aB ?aS ?aL ?_;(case aP=>exact rfl);(case aB=>exact (by repeat (with_reducible first|exact HB.out|apply Q4|apply Q5|apply Q6)));(case aF=>exact (fun k_ hk=>Kd.fresh' (Kd.R_lt (by (with_reducible repeat (first|apply Kd.R_alloc|apply Kd.R_drewN|apply Kd.R_drew));exact HO258.out)) k_ hk));(case aO=>exact (by (with_reducible repeat (first|apply Kd.R_alloc|apply Kd.R_drewN|apply Kd.R_drew));exact Kd.R_mono HO261.out (fun _ hk=>hk.2)));(case aS=>exact (below_size (by repeat (with_reducible first|exact HB.out|apply Q4|apply Q5|apply Q6))));(case aL=>have:=LMc37.out;omega);intro v263 w44 ho hb hg hat;rw [← Ny262.out] at ho;have n0_:=Aside0.mk (Kd.R_after (ok:=(fun _=>True)) (by (with_reducible repeat (first|apply Kd.R_alloc|apply Kd.R_drewN|apply Kd.R_drew));exact Kd.R_mono HO258.out (fun _ hk=>⟨trivial,by first|exact hk|(revert hk;cases Ao15<;>exact id)⟩)) hg hat);have n1_:=Aside0.mk (hb);have n2_:=Aside0.mk (ho);clear HO258;clear HB;clear HO261;have HO258:=n0_;have HB:=n1_;have HO264:=n2_;clear n0_ n1_ n2_;clear ho hb hg hat;obtain ⟨Ao46,co46,eo46⟩:=Kd.R_slice HO258.out;subst eo46)|((with_reducible refine gate_builtin (b:=.append) (xs:=#[.tmp 68,.tmp 69]) rfl ?_);at_builtin;refine Kd.R_append_rows (Kd.int .i64) (w0:=w) w.heap.size rfl (.tmp 68) (.tmp 69) 37 3 (.int .i64 0) 8 rfl Try.underlying37 info3 rfl (by decide) (by omega) v263 y262 y256 _ _ _ (fun k_=>some k_≠(.slice Ao46 y256.length co46:Value).ownBlock) (fun _=>False) rfl rfl ?aO ?aR (fun _ _ h=>h) (fun _ h=>h.elim) ?aF ?aB ?aS ?aL ?_;(case aR=>repeat (first|exact (Kd.R_reads' HO258.out).2.2|(with_reducible refine Kd.C_alloc ?_ _)|(with_reducible refine Kd.C_drewN ?_ _)|(with_reducible refine Kd.C_drew ?_)));(case aB=>exact (by repeat (with_reducible first|exact HB.out|apply Q4|apply Q5|apply Q6)));(case aF=>exact (fun k_ hk=>Kd.fresh' (Kd.R_lt (by (with_reducible repeat (first|apply Kd.R_alloc|apply Kd.R_drewN|apply Kd.R_drew));exact HO258.out)) k_ hk));(case aO=>exact (by (with_reducible repeat (first|apply Kd.R_alloc|apply Kd.R_drewN|apply Kd.R_drew));exact HO264.out));(case aS=>exact (below_size (by repeat (with_reducible first|exact HB.out|apply Q4|apply Q5|apply Q6))));(case aL=>have:=LMc38.out;omega);intro v266 w45 ho hb hg hat;rw [← Ny265.out] at ho;have n0_:=Aside0.mk (Kd.R_after (ok:=(fun _=>True)) (by (with_reducible repeat (first|apply Kd.R_alloc|apply Kd.R_drewN|apply Kd.R_drew));exact HO258.out) hg hat);have n1_:=Aside0.mk (hb);have n2_:=Aside0.mk (ho);clear HO258;clear HB;clear HO264;have HO258:=n0_;have HB:=n1_;have HO267:=n2_;clear n0_ n1_ n2_;clear ho hb hg hat))
            go_roundg k3
            case measure=>have:=HK1.out;have:=HJ5.out;have:=HK3.out;omega
            case rel=>exact ⟨(y265),(wrap64 (x6_1+1)),(by first|rfl|(simp;done)|(simp [*];done)),H',⟨by have:=HK1.out;have:=HJ5.out;have:=HK3.out;omega⟩,⟨by (with_reducible repeat (first|apply Kd.R_alloc|apply Kd.R_drewN|apply Kd.R_drew));exact Kd.R_mono HO267.out (fun _ hk=>trivial)⟩,⟨by repeat (with_reducible first|exact HB.out|apply Q4|apply Q5|apply Q6)⟩⟩
           rw [if_neg c38] at H
           exact absurd H (by simp)
          rw [if_neg c37] at H
          exact absurd H (by simp)
         rw [if_neg c35] at H
         exact absurd H (by simp)
        rw [if_neg c34] at H
        exact absurd H (by simp)
       rw [if_neg c33] at H
       exact absurd H (by simp)
     rw [if_neg c11] at H
     exact absurd H (by simp)
    rw [if_neg c10] at H
    exact absurd H (by simp)
  rw [if_neg c5] at H
  have c5b0:decide (x6_1 < (l0.length:Int))=false:=decide_eq_false c5
  clear c5
  obtain rfl:=Option.some.inj H
  go_wp2
  go_ret
  exact ⟨_,by first|rfl|(simp [errW_none,errW_some]<;>rfl)|(simp [*,errW_none,errW_some]<;>rfl),by (with_reducible repeat (first|apply Kd.R_alloc|apply Kd.R_drewN|apply Kd.R_drew));exact HO_5.out,by repeat (with_reducible first|exact HB.out|apply Q4|apply Q5|apply Q6)⟩
def spec_CallsOf.j0:Nat→ByteArray→Int→Bool→Option (List Int × Int)
  | 0,_,_,_=>none
  | k+1,x0,x1,x19=>if x19=true then (some ((([]:List Int)),4)) else ((spec_l06Size.f x0).bind fun t275=>(if t275=true then ((spec_l06Instrs.f k x0).bind fun bt279=>(if bt279.2≥0 then (some ((([]:List Int)),10)) else ((spec_l06Calls.f k bt279.1 x1).bind fun t286=>(some (t286,0))))) else (some ((([]:List Int)),8))))
def spec_CallsOf.f (k:Nat) (a0:ByteArray) (a1:Int):Option (List Int × Int):=if (a0.size:Int) > 65536 then (some ((([]:List Int)),2)) else ((spec_l01In.f a1 0 1048575).bind fun t271=>(if t271=true then (spec_CallsOf.j0 k a0 a1 ((Int.tmod a1 4) != 0)) else (spec_CallsOf.j0 k a0 a1 true)))
theorem spec_CallsOf.mono_l : ∀ k,(∀ y0 y1 y2,LeO (spec_CallsOf.j0 k y0 y1 y2) (spec_CallsOf.j0 (k+1) y0 y1 y2))
  | 0=>fun _ _ _ r h=>by simp [spec_CallsOf.j0] at h
  | k+1=>by
    have ih0:=spec_CallsOf.mono_l k
    · intro y0 y1 y2
      unfold spec_CallsOf.j0
      repeat' (with_reducible first|apply ih0|apply spec_l06Calls.mono|apply spec_l06Instrs.mono|apply LeO.refl|apply LeO.none|apply LeO.ite|refine LeO.bind ?_ (fun _=>?_))
theorem spec_CallsOf.mono : ∀ a0 a1 k,LeO (spec_CallsOf.f k a0 a1) (spec_CallsOf.f (k+1) a0 a1):=by
 intro a0 a1 k
 have ih0:=spec_CallsOf.mono_l k
 unfold spec_CallsOf.f
 repeat' (with_reducible first|apply ih0|apply spec_l06Calls.mono|apply spec_l06Instrs.mono|apply LeO.refl|apply LeO.none|apply LeO.ite|refine LeO.bind ?_ (fun _=>?_))
set_option maxHeartbeats 8000000 in
set_option maxRecDepth 100000 in
theorem spec_CallsOf.calls (k:Nat) (a0:ByteArray) (a1:Int) (r1:List Int) (r2:Int) (w:World) (h:spec_CallsOf.f k a0 a1=some (r1,r2)) :
    Calls Try.prog 22 #[.string a0,.int .i64 a1] w fun e w'=>∃ v0_:Value,e=.returned (.tuple #[v0_,.int .i64 r2])∧Kd.R (Kd.int .i64) 3 w' w.heap.size (fun _=>True) v0_ r1∧Below w.heap.size w w':=by
 have HB:=Aside0.mk (Below.refl w.heap.size w)
 have H:(if (a0.size:Int) > 65536 then (some ((([]:List Int)),2)) else ((spec_l01In.f a1 0 1048575).bind fun t271=>(if t271=true then (spec_CallsOf.j0 k a0 a1 ((Int.tmod a1 4) != 0)) else (spec_CallsOf.j0 k a0 a1 true))))=some (r1,r2):=h
 clear h
 by_cases c3:(a0.size:Int) > 65536
 ·rw [if_pos c3] at H
  have c3b0:decide (65536 < (a0.size:Int))=true:=decide_eq_true c3
  have c3b1:decide (65536 < a0.size)=true:=decide_eq_true (by omega)
  clear c3
  obtain ⟨y268,hy268⟩ : ∃ y_:List Int,y_=(([]:List Int)):=⟨_,rfl⟩
  replace H:(some (y268,2))=some (r1,r2):=by first|(rw [hy268];with_reducible exact H)|(have H2_:=(Option.bind_some _ _).symm.trans H;rw [hy268];with_reducible exact H2_)|(have H2_:=(Option.bind_some _ _).symm.trans H;with_reducible exact H2_)|with_reducible exact H|(rw [hy268];exact H)|exact H
  have Ny268:=Aside0.mk hy268
  clear hy268
  simp only [Option.some.injEq,Prod.mk.injEq] at H
  obtain ⟨rfl,rfl⟩:=H
  go_enter Try.func22,Try.ntmps22
  go_wp2_with (first|((with_reducible refine gate_dst (N:=11) rfl ?_);refine Kd.R_lit (Kd.int .i64) _ 3 ?hg (N:=11) ?hd (xs:=([]:List Int)) (inner:=[]) (ok:=fun _=>True) (okp:=fun _=>True) ?hr ?hp (fun _ hk=>hk) trivial (Below.refl _ _) (Nat.le_refl _) (by simp) ?_;(case hd=>rfl);(case hg=>rfl);(case hr=>first|(go_simp;done)|(go_simp;rfl));(case hp=>exact (Reps.none _ _));intro v269 w4 ho5 hb hg_ hnew_;clear hg_ hnew_;(first|rw [← Ny268.out] at ho5|(simp only [Int.reduceToNat] at ho5;rw [← Ny268.out] at ho5));have n0_:=Aside0.mk (Kd.R_lower ho5 (below_size (by repeat (with_reducible first|exact HB.out|apply Q4|apply Q5|apply Q6))));have n1_:=Aside0.mk (below_step (by repeat (with_reducible first|exact HB.out|apply Q4|apply Q5|apply Q6)) hb);clear HB;have HO270:=n0_;have HB:=n1_;clear n0_ n1_;clear hb ho5))
  go_ret2
  exact ⟨_,by first|rfl|(simp [errW_none,errW_some]<;>rfl)|(simp [*,errW_none,errW_some]<;>rfl),by (with_reducible repeat (first|apply Kd.R_alloc|apply Kd.R_drewN|apply Kd.R_drew));exact HO270.out,by repeat (with_reducible first|exact HB.out|apply Q4|apply Q5|apply Q6)⟩
 rw [if_neg c3] at H
 have c3b0:decide (65536 < (a0.size:Int))=false:=decide_eq_false c3
 have c3b1:decide (65536 < a0.size)=false:=decide_eq_false (by omega)
 clear c3
 have HC6:=Aside0.mk H
 clear H
 go_enter Try.func22,Try.ntmps22
 go_upto_region 3 with (fail)
 go_cut [19] (fun v19 wc=>∃ (kq:Nat) (x19_5:Bool),v19=.bool x19_5∧Aside0 (spec_CallsOf.j0 kq a0 a1 x19_5=some (r1,r2))∧Aside0 (kq≤k)∧Aside0 (Below w.heap.size w wc))
 case first=>
  have H:=HC6.out
  clear HC6
  obtain ⟨t271,A7,H⟩:=bindA H
  by_cases c8:t271=true
  ·subst c8
   rw [if_pos rfl] at H
   have H':=Aside0.mk H
   clear H
   go_wp2_with (first|((with_reducible refine gate_callee (f:=44) rfl ?_);refine goesL_ (some 13) rfl rfl Try.func44 (by kernel_rfl) rfl #[.int .i64 a1,.int .i64 0,.int .i64 1048575] rfl (by (try simp only [List.map_toArray,List.map_cons,List.map_nil]);first|done|rfl|(simp only [List.length_drop,List.length_take];rfl)) ?_;(with_reducible refine (spec_l01In.calls a1 0 1048575 true _ A7.out).mono ?_);rintro e w' ⟨rfl,⟨nd,rfl⟩⟩;refine ⟨_,rfl,?_⟩))
   go_meet
   case rel=>exact ⟨_,(((Int.tmod a1 4) != 0)),(by first|rfl|(simp;done)|(simp [*];done)),H',⟨by first|omega|exact Nat.le_refl _⟩,⟨by repeat (with_reducible first|exact HB.out|apply Q4|apply Q5|apply Q6)⟩⟩
  replace c8:=Bool.eq_false_iff.mpr c8
  subst c8
  rw [if_neg (show ¬ (false=true) by decide)] at H
  have H':=Aside0.mk H
  clear H
  go_wp2_with (first|((with_reducible refine gate_callee (f:=44) rfl ?_);refine goesL_ (some 13) rfl rfl Try.func44 (by kernel_rfl) rfl #[.int .i64 a1,.int .i64 0,.int .i64 1048575] rfl (by (try simp only [List.map_toArray,List.map_cons,List.map_nil]);first|done|rfl|(simp only [List.length_drop,List.length_take];rfl)) ?_;(with_reducible refine (spec_l01In.calls a1 0 1048575 false _ A7.out).mono ?_);rintro e w' ⟨rfl,⟨nd,rfl⟩⟩;refine ⟨_,rfl,?_⟩))
  go_meet
  case rel=>exact ⟨_,(true),(by first|rfl|(simp;done)|(simp [*];done)),H',⟨by first|omega|exact Nat.le_refl _⟩,⟨by repeat (with_reducible first|exact HB.out|apply Q4|apply Q5|apply Q6)⟩⟩
 clear HC6
 try clear c3b0
 try clear c3b1
 obtain ⟨kq,x19_5,rfl,HA,HJ5,HB⟩:=hcut
 cases kq with
 | zero=>exact absurd HA.out (by simp [spec_CallsOf.j0])
 | succ kj5 =>
  have H:=HA.out
  clear HA
  simp only [spec_CallsOf.j0] at H
  by_cases c9:x19_5=true
  ·subst c9
   rw [if_pos rfl] at H
   obtain ⟨y272,hy272⟩ : ∃ y_:List Int,y_=(([]:List Int)):=⟨_,rfl⟩
   replace H:(some (y272,4))=some (r1,r2):=by first|(rw [hy272];with_reducible exact H)|(have H2_:=(Option.bind_some _ _).symm.trans H;rw [hy272];with_reducible exact H2_)|(have H2_:=(Option.bind_some _ _).symm.trans H;with_reducible exact H2_)|with_reducible exact H|(rw [hy272];exact H)|exact H
   have Ny272:=Aside0.mk hy272
   clear hy272
   simp only [Option.some.injEq,Prod.mk.injEq] at H
   obtain ⟨rfl,rfl⟩:=H
   go_wp2_with (first|((with_reducible refine gate_dst (N:=20) rfl ?_);refine Kd.R_lit (Kd.int .i64) _ 3 ?hg (N:=20) ?hd (xs:=([]:List Int)) (inner:=[]) (ok:=fun _=>True) (okp:=fun _=>True) ?hr ?hp (fun _ hk=>hk) trivial (Below.refl _ _) (Nat.le_refl _) (by simp) ?_;(case hd=>rfl);(case hg=>rfl);(case hr=>first|(go_simp;done)|(go_simp;rfl));(case hp=>exact (Reps.none _ _));intro v273 w10 ho11 hb hg_ hnew_;clear hg_ hnew_;(first|rw [← Ny272.out] at ho11|(simp only [Int.reduceToNat] at ho11;rw [← Ny272.out] at ho11));have n0_:=Aside0.mk (Kd.R_lower ho11 (below_size (by repeat (with_reducible first|exact HB.out|apply Q4|apply Q5|apply Q6))));have n1_:=Aside0.mk (below_step (by repeat (with_reducible first|exact HB.out|apply Q4|apply Q5|apply Q6)) hb);clear HB;have HO274:=n0_;have HB:=n1_;clear n0_ n1_;clear hb ho11))
   go_ret2
   exact ⟨_,by first|rfl|(simp [errW_none,errW_some]<;>rfl)|(simp [*,errW_none,errW_some]<;>rfl),by (with_reducible repeat (first|apply Kd.R_alloc|apply Kd.R_drewN|apply Kd.R_drew));exact HO274.out,by repeat (with_reducible first|exact HB.out|apply Q4|apply Q5|apply Q6)⟩
  replace c9:=Bool.eq_false_iff.mpr c9
  subst c9
  rw [if_neg (show ¬ (false=true) by decide)] at H
  obtain ⟨t275,A12,H⟩:=bindA H
  by_cases c13:t275=true
  ·subst c13
   rw [if_pos rfl] at H
   obtain ⟨⟨t279,t280⟩,A14,H⟩:=bindA H
   try dsimp only at H
   by_cases c15:t280≥0
   ·rw [if_pos c15] at H
    have c15b0:decide (0≤t280)=true:=decide_eq_true c15
    clear c15
    obtain ⟨y283,hy283⟩ : ∃ y_:List Int,y_=(([]:List Int)):=⟨_,rfl⟩
    replace H:(some (y283,10))=some (r1,r2):=by first|(rw [hy283];with_reducible exact H)|(have H2_:=(Option.bind_some _ _).symm.trans H;rw [hy283];with_reducible exact H2_)|(have H2_:=(Option.bind_some _ _).symm.trans H;with_reducible exact H2_)|with_reducible exact H|(rw [hy283];exact H)|exact H
    have Ny283:=Aside0.mk hy283
    clear hy283
    simp only [Option.some.injEq,Prod.mk.injEq] at H
    obtain ⟨rfl,rfl⟩:=H
    go_wp2_with (first|((with_reducible refine gate_callee (f:=45) rfl ?_);refine goesL_ (some 22) rfl rfl Try.func45 (by kernel_rfl) rfl #[.string a0] rfl (by (try simp only [List.map_toArray,List.map_cons,List.map_nil]);first|done|rfl|(simp only [List.length_drop,List.length_take];rfl)) ?_;(with_reducible refine (spec_l06Size.calls a0 true _ A12.out).mono ?_);rintro e w' ⟨rfl,⟨nd,rfl⟩⟩;refine ⟨_,rfl,?_⟩)|((with_reducible refine gate_callee (f:=46) rfl ?_);refine goesL_ (some 27) rfl rfl Try.func46 (by kernel_rfl) rfl #[.string a0] rfl (by (try simp only [List.map_toArray,List.map_cons,List.map_nil]);first|done|rfl|(simp only [List.length_drop,List.length_take];rfl)) ?_;(with_reducible refine (spec_l06Instrs.calls kj5 a0 t279 t280 _ A14.out).mono ?_);rintro e w16 ⟨v281,rfl,ho0,hb⟩;refine ⟨_,rfl,?_⟩;have n0_:=Aside0.mk (Kd.R_lower ho0 (below_size (by repeat (with_reducible first|exact HB.out|apply Q4|apply Q5|apply Q6))));have n1_:=Aside0.mk (below_step (by repeat (with_reducible first|exact HB.out|apply Q4|apply Q5|apply Q6)) hb);clear HB;have HO282:=n0_;have HB:=n1_;clear n0_ n1_;(try clear hb);(try clear hb2);(try clear hk);(try clear hi);(try clear ho0))|((with_reducible refine gate_dst (N:=32) rfl ?_);refine Kd.R_lit (Kd.int .i64) _ 3 ?hg (N:=32) ?hd (xs:=([]:List Int)) (inner:=[]) (ok:=fun _=>True) (okp:=fun _=>True) ?hr ?hp (fun _ hk=>hk) trivial (Below.refl _ _) (Nat.le_refl _) (by simp) ?_;(case hd=>rfl);(case hg=>rfl);(case hr=>first|(go_simp;done)|(go_simp;rfl));(case hp=>exact (Reps.none _ _));intro v284 w17 ho18 hb hg_ hnew_;clear hg_ hnew_;(first|rw [← Ny283.out] at ho18|(simp only [Int.reduceToNat] at ho18;rw [← Ny283.out] at ho18));have n0_:=Aside0.mk (Kd.R_below (by (with_reducible repeat (first|apply Kd.R_alloc|apply Kd.R_drewN|apply Kd.R_drew));exact HO282.out) hb);have n1_:=Aside0.mk (Kd.R_lower ho18 (below_size (by repeat (with_reducible first|exact HB.out|apply Q4|apply Q5|apply Q6))));have n2_:=Aside0.mk (below_step (by repeat (with_reducible first|exact HB.out|apply Q4|apply Q5|apply Q6)) hb);clear HO282;clear HB;have HO282:=n0_;have HO285:=n1_;have HB:=n2_;clear n0_ n1_ n2_;clear hb ho18))
    go_ret2
    exact ⟨_,by first|rfl|(simp [errW_none,errW_some]<;>rfl)|(simp [*,errW_none,errW_some]<;>rfl),by (with_reducible repeat (first|apply Kd.R_alloc|apply Kd.R_drewN|apply Kd.R_drew));exact HO285.out,by repeat (with_reducible first|exact HB.out|apply Q4|apply Q5|apply Q6)⟩
   rw [if_neg c15] at H
   have c15b0:decide (0≤t280)=false:=decide_eq_false c15
   clear c15
   obtain ⟨t286,A19,H⟩:=bindA H
   simp only [Option.some.injEq,Prod.mk.injEq] at H
   obtain ⟨rfl,rfl⟩:=H
   go_wp2_with (first|((with_reducible refine gate_callee (f:=45) rfl ?_);refine goesL_ (some 22) rfl rfl Try.func45 (by kernel_rfl) rfl #[.string a0] rfl (by (try simp only [List.map_toArray,List.map_cons,List.map_nil]);first|done|rfl|(simp only [List.length_drop,List.length_take];rfl)) ?_;(with_reducible refine (spec_l06Size.calls a0 true _ A12.out).mono ?_);rintro e w' ⟨rfl,⟨nd,rfl⟩⟩;refine ⟨_,rfl,?_⟩)|((with_reducible refine gate_callee (f:=46) rfl ?_);refine goesL_ (some 27) rfl rfl Try.func46 (by kernel_rfl) rfl #[.string a0] rfl (by (try simp only [List.map_toArray,List.map_cons,List.map_nil]);first|done|rfl|(simp only [List.length_drop,List.length_take];rfl)) ?_;(with_reducible refine (spec_l06Instrs.calls kj5 a0 t279 t280 _ A14.out).mono ?_);rintro e w20 ⟨v281,rfl,ho0,hb⟩;refine ⟨_,rfl,?_⟩;have n0_:=Aside0.mk (Kd.R_lower ho0 (below_size (by repeat (with_reducible first|exact HB.out|apply Q4|apply Q5|apply Q6))));have n1_:=Aside0.mk (below_step (by repeat (with_reducible first|exact HB.out|apply Q4|apply Q5|apply Q6)) hb);clear HB;have HO282:=n0_;have HB:=n1_;clear n0_ n1_;(try clear hb);(try clear hb2);(try clear hk);(try clear hi);(try clear ho0);obtain ⟨Ao21,co21,eo21⟩:=Kd.R_slice HO282.out;subst eo21)|((with_reducible refine gate_callee (f:=47) rfl ?_);refine goesL_ (some 35) rfl rfl Try.func47 (by kernel_rfl) rfl #[.slice Ao21 t279.length co21,.int .i64 a1] rfl (by (try simp only [List.map_toArray,List.map_cons,List.map_nil]);first|done|rfl|(simp only [List.length_drop,List.length_take];rfl)) ?_;(with_reducible refine (spec_l06Calls.calls kj5 _ _ t279 a1 t286 _ ?side1 ?side2 A19.out).mono ?_);(case side1=>repeat (first|exact (Kd.R_reads' HO282.out).2.2|(with_reducible refine Kd.C_alloc ?_ _)|(with_reducible refine Kd.C_drewN ?_ _)|(with_reducible refine Kd.C_drew ?_)));(case side2=>exact (Kd.R_reads' HO282.out).2.1);rintro e w22 ⟨v287,rfl,ho0,hb⟩;refine ⟨_,rfl,?_⟩;have n0_:=Aside0.mk (Kd.R_below (by (with_reducible repeat (first|apply Kd.R_alloc|apply Kd.R_drewN|apply Kd.R_drew));exact HO282.out) hb);have n1_:=Aside0.mk (Kd.R_lower ho0 (below_size (by repeat (with_reducible first|exact HB.out|apply Q4|apply Q5|apply Q6))));have n2_:=Aside0.mk (below_step (by repeat (with_reducible first|exact HB.out|apply Q4|apply Q5|apply Q6)) hb);clear HO282;clear HB;have HO282:=n0_;have HO288:=n1_;have HB:=n2_;clear n0_ n1_ n2_;(try clear hb);(try clear hb2);(try clear hk);(try clear hi);(try clear ho0)))
   go_ret2
   exact ⟨_,by first|rfl|(simp [errW_none,errW_some]<;>rfl)|(simp [*,errW_none,errW_some]<;>rfl),by (with_reducible repeat (first|apply Kd.R_alloc|apply Kd.R_drewN|apply Kd.R_drew));exact HO288.out,by repeat (with_reducible first|exact HB.out|apply Q4|apply Q5|apply Q6)⟩
  replace c13:=Bool.eq_false_iff.mpr c13
  subst c13
  rw [if_neg (show ¬ (false=true) by decide)] at H
  obtain ⟨y276,hy276⟩ : ∃ y_:List Int,y_=(([]:List Int)):=⟨_,rfl⟩
  replace H:(some (y276,8))=some (r1,r2):=by first|(rw [hy276];with_reducible exact H)|(have H2_:=(Option.bind_some _ _).symm.trans H;rw [hy276];with_reducible exact H2_)|(have H2_:=(Option.bind_some _ _).symm.trans H;with_reducible exact H2_)|with_reducible exact H|(rw [hy276];exact H)|exact H
  have Ny276:=Aside0.mk hy276
  clear hy276
  simp only [Option.some.injEq,Prod.mk.injEq] at H
  obtain ⟨rfl,rfl⟩:=H
  go_wp2_with (first|((with_reducible refine gate_callee (f:=45) rfl ?_);refine goesL_ (some 22) rfl rfl Try.func45 (by kernel_rfl) rfl #[.string a0] rfl (by (try simp only [List.map_toArray,List.map_cons,List.map_nil]);first|done|rfl|(simp only [List.length_drop,List.length_take];rfl)) ?_;(with_reducible refine (spec_l06Size.calls a0 false _ A12.out).mono ?_);rintro e w' ⟨rfl,⟨nd,rfl⟩⟩;refine ⟨_,rfl,?_⟩)|((with_reducible refine gate_dst (N:=24) rfl ?_);refine Kd.R_lit (Kd.int .i64) _ 3 ?hg (N:=24) ?hd (xs:=([]:List Int)) (inner:=[]) (ok:=fun _=>True) (okp:=fun _=>True) ?hr ?hp (fun _ hk=>hk) trivial (Below.refl _ _) (Nat.le_refl _) (by simp) ?_;(case hd=>rfl);(case hg=>rfl);(case hr=>first|(go_simp;done)|(go_simp;rfl));(case hp=>exact (Reps.none _ _));intro v277 w23 ho24 hb hg_ hnew_;clear hg_ hnew_;(first|rw [← Ny276.out] at ho24|(simp only [Int.reduceToNat] at ho24;rw [← Ny276.out] at ho24));have n0_:=Aside0.mk (Kd.R_lower ho24 (below_size (by repeat (with_reducible first|exact HB.out|apply Q4|apply Q5|apply Q6))));have n1_:=Aside0.mk (below_step (by repeat (with_reducible first|exact HB.out|apply Q4|apply Q5|apply Q6)) hb);clear HB;have HO278:=n0_;have HB:=n1_;clear n0_ n1_;clear hb ho24))
  go_ret2
  exact ⟨_,by first|rfl|(simp [errW_none,errW_some]<;>rfl)|(simp [*,errW_none,errW_some]<;>rfl),by (with_reducible repeat (first|apply Kd.R_alloc|apply Kd.R_drewN|apply Kd.R_drew));exact HO278.out,by repeat (with_reducible first|exact HB.out|apply Q4|apply Q5|apply Q6)⟩
def impl_isLong.f (a0:ByteArray):Option (Bool):=some (decide ((a0.size:Int) > 65536))
set_option maxHeartbeats 8000000 in
set_option maxRecDepth 100000 in
theorem impl_isLong.calls (a0:ByteArray) (r:Bool) (w:World) (h:impl_isLong.f a0=some r) :
    Calls Try.prog 36 #[.string a0] w fun e w'=>e=.returned (.bool r)∧Drawn0 w w':=by
 have H:(some (decide ((a0.size:Int) > 65536)))=some r:=h
 clear h
 obtain rfl:=Option.some.inj H
 go_enter Try.func36,Try.ntmps36
 go_wp2
 go_ret
 exact ⟨by first|rfl|(simp;done)|(simp [*];done),by repeat (first|exact Drawn0.refl _|apply Drawn0.step)⟩
def impl_within.f (a0:Int) (a1:Int) (a2:Int):Option (Bool):=if a1≤a0 then (some (decide (a0≤a2))) else (some false)
set_option maxHeartbeats 8000000 in
set_option maxRecDepth 100000 in
theorem impl_within.calls (a0:Int) (a1:Int) (a2:Int) (r:Bool) (w:World) (h:impl_within.f a0 a1 a2=some r) :
    Calls Try.prog 56 #[.int .i64 a0,.int .i64 a1,.int .i64 a2] w fun e w'=>e=.returned (.bool r)∧Drawn0 w w':=by
 have H:(if a1≤a0 then (some (decide (a0≤a2))) else (some false))=some r:=h
 clear h
 by_cases c4:a1≤a0
 ·rw [if_pos c4] at H
  have c4b0:decide (a1≤a0)=true:=decide_eq_true c4
  clear c4
  obtain rfl:=Option.some.inj H
  go_enter Try.func56,Try.ntmps56
  go_wp2
  go_ret
  exact ⟨by first|rfl|(simp;done)|(simp [*];done),by repeat (first|exact Drawn0.refl _|apply Drawn0.step)⟩
 rw [if_neg c4] at H
 have c4b0:decide (a1≤a0)=false:=decide_eq_false c4
 clear c4
 obtain rfl:=Option.some.inj H
 go_enter Try.func56,Try.ntmps56
 go_wp2
 go_ret
 exact ⟨by first|rfl|(simp;done)|(simp [*];done),by repeat (first|exact Drawn0.refl _|apply Drawn0.step)⟩
def impl_isCodeAt.f (a0:Int):Option (Bool):=(impl_within.f a0 0 1048575).bind fun t289=>(if t289=true then (some ((Int.tmod a0 4)==0)) else (some false))
set_option maxHeartbeats 8000000 in
set_option maxRecDepth 100000 in
theorem impl_isCodeAt.calls (a0:Int) (r:Bool) (w:World) (h:impl_isCodeAt.f a0=some r) :
    Calls Try.prog 48 #[.int .i64 a0] w fun e w'=>e=.returned (.bool r)∧Drawn0 w w':=by
 have H:((impl_within.f a0 0 1048575).bind fun t289=>(if t289=true then (some ((Int.tmod a0 4)==0)) else (some false)))=some r:=h
 clear h
 obtain ⟨t289,A2,H⟩:=bindA H
 by_cases c3:t289=true
 ·subst c3
  rw [if_pos rfl] at H
  obtain rfl:=Option.some.inj H
  go_enter Try.func48,Try.ntmps48
  go_wp2_with (first|((with_reducible refine gate_callee (f:=56) rfl ?_);refine goesL_ (some 4) rfl rfl Try.func56 (by kernel_rfl) rfl #[.int .i64 a0,.int .i64 0,.int .i64 1048575] rfl (by (try simp only [List.map_toArray,List.map_cons,List.map_nil]);first|done|rfl|(simp only [List.length_drop,List.length_take];rfl)) ?_;(with_reducible refine (impl_within.calls a0 0 1048575 true _ A2.out).mono ?_);rintro e w' ⟨rfl,⟨nd,rfl⟩⟩;refine ⟨_,rfl,?_⟩))
  go_ret
  exact ⟨by first|rfl|(simp;done)|(simp [*];done),by repeat (first|exact Drawn0.refl _|apply Drawn0.step)⟩
 replace c3:=Bool.eq_false_iff.mpr c3
 subst c3
 rw [if_neg (show ¬ (false=true) by decide)] at H
 obtain rfl:=Option.some.inj H
 go_enter Try.func48,Try.ntmps48
 go_wp2_with (first|((with_reducible refine gate_callee (f:=56) rfl ?_);refine goesL_ (some 4) rfl rfl Try.func56 (by kernel_rfl) rfl #[.int .i64 a0,.int .i64 0,.int .i64 1048575] rfl (by (try simp only [List.map_toArray,List.map_cons,List.map_nil]);first|done|rfl|(simp only [List.length_drop,List.length_take];rfl)) ?_;(with_reducible refine (impl_within.calls a0 0 1048575 false _ A2.out).mono ?_);rintro e w' ⟨rfl,⟨nd,rfl⟩⟩;refine ⟨_,rfl,?_⟩))
 go_ret
 exact ⟨by first|rfl|(simp;done)|(simp [*];done),by repeat (first|exact Drawn0.refl _|apply Drawn0.step)⟩
def impl_ops.f  : Option ((List (S120))):=some (([(⟨(⟨#[]⟩:ByteArray),(⟨0,0,0,0⟩:S109)⟩:S120),(⟨(⟨#[108,117,105]⟩:ByteArray),(⟨1,55,0,0⟩:S109)⟩:S120),(⟨(⟨#[97,117,105,112,99]⟩:ByteArray),(⟨1,23,0,0⟩:S109)⟩:S120),(⟨(⟨#[106,97,108]⟩:ByteArray),(⟨2,111,0,0⟩:S109)⟩:S120),(⟨(⟨#[106,97,108,114]⟩:ByteArray),(⟨3,103,0,0⟩:S109)⟩:S120),(⟨(⟨#[98,101,113]⟩:ByteArray),(⟨4,99,0,0⟩:S109)⟩:S120),(⟨(⟨#[98,110,101]⟩:ByteArray),(⟨4,99,1,0⟩:S109)⟩:S120),(⟨(⟨#[98,108,116]⟩:ByteArray),(⟨4,99,4,0⟩:S109)⟩:S120),(⟨(⟨#[98,103,101]⟩:ByteArray),(⟨4,99,5,0⟩:S109)⟩:S120),(⟨(⟨#[98,108,116,117]⟩:ByteArray),(⟨4,99,6,0⟩:S109)⟩:S120),(⟨(⟨#[98,103,101,117]⟩:ByteArray),(⟨4,99,7,0⟩:S109)⟩:S120),(⟨(⟨#[108,98]⟩:ByteArray),(⟨3,3,0,0⟩:S109)⟩:S120),(⟨(⟨#[108,104]⟩:ByteArray),(⟨3,3,1,0⟩:S109)⟩:S120),(⟨(⟨#[108,119]⟩:ByteArray),(⟨3,3,2,0⟩:S109)⟩:S120),(⟨(⟨#[108,100]⟩:ByteArray),(⟨3,3,3,0⟩:S109)⟩:S120),(⟨(⟨#[108,98,117]⟩:ByteArray),(⟨3,3,4,0⟩:S109)⟩:S120),(⟨(⟨#[108,104,117]⟩:ByteArray),(⟨3,3,5,0⟩:S109)⟩:S120),(⟨(⟨#[108,119,117]⟩:ByteArray),(⟨3,3,6,0⟩:S109)⟩:S120),(⟨(⟨#[115,98]⟩:ByteArray),(⟨5,35,0,0⟩:S109)⟩:S120),(⟨(⟨#[115,104]⟩:ByteArray),(⟨5,35,1,0⟩:S109)⟩:S120),(⟨(⟨#[115,119]⟩:ByteArray),(⟨5,35,2,0⟩:S109)⟩:S120),(⟨(⟨#[115,100]⟩:ByteArray),(⟨5,35,3,0⟩:S109)⟩:S120),(⟨(⟨#[97,100,100,105]⟩:ByteArray),(⟨3,19,0,0⟩:S109)⟩:S120),(⟨(⟨#[115,108,116,105]⟩:ByteArray),(⟨3,19,2,0⟩:S109)⟩:S120),(⟨(⟨#[115,108,116,105,117]⟩:ByteArray),(⟨3,19,3,0⟩:S109)⟩:S120),(⟨(⟨#[120,111,114,105]⟩:ByteArray),(⟨3,19,4,0⟩:S109)⟩:S120),(⟨(⟨#[111,114,105]⟩:ByteArray),(⟨3,19,6,0⟩:S109)⟩:S120),(⟨(⟨#[97,110,100,105]⟩:ByteArray),(⟨3,19,7,0⟩:S109)⟩:S120),(⟨(⟨#[115,108,108,105]⟩:ByteArray),(⟨6,19,1,0⟩:S109)⟩:S120),(⟨(⟨#[115,114,108,105]⟩:ByteArray),(⟨6,19,5,0⟩:S109)⟩:S120),(⟨(⟨#[115,114,97,105]⟩:ByteArray),(⟨6,19,5,32⟩:S109)⟩:S120),(⟨(⟨#[97,100,100]⟩:ByteArray),(⟨8,51,0,0⟩:S109)⟩:S120),(⟨(⟨#[115,117,98]⟩:ByteArray),(⟨8,51,0,32⟩:S109)⟩:S120),(⟨(⟨#[115,108,108]⟩:ByteArray),(⟨8,51,1,0⟩:S109)⟩:S120),(⟨(⟨#[115,108,116]⟩:ByteArray),(⟨8,51,2,0⟩:S109)⟩:S120),(⟨(⟨#[115,108,116,117]⟩:ByteArray),(⟨8,51,3,0⟩:S109)⟩:S120),(⟨(⟨#[120,111,114]⟩:ByteArray),(⟨8,51,4,0⟩:S109)⟩:S120),(⟨(⟨#[115,114,108]⟩:ByteArray),(⟨8,51,5,0⟩:S109)⟩:S120),(⟨(⟨#[115,114,97]⟩:ByteArray),(⟨8,51,5,32⟩:S109)⟩:S120),(⟨(⟨#[111,114]⟩:ByteArray),(⟨8,51,6,0⟩:S109)⟩:S120),(⟨(⟨#[97,110,100]⟩:ByteArray),(⟨8,51,7,0⟩:S109)⟩:S120),(⟨(⟨#[97,100,100,105,119]⟩:ByteArray),(⟨3,27,0,0⟩:S109)⟩:S120),(⟨(⟨#[115,108,108,105,119]⟩:ByteArray),(⟨7,27,1,0⟩:S109)⟩:S120),(⟨(⟨#[115,114,108,105,119]⟩:ByteArray),(⟨7,27,5,0⟩:S109)⟩:S120),(⟨(⟨#[115,114,97,105,119]⟩:ByteArray),(⟨7,27,5,32⟩:S109)⟩:S120),(⟨(⟨#[97,100,100,119]⟩:ByteArray),(⟨8,59,0,0⟩:S109)⟩:S120),(⟨(⟨#[115,117,98,119]⟩:ByteArray),(⟨8,59,0,32⟩:S109)⟩:S120),(⟨(⟨#[115,108,108,119]⟩:ByteArray),(⟨8,59,1,0⟩:S109)⟩:S120),(⟨(⟨#[115,114,108,119]⟩:ByteArray),(⟨8,59,5,0⟩:S109)⟩:S120),(⟨(⟨#[115,114,97,119]⟩:ByteArray),(⟨8,59,5,32⟩:S109)⟩:S120),(⟨(⟨#[109,117,108]⟩:ByteArray),(⟨8,51,0,1⟩:S109)⟩:S120),(⟨(⟨#[109,117,108,104]⟩:ByteArray),(⟨8,51,1,1⟩:S109)⟩:S120),(⟨(⟨#[109,117,108,104,115,117]⟩:ByteArray),(⟨8,51,2,1⟩:S109)⟩:S120),(⟨(⟨#[109,117,108,104,117]⟩:ByteArray),(⟨8,51,3,1⟩:S109)⟩:S120),(⟨(⟨#[100,105,118]⟩:ByteArray),(⟨8,51,4,1⟩:S109)⟩:S120),(⟨(⟨#[100,105,118,117]⟩:ByteArray),(⟨8,51,5,1⟩:S109)⟩:S120),(⟨(⟨#[114,101,109]⟩:ByteArray),(⟨8,51,6,1⟩:S109)⟩:S120),(⟨(⟨#[114,101,109,117]⟩:ByteArray),(⟨8,51,7,1⟩:S109)⟩:S120),(⟨(⟨#[109,117,108,119]⟩:ByteArray),(⟨8,59,0,1⟩:S109)⟩:S120),(⟨(⟨#[100,105,118,119]⟩:ByteArray),(⟨8,59,4,1⟩:S109)⟩:S120),(⟨(⟨#[100,105,118,117,119]⟩:ByteArray),(⟨8,59,5,1⟩:S109)⟩:S120),(⟨(⟨#[114,101,109,119]⟩:ByteArray),(⟨8,59,6,1⟩:S109)⟩:S120),(⟨(⟨#[114,101,109,117,119]⟩:ByteArray),(⟨8,59,7,1⟩:S109)⟩:S120),(⟨(⟨#[101,99,97,108,108]⟩:ByteArray),(⟨9,115,0,0⟩:S109)⟩:S120),(⟨(⟨#[101,98,114,101,97,107]⟩:ByteArray),(⟨9,115,0,1⟩:S109)⟩:S120)]:List (S120)))
def impl_ops.tab:List S120:=(impl_ops.f).getD []
def impl_ops.row (x:S120):List Value:=[.string x.f0,.int .i64 x.f1.f0,.int .i64 x.f1.f1,.int .i64 x.f1.f2,.int .i64 x.f1.f3]
def impl_ops.cells:List Value:=impl_ops.tab.flatMap impl_ops.row
def buildsOf (P:Program):List Oper→Act→Option Act
  | [],a=>some a
  | o :: r,a=>match o.guard,o.op with
    | none,.build t parts=>match P.built t (parts.map fun (i,x)=>(i,a.eval x)).toList with
      | some cs=>buildsOf P r (a.put o.dst (.agg cs))
      | none=>none
    | _,_=>none
theorem wpList_builds {P:Program} {ops:Array Oper} {Q:Exit→Act→World→Prop} {rest:List Oper} {w:World} : ∀ (pre:List Oper) (a a':Act),buildsOf P pre a=some a'→wpList P ops Q rest a' w→wpList P ops Q (pre ++ rest) a w
  | [],a,a',h,k=>by
    obtain rfl:=Option.some.inj h
    exact k
  | o :: r,a,a',h,k=>by
    unfold buildsOf at h
    split at h
    · rename_i t parts hg ho
      split at h
      · rename_i cs hc
        exact wpList_plain hg fun K hK=>wp_build t parts ho (by rw [hc];rfl) (by rw [hc];exact hK _ _ (wpList_builds r _ _ h k))
      · cases h
    · cases h
theorem wpList_of_eq {P:Program} {ops:Array Oper} {Q:Exit→Act→World→Prop} {l l':List Oper} {a:Act} {w:World} (h:l'=l) (k:wpList P ops Q l a w):wpList P ops Q l' a w:=h ▸ k
theorem exec_buildSlice {P:Program} {o:Oper} {a:Act} {W:World} (t e:TypeId) (len size:Nat) (parts:Array (Nat × Operand)) (z:Value) (cells:Array Value) (ho:o.op=.buildSlice t len parts)
    (hu:P.underlying t=some (.slice e)) (hi:(P.info? e).map (fun i=>(i.zero,i.size))=some (some z,size)) (h0:len*size≠0) (h1:¬ len*size > 2 ^ 24)
    (hf:Instr.fill (fun i=>some (i*size,size)) ((Array.range (len*size)).map (z.cells[· % z.cells.size]!)) (parts.map fun (i,x)=>(i,a.eval x)).toList=some cells) :
    (execOp a.eval o).run P W=.ok (.value (.slice (some ⟨W.heap.size,0,none⟩) len len)) (W.alloc (.cells cells e)):=by
 obtain ⟨i,hi1,hi2⟩:=Option.map_eq_some_iff.1 hi
 simp only [Prod.mk.injEq] at hi2
 obtain ⟨hz,hs⟩:=hi2
 have h1':¬ 16777216 < len*size:=by simpa using h1
 subst hs
 have hr:(Instr.buildSlice t len (parts.map fun (i,x)=>(i,a.eval x))).run P W=.ok (.slice (some ⟨W.heap.size,0,none⟩) len len) (W.alloc (.cells cells e)):=by
  simp only [Instr.buildSlice]
  have hf':Instr.fill (fun i_1=>some (i_1*i.size,i.size)) (Array.map (fun x=>z.cells[x % z.cells.size]!) (Array.range (len*i.size))) (List.map (fun x=>(x.fst,a.eval x.snd)) parts.toList)=some cells:=by simpa using hf
  simp [run_underlying hu,sizeOf,typeInfo,zeroValue,hi1,hz,h1',newRow]
  rw [if_neg h0,hf']
  simp
 unfold execOp
 simp only [ho,Sem.run_bind,hr,Result.andThen_ok]
 rfl
noncomputable def impl_ops.R:List Oper:=(opsOf Try.f106 1).toList
noncomputable def impl_ops.o1 : Oper := impl_ops.R.getD 129 { dst := none, op := .ready 0, type := 0, pos := "", after := #[], guard := none }
noncomputable def impl_ops.o2 : Oper := impl_ops.R.getD 130 { dst := none, op := .ready 0, type := 0, pos := "", after := #[], guard := none }
noncomputable def impl_ops.parts:Array (Nat × Operand):=match impl_ops.o1.op with
  | .buildSlice _ _ p=>p
  | _=>#[]
noncomputable def impl_ops.t:TypeId:=match impl_ops.o1.op with
  | .buildSlice t _ _=>t
  | _=>0
noncomputable def impl_ops.a0:Act:=⟨#[.slice none 0 0] ++ Array.replicate 130 undef,[]⟩
noncomputable def impl_ops.a1:Act:=(buildsOf Try.prog (impl_ops.R.take 129) impl_ops.a0).getD impl_ops.a0
theorem impl_ops.built:buildsOf Try.prog (impl_ops.R.take 129) impl_ops.a0=some impl_ops.a1:=by kernel_rfl
theorem impl_ops.fills:Instr.fill (fun i=>some (i*5,5)) ((Array.range (65*5)).map ((Value.agg #[(.string ⟨#[]⟩),(.int .i64 0),(.int .i64 0),(.int .i64 0),(.int .i64 0)]).cells[· % (Value.agg #[(.string ⟨#[]⟩),(.int .i64 0),(.int .i64 0),(.int .i64 0),(.int .i64 0)]).cells.size]!)) (impl_ops.parts.map fun (i,x)=>(i,impl_ops.a1.eval x)).toList=some impl_ops.cells.toArray:=by kernel_rfl
theorem impl_ops.reps (W:World) (base:Nat) (ok:Nat→Prop) : ∀ xs:List S120,Reps (k120.M W base ok) 5 xs (xs.flatMap impl_ops.row)
  | []=>Reps.none _ _
  | x :: r=>Reps.c5 (k120_mkM W base ok x) (impl_ops.reps W base ok r)
set_option maxHeartbeats 8000000 in
set_option maxRecDepth 100000 in
theorem impl_ops.calls  (r:List (S120)) (w:World) (h:impl_ops.f  = some r) :
    Calls Try.prog 106 #[] w fun e w'=>∃ v0_:Value,e=.returned (v0_)∧Kd.R k120 120 w' w.heap.size (fun _=>True) v0_ r∧Below w.heap.size w w':=by
 have hr:r=impl_ops.tab:=by
  have h2:impl_ops.f=some impl_ops.tab:=rfl
  exact Option.some.inj (h.symm.trans h2)
 subst hr
 clear h
 go_enter Try.func106,Try.ntmps106
 go_upto_region 1 with (fail)
 rename_i K hK
 refine wp_region_list ?_
 refine wpList_of_eq (l:=impl_ops.R.take 129 ++ [impl_ops.o1,impl_ops.o2]) (by kernel_rfl) ?_
 refine wpList_builds (impl_ops.R.take 129) _ impl_ops.a1 (by kernel_rfl) ?_
 refine Kd.R_lit k120 _ 120 (by kernel_rfl) (N:=130) (by kernel_rfl) (xs:=impl_ops.tab) (inner:=impl_ops.cells) (ok:=fun _=>True) (okp:=fun _=>True) ?hr (impl_ops.reps _ _ _ _) (fun _ hk=>hk) trivial (Below.refl _ _) (Nat.le_refl _) (by rw [show impl_ops.tab.length=65 from by kernel_rfl];decide) ?_
 case hr=>exact exec_buildSlice impl_ops.t 120 65 5 impl_ops.parts _ impl_ops.cells.toArray (by kernel_rfl) (by kernel_rfl) (by kernel_rfl) (by decide) (by decide) impl_ops.fills
 intro v1 w1 hR hB hg hb
 refine Kd.event_run (v:=v1) (w1:=w1) (by kernel_rfl) ?_ ?_
 ·have ho:impl_ops.o2.op=.assign (.tmp 130):=by kernel_rfl
  have hd:impl_ops.o1.dst=some 130:=by kernel_rfl
  have hs:impl_ops.a1.tmps.size=131:=by kernel_rfl
  unfold execOp
  rw [ho,hd]
  simp [Act.eval,Act.put,hs]
 have hd:impl_ops.o1.dst=some 130:=by kernel_rfl
 have hd2:impl_ops.o2.dst=some 0:=by kernel_rfl
 have hs:impl_ops.a1.tmps.size=131:=by kernel_rfl
 have hde:impl_ops.a1.defers=[]:=by kernel_rfl
 refine wpList_nil ?_
 refine hK _ _ (wp_ret ?_)
 refine bodyPost_ret (results_tmp rfl _ _ _) (by rw [hd,hd2];exact hde) ?_
 refine ⟨v1,?_,hR,hB⟩
 rw [hd,hd2]
 simp [Act.put,hs]
def impl_bitsOf.f (a0:Int) (a1:Int) (a2:Int):Option (Int):=if 0≤a1 then (if 0≤a2 then (some (Go.bits .and .i64 (shr .i64 a0 a1) (wrap64 ((shl .i64 1 a2) - 1)))) else (none)) else (none)
set_option maxHeartbeats 8000000 in
set_option maxRecDepth 100000 in
theorem impl_bitsOf.calls (a0:Int) (a1:Int) (a2:Int) (r:Int) (w:World) (h:impl_bitsOf.f a0 a1 a2=some r) :
    Calls Try.prog 107 #[.int .i64 a0,.int .i64 a1,.int .i64 a2] w fun e w'=>e=.returned (.int .i64 r)∧Drawn0 w w':=by
 have H:(if 0≤a1 then (if 0≤a2 then (some (Go.bits .and .i64 (shr .i64 a0 a1) (wrap64 ((shl .i64 1 a2) - 1)))) else (none)) else (none))=some r:=h
 clear h
 by_cases c4:0≤a1
 ·rw [if_pos c4] at H
  have c4b0:=eq_true c4
  have c4b1:decide (0≤a1)=true:=decide_eq_true c4
  clear c4
  obtain ⟨ji5,hji5⟩ : ∃ j_:Int,(shr .i64 a0 a1)=j_:=⟨_,rfl⟩
  replace H:(if 0≤a2 then (some (Go.bits .and .i64 (ji5) (wrap64 ((shl .i64 1 a2) - 1)))) else (none))=some r:=by first|(rw [hji5] at H;exact H)|(simp only [hji5] at H ⊢;exact H)
  have hji5_:(a0 / 2 ^ min a1.toNat 64)=ji5:=hji5
  have hji5z:a1≤64→(a0 / 2 ^ a1.toNat)=ji5:=shr_small hji5
  by_cases c6:0≤a2
  ·rw [if_pos c6] at H
   have c6b0:=eq_true c6
   have c6b1:decide (0≤a2)=true:=decide_eq_true c6
   clear c6
   obtain ⟨ji7,hji7⟩ : ∃ j_:Int,(shl .i64 1 a2)=j_:=⟨_,rfl⟩
   replace H:(some (Go.bits .and .i64 (ji5) (wrap64 ((ji7) - 1))))=some r:=by first|(rw [hji7] at H;exact H)|(simp only [hji7] at H ⊢;exact H)
   have hji7_:(IntKind.i64.wrap (1*2 ^ min a2.toNat 64))=ji7:=hji7
   have hji7z:a2≤64→(IntKind.i64.wrap (1*2 ^ a2.toNat))=ji7:=shl_small hji7
   have hji7u:(IntKind.i64.wrap (2 ^ min a2.toNat 64))=ji7:=by have h_:=hji7_;rw [Int.one_mul] at h_;exact h_
   have hji7v:a2≤64→(IntKind.i64.wrap (2 ^ a2.toNat))=ji7:=fun hle_=>by have h_:=hji7z hle_;rw [Int.one_mul] at h_;exact h_
   have hji7y:(wrap64 (1*2 ^ min a2.toNat 64))=ji7:=(i64_w _).symm.trans hji7_
   have hji7x:a2≤64→(wrap64 (1*2 ^ a2.toNat))=ji7:=fun h_=>(i64_w _).symm.trans (hji7z h_)
   obtain rfl:=Option.some.inj H
   go_enter Try.func107,Try.ntmps107
   go_wp2
   repeat (go_quiet (fail);try go_wp2)
   go_ret
   exact ⟨by first|rfl|(simp;done)|(simp only [← hji5,← hji7]<;>(first|rfl|simp))|(simp [*];done),by repeat (first|exact Drawn0.refl _|apply Drawn0.step)⟩
  rw [if_neg c6] at H
  exact absurd H (by simp)
 rw [if_neg c4] at H
 exact absurd H (by simp)
end Go.Proofs.Ythepmdlpjdlajaa.PFnExactCallsOf
