/- The walk of FnExactLintFunction: each Go function that the law reaches as a plain Lean function, with the proof that a call does what it says; no conditions. Written by a program for this claim. -/
import Derived.Test.YthepmdlpjdlajaaPFnExactLintFunctionx0
import Derived.Test.YthepmdlpjdlajaaPFnExactLintFunctionx9
namespace Go.Proofs.Ythepmdlpjdlajaa.PFnExactLintFunction
open Go.RowKit Go.Proofs.YthepmdlpjdlajaaW.PrintWords Go.Proofs.YthepmdlpjdlajaaW.PrintLast Go.Proofs.YthepmdlpjdlajaaW.PrintMore
attribute [local go_sem] max2_int min2_int max_two min_two max_three min_three max_four min_four   -- for this text's walks alone
set_option linter.unusedVariables false
set_option linter.unusedSimpArgs false
def spec_LintFunction.f (k:Nat) (a0:ByteArray) (a1:Int) (a2:Int) (l3:List Int):Option (Int × Int):=if (a0.size:Int) > 65536 then (some (0,2)) else (if (l3.length:Int) > 4096 then (some (0,2)) else ((spec_l06Lint.f k a0 a1 a2 l3).bind fun bt270=>(some (bt270.1,bt270.2))))
theorem spec_LintFunction.mono : ∀ a0 a1 a2 a3 k,LeO (spec_LintFunction.f k a0 a1 a2 a3) (spec_LintFunction.f (k+1) a0 a1 a2 a3):=by
 intro a0 a1 a2 a3 k
 unfold spec_LintFunction.f
 repeat' (with_reducible first|apply spec_l06Lint.mono|apply LeO.refl|apply LeO.none|apply LeO.ite|refine LeO.bind ?_ (fun _=>?_))
set_option maxHeartbeats 8000000 in
set_option maxRecDepth 100000 in
theorem spec_LintFunction.calls (k:Nat) (a0:ByteArray) (a1:Int) (a2:Int) (A3:Option Addr) (c3:Nat) (l3:List Int) (r1:Int) (r2:Int) (w:World) (hr3:Kd.C (Kd.int .i64) w A3 l3.length l3) (hc3:l3.length≤c3) (h:spec_LintFunction.f k a0 a1 a2 l3=some (r1,r2)) :
    Calls Try.prog 18 #[.string a0,.int .i64 a1,.int .i64 a2,.slice A3 l3.length c3] w fun e w'=>e=.returned (.tuple #[.int .i64 r1,.int .i64 r2])∧Below w.heap.size w w':=by
 have HR3:=Aside0.mk hr3
 have HC3:=Aside0.mk hc3
 clear hr3 hc3
 have HB:=Aside0.mk (Below.refl w.heap.size w)
 have H:(if (a0.size:Int) > 65536 then (some (0,2)) else (if (l3.length:Int) > 4096 then (some (0,2)) else ((spec_l06Lint.f k a0 a1 a2 l3).bind fun bt270=>(some (bt270.1,bt270.2)))))=some (r1,r2):=h
 clear h
 by_cases c5:(a0.size:Int) > 65536
 ·rw [if_pos c5] at H
  have c5b0:decide (65536 < (a0.size:Int))=true:=decide_eq_true c5
  have c5b1:decide (65536 < a0.size)=true:=decide_eq_true (by omega)
  clear c5
  simp only [Option.some.injEq,Prod.mk.injEq] at H
  obtain ⟨rfl,rfl⟩:=H
  go_enter Try.func18,Try.ntmps18
  go_wp2
  go_ret2
  exact ⟨by first|rfl|(simp [errW_none,errW_some]<;>rfl)|(simp [*,errW_none,errW_some]<;>rfl),by repeat (with_reducible first|exact HB.out|apply Q4|apply Q5|apply Q6)⟩
 rw [if_neg c5] at H
 have c5b0:decide (65536 < (a0.size:Int))=false:=decide_eq_false c5
 have c5b1:decide (65536 < a0.size)=false:=decide_eq_false (by omega)
 clear c5
 by_cases c6:(l3.length:Int) > 4096
 ·rw [if_pos c6] at H
  have c6b0:decide (4096 < (l3.length:Int))=true:=decide_eq_true c6
  have c6b1:decide (4096 < l3.length)=true:=decide_eq_true (by omega)
  clear c6
  simp only [Option.some.injEq,Prod.mk.injEq] at H
  obtain ⟨rfl,rfl⟩:=H
  go_enter Try.func18,Try.ntmps18
  go_wp2
  go_ret2
  exact ⟨by first|rfl|(simp [errW_none,errW_some]<;>rfl)|(simp [*,errW_none,errW_some]<;>rfl),by repeat (with_reducible first|exact HB.out|apply Q4|apply Q5|apply Q6)⟩
 rw [if_neg c6] at H
 have c6b0:decide (4096 < (l3.length:Int))=false:=decide_eq_false c6
 have c6b1:decide (4096 < l3.length)=false:=decide_eq_false (by omega)
 clear c6
 obtain ⟨⟨t270,t271⟩,A7,H⟩:=bindA H
 try dsimp only at H
 simp only [Option.some.injEq,Prod.mk.injEq] at H
 obtain ⟨rfl,rfl⟩:=H
 go_enter Try.func18,Try.ntmps18
 go_wp2_with (first|((with_reducible refine gate_callee (f:=42) rfl ?_);refine goesL_ (some 22) rfl rfl Try.func42 (by kernel_rfl) rfl #[.string a0,.int .i64 a1,.int .i64 a2,.slice A3 l3.length c3] rfl (by (try simp only [List.map_toArray,List.map_cons,List.map_nil]);first|done|rfl|(simp only [List.length_drop,List.length_take];rfl)) ?_;(with_reducible refine (spec_l06Lint.calls k a0 a1 a2 _ _ l3 t270 t271 _ ?side1 ?side2 A7.out).mono ?_);(case side1=>repeat (first|exact HR3.out|(with_reducible refine Kd.C_alloc ?_ _)|(with_reducible refine Kd.C_drewN ?_ _)|(with_reducible refine Kd.C_drew ?_)));(case side2=>exact HC3.out);rintro e w8 ⟨rfl,hb⟩;refine ⟨_,rfl,?_⟩;have n0_:=Aside0.mk (below_step (by repeat (with_reducible first|exact HB.out|apply Q4|apply Q5|apply Q6)) hb);clear HB;have HB:=n0_;clear n0_;(try clear hb);(try clear hb2);(try clear hk);(try clear hi)))
 go_ret2
 exact ⟨by first|rfl|(simp [errW_none,errW_some]<;>rfl)|(simp [*,errW_none,errW_some]<;>rfl),by repeat (with_reducible first|exact HB.out|apply Q4|apply Q5|apply Q6)⟩
def laws_toIntS.l0:Nat→List Int→List Int→Int→Option (List Int)
  | 0,_,_,_=>none
  | k+1,x0,x3,x4=>if x4 < (x0.length:Int) then (if 0≤x4 then (if x4 < (x3.length:Int) then (laws_toIntS.l0 k x0 (x3.set (x4:Int).toNat (rd x0 x4)) (wrap64 (x4+1))) else (none)) else (none)) else (some x3)
def laws_toIntS.f (k:Nat) (l0:List Int):Option (List Int):=if 0≤(l0.length:Int) then (if ((l0.length:Int):Int).toNat≤35184372088832 then (laws_toIntS.l0 k l0 (List.replicate ((l0.length:Int):Int).toNat 0) 0) else (none)) else (none)
theorem laws_toIntS.mono_l : ∀ k,(∀ y0 y1 y2,LeO (laws_toIntS.l0 k y0 y1 y2) (laws_toIntS.l0 (k+1) y0 y1 y2))
  | 0=>fun _ _ _ r h=>by simp [laws_toIntS.l0] at h
  | k+1=>by
    have ih0:=laws_toIntS.mono_l k
    · intro y0 y1 y2
      unfold laws_toIntS.l0
      repeat' (with_reducible first|apply ih0|apply LeO.refl|apply LeO.none|apply LeO.ite|refine LeO.bind ?_ (fun _=>?_))
theorem laws_toIntS.mono : ∀ a0 k,LeO (laws_toIntS.f k a0) (laws_toIntS.f (k+1) a0):=by
 intro a0 k
 have ih0:=laws_toIntS.mono_l k
 unfold laws_toIntS.f
 repeat' (with_reducible first|apply ih0|apply LeO.refl|apply LeO.none|apply LeO.ite|refine LeO.bind ?_ (fun _=>?_))
set_option maxHeartbeats 8000000 in
set_option maxRecDepth 100000 in
theorem laws_toIntS.calls (k:Nat) (A0:Option Addr) (c0:Nat) (l0:List Int) (r:List Int) (w:World) (hr0:Kd.C (Kd.int .i64) w A0 l0.length l0) (hc0:l0.length≤c0) (h:laws_toIntS.f k l0=some r) :
    Calls Try.prog 19 #[.slice A0 l0.length c0] w fun e w'=>∃ v0_:Value,e=.returned (v0_)∧Kd.R (Kd.int .i64) 3 w' w.heap.size (fun _=>True) v0_ r∧Below w.heap.size w w':=by
 have HR0:=Aside0.mk hr0
 have HC0:=Aside0.mk hc0
 clear hr0 hc0
 have HB:=Aside0.mk (Below.refl w.heap.size w)
 have H:(if 0≤(l0.length:Int) then (if ((l0.length:Int):Int).toNat≤35184372088832 then (laws_toIntS.l0 k l0 (List.replicate ((l0.length:Int):Int).toNat 0) 0) else (none)) else (none))=some r:=h
 clear h
 by_cases c2:0≤(l0.length:Int)
 ·rw [if_pos c2] at H
  have c2b0:=eq_true c2
  have c2b1:decide (0≤(l0.length:Int))=true:=decide_eq_true c2
  clear c2
  by_cases c3:((l0.length:Int):Int).toNat≤35184372088832
  ·rw [if_pos c3] at H
   have c3b0:=eq_true c3
   have c3b1:decide (((l0.length:Int):Int).toNat≤35184372088832)=true:=decide_eq_true c3
   clear c3
   obtain ⟨y272,hy272⟩ : ∃ y_:List Int,y_=(List.replicate ((l0.length:Int):Int).toNat 0):=⟨_,rfl⟩
   replace H:(laws_toIntS.l0 k l0 y272 0)=some r:=by first|(rw [hy272];with_reducible exact H)|(have H2_:=(Option.bind_some _ _).symm.trans H;rw [hy272];with_reducible exact H2_)|(have H2_:=(Option.bind_some _ _).symm.trans H;with_reducible exact H2_)|with_reducible exact H|(rw [hy272];exact H)|exact H
   have Ny272:=Aside0.mk hy272
   clear hy272
   have H':=Aside0.mk H
   clear H
   go_enter Try.func19,Try.ntmps19
   go_wp2_with (first|((with_reducible refine gate_dst (N:=7) rfl ?_);refine Kd.R_make (Kd.int .i64) _ 3 rfl (N:=7) rfl 37 _ _ rfl (l0.length:Int) rfl rfl Try.underlying37 (.int .i64 0) 8 info3 rfl (by decide) (by omega) 0 (ok:=fun _=>True) (okp:=fun _=>True) rfl (fun _ hk=>hk) trivial (of_decide_eq_true (by first|(with_reducible assumption)|assumption)) (Nat.le_trans (Nat.mul_le_mul_right _ (of_decide_eq_true (by first|(with_reducible assumption)|assumption):(l0.length:Int).toNat≤35184372088832)) (by omega)) (Below.refl _ _) (Nat.le_refl _) ?_;intro v273 w4 ho5 hb hg_ hnew_;clear hg_ hnew_;(first|rw [← Ny272.out] at ho5|(simp only [Int.reduceToNat] at ho5;rw [← Ny272.out] at ho5));have n0_:=Aside0.mk (Kd.R_lower ho5 (below_size (by repeat (with_reducible first|exact HB.out|apply Q4|apply Q5|apply Q6))));have n1_:=Aside0.mk (below_step (by repeat (with_reducible first|exact HB.out|apply Q4|apply Q5|apply Q6)) hb);clear HB;have HO274:=n0_;have HB:=n1_;clear n0_ n1_;clear hb ho5))
   go_loopg [4] k (fun kq v4 w'=>∃ (x3_1:List Int) (x4_1:Int),v4=.int .i64 x4_1∧Aside0 (laws_toIntS.l0 kq l0 x3_1 x4_1=some r)∧Aside0 (kq≤k)∧Aside0 (Kd.R (Kd.int .i64) 3 w' w.heap.size (fun _=>True) v273 x3_1)∧Aside0 (Below w.heap.size w w'))
   case atStart=>exact ⟨(y272),(0),(by first|rfl|(simp;done)|(simp [*];done)),H',⟨Nat.le_refl _⟩,⟨by (with_reducible repeat (first|apply Kd.R_alloc|apply Kd.R_drewN|apply Kd.R_drew));exact HO274.out⟩,⟨by repeat (with_reducible first|exact HB.out|apply Q4|apply Q5|apply Q6)⟩⟩
   clear H'
   try clear c2b0
   try clear c2b1
   try clear c3b0
   try clear c3b1
   obtain ⟨x3_1,x4_1,rfl,HA,HK1,HO_3,HB⟩:=hrel
   cases gk with
   | zero=>exact absurd HA.out (by simp [laws_toIntS.l0])
   | succ k1 =>
    have H:=HA.out
    clear HA
    simp only [laws_toIntS.l0] at H
    by_cases c6:x4_1 < (l0.length:Int)
    ·rw [if_pos c6] at H
     have c6b0:decide (x4_1 < (l0.length:Int))=true:=decide_eq_true c6
     clear c6
     by_cases c7:0≤x4_1
     ·rw [if_pos c7] at H
      have c7b0:decide (0≤x4_1)=true:=decide_eq_true c7
      clear c7
      by_cases c8:x4_1 < (x3_1.length:Int)
      ·rw [if_pos c8] at H
       have c8b0:decide (x4_1 < (x3_1.length:Int))=true:=decide_eq_true c8
       clear c8
       obtain ⟨y276,hy276⟩ : ∃ y_:List Int,y_=(x3_1.set (x4_1:Int).toNat (rd l0 x4_1)):=⟨_,rfl⟩
       replace H:(laws_toIntS.l0 k1 l0 y276 (wrap64 (x4_1+1)))=some r:=by first|(rw [hy276];with_reducible exact H)|(have H2_:=(Option.bind_some _ _).symm.trans H;rw [hy276];with_reducible exact H2_)|(have H2_:=(Option.bind_some _ _).symm.trans H;with_reducible exact H2_)|with_reducible exact H|(rw [hy276];exact H)|exact H
       have Ny276:=Aside0.mk hy276
       clear hy276
       have H':=Aside0.mk H
       clear H
       have p275:0≤(x4_1:Int):=of_decide_eq_true (by first|(with_reducible assumption)|assumption)
       have q275:x4_1 < (l0.length:Int):=of_decide_eq_true (by first|(with_reducible assumption)|assumption)
       obtain ⟨ad275,e275,hx275_0⟩:=Kd.at_int HR0.out x4_1 p275 q275
       cases e275
       replace hx275_0:=(HB.out.cell (World.block_lt_of_cell? w _ hx275_0)).trans hx275_0
       replace p275:=eq_true p275
       replace q275:=eq_true q275
       have p9:0≤(x4_1:Int):=of_decide_eq_true (by first|(with_reducible assumption)|assumption)
       have q9:(x4_1:Int) < ((x3_1.length:Int):Int):=of_decide_eq_true (by first|(with_reducible assumption)|assumption)
       obtain ⟨go9,co9,eo9,gb9,gl9,cl9,HG9⟩:=Kd.R_form HO_3.out (by omega)
       (first|cases eo9|(injection eo9 with ea_ en_ ec_;(first|subst ea_|(injection ea_ with ea_;subst ea_));subst ec_;clear en_))
       have GB9:=Aside0.mk gb9
       have GG9:=Aside0.mk HG9
       clear gb9 gl9 HG9
       obtain ⟨hx9_0,hf9_0⟩:=Kd.R_celln 0 HO_3.out (x4_1:Int) p9 q9
       replace p9:=eq_true p9
       replace q9:=eq_true q9
       have HP10:=Kd.R_putg HO_3.out (x4_1:Int) (rd l0 x4_1)
       go_wp2_with (first|((with_reducible refine gate_store (t:=3) (p:=20) rfl ?_);refine store_event (t:=3) (p:=20) (v:=?vo_w11) (w1:=(wr.setCell ⟨go9,(x4_1:Int).toNat,none⟩ (.int .i64 (rd l0 x4_1)))) ?hg ?ho ?hn ?hr ?_;(case ho=>rfl);(case hg=>rfl);(case hn=>rfl);(case hr=>first|(go_simp;done)|(go_simp;rfl));intro w11 hw;have hg:wr.grownBy w11 (some go9):=(by rw [hw];exact HP10.2);have hp_:Kd.R (Kd.int .i64) 3 w11 w.heap.size (fun _=>True) (.slice (some ⟨go9,0,none⟩) x3_1.length co9) y276:=(by rw [hw,Ny276.out];exact HP10.1);clear HP10;have n0_:=Aside0.mk (hp_);have n1_:=Aside0.mk ((by rw [hw];exact below_set (HB.out) GB9.out:Below w.heap.size w w11));clear HO_3;clear HB;have HO_3:=n0_;have HB:=n1_;clear n0_ n1_;clear hg hw hp_))
       go_roundg k1
       case measure=>have:=HK1.out;omega
       case rel=>exact ⟨(y276),(wrap64 (x4_1+1)),(by first|rfl|(simp;done)|(simp [*];done)),H',⟨by have:=HK1.out;omega⟩,⟨by (with_reducible repeat (first|apply Kd.R_alloc|apply Kd.R_drewN|apply Kd.R_drew));exact HO_3.out⟩,⟨by repeat (with_reducible first|exact HB.out|apply Q4|apply Q5|apply Q6)⟩⟩
      rw [if_neg c8] at H
      exact absurd H (by simp)
     rw [if_neg c7] at H
     exact absurd H (by simp)
    rw [if_neg c6] at H
    have c6b0:decide (x4_1 < (l0.length:Int))=false:=decide_eq_false c6
    clear c6
    obtain rfl:=Option.some.inj H
    go_wp2
    go_ret
    exact ⟨_,by first|rfl|(simp [errW_none,errW_some]<;>rfl)|(simp [*,errW_none,errW_some]<;>rfl),by (with_reducible repeat (first|apply Kd.R_alloc|apply Kd.R_drewN|apply Kd.R_drew));exact HO_3.out,by repeat (with_reducible first|exact HB.out|apply Q4|apply Q5|apply Q6)⟩
  rw [if_neg c3] at H
  exact absurd H (by simp)
 rw [if_neg c2] at H
 exact absurd H (by simp)
def impl_isLong.f (a0:ByteArray):Option (Bool):=some (decide ((a0.size:Int) > 65536))
set_option maxHeartbeats 8000000 in
set_option maxRecDepth 100000 in
theorem impl_isLong.calls (a0:ByteArray) (r:Bool) (w:World) (h:impl_isLong.f a0=some r) :
    Calls Try.prog 36 #[.string a0] w fun e w'=>e=.returned (.bool r)∧Drawn0 w w':=by
 have H:(some (decide ((a0.size:Int) > 65536)))=some r:=h
 clear h
 obtain rfl:=Option.some.inj H
 go_enter Try.func36,Try.ntmps36
 go_wp2
 go_ret
 exact ⟨by first|rfl|(simp;done)|(simp [*];done),by repeat (first|exact Drawn0.refl _|apply Drawn0.step)⟩
def impl_within.f (a0:Int) (a1:Int) (a2:Int):Option (Bool):=if a1≤a0 then (some (decide (a0≤a2))) else (some false)
set_option maxHeartbeats 8000000 in
set_option maxRecDepth 100000 in
theorem impl_within.calls (a0:Int) (a1:Int) (a2:Int) (r:Bool) (w:World) (h:impl_within.f a0 a1 a2=some r) :
    Calls Try.prog 56 #[.int .i64 a0,.int .i64 a1,.int .i64 a2] w fun e w'=>e=.returned (.bool r)∧Drawn0 w w':=by
 have H:(if a1≤a0 then (some (decide (a0≤a2))) else (some false))=some r:=h
 clear h
 by_cases c4:a1≤a0
 ·rw [if_pos c4] at H
  have c4b0:decide (a1≤a0)=true:=decide_eq_true c4
  clear c4
  obtain rfl:=Option.some.inj H
  go_enter Try.func56,Try.ntmps56
  go_wp2
  go_ret
  exact ⟨by first|rfl|(simp;done)|(simp [*];done),by repeat (first|exact Drawn0.refl _|apply Drawn0.step)⟩
 rw [if_neg c4] at H
 have c4b0:decide (a1≤a0)=false:=decide_eq_false c4
 clear c4
 obtain rfl:=Option.some.inj H
 go_enter Try.func56,Try.ntmps56
 go_wp2
 go_ret
 exact ⟨by first|rfl|(simp;done)|(simp [*];done),by repeat (first|exact Drawn0.refl _|apply Drawn0.step)⟩
def impl_isCodeAt.f (a0:Int):Option (Bool):=(impl_within.f a0 0 1048575).bind fun t277=>(if t277=true then (some ((Int.tmod a0 4)==0)) else (some false))
set_option maxHeartbeats 8000000 in
set_option maxRecDepth 100000 in
theorem impl_isCodeAt.calls (a0:Int) (r:Bool) (w:World) (h:impl_isCodeAt.f a0=some r) :
    Calls Try.prog 48 #[.int .i64 a0] w fun e w'=>e=.returned (.bool r)∧Drawn0 w w':=by
 have H:((impl_within.f a0 0 1048575).bind fun t277=>(if t277=true then (some ((Int.tmod a0 4)==0)) else (some false)))=some r:=h
 clear h
 obtain ⟨t277,A2,H⟩:=bindA H
 by_cases c3:t277=true
 ·subst c3
  rw [if_pos rfl] at H
  obtain rfl:=Option.some.inj H
  go_enter Try.func48,Try.ntmps48
  go_wp2_with (first|((with_reducible refine gate_callee (f:=56) rfl ?_);refine goesL_ (some 4) rfl rfl Try.func56 (by kernel_rfl) rfl #[.int .i64 a0,.int .i64 0,.int .i64 1048575] rfl (by (try simp only [List.map_toArray,List.map_cons,List.map_nil]);first|done|rfl|(simp only [List.length_drop,List.length_take];rfl)) ?_;(with_reducible refine (impl_within.calls a0 0 1048575 true _ A2.out).mono ?_);rintro e w' ⟨rfl,⟨nd,rfl⟩⟩;refine ⟨_,rfl,?_⟩))
  go_ret
  exact ⟨by first|rfl|(simp;done)|(simp [*];done),by repeat (first|exact Drawn0.refl _|apply Drawn0.step)⟩
 replace c3:=Bool.eq_false_iff.mpr c3
 subst c3
 rw [if_neg (show ¬ (false=true) by decide)] at H
 obtain rfl:=Option.some.inj H
 go_enter Try.func48,Try.ntmps48
 go_wp2_with (first|((with_reducible refine gate_callee (f:=56) rfl ?_);refine goesL_ (some 4) rfl rfl Try.func56 (by kernel_rfl) rfl #[.int .i64 a0,.int .i64 0,.int .i64 1048575] rfl (by (try simp only [List.map_toArray,List.map_cons,List.map_nil]);first|done|rfl|(simp only [List.length_drop,List.length_take];rfl)) ?_;(with_reducible refine (impl_within.calls a0 0 1048575 false _ A2.out).mono ?_);rintro e w' ⟨rfl,⟨nd,rfl⟩⟩;refine ⟨_,rfl,?_⟩))
 go_ret
 exact ⟨by first|rfl|(simp;done)|(simp [*];done),by repeat (first|exact Drawn0.refl _|apply Drawn0.step)⟩
def impl_FrameOK.f (a0:Int):Option (Bool):=(impl_within.f a0 16 128).bind fun t278=>(if t278=true then (some ((Int.tmod a0 16)==0)) else (some false))
set_option maxHeartbeats 8000000 in
set_option maxRecDepth 100000 in
theorem impl_FrameOK.calls (a0:Int) (r:Bool) (w:World) (h:impl_FrameOK.f a0=some r) :
    Calls Try.prog 69 #[.int .i64 a0] w fun e w'=>e=.returned (.bool r)∧Drawn0 w w':=by
 have H:((impl_within.f a0 16 128).bind fun t278=>(if t278=true then (some ((Int.tmod a0 16)==0)) else (some false)))=some r:=h
 clear h
 obtain ⟨t278,A2,H⟩:=bindA H
 by_cases c3:t278=true
 ·subst c3
  rw [if_pos rfl] at H
  obtain rfl:=Option.some.inj H
  go_enter Try.func69,Try.ntmps69
  go_wp2_with (first|((with_reducible refine gate_callee (f:=56) rfl ?_);refine goesL_ (some 4) rfl rfl Try.func56 (by kernel_rfl) rfl #[.int .i64 a0,.int .i64 16,.int .i64 128] rfl (by (try simp only [List.map_toArray,List.map_cons,List.map_nil]);first|done|rfl|(simp only [List.length_drop,List.length_take];rfl)) ?_;(with_reducible refine (impl_within.calls a0 16 128 true _ A2.out).mono ?_);rintro e w' ⟨rfl,⟨nd,rfl⟩⟩;refine ⟨_,rfl,?_⟩))
  go_ret
  exact ⟨by first|rfl|(simp;done)|(simp [*];done),by repeat (first|exact Drawn0.refl _|apply Drawn0.step)⟩
 replace c3:=Bool.eq_false_iff.mpr c3
 subst c3
 rw [if_neg (show ¬ (false=true) by decide)] at H
 obtain rfl:=Option.some.inj H
 go_enter Try.func69,Try.ntmps69
 go_wp2_with (first|((with_reducible refine gate_callee (f:=56) rfl ?_);refine goesL_ (some 4) rfl rfl Try.func56 (by kernel_rfl) rfl #[.int .i64 a0,.int .i64 16,.int .i64 128] rfl (by (try simp only [List.map_toArray,List.map_cons,List.map_nil]);first|done|rfl|(simp only [List.length_drop,List.length_take];rfl)) ?_;(with_reducible refine (impl_within.calls a0 16 128 false _ A2.out).mono ?_);rintro e w' ⟨rfl,⟨nd,rfl⟩⟩;refine ⟨_,rfl,?_⟩))
 go_ret
 exact ⟨by first|rfl|(simp;done)|(simp [*];done),by repeat (first|exact Drawn0.refl _|apply Drawn0.step)⟩
def impl_isCodeSize.f (a0:ByteArray):Option (Bool):=if ((a0.size:Int) % 4)=0 then (some (decide ((a0.size:Int)≤256))) else (some false)
set_option maxHeartbeats 8000000 in
set_option maxRecDepth 100000 in
theorem impl_isCodeSize.calls (a0:ByteArray) (r:Bool) (w:World) (h:impl_isCodeSize.f a0=some r) :
    Calls Try.prog 79 #[.string a0] w fun e w'=>e=.returned (.bool r)∧Drawn0 w w':=by
 have H:(if ((a0.size:Int) % 4)=0 then (some (decide ((a0.size:Int)≤256))) else (some false))=some r:=h
 clear h
 by_cases c2:((a0.size:Int) % 4)=0
 ·rw [if_pos c2] at H
  obtain ⟨c2b0,c2b1⟩:=eqP c2
  clear c2
  obtain rfl:=Option.some.inj H
  go_enter Try.func79,Try.ntmps79
  go_wp2
  go_ret
  exact ⟨by first|rfl|(simp;done)|(simp [*];done),by repeat (first|exact Drawn0.refl _|apply Drawn0.step)⟩
 rw [if_neg c2] at H
 obtain ⟨c2b0,c2b1⟩:=eqN c2
 obtain rfl:=Option.some.inj H
 go_enter Try.func79,Try.ntmps79
 go_wp2
 go_ret
 exact ⟨by first|rfl|(simp;done)|(simp [*];done),by repeat (first|exact Drawn0.refl _|apply Drawn0.step)⟩
def impl_isFuncSize.f (a0:ByteArray):Option (Bool):=(impl_isCodeSize.f a0).bind fun t279=>(if t279=true then (some (decide ((a0.size:Int)≥20))) else (some false))
set_option maxHeartbeats 8000000 in
set_option maxRecDepth 100000 in
theorem impl_isFuncSize.calls (a0:ByteArray) (r:Bool) (w:World) (h:impl_isFuncSize.f a0=some r) :
    Calls Try.prog 70 #[.string a0] w fun e w'=>e=.returned (.bool r)∧Drawn0 w w':=by
 have H:((impl_isCodeSize.f a0).bind fun t279=>(if t279=true then (some (decide ((a0.size:Int)≥20))) else (some false)))=some r:=h
 clear h
 obtain ⟨t279,A2,H⟩:=bindA H
 by_cases c3:t279=true
 ·subst c3
  rw [if_pos rfl] at H
  obtain rfl:=Option.some.inj H
  go_enter Try.func70,Try.ntmps70
  go_wp2_with (first|((with_reducible refine gate_callee (f:=79) rfl ?_);refine goesL_ (some 4) rfl rfl Try.func79 (by kernel_rfl) rfl #[.string a0] rfl (by (try simp only [List.map_toArray,List.map_cons,List.map_nil]);first|done|rfl|(simp only [List.length_drop,List.length_take];rfl)) ?_;(with_reducible refine (impl_isCodeSize.calls a0 true _ A2.out).mono ?_);rintro e w' ⟨rfl,⟨nd,rfl⟩⟩;refine ⟨_,rfl,?_⟩))
  go_ret
  exact ⟨by first|rfl|(simp;done)|(simp [*];done),by repeat (first|exact Drawn0.refl _|apply Drawn0.step)⟩
 replace c3:=Bool.eq_false_iff.mpr c3
 subst c3
 rw [if_neg (show ¬ (false=true) by decide)] at H
 obtain rfl:=Option.some.inj H
 go_enter Try.func70,Try.ntmps70
 go_wp2_with (first|((with_reducible refine gate_callee (f:=79) rfl ?_);refine goesL_ (some 4) rfl rfl Try.func79 (by kernel_rfl) rfl #[.string a0] rfl (by (try simp only [List.map_toArray,List.map_cons,List.map_nil]);first|done|rfl|(simp only [List.length_drop,List.length_take];rfl)) ?_;(with_reducible refine (impl_isCodeSize.calls a0 false _ A2.out).mono ?_);rintro e w' ⟨rfl,⟨nd,rfl⟩⟩;refine ⟨_,rfl,?_⟩))
 go_ret
 exact ⟨by first|rfl|(simp;done)|(simp [*];done),by repeat (first|exact Drawn0.refl _|apply Drawn0.step)⟩
def impl_ops.f  : Option ((List (S120))):=some (([(⟨(⟨#[]⟩:ByteArray),(⟨0,0,0,0⟩:S109)⟩:S120),(⟨(⟨#[108,117,105]⟩:ByteArray),(⟨1,55,0,0⟩:S109)⟩:S120),(⟨(⟨#[97,117,105,112,99]⟩:ByteArray),(⟨1,23,0,0⟩:S109)⟩:S120),(⟨(⟨#[106,97,108]⟩:ByteArray),(⟨2,111,0,0⟩:S109)⟩:S120),(⟨(⟨#[106,97,108,114]⟩:ByteArray),(⟨3,103,0,0⟩:S109)⟩:S120),(⟨(⟨#[98,101,113]⟩:ByteArray),(⟨4,99,0,0⟩:S109)⟩:S120),(⟨(⟨#[98,110,101]⟩:ByteArray),(⟨4,99,1,0⟩:S109)⟩:S120),(⟨(⟨#[98,108,116]⟩:ByteArray),(⟨4,99,4,0⟩:S109)⟩:S120),(⟨(⟨#[98,103,101]⟩:ByteArray),(⟨4,99,5,0⟩:S109)⟩:S120),(⟨(⟨#[98,108,116,117]⟩:ByteArray),(⟨4,99,6,0⟩:S109)⟩:S120),(⟨(⟨#[98,103,101,117]⟩:ByteArray),(⟨4,99,7,0⟩:S109)⟩:S120),(⟨(⟨#[108,98]⟩:ByteArray),(⟨3,3,0,0⟩:S109)⟩:S120),(⟨(⟨#[108,104]⟩:ByteArray),(⟨3,3,1,0⟩:S109)⟩:S120),(⟨(⟨#[108,119]⟩:ByteArray),(⟨3,3,2,0⟩:S109)⟩:S120),(⟨(⟨#[108,100]⟩:ByteArray),(⟨3,3,3,0⟩:S109)⟩:S120),(⟨(⟨#[108,98,117]⟩:ByteArray),(⟨3,3,4,0⟩:S109)⟩:S120),(⟨(⟨#[108,104,117]⟩:ByteArray),(⟨3,3,5,0⟩:S109)⟩:S120),(⟨(⟨#[108,119,117]⟩:ByteArray),(⟨3,3,6,0⟩:S109)⟩:S120),(⟨(⟨#[115,98]⟩:ByteArray),(⟨5,35,0,0⟩:S109)⟩:S120),(⟨(⟨#[115,104]⟩:ByteArray),(⟨5,35,1,0⟩:S109)⟩:S120),(⟨(⟨#[115,119]⟩:ByteArray),(⟨5,35,2,0⟩:S109)⟩:S120),(⟨(⟨#[115,100]⟩:ByteArray),(⟨5,35,3,0⟩:S109)⟩:S120),(⟨(⟨#[97,100,100,105]⟩:ByteArray),(⟨3,19,0,0⟩:S109)⟩:S120),(⟨(⟨#[115,108,116,105]⟩:ByteArray),(⟨3,19,2,0⟩:S109)⟩:S120),(⟨(⟨#[115,108,116,105,117]⟩:ByteArray),(⟨3,19,3,0⟩:S109)⟩:S120),(⟨(⟨#[120,111,114,105]⟩:ByteArray),(⟨3,19,4,0⟩:S109)⟩:S120),(⟨(⟨#[111,114,105]⟩:ByteArray),(⟨3,19,6,0⟩:S109)⟩:S120),(⟨(⟨#[97,110,100,105]⟩:ByteArray),(⟨3,19,7,0⟩:S109)⟩:S120),(⟨(⟨#[115,108,108,105]⟩:ByteArray),(⟨6,19,1,0⟩:S109)⟩:S120),(⟨(⟨#[115,114,108,105]⟩:ByteArray),(⟨6,19,5,0⟩:S109)⟩:S120),(⟨(⟨#[115,114,97,105]⟩:ByteArray),(⟨6,19,5,32⟩:S109)⟩:S120),(⟨(⟨#[97,100,100]⟩:ByteArray),(⟨8,51,0,0⟩:S109)⟩:S120),(⟨(⟨#[115,117,98]⟩:ByteArray),(⟨8,51,0,32⟩:S109)⟩:S120),(⟨(⟨#[115,108,108]⟩:ByteArray),(⟨8,51,1,0⟩:S109)⟩:S120),(⟨(⟨#[115,108,116]⟩:ByteArray),(⟨8,51,2,0⟩:S109)⟩:S120),(⟨(⟨#[115,108,116,117]⟩:ByteArray),(⟨8,51,3,0⟩:S109)⟩:S120),(⟨(⟨#[120,111,114]⟩:ByteArray),(⟨8,51,4,0⟩:S109)⟩:S120),(⟨(⟨#[115,114,108]⟩:ByteArray),(⟨8,51,5,0⟩:S109)⟩:S120),(⟨(⟨#[115,114,97]⟩:ByteArray),(⟨8,51,5,32⟩:S109)⟩:S120),(⟨(⟨#[111,114]⟩:ByteArray),(⟨8,51,6,0⟩:S109)⟩:S120),(⟨(⟨#[97,110,100]⟩:ByteArray),(⟨8,51,7,0⟩:S109)⟩:S120),(⟨(⟨#[97,100,100,105,119]⟩:ByteArray),(⟨3,27,0,0⟩:S109)⟩:S120),(⟨(⟨#[115,108,108,105,119]⟩:ByteArray),(⟨7,27,1,0⟩:S109)⟩:S120),(⟨(⟨#[115,114,108,105,119]⟩:ByteArray),(⟨7,27,5,0⟩:S109)⟩:S120),(⟨(⟨#[115,114,97,105,119]⟩:ByteArray),(⟨7,27,5,32⟩:S109)⟩:S120),(⟨(⟨#[97,100,100,119]⟩:ByteArray),(⟨8,59,0,0⟩:S109)⟩:S120),(⟨(⟨#[115,117,98,119]⟩:ByteArray),(⟨8,59,0,32⟩:S109)⟩:S120),(⟨(⟨#[115,108,108,119]⟩:ByteArray),(⟨8,59,1,0⟩:S109)⟩:S120),(⟨(⟨#[115,114,108,119]⟩:ByteArray),(⟨8,59,5,0⟩:S109)⟩:S120),(⟨(⟨#[115,114,97,119]⟩:ByteArray),(⟨8,59,5,32⟩:S109)⟩:S120),(⟨(⟨#[109,117,108]⟩:ByteArray),(⟨8,51,0,1⟩:S109)⟩:S120),(⟨(⟨#[109,117,108,104]⟩:ByteArray),(⟨8,51,1,1⟩:S109)⟩:S120),(⟨(⟨#[109,117,108,104,115,117]⟩:ByteArray),(⟨8,51,2,1⟩:S109)⟩:S120),(⟨(⟨#[109,117,108,104,117]⟩:ByteArray),(⟨8,51,3,1⟩:S109)⟩:S120),(⟨(⟨#[100,105,118]⟩:ByteArray),(⟨8,51,4,1⟩:S109)⟩:S120),(⟨(⟨#[100,105,118,117]⟩:ByteArray),(⟨8,51,5,1⟩:S109)⟩:S120),(⟨(⟨#[114,101,109]⟩:ByteArray),(⟨8,51,6,1⟩:S109)⟩:S120),(⟨(⟨#[114,101,109,117]⟩:ByteArray),(⟨8,51,7,1⟩:S109)⟩:S120),(⟨(⟨#[109,117,108,119]⟩:ByteArray),(⟨8,59,0,1⟩:S109)⟩:S120),(⟨(⟨#[100,105,118,119]⟩:ByteArray),(⟨8,59,4,1⟩:S109)⟩:S120),(⟨(⟨#[100,105,118,117,119]⟩:ByteArray),(⟨8,59,5,1⟩:S109)⟩:S120),(⟨(⟨#[114,101,109,119]⟩:ByteArray),(⟨8,59,6,1⟩:S109)⟩:S120),(⟨(⟨#[114,101,109,117,119]⟩:ByteArray),(⟨8,59,7,1⟩:S109)⟩:S120),(⟨(⟨#[101,99,97,108,108]⟩:ByteArray),(⟨9,115,0,0⟩:S109)⟩:S120),(⟨(⟨#[101,98,114,101,97,107]⟩:ByteArray),(⟨9,115,0,1⟩:S109)⟩:S120)]:List (S120)))
def impl_ops.tab:List S120:=(impl_ops.f).getD []
def impl_ops.row (x:S120):List Value:=[.string x.f0,.int .i64 x.f1.f0,.int .i64 x.f1.f1,.int .i64 x.f1.f2,.int .i64 x.f1.f3]
def impl_ops.cells:List Value:=impl_ops.tab.flatMap impl_ops.row
def buildsOf (P:Program):List Oper→Act→Option Act
  | [],a=>some a
  | o :: r,a=>match o.guard,o.op with
    | none,.build t parts=>match P.built t (parts.map fun (i,x)=>(i,a.eval x)).toList with
      | some cs=>buildsOf P r (a.put o.dst (.agg cs))
      | none=>none
    | _,_=>none
theorem wpList_builds {P:Program} {ops:Array Oper} {Q:Exit→Act→World→Prop} {rest:List Oper} {w:World} : ∀ (pre:List Oper) (a a':Act),buildsOf P pre a=some a'→wpList P ops Q rest a' w→wpList P ops Q (pre ++ rest) a w
  | [],a,a',h,k=>by
    obtain rfl:=Option.some.inj h
    exact k
  | o :: r,a,a',h,k=>by
    unfold buildsOf at h
    split at h
    · rename_i t parts hg ho
      split at h
      · rename_i cs hc
        exact wpList_plain hg fun K hK=>wp_build t parts ho (by rw [hc];rfl) (by rw [hc];exact hK _ _ (wpList_builds r _ _ h k))
      · cases h
    · cases h
theorem wpList_of_eq {P:Program} {ops:Array Oper} {Q:Exit→Act→World→Prop} {l l':List Oper} {a:Act} {w:World} (h:l'=l) (k:wpList P ops Q l a w):wpList P ops Q l' a w:=h ▸ k
theorem exec_buildSlice {P:Program} {o:Oper} {a:Act} {W:World} (t e:TypeId) (len size:Nat) (parts:Array (Nat × Operand)) (z:Value) (cells:Array Value) (ho:o.op=.buildSlice t len parts)
    (hu:P.underlying t=some (.slice e)) (hi:(P.info? e).map (fun i=>(i.zero,i.size))=some (some z,size)) (h0:len*size≠0) (h1:¬ len*size > 2 ^ 24)
    (hf:Instr.fill (fun i=>some (i*size,size)) ((Array.range (len*size)).map (z.cells[· % z.cells.size]!)) (parts.map fun (i,x)=>(i,a.eval x)).toList=some cells) :
    (execOp a.eval o).run P W=.ok (.value (.slice (some ⟨W.heap.size,0,none⟩) len len)) (W.alloc (.cells cells e)):=by
 obtain ⟨i,hi1,hi2⟩:=Option.map_eq_some_iff.1 hi
 simp only [Prod.mk.injEq] at hi2
 obtain ⟨hz,hs⟩:=hi2
 have h1':¬ 16777216 < len*size:=by simpa using h1
 subst hs
 have hr:(Instr.buildSlice t len (parts.map fun (i,x)=>(i,a.eval x))).run P W=.ok (.slice (some ⟨W.heap.size,0,none⟩) len len) (W.alloc (.cells cells e)):=by
  simp only [Instr.buildSlice]
  have hf':Instr.fill (fun i_1=>some (i_1*i.size,i.size)) (Array.map (fun x=>z.cells[x % z.cells.size]!) (Array.range (len*i.size))) (List.map (fun x=>(x.fst,a.eval x.snd)) parts.toList)=some cells:=by simpa using hf
  simp [run_underlying hu,sizeOf,typeInfo,zeroValue,hi1,hz,h1',newRow]
  rw [if_neg h0,hf']
  simp
 unfold execOp
 simp only [ho,Sem.run_bind,hr,Result.andThen_ok]
 rfl
noncomputable def impl_ops.R:List Oper:=(opsOf Try.f106 1).toList
noncomputable def impl_ops.o1 : Oper := impl_ops.R.getD 129 { dst := none, op := .ready 0, type := 0, pos := "", after := #[], guard := none }
noncomputable def impl_ops.o2 : Oper := impl_ops.R.getD 130 { dst := none, op := .ready 0, type := 0, pos := "", after := #[], guard := none }
noncomputable def impl_ops.parts:Array (Nat × Operand):=match impl_ops.o1.op with
  | .buildSlice _ _ p=>p
  | _=>#[]
noncomputable def impl_ops.t:TypeId:=match impl_ops.o1.op with
  | .buildSlice t _ _=>t
  | _=>0
noncomputable def impl_ops.a0:Act:=⟨#[.slice none 0 0] ++ Array.replicate 130 undef,[]⟩
noncomputable def impl_ops.a1:Act:=(buildsOf Try.prog (impl_ops.R.take 129) impl_ops.a0).getD impl_ops.a0
theorem impl_ops.built:buildsOf Try.prog (impl_ops.R.take 129) impl_ops.a0=some impl_ops.a1:=by kernel_rfl
theorem impl_ops.fills:Instr.fill (fun i=>some (i*5,5)) ((Array.range (65*5)).map ((Value.agg #[(.string ⟨#[]⟩),(.int .i64 0),(.int .i64 0),(.int .i64 0),(.int .i64 0)]).cells[· % (Value.agg #[(.string ⟨#[]⟩),(.int .i64 0),(.int .i64 0),(.int .i64 0),(.int .i64 0)]).cells.size]!)) (impl_ops.parts.map fun (i,x)=>(i,impl_ops.a1.eval x)).toList=some impl_ops.cells.toArray:=by kernel_rfl
theorem impl_ops.reps (W:World) (base:Nat) (ok:Nat→Prop) : ∀ xs:List S120,Reps (k120.M W base ok) 5 xs (xs.flatMap impl_ops.row)
  | []=>Reps.none _ _
  | x :: r=>Reps.c5 (k120_mkM W base ok x) (impl_ops.reps W base ok r)
set_option maxHeartbeats 8000000 in
set_option maxRecDepth 100000 in
theorem impl_ops.calls  (r:List (S120)) (w:World) (h:impl_ops.f  = some r) :
    Calls Try.prog 106 #[] w fun e w'=>∃ v0_:Value,e=.returned (v0_)∧Kd.R k120 120 w' w.heap.size (fun _=>True) v0_ r∧Below w.heap.size w w':=by
 have hr:r=impl_ops.tab:=by
  have h2:impl_ops.f=some impl_ops.tab:=rfl
  exact Option.some.inj (h.symm.trans h2)
 subst hr
 clear h
 go_enter Try.func106,Try.ntmps106
 go_upto_region 1 with (fail)
 rename_i K hK
 refine wp_region_list ?_
 refine wpList_of_eq (l:=impl_ops.R.take 129 ++ [impl_ops.o1,impl_ops.o2]) (by kernel_rfl) ?_
 refine wpList_builds (impl_ops.R.take 129) _ impl_ops.a1 (by kernel_rfl) ?_
 refine Kd.R_lit k120 _ 120 (by kernel_rfl) (N:=130) (by kernel_rfl) (xs:=impl_ops.tab) (inner:=impl_ops.cells) (ok:=fun _=>True) (okp:=fun _=>True) ?hr (impl_ops.reps _ _ _ _) (fun _ hk=>hk) trivial (Below.refl _ _) (Nat.le_refl _) (by rw [show impl_ops.tab.length=65 from by kernel_rfl];decide) ?_
 case hr=>exact exec_buildSlice impl_ops.t 120 65 5 impl_ops.parts _ impl_ops.cells.toArray (by kernel_rfl) (by kernel_rfl) (by kernel_rfl) (by decide) (by decide) impl_ops.fills
 intro v1 w1 hR hB hg hb
 refine Kd.event_run (v:=v1) (w1:=w1) (by kernel_rfl) ?_ ?_
 ·have ho:impl_ops.o2.op=.assign (.tmp 130):=by kernel_rfl
  have hd:impl_ops.o1.dst=some 130:=by kernel_rfl
  have hs:impl_ops.a1.tmps.size=131:=by kernel_rfl
  unfold execOp
  rw [ho,hd]
  simp [Act.eval,Act.put,hs]
 have hd:impl_ops.o1.dst=some 130:=by kernel_rfl
 have hd2:impl_ops.o2.dst=some 0:=by kernel_rfl
 have hs:impl_ops.a1.tmps.size=131:=by kernel_rfl
 have hde:impl_ops.a1.defers=[]:=by kernel_rfl
 refine wpList_nil ?_
 refine hK _ _ (wp_ret ?_)
 refine bodyPost_ret (results_tmp rfl _ _ _) (by rw [hd,hd2];exact hde) ?_
 refine ⟨v1,?_,hR,hB⟩
 rw [hd,hd2]
 simp [Act.put,hs]
def impl_bitsOf.f (a0:Int) (a1:Int) (a2:Int):Option (Int):=if 0≤a1 then (if 0≤a2 then (some (Go.bits .and .i64 (shr .i64 a0 a1) (wrap64 ((shl .i64 1 a2) - 1)))) else (none)) else (none)
set_option maxHeartbeats 8000000 in
set_option maxRecDepth 100000 in
theorem impl_bitsOf.calls (a0:Int) (a1:Int) (a2:Int) (r:Int) (w:World) (h:impl_bitsOf.f a0 a1 a2=some r) :
    Calls Try.prog 107 #[.int .i64 a0,.int .i64 a1,.int .i64 a2] w fun e w'=>e=.returned (.int .i64 r)∧Drawn0 w w':=by
 have H:(if 0≤a1 then (if 0≤a2 then (some (Go.bits .and .i64 (shr .i64 a0 a1) (wrap64 ((shl .i64 1 a2) - 1)))) else (none)) else (none))=some r:=h
 clear h
 by_cases c4:0≤a1
 ·rw [if_pos c4] at H
  have c4b0:=eq_true c4
  have c4b1:decide (0≤a1)=true:=decide_eq_true c4
  clear c4
  obtain ⟨ji5,hji5⟩ : ∃ j_:Int,(shr .i64 a0 a1)=j_:=⟨_,rfl⟩
  replace H:(if 0≤a2 then (some (Go.bits .and .i64 (ji5) (wrap64 ((shl .i64 1 a2) - 1)))) else (none))=some r:=by first|(rw [hji5] at H;exact H)|(simp only [hji5] at H ⊢;exact H)
  have hji5_:(a0 / 2 ^ min a1.toNat 64)=ji5:=hji5
  have hji5z:a1≤64→(a0 / 2 ^ a1.toNat)=ji5:=shr_small hji5
  by_cases c6:0≤a2
  ·rw [if_pos c6] at H
   have c6b0:=eq_true c6
   have c6b1:decide (0≤a2)=true:=decide_eq_true c6
   clear c6
   obtain ⟨ji7,hji7⟩ : ∃ j_:Int,(shl .i64 1 a2)=j_:=⟨_,rfl⟩
   replace H:(some (Go.bits .and .i64 (ji5) (wrap64 ((ji7) - 1))))=some r:=by first|(rw [hji7] at H;exact H)|(simp only [hji7] at H ⊢;exact H)
   have hji7_:(IntKind.i64.wrap (1*2 ^ min a2.toNat 64))=ji7:=hji7
   have hji7z:a2≤64→(IntKind.i64.wrap (1*2 ^ a2.toNat))=ji7:=shl_small hji7
   have hji7u:(IntKind.i64.wrap (2 ^ min a2.toNat 64))=ji7:=by have h_:=hji7_;rw [Int.one_mul] at h_;exact h_
   have hji7v:a2≤64→(IntKind.i64.wrap (2 ^ a2.toNat))=ji7:=fun hle_=>by have h_:=hji7z hle_;rw [Int.one_mul] at h_;exact h_
   have hji7y:(wrap64 (1*2 ^ min a2.toNat 64))=ji7:=(i64_w _).symm.trans hji7_
   have hji7x:a2≤64→(wrap64 (1*2 ^ a2.toNat))=ji7:=fun h_=>(i64_w _).symm.trans (hji7z h_)
   obtain rfl:=Option.some.inj H
   go_enter Try.func107,Try.ntmps107
   go_wp2
   repeat (go_quiet (fail);try go_wp2)
   go_ret
   exact ⟨by first|rfl|(simp;done)|(simp only [← hji5,← hji7]<;>(first|rfl|simp))|(simp [*];done),by repeat (first|exact Drawn0.refl _|apply Drawn0.step)⟩
  rw [if_neg c6] at H
  exact absurd H (by simp)
 rw [if_neg c4] at H
 exact absurd H (by simp)
def impl_pieces.f (a0:Int):Option ((List (S125))):=if a0=1 then (some (([(⟨12,20,12⟩:S125)]:List (S125)))) else (if a0=2 then (some (([(⟨12,8,12⟩:S125),(⟨11,1,20⟩:S125),(⟨1,10,21⟩:S125),(⟨20,1,31⟩:S125)]:List (S125)))) else (if a0=3 then (some (([(⟨0,12,20⟩:S125)]:List (S125)))) else (if a0=4 then (some (([(⟨11,1,7⟩:S125),(⟨1,4,8⟩:S125),(⟨5,6,25⟩:S125),(⟨12,1,31⟩:S125)]:List (S125)))) else (if a0=5 then (some (([(⟨0,5,7⟩:S125),(⟨5,7,25⟩:S125)]:List (S125)))) else (if a0=6 then (some (([(⟨0,6,20⟩:S125)]:List (S125)))) else (if a0=7 then (some (([(⟨0,5,20⟩:S125)]:List (S125)))) else (some ([]:List (S125)))))))))
set_option maxHeartbeats 8000000 in
set_option maxRecDepth 100000 in
theorem impl_pieces.calls (a0:Int) (r:List (S125)) (w:World) (h:impl_pieces.f a0=some r) :
    Calls Try.prog 108 #[.int .i64 a0] w fun e w'=>∃ v0_:Value,e=.returned (v0_)∧Kd.R k125 125 w' w.heap.size (fun _=>True) v0_ r∧Below w.heap.size w w':=by
 have hu125:=Try.underlying125
 have HB:=Aside0.mk (Below.refl w.heap.size w)
 have H:(if a0=1 then (some (([(⟨12,20,12⟩:S125)]:List (S125)))) else (if a0=2 then (some (([(⟨12,8,12⟩:S125),(⟨11,1,20⟩:S125),(⟨1,10,21⟩:S125),(⟨20,1,31⟩:S125)]:List (S125)))) else (if a0=3 then (some (([(⟨0,12,20⟩:S125)]:List (S125)))) else (if a0=4 then (some (([(⟨11,1,7⟩:S125),(⟨1,4,8⟩:S125),(⟨5,6,25⟩:S125),(⟨12,1,31⟩:S125)]:List (S125)))) else (if a0=5 then (some (([(⟨0,5,7⟩:S125),(⟨5,7,25⟩:S125)]:List (S125)))) else (if a0=6 then (some (([(⟨0,6,20⟩:S125)]:List (S125)))) else (if a0=7 then (some (([(⟨0,5,20⟩:S125)]:List (S125)))) else (some ([]:List (S125))))))))))=some r:=h
 clear h
 by_cases c2:a0=1
 ·rw [if_pos c2] at H
  obtain ⟨c2b0,c2b1⟩:=eqP c2
  clear c2
  obtain ⟨y283,hy283⟩ : ∃ y_:List (S125),y_=(([(⟨12,20,12⟩:S125)]:List (S125))):=⟨_,rfl⟩
  replace H:(some y283)=some r:=by first|(rw [hy283];with_reducible exact H)|(have H2_:=(Option.bind_some _ _).symm.trans H;rw [hy283];with_reducible exact H2_)|(have H2_:=(Option.bind_some _ _).symm.trans H;with_reducible exact H2_)|with_reducible exact H|(rw [hy283];exact H)|exact H
  have Ny283:=Aside0.mk hy283
  clear hy283
  obtain rfl:=Option.some.inj H
  go_enter Try.func108,Try.ntmps108
  go_wp2_with (first|((with_reducible refine gate_dst (N:=7) rfl ?_);refine Kd.R_lit k125 _ 125 ?hg (N:=7) ?hd (xs:=([(⟨12,20,12⟩:S125)]:List (S125))) (inner:=[.int .i64 12,.int .i64 20,.int .i64 12]) (ok:=fun _=>True) (okp:=fun _=>True) ?hr ?hp (fun _ hk=>hk) trivial (Below.refl _ _) (Nat.le_refl _) (by simp) ?_;(case hd=>rfl);(case hg=>rfl);(case hr=>first|(go_simp;done)|(go_simp;rfl));(case hp=>exact (Reps.c3 (show Kd.M k125 _ _ _ (⟨12,20,12⟩:S125) [.int .i64 12,.int .i64 20,.int .i64 12] from (k125_mkM _ _ _ (⟨12,20,12⟩:S125) )) (Reps.none _ _)));intro v284 w3 ho4 hb hg_ hnew_;clear hg_ hnew_;(first|rw [← Ny283.out] at ho4|(simp only [Int.reduceToNat] at ho4;rw [← Ny283.out] at ho4));have n0_:=Aside0.mk (Kd.R_lower ho4 (below_size (by repeat (with_reducible first|exact HB.out|apply Q4|apply Q5|apply Q6))));have n1_:=Aside0.mk (below_step (by repeat (with_reducible first|exact HB.out|apply Q4|apply Q5|apply Q6)) hb);clear HB;have HO285:=n0_;have HB:=n1_;clear n0_ n1_;clear hb ho4))
  go_ret
  exact ⟨_,by first|rfl|(simp [errW_none,errW_some]<;>rfl)|(simp [*,errW_none,errW_some]<;>rfl),by (with_reducible repeat (first|apply Kd.R_alloc|apply Kd.R_drewN|apply Kd.R_drew));exact HO285.out,by repeat (with_reducible first|exact HB.out|apply Q4|apply Q5|apply Q6)⟩
 rw [if_neg c2] at H
 obtain ⟨c2b0,c2b1⟩:=eqN c2
 by_cases c5:a0=2
 ·rw [if_pos c5] at H
  obtain ⟨c5b0,c5b1⟩:=eqP c5
  clear c5
  obtain ⟨y286,hy286⟩ : ∃ y_:List (S125),y_=(([(⟨12,8,12⟩:S125),(⟨11,1,20⟩:S125),(⟨1,10,21⟩:S125),(⟨20,1,31⟩:S125)]:List (S125))):=⟨_,rfl⟩
  replace H:(some y286)=some r:=by first|(rw [hy286];with_reducible exact H)|(have H2_:=(Option.bind_some _ _).symm.trans H;rw [hy286];with_reducible exact H2_)|(have H2_:=(Option.bind_some _ _).symm.trans H;with_reducible exact H2_)|with_reducible exact H|(rw [hy286];exact H)|exact H
  have Ny286:=Aside0.mk hy286
  clear hy286
  obtain rfl:=Option.some.inj H
  go_enter Try.func108,Try.ntmps108
  go_wp2_with (first|((with_reducible refine gate_dst (N:=14) rfl ?_);refine Kd.R_lit k125 _ 125 ?hg (N:=14) ?hd (xs:=([(⟨12,8,12⟩:S125),(⟨11,1,20⟩:S125),(⟨1,10,21⟩:S125),(⟨20,1,31⟩:S125)]:List (S125))) (inner:=[.int .i64 12,.int .i64 8,.int .i64 12,.int .i64 11,.int .i64 1,.int .i64 20,.int .i64 1,.int .i64 10,.int .i64 21,.int .i64 20,.int .i64 1,.int .i64 31]) (ok:=fun _=>True) (okp:=fun _=>True) ?hr ?hp (fun _ hk=>hk) trivial (Below.refl _ _) (Nat.le_refl _) (by simp) ?_;(case hd=>rfl);(case hg=>rfl);(case hr=>first|(go_simp;done)|(go_simp;rfl));(case hp=>exact (Reps.c3 (show Kd.M k125 _ _ _ (⟨12,8,12⟩:S125) [.int .i64 12,.int .i64 8,.int .i64 12] from (k125_mkM _ _ _ (⟨12,8,12⟩:S125) )) (Reps.c3 (show Kd.M k125 _ _ _ (⟨11,1,20⟩:S125) [.int .i64 11,.int .i64 1,.int .i64 20] from (k125_mkM _ _ _ (⟨11,1,20⟩:S125) )) (Reps.c3 (show Kd.M k125 _ _ _ (⟨1,10,21⟩:S125) [.int .i64 1,.int .i64 10,.int .i64 21] from (k125_mkM _ _ _ (⟨1,10,21⟩:S125) )) (Reps.c3 (show Kd.M k125 _ _ _ (⟨20,1,31⟩:S125) [.int .i64 20,.int .i64 1,.int .i64 31] from (k125_mkM _ _ _ (⟨20,1,31⟩:S125) )) (Reps.none _ _))))));intro v287 w6 ho7 hb hg_ hnew_;clear hg_ hnew_;(first|rw [← Ny286.out] at ho7|(simp only [Int.reduceToNat] at ho7;rw [← Ny286.out] at ho7));have n0_:=Aside0.mk (Kd.R_lower ho7 (below_size (by repeat (with_reducible first|exact HB.out|apply Q4|apply Q5|apply Q6))));have n1_:=Aside0.mk (below_step (by repeat (with_reducible first|exact HB.out|apply Q4|apply Q5|apply Q6)) hb);clear HB;have HO288:=n0_;have HB:=n1_;clear n0_ n1_;clear hb ho7))
  go_ret
  exact ⟨_,by first|rfl|(simp [errW_none,errW_some]<;>rfl)|(simp [*,errW_none,errW_some]<;>rfl),by (with_reducible repeat (first|apply Kd.R_alloc|apply Kd.R_drewN|apply Kd.R_drew));exact HO288.out,by repeat (with_reducible first|exact HB.out|apply Q4|apply Q5|apply Q6)⟩
 rw [if_neg c5] at H
 obtain ⟨c5b0,c5b1⟩:=eqN c5
 by_cases c8:a0=3
 ·rw [if_pos c8] at H
  obtain ⟨c8b0,c8b1⟩:=eqP c8
  clear c8
  obtain ⟨y289,hy289⟩ : ∃ y_:List (S125),y_=(([(⟨0,12,20⟩:S125)]:List (S125))):=⟨_,rfl⟩
  replace H:(some y289)=some r:=by first|(rw [hy289];with_reducible exact H)|(have H2_:=(Option.bind_some _ _).symm.trans H;rw [hy289];with_reducible exact H2_)|(have H2_:=(Option.bind_some _ _).symm.trans H;with_reducible exact H2_)|with_reducible exact H|(rw [hy289];exact H)|exact H
  have Ny289:=Aside0.mk hy289
  clear hy289
  obtain rfl:=Option.some.inj H
  go_enter Try.func108,Try.ntmps108
  go_wp2_with (first|((with_reducible refine gate_dst (N:=18) rfl ?_);refine Kd.R_lit k125 _ 125 ?hg (N:=18) ?hd (xs:=([(⟨0,12,20⟩:S125)]:List (S125))) (inner:=[.int .i64 0,.int .i64 12,.int .i64 20]) (ok:=fun _=>True) (okp:=fun _=>True) ?hr ?hp (fun _ hk=>hk) trivial (Below.refl _ _) (Nat.le_refl _) (by simp) ?_;(case hd=>rfl);(case hg=>rfl);(case hr=>first|(go_simp;done)|(go_simp;rfl));(case hp=>exact (Reps.c3 (show Kd.M k125 _ _ _ (⟨0,12,20⟩:S125) [.int .i64 0,.int .i64 12,.int .i64 20] from (k125_mkM _ _ _ (⟨0,12,20⟩:S125) )) (Reps.none _ _)));intro v290 w9 ho10 hb hg_ hnew_;clear hg_ hnew_;(first|rw [← Ny289.out] at ho10|(simp only [Int.reduceToNat] at ho10;rw [← Ny289.out] at ho10));have n0_:=Aside0.mk (Kd.R_lower ho10 (below_size (by repeat (with_reducible first|exact HB.out|apply Q4|apply Q5|apply Q6))));have n1_:=Aside0.mk (below_step (by repeat (with_reducible first|exact HB.out|apply Q4|apply Q5|apply Q6)) hb);clear HB;have HO291:=n0_;have HB:=n1_;clear n0_ n1_;clear hb ho10))
  go_ret
  exact ⟨_,by first|rfl|(simp [errW_none,errW_some]<;>rfl)|(simp [*,errW_none,errW_some]<;>rfl),by (with_reducible repeat (first|apply Kd.R_alloc|apply Kd.R_drewN|apply Kd.R_drew));exact HO291.out,by repeat (with_reducible first|exact HB.out|apply Q4|apply Q5|apply Q6)⟩
 rw [if_neg c8] at H
 obtain ⟨c8b0,c8b1⟩:=eqN c8
 by_cases c11:a0=4
 ·rw [if_pos c11] at H
  obtain ⟨c11b0,c11b1⟩:=eqP c11
  clear c11
  obtain ⟨y292,hy292⟩ : ∃ y_:List (S125),y_=(([(⟨11,1,7⟩:S125),(⟨1,4,8⟩:S125),(⟨5,6,25⟩:S125),(⟨12,1,31⟩:S125)]:List (S125))):=⟨_,rfl⟩
  replace H:(some y292)=some r:=by first|(rw [hy292];with_reducible exact H)|(have H2_:=(Option.bind_some _ _).symm.trans H;rw [hy292];with_reducible exact H2_)|(have H2_:=(Option.bind_some _ _).symm.trans H;with_reducible exact H2_)|with_reducible exact H|(rw [hy292];exact H)|exact H
  have Ny292:=Aside0.mk hy292
  clear hy292
  obtain rfl:=Option.some.inj H
  go_enter Try.func108,Try.ntmps108
  go_wp2_with (first|((with_reducible refine gate_dst (N:=25) rfl ?_);refine Kd.R_lit k125 _ 125 ?hg (N:=25) ?hd (xs:=([(⟨11,1,7⟩:S125),(⟨1,4,8⟩:S125),(⟨5,6,25⟩:S125),(⟨12,1,31⟩:S125)]:List (S125))) (inner:=[.int .i64 11,.int .i64 1,.int .i64 7,.int .i64 1,.int .i64 4,.int .i64 8,.int .i64 5,.int .i64 6,.int .i64 25,.int .i64 12,.int .i64 1,.int .i64 31]) (ok:=fun _=>True) (okp:=fun _=>True) ?hr ?hp (fun _ hk=>hk) trivial (Below.refl _ _) (Nat.le_refl _) (by simp) ?_;(case hd=>rfl);(case hg=>rfl);(case hr=>first|(go_simp;done)|(go_simp;rfl));(case hp=>exact (Reps.c3 (show Kd.M k125 _ _ _ (⟨11,1,7⟩:S125) [.int .i64 11,.int .i64 1,.int .i64 7] from (k125_mkM _ _ _ (⟨11,1,7⟩:S125) )) (Reps.c3 (show Kd.M k125 _ _ _ (⟨1,4,8⟩:S125) [.int .i64 1,.int .i64 4,.int .i64 8] from (k125_mkM _ _ _ (⟨1,4,8⟩:S125) )) (Reps.c3 (show Kd.M k125 _ _ _ (⟨5,6,25⟩:S125) [.int .i64 5,.int .i64 6,.int .i64 25] from (k125_mkM _ _ _ (⟨5,6,25⟩:S125) )) (Reps.c3 (show Kd.M k125 _ _ _ (⟨12,1,31⟩:S125) [.int .i64 12,.int .i64 1,.int .i64 31] from (k125_mkM _ _ _ (⟨12,1,31⟩:S125) )) (Reps.none _ _))))));intro v293 w12 ho13 hb hg_ hnew_;clear hg_ hnew_;(first|rw [← Ny292.out] at ho13|(simp only [Int.reduceToNat] at ho13;rw [← Ny292.out] at ho13));have n0_:=Aside0.mk (Kd.R_lower ho13 (below_size (by repeat (with_reducible first|exact HB.out|apply Q4|apply Q5|apply Q6))));have n1_:=Aside0.mk (below_step (by repeat (with_reducible first|exact HB.out|apply Q4|apply Q5|apply Q6)) hb);clear HB;have HO294:=n0_;have HB:=n1_;clear n0_ n1_;clear hb ho13))
  go_ret
  exact ⟨_,by first|rfl|(simp [errW_none,errW_some]<;>rfl)|(simp [*,errW_none,errW_some]<;>rfl),by (with_reducible repeat (first|apply Kd.R_alloc|apply Kd.R_drewN|apply Kd.R_drew));exact HO294.out,by repeat (with_reducible first|exact HB.out|apply Q4|apply Q5|apply Q6)⟩
 rw [if_neg c11] at H
 obtain ⟨c11b0,c11b1⟩:=eqN c11
 by_cases c14:a0=5
 ·rw [if_pos c14] at H
  obtain ⟨c14b0,c14b1⟩:=eqP c14
  clear c14
  obtain ⟨y295,hy295⟩ : ∃ y_:List (S125),y_=(([(⟨0,5,7⟩:S125),(⟨5,7,25⟩:S125)]:List (S125))):=⟨_,rfl⟩
  replace H:(some y295)=some r:=by first|(rw [hy295];with_reducible exact H)|(have H2_:=(Option.bind_some _ _).symm.trans H;rw [hy295];with_reducible exact H2_)|(have H2_:=(Option.bind_some _ _).symm.trans H;with_reducible exact H2_)|with_reducible exact H|(rw [hy295];exact H)|exact H
  have Ny295:=Aside0.mk hy295
  clear hy295
  obtain rfl:=Option.some.inj H
  go_enter Try.func108,Try.ntmps108
  go_wp2_with (first|((with_reducible refine gate_dst (N:=30) rfl ?_);refine Kd.R_lit k125 _ 125 ?hg (N:=30) ?hd (xs:=([(⟨0,5,7⟩:S125),(⟨5,7,25⟩:S125)]:List (S125))) (inner:=[.int .i64 0,.int .i64 5,.int .i64 7,.int .i64 5,.int .i64 7,.int .i64 25]) (ok:=fun _=>True) (okp:=fun _=>True) ?hr ?hp (fun _ hk=>hk) trivial (Below.refl _ _) (Nat.le_refl _) (by simp) ?_;(case hd=>rfl);(case hg=>rfl);(case hr=>first|(go_simp;done)|(go_simp;rfl));(case hp=>exact (Reps.c3 (show Kd.M k125 _ _ _ (⟨0,5,7⟩:S125) [.int .i64 0,.int .i64 5,.int .i64 7] from (k125_mkM _ _ _ (⟨0,5,7⟩:S125) )) (Reps.c3 (show Kd.M k125 _ _ _ (⟨5,7,25⟩:S125) [.int .i64 5,.int .i64 7,.int .i64 25] from (k125_mkM _ _ _ (⟨5,7,25⟩:S125) )) (Reps.none _ _))));intro v296 w15 ho16 hb hg_ hnew_;clear hg_ hnew_;(first|rw [← Ny295.out] at ho16|(simp only [Int.reduceToNat] at ho16;rw [← Ny295.out] at ho16));have n0_:=Aside0.mk (Kd.R_lower ho16 (below_size (by repeat (with_reducible first|exact HB.out|apply Q4|apply Q5|apply Q6))));have n1_:=Aside0.mk (below_step (by repeat (with_reducible first|exact HB.out|apply Q4|apply Q5|apply Q6)) hb);clear HB;have HO297:=n0_;have HB:=n1_;clear n0_ n1_;clear hb ho16))
  go_ret
  exact ⟨_,by first|rfl|(simp [errW_none,errW_some]<;>rfl)|(simp [*,errW_none,errW_some]<;>rfl),by (with_reducible repeat (first|apply Kd.R_alloc|apply Kd.R_drewN|apply Kd.R_drew));exact HO297.out,by repeat (with_reducible first|exact HB.out|apply Q4|apply Q5|apply Q6)⟩
 rw [if_neg c14] at H
 obtain ⟨c14b0,c14b1⟩:=eqN c14
 by_cases c17:a0=6
 ·rw [if_pos c17] at H
  obtain ⟨c17b0,c17b1⟩:=eqP c17
  clear c17
  obtain ⟨y298,hy298⟩ : ∃ y_:List (S125),y_=(([(⟨0,6,20⟩:S125)]:List (S125))):=⟨_,rfl⟩
  replace H:(some y298)=some r:=by first|(rw [hy298];with_reducible exact H)|(have H2_:=(Option.bind_some _ _).symm.trans H;rw [hy298];with_reducible exact H2_)|(have H2_:=(Option.bind_some _ _).symm.trans H;with_reducible exact H2_)|with_reducible exact H|(rw [hy298];exact H)|exact H
  have Ny298:=Aside0.mk hy298
  clear hy298
  obtain rfl:=Option.some.inj H
  go_enter Try.func108,Try.ntmps108
  go_wp2_with (first|((with_reducible refine gate_dst (N:=34) rfl ?_);refine Kd.R_lit k125 _ 125 ?hg (N:=34) ?hd (xs:=([(⟨0,6,20⟩:S125)]:List (S125))) (inner:=[.int .i64 0,.int .i64 6,.int .i64 20]) (ok:=fun _=>True) (okp:=fun _=>True) ?hr ?hp (fun _ hk=>hk) trivial (Below.refl _ _) (Nat.le_refl _) (by simp) ?_;(case hd=>rfl);(case hg=>rfl);(case hr=>first|(go_simp;done)|(go_simp;rfl));(case hp=>exact (Reps.c3 (show Kd.M k125 _ _ _ (⟨0,6,20⟩:S125) [.int .i64 0,.int .i64 6,.int .i64 20] from (k125_mkM _ _ _ (⟨0,6,20⟩:S125) )) (Reps.none _ _)));intro v299 w18 ho19 hb hg_ hnew_;clear hg_ hnew_;(first|rw [← Ny298.out] at ho19|(simp only [Int.reduceToNat] at ho19;rw [← Ny298.out] at ho19));have n0_:=Aside0.mk (Kd.R_lower ho19 (below_size (by repeat (with_reducible first|exact HB.out|apply Q4|apply Q5|apply Q6))));have n1_:=Aside0.mk (below_step (by repeat (with_reducible first|exact HB.out|apply Q4|apply Q5|apply Q6)) hb);clear HB;have HO300:=n0_;have HB:=n1_;clear n0_ n1_;clear hb ho19))
  go_ret
  exact ⟨_,by first|rfl|(simp [errW_none,errW_some]<;>rfl)|(simp [*,errW_none,errW_some]<;>rfl),by (with_reducible repeat (first|apply Kd.R_alloc|apply Kd.R_drewN|apply Kd.R_drew));exact HO300.out,by repeat (with_reducible first|exact HB.out|apply Q4|apply Q5|apply Q6)⟩
 rw [if_neg c17] at H
 obtain ⟨c17b0,c17b1⟩:=eqN c17
 by_cases c20:a0=7
 ·rw [if_pos c20] at H
  obtain ⟨c20b0,c20b1⟩:=eqP c20
  clear c20
  obtain ⟨y301,hy301⟩ : ∃ y_:List (S125),y_=(([(⟨0,5,20⟩:S125)]:List (S125))):=⟨_,rfl⟩
  replace H:(some y301)=some r:=by first|(rw [hy301];with_reducible exact H)|(have H2_:=(Option.bind_some _ _).symm.trans H;rw [hy301];with_reducible exact H2_)|(have H2_:=(Option.bind_some _ _).symm.trans H;with_reducible exact H2_)|with_reducible exact H|(rw [hy301];exact H)|exact H
  have Ny301:=Aside0.mk hy301
  clear hy301
  obtain rfl:=Option.some.inj H
  go_enter Try.func108,Try.ntmps108
  go_wp2_with (first|((with_reducible refine gate_dst (N:=38) rfl ?_);refine Kd.R_lit k125 _ 125 ?hg (N:=38) ?hd (xs:=([(⟨0,5,20⟩:S125)]:List (S125))) (inner:=[.int .i64 0,.int .i64 5,.int .i64 20]) (ok:=fun _=>True) (okp:=fun _=>True) ?hr ?hp (fun _ hk=>hk) trivial (Below.refl _ _) (Nat.le_refl _) (by simp) ?_;(case hd=>rfl);(case hg=>rfl);(case hr=>first|(go_simp;done)|(go_simp;rfl));(case hp=>exact (Reps.c3 (show Kd.M k125 _ _ _ (⟨0,5,20⟩:S125) [.int .i64 0,.int .i64 5,.int .i64 20] from (k125_mkM _ _ _ (⟨0,5,20⟩:S125) )) (Reps.none _ _)));intro v302 w21 ho22 hb hg_ hnew_;clear hg_ hnew_;(first|rw [← Ny301.out] at ho22|(simp only [Int.reduceToNat] at ho22;rw [← Ny301.out] at ho22));have n0_:=Aside0.mk (Kd.R_lower ho22 (below_size (by repeat (with_reducible first|exact HB.out|apply Q4|apply Q5|apply Q6))));have n1_:=Aside0.mk (below_step (by repeat (with_reducible first|exact HB.out|apply Q4|apply Q5|apply Q6)) hb);clear HB;have HO303:=n0_;have HB:=n1_;clear n0_ n1_;clear hb ho22))
  go_ret
  exact ⟨_,by first|rfl|(simp [errW_none,errW_some]<;>rfl)|(simp [*,errW_none,errW_some]<;>rfl),by (with_reducible repeat (first|apply Kd.R_alloc|apply Kd.R_drewN|apply Kd.R_drew));exact HO303.out,by repeat (with_reducible first|exact HB.out|apply Q4|apply Q5|apply Q6)⟩
 rw [if_neg c20] at H
 obtain ⟨c20b0,c20b1⟩:=eqN c20
 obtain rfl:=Option.some.inj H
 go_enter Try.func108,Try.ntmps108
 go_wp2
 go_ret
 exact ⟨_,by first|rfl|(simp [errW_none,errW_some]<;>rfl)|(simp [*,errW_none,errW_some]<;>rfl),by first|exact Kd.R_nil _ _ _ _ _|exact Kd.N_nil _ _ _ _ _|exact Kd.V_nil _ _ _ _ _|exact Kd.Q_nil _ _ _ _ _|exact Kd.S_nil _ _ _ _ _,by repeat (with_reducible first|exact HB.out|apply Q4|apply Q5|apply Q6)⟩
def impl_immBits.j0:Nat→Int→Bool→Option (Int)
  | 0,_,_=>none
  | k+1,x3,x8=>if x8=true then (some 12) else (if x3=4 then (some 13) else (some 0))
def impl_immBits.f (k:Nat) (a0:Int):Option (Int):=if a0=1 then (some 32) else (if a0=2 then (some 21) else (if a0=3 then (impl_immBits.j0 k a0 (a0==3)) else (impl_immBits.j0 k a0 (a0==5))))
theorem impl_immBits.mono_l : ∀ k,(∀ y0 y1,LeO (impl_immBits.j0 k y0 y1) (impl_immBits.j0 (k+1) y0 y1))
  | 0=>fun _ _ r h=>by simp [impl_immBits.j0] at h
  | k+1=>by
    have ih0:=impl_immBits.mono_l k
    · intro y0 y1
      unfold impl_immBits.j0
      repeat' (with_reducible first|apply ih0|apply LeO.refl|apply LeO.none|apply LeO.ite|refine LeO.bind ?_ (fun _=>?_))
theorem impl_immBits.mono : ∀ a0 k,LeO (impl_immBits.f k a0) (impl_immBits.f (k+1) a0):=by
 intro a0 k
 have ih0:=impl_immBits.mono_l k
 unfold impl_immBits.f
 repeat' (with_reducible first|apply ih0|apply LeO.refl|apply LeO.none|apply LeO.ite|refine LeO.bind ?_ (fun _=>?_))
set_option maxHeartbeats 8000000 in
set_option maxRecDepth 100000 in
theorem impl_immBits.calls (k:Nat) (a0:Int) (r:Int) (w:World) (h:impl_immBits.f k a0=some r) :
    Calls Try.prog 109 #[.int .i64 a0] w fun e w'=>e=.returned (.int .i64 r)∧Drawn0 w w':=by
 have H:(if a0=1 then (some 32) else (if a0=2 then (some 21) else (if a0=3 then (impl_immBits.j0 k a0 (a0==3)) else (impl_immBits.j0 k a0 (a0==5)))))=some r:=h
 clear h
 by_cases c2:a0=1
 ·rw [if_pos c2] at H
  obtain ⟨c2b0,c2b1⟩:=eqP c2
  clear c2
  obtain rfl:=Option.some.inj H
  go_enter Try.func109,Try.ntmps109
  go_wp2
  go_ret
  exact ⟨by first|rfl|(simp;done)|(simp [*];done),by repeat (first|exact Drawn0.refl _|apply Drawn0.step)⟩
 rw [if_neg c2] at H
 obtain ⟨c2b0,c2b1⟩:=eqN c2
 by_cases c3:a0=2
 ·rw [if_pos c3] at H
  obtain ⟨c3b0,c3b1⟩:=eqP c3
  clear c3
  obtain rfl:=Option.some.inj H
  go_enter Try.func109,Try.ntmps109
  go_wp2
  go_ret
  exact ⟨by first|rfl|(simp;done)|(simp [*];done),by repeat (first|exact Drawn0.refl _|apply Drawn0.step)⟩
 rw [if_neg c3] at H
 obtain ⟨c3b0,c3b1⟩:=eqN c3
 have HC4:=Aside0.mk H
 clear H
 go_enter Try.func109,Try.ntmps109
 go_upto_if 8 with (fail)
 go_cut [8] (fun v8 wc=>∃ (kq:Nat) (x8_3:Bool),v8=.bool x8_3∧Aside0 (impl_immBits.j0 kq a0 x8_3=some r)∧Aside0 (kq≤k)∧Drawn0 w wc)
 case first=>
  have H:=HC4.out
  clear HC4
  by_cases c5:a0=3
  ·rw [if_pos c5] at H
   obtain ⟨c5b0,c5b1⟩:=eqP c5
   clear c5
   (first|rw [c5b0]|(simp only [i64_w,i32_w];rw [c5b0])|skip)
   have H':=Aside0.mk H
   clear H
   go_wp2
   go_meet
   case rel=>exact ⟨_,((a0==3)),(by first|rfl|(simp;done)|(simp [*];done)),H',⟨by first|omega|exact Nat.le_refl _⟩,by repeat (first|exact Drawn0.refl _|apply Drawn0.step)⟩
  rw [if_neg c5] at H
  obtain ⟨c5b0,c5b1⟩:=eqN c5
  (first|rw [c5b0]|(simp only [i64_w,i32_w];rw [c5b0])|skip)
  have H':=Aside0.mk H
  clear H
  go_wp2
  go_meet
  case rel=>exact ⟨_,((a0==5)),(by first|rfl|(simp;done)|(simp [*];done)),H',⟨by first|omega|exact Nat.le_refl _⟩,by repeat (first|exact Drawn0.refl _|apply Drawn0.step)⟩
 clear HC4
 try clear c2
 try clear c2b0 c2b1
 try clear c3
 try clear c3b0 c3b1
 obtain ⟨kq,x8_3,rfl,HA,HJ3,⟨mc3,rfl⟩⟩:=hcut
 cases kq with
 | zero=>exact absurd HA.out (by simp [impl_immBits.j0])
 | succ kj3 =>
  have H:=HA.out
  clear HA
  simp only [impl_immBits.j0] at H
  by_cases c6:x8_3=true
  ·subst c6
   rw [if_pos rfl] at H
   obtain rfl:=Option.some.inj H
   go_wp2
   go_ret
   exact ⟨by first|rfl|(simp;done)|(simp [*];done),by repeat (first|exact Drawn0.refl _|apply Drawn0.step)⟩
  replace c6:=Bool.eq_false_iff.mpr c6
  subst c6
  rw [if_neg (show ¬ (false=true) by decide)] at H
  by_cases c7:a0=4
  ·rw [if_pos c7] at H
   obtain ⟨c7b0,c7b1⟩:=eqP c7
   clear c7
   obtain rfl:=Option.some.inj H
   go_wp2
   go_ret
   exact ⟨by first|rfl|(simp;done)|(simp [*];done),by repeat (first|exact Drawn0.refl _|apply Drawn0.step)⟩
  rw [if_neg c7] at H
  obtain ⟨c7b0,c7b1⟩:=eqN c7
  obtain rfl:=Option.some.inj H
  go_wp2
  go_ret
  exact ⟨by first|rfl|(simp;done)|(simp [*];done),by repeat (first|exact Drawn0.refl _|apply Drawn0.step)⟩
def impl_signOf.f (a0:Int) (a1:Int):Option (Int):=if 0≤(wrap64 (64 - a1)) then (some (shr .i64 (shl .i64 a0 (wrap64 (64 - a1))) (wrap64 (64 - a1)))) else (none)
set_option maxHeartbeats 8000000 in
set_option maxRecDepth 100000 in
theorem impl_signOf.calls (a0:Int) (a1:Int) (r:Int) (w:World) (h:impl_signOf.f a0 a1=some r) :
    Calls Try.prog 110 #[.int .i64 a0,.int .i64 a1] w fun e w'=>e=.returned (.int .i64 r)∧Drawn0 w w':=by
 have H:(if 0≤(wrap64 (64 - a1)) then (some (shr .i64 (shl .i64 a0 (wrap64 (64 - a1))) (wrap64 (64 - a1)))) else (none))=some r:=h
 clear h
 obtain ⟨ji3,hji3⟩ : ∃ j_:Int,(wrap64 (64 - a1))=j_:=⟨_,rfl⟩
 replace H:(if 0≤(ji3) then (some (shr .i64 (shl .i64 a0 (ji3)) (ji3))) else (none))=some r:=by first|(rw [hji3] at H;exact H)|(simp only [hji3] at H ⊢;exact H)
 have hji3w:(IntKind.i64.wrap (64 - a1))=ji3:=(i64_w _).trans hji3
 by_cases c4:0≤(ji3)
 ·rw [if_pos c4] at H
  have c4b0:=eq_true c4
  have c4b1:decide (0≤(ji3))=true:=decide_eq_true c4
  clear c4
  obtain ⟨ji5,hji5⟩ : ∃ j_:Int,(shl .i64 a0 (ji3))=j_:=⟨_,rfl⟩
  replace H:(some (shr .i64 (ji5) (ji3)))=some r:=by first|(rw [hji5] at H;exact H)|(simp only [hji5] at H ⊢;exact H)
  have hji5_:(IntKind.i64.wrap (a0*2 ^ min (ji3).toNat 64))=ji5:=hji5
  have hji5z:(ji3)≤64→(IntKind.i64.wrap (a0*2 ^ (ji3).toNat))=ji5:=shl_small hji5
  have hji5y:(wrap64 (a0*2 ^ min (ji3).toNat 64))=ji5:=(i64_w _).symm.trans hji5_
  have hji5x:(ji3)≤64→(wrap64 (a0*2 ^ (ji3).toNat))=ji5:=fun h_=>(i64_w _).symm.trans (hji5z h_)
  have c6b0:=eq_true (of_decide_eq_true (by first|(with_reducible assumption)|assumption):0≤(ji3))
  obtain ⟨ji7,hji7⟩ : ∃ j_:Int,(shr .i64 (ji5) (ji3))=j_:=⟨_,rfl⟩
  replace H:(some ji7)=some r:=by first|(rw [hji7] at H;exact H)|(simp only [hji7] at H ⊢;exact H)
  have hji7_:((ji5) / 2 ^ min (ji3).toNat 64)=ji7:=hji7
  have hji7z:(ji3)≤64→((ji5) / 2 ^ (ji3).toNat)=ji7:=shr_small hji7
  obtain rfl:=Option.some.inj H
  go_enter Try.func110,Try.ntmps110
  go_wp2
  go_ret
  exact ⟨by first|rfl|(simp;done)|(simp only [← hji3,← hji5,← hji7]<;>(first|rfl|simp))|(simp [*];done),by repeat (first|exact Drawn0.refl _|apply Drawn0.step)⟩
 rw [if_neg c4] at H
 exact absurd H (by simp)
end Go.Proofs.Ythepmdlpjdlajaa.PFnExactLintFunction
