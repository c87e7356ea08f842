-- Written by a program for this claim.
import Derived.Test.YthepmdlpjdlajaaPFnExactLintImagex0
import Derived.Test.YthepmdlpjdlajaaPFnExactLintImagex1
import Derived.Test.YthepmdlpjdlajaaPFnExactLintImagex3
import Derived.Test.YthepmdlpjdlajaaPFnExactLintImagex8
import Derived.Test.YthepmdlpjdlajaaPFnExactLintImagex10
namespace Go.Proofs.Ythepmdlpjdlajaa.PFnExactLintImage
open Go.RowKit Go.Proofs.YthepmdlpjdlajaaW.PrintWords Go.Proofs.YthepmdlpjdlajaaW.PrintLast Go.Proofs.YthepmdlpjdlajaaW.PrintMore
attribute [local go_sem] max2_int min2_int max_two min_two max_three min_three max_four min_four   -- for this text's walks alone
set_option linter.unusedVariables false
set_option linter.unusedSimpArgs false
attribute [local go_sem high] eqA86
mutual
def spec_l06Lint.j0:Nat→ByteArray→Int→Int→List Int→Bool→Option (Int × Int)
  | 0,_,_,_,_,_=>none
  | k+1,x0,x1,x2,x3,x23=>if x23=true then (some (0,4)) else ((spec_FrameOK.f x2).bind fun t287=>(if t287=true then ((spec_l06Size.f x0).bind fun t288=>(if t288=true then (spec_l06Lint.j1 k x0 x1 x2 x3 (decide ((x0.size:Int) < 20))) else (spec_l06Lint.j1 k x0 x1 x2 x3 true))) else (some (0,17))))
def spec_l06Lint.j1:Nat→ByteArray→Int→Int→List Int→Bool→Option (Int × Int)
  | 0,_,_,_,_,_=>none
  | k+1,x0,x1,x2,x3,x34=>if x34=true then (some (0,8)) else ((spec_l06Instrs.f k x0).bind fun bt289=>(if bt289.2≥0 then (some (bt289.2,10)) else (spec_l06Lint.l0 k x1 x2 x3 bt289.1 0)))
def spec_l06Lint.l0:Nat→Int→Int→List Int→List (S86)→Int→Option (Int × Int)
  | 0,_,_,_,_,_=>none
  | k+1,x1,x2,x3,x10,x12=>if x12 < 2 then (if 0≤x12 then (if x12 < (x10.length:Int) then ((spec_l06Prologue.f x2).bind fun t294=>(if x12 < (t294.length:Int) then (if (!(((rd_T86 x10 x12).f0)==((rd_T86 t294 x12).f0)) || (!(((rd_T86 x10 x12).f1)==((rd_T86 t294 x12).f1)) || (!(((rd_T86 x10 x12).f2)==((rd_T86 t294 x12).f2)) || (!(((rd_T86 x10 x12).f3)==((rd_T86 t294 x12).f3)) || (!(((rd_T86 x10 x12).f4)==((rd_T86 t294 x12).f4)))))))=true then (some (x12,17)) else (spec_l06Lint.l0 k x1 x2 x3 x10 (wrap64 (x12+1)))) else (none))) else (none)) else (none)) else (if 0≤(wrap64 ((x10.length:Int) - 1)) then (if (wrap64 ((x10.length:Int) - 1)) < (x10.length:Int) then (if ((rd_T86 x10 (wrap64 ((x10.length:Int) - 1))).f0)=4 then (spec_l06Lint.j3 k x1 x2 x3 x10 (wrap64 ((x10.length:Int) - 1)) (!true)) else (if ((rd_T86 x10 (wrap64 ((x10.length:Int) - 1))).f0)=3 then (spec_l06Lint.j3 k x1 x2 x3 x10 (wrap64 ((x10.length:Int) - 1)) (!(((rd_T86 x10 (wrap64 ((x10.length:Int) - 1))).f1)==0))) else (spec_l06Lint.j3 k x1 x2 x3 x10 (wrap64 ((x10.length:Int) - 1)) (!false)))) else (none)) else (none))
def spec_l06Lint.j3:Nat→Int→Int→List Int→List (S86)→Int→Bool→Option (Int × Int)
  | 0,_,_,_,_,_,_=>none
  | k+1,x1,x2,x3,x10,x13,x83=>if x83=true then (some (x13,22)) else (spec_l06Lint.l1 k x1 x2 x3 x10 x13 2)
def spec_l06Lint.l1:Nat→Int→Int→List Int→List (S86)→Int→Int→Option (Int × Int)
  | 0,_,_,_,_,_,_=>none
  | k+1,x1,x2,x3,x10,x13,x14=>if x14≤x13 then ((spec_l06Rule.f k x10 x14 x1 x2 x3).bind fun t301=>(if t301=0 then (spec_l06Lint.l1 k x1 x2 x3 x10 x13 (wrap64 (x14+1))) else (some (x14,t301)))) else (some (0,0))
end
def spec_l06Lint.f (k:Nat) (a0:ByteArray) (a1:Int) (a2:Int) (l3:List Int):Option (Int × Int):=(spec_l01In.f a1 0 1048575).bind fun t286=>(if t286=true then (spec_l06Lint.j0 k a0 a1 a2 l3 ((Int.tmod a1 4) != 0)) else (spec_l06Lint.j0 k a0 a1 a2 l3 true))
theorem runs_ {P:Program} {Q:Exit→Act→World→Prop} {ops:Array Oper} {oi:Oper} {N:Option Tmp} {a:Act} {w:World} {K:Act→World→Prop} (v:Value) (hw:Region.wanted oi (yielded ops a.tmps)=true) (hN:oi.dst=N) (hrun:(execOp a.eval oi).run P w=.ok (.value v) w) (h:K (a.put N v) w):if Region.wanted oi (yielded ops a.tmps)=true then Oper.wp P oi a w K Q else K (a.put N undef) w:=by
 rw [if_pos hw]
 subst hN
 unfold Oper.wp
 rw [hrun]
 exact h
theorem spec_l06Lint.mono_l : ∀ k,(∀ y0 y1 y2 y3 y4,LeO (spec_l06Lint.j0 k y0 y1 y2 y3 y4) (spec_l06Lint.j0 (k+1) y0 y1 y2 y3 y4))∧(∀ y0 y1 y2 y3 y4,LeO (spec_l06Lint.j1 k y0 y1 y2 y3 y4) (spec_l06Lint.j1 (k+1) y0 y1 y2 y3 y4))∧(∀ y0 y1 y2 y3 y4,LeO (spec_l06Lint.l0 k y0 y1 y2 y3 y4) (spec_l06Lint.l0 (k+1) y0 y1 y2 y3 y4))∧(∀ y0 y1 y2 y3 y4 y5,LeO (spec_l06Lint.j3 k y0 y1 y2 y3 y4 y5) (spec_l06Lint.j3 (k+1) y0 y1 y2 y3 y4 y5))∧(∀ y0 y1 y2 y3 y4 y5,LeO (spec_l06Lint.l1 k y0 y1 y2 y3 y4 y5) (spec_l06Lint.l1 (k+1) y0 y1 y2 y3 y4 y5))
  | 0=>⟨fun _ _ _ _ _ r h=>by simp [spec_l06Lint.j0] at h,fun _ _ _ _ _ r h=>by simp [spec_l06Lint.j1] at h,fun _ _ _ _ _ r h=>by simp [spec_l06Lint.l0] at h,fun _ _ _ _ _ _ r h=>by simp [spec_l06Lint.j3] at h,fun _ _ _ _ _ _ r h=>by simp [spec_l06Lint.l1] at h⟩
  | k+1=>by
    obtain ⟨ih0,ih1,ih2,ih3,ih4⟩:=spec_l06Lint.mono_l k
    refine ⟨?_,?_,?_,?_,?_⟩<;>intros<;>(first|unfold spec_l06Lint.j0|unfold spec_l06Lint.j1|unfold spec_l06Lint.l0|unfold spec_l06Lint.j3|unfold spec_l06Lint.l1)<;>repeat' (with_reducible first|apply ih0|apply ih1|apply ih2|apply ih3|apply ih4|apply spec_l06Instrs.mono|apply spec_l06Rule.mono|apply LeO.refl|apply LeO.none|apply LeO.ite|refine LeO.bind ?_ (fun _=>?_))
theorem spec_l06Lint.mono : ∀ a0 a1 a2 a3 k,LeO (spec_l06Lint.f k a0 a1 a2 a3) (spec_l06Lint.f (k+1) a0 a1 a2 a3):=by
 intro a0 a1 a2 a3 k
 obtain ⟨ih0,ih1,ih2,ih3,ih4⟩:=spec_l06Lint.mono_l k
 unfold spec_l06Lint.f
 repeat' (with_reducible first|apply ih0|apply ih1|apply ih2|apply ih3|apply ih4|apply spec_l06Instrs.mono|apply spec_l06Rule.mono|apply LeO.refl|apply LeO.none|apply LeO.ite|refine LeO.bind ?_ (fun _=>?_))
def spec_l06Lint.T13:Bool × List (List Nat × List Nat):=(true,[([],[]),([],[]),([0,1],[0,1]),([2],[2]),([],[]),([4],[4]),([],[]),([5,6],[5,6]),([7],[7]),([3,8],[3,8])])
def spec_l06Lint.B13:List Nat:=[0,0,3,7,0,16,0,112,240,511]
theorem spec_l06Lint.tab13:rtab .any (opsOf Try.f42 13)=spec_l06Lint.T13:=by kernel_rfl
theorem spec_l06Lint.bits13:waitsOk spec_l06Lint.T13.2 spec_l06Lint.B13=true:=by kernel_rfl
set_option maxHeartbeats 8000000 in
set_option maxRecDepth 100000 in
theorem spec_l06Lint.calls (k:Nat) (a0:ByteArray) (a1:Int) (a2:Int) (A3:Option Addr) (c3:Nat) (l3:List Int) (r1:Int) (r2:Int) (w:World) (hr3:Kd.C (Kd.int .i64) w A3 l3.length l3) (hc3:l3.length≤c3) (h:spec_l06Lint.f k a0 a1 a2 l3=some (r1,r2)) :
    Calls Try.prog 42 #[.string a0,.int .i64 a1,.int .i64 a2,.slice A3 l3.length c3] w fun e w'=>e=.returned (.tuple #[.int .i64 r1,.int .i64 r2])∧Below w.heap.size w w':=by
 have hu86:=Try.underlying86
 have HR3:=Aside0.mk hr3
 have HC3:=Aside0.mk hc3
 clear hr3 hc3
 have HB:=Aside0.mk (Below.refl w.heap.size w)
 have H:((spec_l01In.f a1 0 1048575).bind fun t286=>(if t286=true then (spec_l06Lint.j0 k a0 a1 a2 l3 ((Int.tmod a1 4) != 0)) else (spec_l06Lint.j0 k a0 a1 a2 l3 true)))=some (r1,r2):=h
 clear h
 have HC5:=Aside0.mk H
 clear H
 go_enter Try.func42,Try.ntmps42
 go_upto_region 1 with (fail)
 go_cut [23] (fun v23 wc=>∃ (kq:Nat) (x23_4:Bool),v23=.bool x23_4∧Aside0 (spec_l06Lint.j0 kq a0 a1 a2 l3 x23_4=some (r1,r2))∧Aside0 (kq≤k)∧Aside0 (Below w.heap.size w wc))
 case first=>
  have H:=HC5.out
  clear HC5
  obtain ⟨t286,A6,H⟩:=bindA H
  by_cases c7:t286=true
  ·subst c7
   rw [if_pos rfl] at H
   have H':=Aside0.mk H
   clear H
   go_wp2_with (first|(refine gd 44 17 Try.func44 #[.int .i64 a1,.int .i64 0,.int .i64 1048575] (spec_l01In.calls a1 0 1048575 true _ A6.out) ?_;intro nd))
   go_meet
   case rel=>exact ⟨_,(((Int.tmod a1 4) != 0)),rs,H',⟨by first|omega|exact Nat.le_refl _⟩,⟨hbx⟩⟩
  replace c7:=Bool.eq_false_iff.mpr c7
  subst c7
  rw [if_neg (show ¬ (false=true) by decide)] at H
  have H':=Aside0.mk H
  clear H
  go_wp2_with (first|(refine gd 44 17 Try.func44 #[.int .i64 a1,.int .i64 0,.int .i64 1048575] (spec_l01In.calls a1 0 1048575 false _ A6.out) ?_;intro nd))
  go_meet
  case rel=>exact ⟨_,(true),rs,H',⟨by first|omega|exact Nat.le_refl _⟩,⟨hbx⟩⟩
 clear HC5
 obtain ⟨kq,x23_4,rfl,HA,HJ4,HB⟩:=hcut
 cases kq with
 | zero=>exact absurd HA.out (by simp [spec_l06Lint.j0])
 | succ kj4 =>
  have H:=HA.out
  clear HA
  simp only [spec_l06Lint.j0] at H
  by_cases c8:x23_4=true
  ·subst c8
   rw [if_pos rfl] at H
   simp only [Option.some.injEq,Prod.mk.injEq] at H
   obtain ⟨rfl,rfl⟩:=H
   go_wp2
   go_ret2
   exact ⟨rf,hbx⟩
  replace c8:=Bool.eq_false_iff.mpr c8
  subst c8
  rw [if_neg (show ¬ (false=true) by decide)] at H
  obtain ⟨t287,A9,H⟩:=bindA H
  by_cases c10:t287=true
  ·subst c10
   rw [if_pos rfl] at H
   have HC11:=Aside0.mk H
   clear H
   go_upto_region 5 with (first|((with_reducible refine gate_callee (f:=66) rfl ?_);refine gd 66 25 Try.func66 #[.int .i64 a2] (spec_FrameOK.calls a2 true _ A9.out) ?_;intro nd))
   (try simp only [Act.put,List.setIfInBounds_toArray,List.set_cons_zero,List.set_cons_succ])
   go_cut [34] (fun v34 wc=>∃ (kq:Nat) (x34_10:Bool),v34=.bool x34_10∧Aside0 (spec_l06Lint.j1 kq a0 a1 a2 l3 x34_10=some (r1,r2))∧Aside0 (kq≤kj4)∧Aside0 (Below w.heap.size w wc))
   case first=>
    have H:=HC11.out
    clear HC11
    obtain ⟨t288,A12,H⟩:=bindA H
    by_cases c13:t288=true
    ·subst c13
     rw [if_pos rfl] at H
     have H':=Aside0.mk H
     clear H
     go_wp2_with (first|(refine gd 45 28 Try.func45 #[.string a0] (spec_l06Size.calls a0 true _ A12.out) ?_;intro nd))
     go_meet
     case rel=>exact ⟨_,(decide ((a0.size:Int) < 20)),rs,H',⟨om HJ4.out⟩,⟨hbx⟩⟩
    replace c13:=Bool.eq_false_iff.mpr c13
    subst c13
    rw [if_neg (show ¬ (false=true) by decide)] at H
    have H':=Aside0.mk H
    clear H
    go_wp2_with (first|(refine gd 45 28 Try.func45 #[.string a0] (spec_l06Size.calls a0 false _ A12.out) ?_;intro nd))
    go_meet
    case rel=>exact ⟨_,(true),rs,H',⟨om HJ4.out⟩,⟨hbx⟩⟩
   clear HC11
   try clear c8
   try clear c10
   obtain ⟨kq,x34_10,rfl,HA,HJ10,HB⟩:=hcut
   cases kq with
   | zero=>exact absurd HA.out (by simp [spec_l06Lint.j1])
   | succ kj10 =>
    have H:=HA.out
    clear HA
    simp only [spec_l06Lint.j1] at H
    by_cases c14:x34_10=true
    ·subst c14
     rw [if_pos rfl] at H
     simp only [Option.some.injEq,Prod.mk.injEq] at H
     obtain ⟨rfl,rfl⟩:=H
     go_wp2
     go_ret2
     exact ⟨rf,hbx⟩
    replace c14:=Bool.eq_false_iff.mpr c14
    subst c14
    rw [if_neg (show ¬ (false=true) by decide)] at H
    obtain ⟨⟨t289,t290⟩,A15,H⟩:=bindA H
    try dsimp only at H
    by_cases c16:t290≥0
    ·rw [if_pos c16] at H
     have c16b0:decide (0≤t290)=true:=decide_eq_true c16
     clear c16
     simp only [Option.some.injEq,Prod.mk.injEq] at H
     obtain ⟨rfl,rfl⟩:=H
     go_wp2_with (first|(refine gl 46 37 Try.func46 #[.string a0] ?_;(with_reducible refine (spec_l06Instrs.calls kj10 a0 t289 t290 _ A15.out).mono ?_);rintro e w17 ⟨v291,rfl,ho0,hb⟩;refine ⟨_,rfl,?_⟩;have n0_:=Aside0.mk (Kd.R_lower ho0 (below_size hbx));replace HB:=Aside0.mk (below_step hbx hb);have HO292:=n0_;clear n0_;(try clear hb);(try clear hb2);(try clear hk);(try clear hi);(try clear ho0)))
     go_ret2
     exact ⟨rf,hbx⟩
    rw [if_neg c16] at H
    have c16b0:decide (0≤t290)=false:=decide_eq_false c16
    clear c16
    have H':=Aside0.mk H
    clear H
    go_wp2_with (first|(refine gl 46 37 Try.func46 #[.string a0] ?_;(with_reducible refine (spec_l06Instrs.calls kj10 a0 t289 t290 _ A15.out).mono ?_);rintro e w18 ⟨v291,rfl,ho0,hb⟩;refine ⟨_,rfl,?_⟩;have n0_:=Aside0.mk (Kd.R_lower ho0 (below_size hbx));replace HB:=Aside0.mk (below_step hbx hb);have HO292:=n0_;clear n0_;(try clear hb);(try clear hb2);(try clear hk);(try clear hi);(try clear ho0)))
    go_loopg [12] kj10 (fun kq v12 w'=>∃ (x12_3:Int),v12=.int .i64 x12_3∧Aside0 (spec_l06Lint.l0 kq a1 a2 l3 t289 x12_3=some (r1,r2))∧Aside0 (kq≤kj10)∧Aside0 (Kd.R k86 86 w' w.heap.size (fun _=>True) v291 t289)∧Aside0 (Below w.heap.size w w'))
    case atStart=>exact ⟨(0),rs,H',⟨Nat.le_refl _⟩,⟨kr HO292.out⟩,⟨hbx⟩⟩
    clear H'
    try clear c14
    try clear c16b0
    obtain ⟨x12_3,rfl,HA,HK3,HO_10,HB⟩:=hrel
    cases gk with
    | zero=>exact absurd HA.out (by simp [spec_l06Lint.l0])
    | succ k3 =>
     have H:=HA.out
     clear HA
     simp only [spec_l06Lint.l0] at H
     by_cases c19:x12_3 < 2
     ·rw [if_pos c19] at H
      have c19b0:decide (x12_3 < 2)=true:=decide_eq_true c19
      clear c19
      by_cases c20:0≤x12_3
      ·rw [if_pos c20] at H
       have c20b0:decide (0≤x12_3)=true:=decide_eq_true c20
       clear c20
       by_cases c21:x12_3 < (t289.length:Int)
       ·rw [if_pos c21] at H
        have c21b0:decide (x12_3 < (t289.length:Int))=true:=decide_eq_true c21
        clear c21
        obtain ⟨t294,A22,H⟩:=bindA H
        by_cases c23:x12_3 < (t294.length:Int)
        ·rw [if_pos c23] at H
         have c23b0:decide (x12_3 < (t294.length:Int))=true:=decide_eq_true c23
         clear c23
         by_cases c24:(!(((rd_T86 t289 x12_3).f0)==((rd_T86 t294 x12_3).f0)) || (!(((rd_T86 t289 x12_3).f1)==((rd_T86 t294 x12_3).f1)) || (!(((rd_T86 t289 x12_3).f2)==((rd_T86 t294 x12_3).f2)) || (!(((rd_T86 t289 x12_3).f3)==((rd_T86 t294 x12_3).f3)) || (!(((rd_T86 t289 x12_3).f4)==((rd_T86 t294 x12_3).f4)))))))=true
         ·rw [if_pos c24] at H
          have c24b0:(!(((rd_T86 t289 x12_3).f0)==((rd_T86 t294 x12_3).f0)) || (!(((rd_T86 t289 x12_3).f1)==((rd_T86 t294 x12_3).f1)) || (!(((rd_T86 t289 x12_3).f2)==((rd_T86 t294 x12_3).f2)) || (!(((rd_T86 t289 x12_3).f3)==((rd_T86 t294 x12_3).f3)) || (!(((rd_T86 t289 x12_3).f4)==((rd_T86 t294 x12_3).f4)))))))=true:=c24
          clear c24
          simp only [Option.some.injEq,Prod.mk.injEq] at H
          obtain ⟨rfl,rfl⟩:=H
          try go_wp2
          replace HO_10:=Aside0.mk (Kd.R_drew HO_10.out);replace HB:=Aside0.mk (below_drew1 HB.out)
          obtain ⟨Ao26,co26,eo26⟩:=Kd.R_slice HO_10.out
          (first|subst eo26|(injection eo26 with f1_ f2_ f3_;have f4_:=f1_.symm;have f5_:=f3_.symm;clear f1_ f2_ f3_;subst f4_;subst f5_))
          have p293:0≤(x12_3:Int):=od
          have q293:x12_3 < (t289.length:Int):=od
          obtain ⟨ad293,e293,hx293_0,hx293_1,hx293_2,hx293_3,hx293_4⟩:=at_T86 (Kd.R_reads' HO_10.out).2.2 x12_3 p293 q293
          cases e293
          replace p293:=eq_true p293
          replace q293:=eq_true q293
          refine start_ (n:=10) (S:=fun w'=>w'.cell? (ad293.add ((x12_3).toNat*5))=some (.int .i64 ((rd_T86 t289 x12_3).f0))∧w'.cell? ⟨(ad293.add ((x12_3).toNat*5)).block,(ad293.add ((x12_3).toNat*5)).off+1,none⟩=some (.int .i64 ((rd_T86 t289 x12_3).f1))∧w'.cell? ⟨(ad293.add ((x12_3).toNat*5)).block,(ad293.add ((x12_3).toNat*5)).off+2,none⟩=some (.int .i64 ((rd_T86 t289 x12_3).f2))∧w'.cell? ⟨(ad293.add ((x12_3).toNat*5)).block,(ad293.add ((x12_3).toNat*5)).off+3,none⟩=some (.int .i64 ((rd_T86 t289 x12_3).f3))∧w'.cell? ⟨(ad293.add ((x12_3).toNat*5)).block,(ad293.add ((x12_3).toNat*5)).off+4,none⟩=some (.int .i64 ((rd_T86 t289 x12_3).f4))) (ds:=[]) #[false,false,false,false,false,false,false,false,false,false] (by kernel_rfl) rfl rfl ⟨hx293_0,hx293_1,hx293_2,hx293_3,hx293_4⟩ (fun hHeld=>?_);refine with_tabW spec_l06Lint.tab13 spec_l06Lint.bits13 (fun HT_ HW_=>?_)
          generalize wr.drew=w25 at HO_10 HB hx293_0 hx293_1 hx293_2 hx293_3 hx293_4 hHeld ⊢
          refine pu 0 47 #[true,false,false,false,false,false,false,false,false,false] ?_
          refine pu 1 48 #[true,true,false,false,false,false,false,false,false,false] ?_
          refine pu 2 49 #[true,true,true,false,false,false,false,false,false,false] ?_
          refine pu 4 51 #[true,true,true,false,true,false,false,false,false,false] ?_
          refine pu 6 53 #[true,true,true,false,true,false,true,false,false,false] ?_
          refine tk5 3 50 #[true,true,true,true,true,false,true,false,false,false] hHeld ?_
          refine one_ (i:=5) (N:=some 52) #[true,true,true,true,true,true,true,false,false,false] rfl rfl (one_of HT_.out (by kernel_rfl)) (by decide) (fun K hK=>?_)
          refine goes_ Try.func67 (by kernel_rfl) rfl #[.int .i64 a2] (by rfl) rfl rfl (mp_ rfl) ?_
          with_reducible refine (spec_l06Prologue.calls a2 t294 _ A22.out).mono ?_
          rintro e w27 ⟨v295,rfl,ho0,hb⟩
          have HS0_:=(hb.cell (World.block_lt_of_cell? _ _ (hHeld.1))).trans (hHeld.1)
          have HS1_:=(hb.cell (World.block_lt_of_cell? _ _ (hHeld.2.1))).trans (hHeld.2.1)
          have HS2_:=(hb.cell (World.block_lt_of_cell? _ _ (hHeld.2.2.1))).trans (hHeld.2.2.1)
          have HS3_:=(hb.cell (World.block_lt_of_cell? _ _ (hHeld.2.2.2.1))).trans (hHeld.2.2.2.1)
          have HS4_:=(hb.cell (World.block_lt_of_cell? _ _ (hHeld.2.2.2.2))).trans (hHeld.2.2.2.2)
          refine ⟨_,rfl,?_⟩
          have n0_:=Aside0.mk (Kd.R_elder' (kr HO_10.out) (Kd.R_base ho0) hb)
          have n1_:=Aside0.mk (Kd.R_lower (Kd.R_new' ho0 (Kd.R_lt (kr HO_10.out))) (below_size hbx))
          have n2_:=Aside0.mk (below_step hbx hb)
          clear HO_10
          clear HB
          have HO_10:=n0_
          have HO296:=n1_
          have HB:=n2_
          clear n0_ n1_ n2_
          try clear hb hb2
          try clear hk
          try clear hi
          try clear ho0
          obtain ⟨Ao28,co28,eo28⟩:=Kd.R_slice HO296.out
          (first|subst eo28|(injection eo28 with f1_ f2_ f3_;have f4_:=f1_.symm;have f5_:=f3_.symm;clear f1_ f2_ f3_;subst f4_;subst f5_))
          have p297:0≤(x12_3:Int):=od
          have q297:x12_3 < (t294.length:Int):=od
          obtain ⟨ad297,e297,hx297_0,hx297_1,hx297_2,hx297_3,hx297_4⟩:=at_T86 (Kd.R_reads' HO296.out).2.2 x12_3 p297 q297
          cases e297
          replace p297:=eq_true p297
          replace q297:=eq_true q297
          refine hK.out _ _ ⟨HS0_,HS1_,HS2_,HS3_,HS4_⟩ (fun hHeld=>?_)
          clear hK K
          refine norm_ (a':=?_) ?_ ?_
          rotate_left
          ·show Act.put _ (some 52) _=_
           simp only [Act.put,List.setIfInBounds_toArray,List.set_cons_zero,List.set_cons_succ,i64_w,i32_w]
           rfl
          refine pu 7 54 #[true,true,true,true,true,true,true,true,false,false] ?_
          refine one_ (i:=8) (N:=some 55) #[true,true,true,true,true,true,true,true,true,false] rfl rfl (one_of HT_.out (by kernel_rfl)) (by decide) (fun K hK=>?_)
          refine runs_ (.agg #[.int .i64 ((rd_T86 t294 x12_3).f0),.int .i64 ((rd_T86 t294 x12_3).f1),.int .i64 ((rd_T86 t294 x12_3).f2),.int .i64 ((rd_T86 t294 x12_3).f3),.int .i64 ((rd_T86 t294 x12_3).f4)]) (by rfl) rfl ?_ ?_
          ·first|(go_simp;done)|(go_simp;with_reducible rfl)
          refine hK.out _ _ hHeld (fun hHeld=>?_)
          clear hK K
          refine norm_ (a':=?_) ?_ ?_
          rotate_left
          ·show Act.put _ (some 55) _=_
           simp only [Act.put,List.setIfInBounds_toArray,List.set_cons_zero,List.set_cons_succ,i64_w,i32_w]
           rfl
          refine pu 9 56 #[true,true,true,true,true,true,true,true,true,true] ?_
          refine done_ (done_of HT_.out (by kernel_rfl)) ?_
          try go_wp2
          go_ret2
          exact ⟨rf,hbx⟩
         rw [if_neg c24] at H
         have c24b0:(!(((rd_T86 t289 x12_3).f0)==((rd_T86 t294 x12_3).f0)) || (!(((rd_T86 t289 x12_3).f1)==((rd_T86 t294 x12_3).f1)) || (!(((rd_T86 t289 x12_3).f2)==((rd_T86 t294 x12_3).f2)) || (!(((rd_T86 t289 x12_3).f3)==((rd_T86 t294 x12_3).f3)) || (!(((rd_T86 t289 x12_3).f4)==((rd_T86 t294 x12_3).f4)))))))=false:=by simpa using c24
         clear c24
         have H':=Aside0.mk H
         clear H
         try go_wp2
         replace HO_10:=Aside0.mk (Kd.R_drew HO_10.out);replace HB:=Aside0.mk (below_drew1 HB.out)
         obtain ⟨Ao30,co30,eo30⟩:=Kd.R_slice HO_10.out
         (first|subst eo30|(injection eo30 with f1_ f2_ f3_;have f4_:=f1_.symm;have f5_:=f3_.symm;clear f1_ f2_ f3_;subst f4_;subst f5_))
         have p293:0≤(x12_3:Int):=od
         have q293:x12_3 < (t289.length:Int):=od
         obtain ⟨ad293,e293,hx293_0,hx293_1,hx293_2,hx293_3,hx293_4⟩:=at_T86 (Kd.R_reads' HO_10.out).2.2 x12_3 p293 q293
         cases e293
         replace p293:=eq_true p293
         replace q293:=eq_true q293
         refine start_ (n:=10) (S:=fun w'=>w'.cell? (ad293.add ((x12_3).toNat*5))=some (.int .i64 ((rd_T86 t289 x12_3).f0))∧w'.cell? ⟨(ad293.add ((x12_3).toNat*5)).block,(ad293.add ((x12_3).toNat*5)).off+1,none⟩=some (.int .i64 ((rd_T86 t289 x12_3).f1))∧w'.cell? ⟨(ad293.add ((x12_3).toNat*5)).block,(ad293.add ((x12_3).toNat*5)).off+2,none⟩=some (.int .i64 ((rd_T86 t289 x12_3).f2))∧w'.cell? ⟨(ad293.add ((x12_3).toNat*5)).block,(ad293.add ((x12_3).toNat*5)).off+3,none⟩=some (.int .i64 ((rd_T86 t289 x12_3).f3))∧w'.cell? ⟨(ad293.add ((x12_3).toNat*5)).block,(ad293.add ((x12_3).toNat*5)).off+4,none⟩=some (.int .i64 ((rd_T86 t289 x12_3).f4))) (ds:=[]) #[false,false,false,false,false,false,false,false,false,false] (by kernel_rfl) rfl rfl ⟨hx293_0,hx293_1,hx293_2,hx293_3,hx293_4⟩ (fun hHeld=>?_);refine with_tabW spec_l06Lint.tab13 spec_l06Lint.bits13 (fun HT_ HW_=>?_)
         generalize wr.drew=w29 at HO_10 HB hx293_0 hx293_1 hx293_2 hx293_3 hx293_4 hHeld ⊢
         refine pu 0 47 #[true,false,false,false,false,false,false,false,false,false] ?_
         refine pu 1 48 #[true,true,false,false,false,false,false,false,false,false] ?_
         refine pu 2 49 #[true,true,true,false,false,false,false,false,false,false] ?_
         refine pu 4 51 #[true,true,true,false,true,false,false,false,false,false] ?_
         refine pu 6 53 #[true,true,true,false,true,false,true,false,false,false] ?_
         refine tk5 3 50 #[true,true,true,true,true,false,true,false,false,false] hHeld ?_
         refine one_ (i:=5) (N:=some 52) #[true,true,true,true,true,true,true,false,false,false] rfl rfl (one_of HT_.out (by kernel_rfl)) (by decide) (fun K hK=>?_)
         refine goes_ Try.func67 (by kernel_rfl) rfl #[.int .i64 a2] (by rfl) rfl rfl (mp_ rfl) ?_
         with_reducible refine (spec_l06Prologue.calls a2 t294 _ A22.out).mono ?_
         rintro e w31 ⟨v295,rfl,ho0,hb⟩
         have HS0_:=(hb.cell (World.block_lt_of_cell? _ _ (hHeld.1))).trans (hHeld.1)
         have HS1_:=(hb.cell (World.block_lt_of_cell? _ _ (hHeld.2.1))).trans (hHeld.2.1)
         have HS2_:=(hb.cell (World.block_lt_of_cell? _ _ (hHeld.2.2.1))).trans (hHeld.2.2.1)
         have HS3_:=(hb.cell (World.block_lt_of_cell? _ _ (hHeld.2.2.2.1))).trans (hHeld.2.2.2.1)
         have HS4_:=(hb.cell (World.block_lt_of_cell? _ _ (hHeld.2.2.2.2))).trans (hHeld.2.2.2.2)
         refine ⟨_,rfl,?_⟩
         have n0_:=Aside0.mk (Kd.R_elder' (kr HO_10.out) (Kd.R_base ho0) hb)
         have n1_:=Aside0.mk (Kd.R_lower (Kd.R_new' ho0 (Kd.R_lt (kr HO_10.out))) (below_size hbx))
         have n2_:=Aside0.mk (below_step hbx hb)
         clear HO_10
         clear HB
         have HO_10:=n0_
         have HO296:=n1_
         have HB:=n2_
         clear n0_ n1_ n2_
         try clear hb hb2
         try clear hk
         try clear hi
         try clear ho0
         obtain ⟨Ao32,co32,eo32⟩:=Kd.R_slice HO296.out
         (first|subst eo32|(injection eo32 with f1_ f2_ f3_;have f4_:=f1_.symm;have f5_:=f3_.symm;clear f1_ f2_ f3_;subst f4_;subst f5_))
         have p297:0≤(x12_3:Int):=od
         have q297:x12_3 < (t294.length:Int):=od
         obtain ⟨ad297,e297,hx297_0,hx297_1,hx297_2,hx297_3,hx297_4⟩:=at_T86 (Kd.R_reads' HO296.out).2.2 x12_3 p297 q297
         cases e297
         replace p297:=eq_true p297
         replace q297:=eq_true q297
         refine hK.out _ _ ⟨HS0_,HS1_,HS2_,HS3_,HS4_⟩ (fun hHeld=>?_)
         clear hK K
         refine norm_ (a':=?_) ?_ ?_
         rotate_left
         ·show Act.put _ (some 52) _=_
          simp only [Act.put,List.setIfInBounds_toArray,List.set_cons_zero,List.set_cons_succ,i64_w,i32_w]
          rfl
         refine pu 7 54 #[true,true,true,true,true,true,true,true,false,false] ?_
         refine one_ (i:=8) (N:=some 55) #[true,true,true,true,true,true,true,true,true,false] rfl rfl (one_of HT_.out (by kernel_rfl)) (by decide) (fun K hK=>?_)
         refine runs_ (.agg #[.int .i64 ((rd_T86 t294 x12_3).f0),.int .i64 ((rd_T86 t294 x12_3).f1),.int .i64 ((rd_T86 t294 x12_3).f2),.int .i64 ((rd_T86 t294 x12_3).f3),.int .i64 ((rd_T86 t294 x12_3).f4)]) (by rfl) rfl ?_ ?_
         ·first|(go_simp;done)|(go_simp;with_reducible rfl)
         refine hK.out _ _ hHeld (fun hHeld=>?_)
         clear hK K
         refine norm_ (a':=?_) ?_ ?_
         rotate_left
         ·show Act.put _ (some 55) _=_
          simp only [Act.put,List.setIfInBounds_toArray,List.set_cons_zero,List.set_cons_succ,i64_w,i32_w]
          rfl
         refine pu 9 56 #[true,true,true,true,true,true,true,true,true,true] ?_
         refine done_ (done_of HT_.out (by kernel_rfl)) ?_
         try go_wp2
         go_roundg k3
         case measure=>have:=HJ4.out;have:=HJ10.out;have:=HK3.out;omega
         case rel=>exact ⟨(wrap64 (x12_3+1)),rs,H',⟨by have:=HJ4.out;have:=HJ10.out;have:=HK3.out;omega⟩,⟨by (with_reducible repeat (first|apply Kd.R_alloc|apply Kd.R_drewN|apply Kd.R_drew));exact Kd.R_mono HO_10.out (fun _ hk=>trivial)⟩,⟨hbx⟩⟩
        rw [if_neg c23] at H
        exact absurd H (by simp)
       rw [if_neg c21] at H
       exact absurd H (by simp)
      rw [if_neg c20] at H
      exact absurd H (by simp)
     rw [if_neg c19] at H
     have c19b0:decide (x12_3 < 2)=false:=decide_eq_false c19
     clear c19
     have HC33:=Aside0.mk H
     clear H
     obtain ⟨Ao34,co34,eo34⟩:=Kd.R_slice HO_10.out
     subst eo34
     go_upto_region 16 with (fail)
     go_cut [83] (fun v83 wc=>∃ (kq:Nat) (x83_32:Bool),v83=.bool x83_32∧Aside0 (spec_l06Lint.j3 kq a1 a2 l3 t289 (wrap64 ((t289.length:Int) - 1)) x83_32=some (r1,r2))∧Aside0 (kq≤k3)∧Aside0 (Kd.R k86 86 wc w.heap.size (fun _=>True) (.slice Ao34 t289.length co34) t289)∧Aside0 (Below w.heap.size w wc))
     case first=>
      have H:=HC33.out
      clear HC33
      obtain ⟨ji35,hji35⟩ : ∃ j_:Int,(wrap64 ((t289.length:Int) - 1))=j_:=⟨_,rfl⟩
      replace H:(if 0≤(ji35) then (if (ji35) < (t289.length:Int) then (if ((rd_T86 t289 (ji35)).f0)=4 then (spec_l06Lint.j3 k3 a1 a2 l3 t289 ji35 (!true)) else (if ((rd_T86 t289 (ji35)).f0)=3 then (spec_l06Lint.j3 k3 a1 a2 l3 t289 ji35 (!(((rd_T86 t289 (ji35)).f1)==0))) else (spec_l06Lint.j3 k3 a1 a2 l3 t289 ji35 (!false)))) else (none)) else (none))=some (r1,r2):=by first|(rw [hji35] at H;exact H)|(simp only [hji35] at H ⊢;exact H)
      have hji35w:(IntKind.i64.wrap ((t289.length:Int) - 1))=ji35:=(i64_w _).trans hji35
      by_cases c36:0≤(ji35)
      ·rw [if_pos c36] at H
       have c36b0:decide (0≤(ji35))=true:=decide_eq_true c36
       clear c36
       (first|rw [c36b0]|(simp only [i64_w,i32_w];rw [c36b0])|skip)
       by_cases c37:(ji35) < (t289.length:Int)
       ·rw [if_pos c37] at H
        have c37b0:decide ((ji35) < (t289.length:Int))=true:=decide_eq_true c37
        clear c37
        by_cases c38:((rd_T86 t289 (ji35)).f0)=4
        ·rw [if_pos c38] at H
         obtain ⟨c38b0,c38b1⟩:=eqP c38
         clear c38
         have H':=Aside0.mk H
         clear H
         have p298:0≤((ji35):Int):=od
         have q298:(ji35) < (t289.length:Int):=od
         obtain ⟨ad298,e298,hx298_0,hx298_1,hx298_2,hx298_3,hx298_4⟩:=at_T86 (Kd.R_reads' HO_10.out).2.2 (ji35) p298 q298
         cases e298
         replace p298:=eq_true p298
         replace q298:=eq_true q298
         go_wp2
         subst hji35
         go_meet
         case rel=>exact ⟨_,(!true),rs,H',⟨by have:=HJ4.out;have:=HJ10.out;have:=HK3.out;first|omega|exact Nat.le_refl _⟩,⟨kr HO_10.out⟩,⟨hbx⟩⟩
        rw [if_neg c38] at H
        obtain ⟨c38b0,c38b1⟩:=eqN c38
        by_cases c39:((rd_T86 t289 (ji35)).f0)=3
        ·rw [if_pos c39] at H
         obtain ⟨c39b0,c39b1⟩:=eqP c39
         clear c39
         have H':=Aside0.mk H
         clear H
         have p298:0≤((ji35):Int):=od
         have q298:(ji35) < (t289.length:Int):=od
         obtain ⟨ad298,e298,hx298_0,hx298_1,hx298_2,hx298_3,hx298_4⟩:=at_T86 (Kd.R_reads' HO_10.out).2.2 (ji35) p298 q298
         cases e298
         replace p298:=eq_true p298
         replace q298:=eq_true q298
         have p299:0≤((ji35):Int):=od
         have q299:(ji35) < (t289.length:Int):=od
         obtain ⟨ad299,e299,hx299_0,hx299_1,hx299_2,hx299_3,hx299_4⟩:=at_T86 (Kd.R_reads' HO_10.out).2.2 (ji35) p299 q299
         obtain rfl:ad298=ad299:=(by injection e299)
         replace p299:=eq_true p299
         replace q299:=eq_true q299
         have p300:0≤((ji35):Int):=od
         have q300:(ji35) < (t289.length:Int):=od
         obtain ⟨ad300,e300,hx300_0,hx300_1,hx300_2,hx300_3,hx300_4⟩:=at_T86 (Kd.R_reads' HO_10.out).2.2 (ji35) p300 q300
         obtain rfl:ad298=ad300:=(by injection e300)
         replace p300:=eq_true p300
         replace q300:=eq_true q300
         go_wp2
         subst hji35
         go_meet
         case rel=>exact ⟨_,(!(((rd_T86 t289 ((wrap64 ((t289.length:Int) - 1)))).f1)==0)),(by first|rfl|(simp;done)|(simp only [← hji35]<;>(first|rfl|simp))|(simp [*];done)),H',⟨by have:=HJ4.out;have:=HJ10.out;have:=HK3.out;first|omega|exact Nat.le_refl _⟩,⟨kr HO_10.out⟩,⟨hbx⟩⟩
        rw [if_neg c39] at H
        obtain ⟨c39b0,c39b1⟩:=eqN c39
        have H':=Aside0.mk H
        clear H
        have p298:0≤((ji35):Int):=od
        have q298:(ji35) < (t289.length:Int):=od
        obtain ⟨ad298,e298,hx298_0,hx298_1,hx298_2,hx298_3,hx298_4⟩:=at_T86 (Kd.R_reads' HO_10.out).2.2 (ji35) p298 q298
        cases e298
        replace p298:=eq_true p298
        replace q298:=eq_true q298
        have p299:0≤((ji35):Int):=od
        have q299:(ji35) < (t289.length:Int):=od
        obtain ⟨ad299,e299,hx299_0,hx299_1,hx299_2,hx299_3,hx299_4⟩:=at_T86 (Kd.R_reads' HO_10.out).2.2 (ji35) p299 q299
        obtain rfl:ad298=ad299:=(by injection e299)
        replace p299:=eq_true p299
        replace q299:=eq_true q299
        go_wp2
        subst hji35
        go_meet
        case rel=>exact ⟨_,(!false),rs,H',⟨by have:=HJ4.out;have:=HJ10.out;have:=HK3.out;first|omega|exact Nat.le_refl _⟩,⟨kr HO_10.out⟩,⟨hbx⟩⟩
       rw [if_neg c37] at H
       exact absurd H (by simp)
      rw [if_neg c36] at H
      exact absurd H (by simp)
     clear HC33
     try clear c19b0
     obtain ⟨kq,x83_32,rfl,HA,HJ32,HO_10,HB⟩:=hcut
     cases kq with
     | zero=>exact absurd HA.out (by simp [spec_l06Lint.j3])
     | succ kj32 =>
      have H:=HA.out
      clear HA
      simp only [spec_l06Lint.j3] at H
      by_cases c40:x83_32=true
      ·subst c40
       rw [if_pos rfl] at H
       simp only [Option.some.injEq,Prod.mk.injEq] at H
       obtain ⟨rfl,rfl⟩:=H
       go_wp2
       go_ret2
       exact ⟨rf,hbx⟩
      replace c40:=Bool.eq_false_iff.mpr c40
      subst c40
      rw [if_neg (show ¬ (false=true) by decide)] at H
      have H':=Aside0.mk H
      clear H
      go_wp2
      go_loopg [14] kj32 (fun kq v14 w'=>∃ (x14_5:Int),v14=.int .i64 x14_5∧Aside0 (spec_l06Lint.l1 kq a1 a2 l3 t289 (wrap64 ((t289.length:Int) - 1)) x14_5=some (r1,r2))∧Aside0 (kq≤kj32)∧Aside0 (Kd.R k86 86 w' w.heap.size (fun _=>True) (.slice Ao34 t289.length co34) t289)∧Aside0 (Below w.heap.size w w'))
      case atStart=>exact ⟨(2),rs,H',⟨Nat.le_refl _⟩,⟨kr HO_10.out⟩,⟨hbx⟩⟩
      clear H'
      try clear c40
      obtain ⟨x14_5,rfl,HA,HK5,HO_10,HB⟩:=hrel
      cases gk with
      | zero=>exact absurd HA.out (by simp [spec_l06Lint.l1])
      | succ k5 =>
       have H:=HA.out
       clear HA
       simp only [spec_l06Lint.l1] at H
       by_cases c41:x14_5≤(wrap64 ((t289.length:Int) - 1))
       ·rw [if_pos c41] at H
        have c41b0:decide (x14_5≤(wrap64 ((t289.length:Int) - 1)))=true:=decide_eq_true c41
        clear c41
        obtain ⟨t301,A42,H⟩:=bindA H
        by_cases c43:t301=0
        ·rw [if_pos c43] at H
         obtain ⟨c43b0,c43b1⟩:=eqP c43
         clear c43
         have H':=Aside0.mk H
         clear H
         go_wp2_with (first|(refine gl 68 95 Try.func68 #[.slice Ao34 t289.length co34,.int .i64 x14_5,.int .i64 a1,.int .i64 a2,.slice A3 l3.length c3] ?_;(with_reducible refine (spec_l06Rule.calls k5 _ _ t289 x14_5 a1 a2 _ _ l3 t301 _ ?side1 ?side2 ?side3 ?side4 A42.out).mono ?_);(case side1=>repeat (first|exact (Kd.R_reads' HO_10.out).2.2|(with_reducible refine Kd.C_alloc ?_ _)|(with_reducible refine Kd.C_drewN ?_ _)|(with_reducible refine Kd.C_drew ?_)));(case side2=>exact (Kd.R_reads' HO_10.out).2.1);(case side3=>exact kc HR3.out);(case side4=>exact HC3.out);rintro e w44 ⟨rfl,hb⟩;refine ⟨_,rfl,?_⟩;have n0_:=Aside0.mk (Kd.R_below (kr HO_10.out) hb);replace HB:=Aside0.mk (below_step hbx hb);clear HO_10;have HO_10:=n0_;clear n0_;(try clear hb);(try clear hb2);(try clear hk);(try clear hi)))
         go_roundg k5
         case measure=>have:=HJ4.out;have:=HJ10.out;have:=HK3.out;have:=HJ32.out;have:=HK5.out;omega
         case rel=>exact ⟨(wrap64 (x14_5+1)),rs,H',⟨by have:=HJ4.out;have:=HJ10.out;have:=HK3.out;have:=HJ32.out;have:=HK5.out;omega⟩,⟨kr HO_10.out⟩,⟨hbx⟩⟩
        rw [if_neg c43] at H
        obtain ⟨c43b0,c43b1⟩:=eqN c43
        simp only [Option.some.injEq,Prod.mk.injEq] at H
        obtain ⟨rfl,rfl⟩:=H
        go_wp2_with (first|(refine gl 68 95 Try.func68 #[.slice Ao34 t289.length co34,.int .i64 x14_5,.int .i64 a1,.int .i64 a2,.slice A3 l3.length c3] ?_;(with_reducible refine (spec_l06Rule.calls k5 _ _ t289 x14_5 a1 a2 _ _ l3 t301 _ ?side1 ?side2 ?side3 ?side4 A42.out).mono ?_);(case side1=>repeat (first|exact (Kd.R_reads' HO_10.out).2.2|(with_reducible refine Kd.C_alloc ?_ _)|(with_reducible refine Kd.C_drewN ?_ _)|(with_reducible refine Kd.C_drew ?_)));(case side2=>exact (Kd.R_reads' HO_10.out).2.1);(case side3=>exact kc HR3.out);(case side4=>exact HC3.out);rintro e w45 ⟨rfl,hb⟩;refine ⟨_,rfl,?_⟩;have n0_:=Aside0.mk (Kd.R_below (kr HO_10.out) hb);replace HB:=Aside0.mk (below_step hbx hb);clear HO_10;have HO_10:=n0_;clear n0_;(try clear hb);(try clear hb2);(try clear hk);(try clear hi)))
        go_ret2
        exact ⟨rf,hbx⟩
       rw [if_neg c41] at H
       have c41b0:decide (x14_5≤(wrap64 ((t289.length:Int) - 1)))=false:=decide_eq_false c41
       clear c41
       simp only [Option.some.injEq,Prod.mk.injEq] at H
       obtain ⟨rfl,rfl⟩:=H
       go_wp2
       go_ret2
       exact ⟨rf,hbx⟩
  replace c10:=Bool.eq_false_iff.mpr c10
  subst c10
  rw [if_neg (show ¬ (false=true) by decide)] at H
  simp only [Option.some.injEq,Prod.mk.injEq] at H
  obtain ⟨rfl,rfl⟩:=H
  go_wp2_with (first|(refine gd 66 25 Try.func66 #[.int .i64 a2] (spec_FrameOK.calls a2 false _ A9.out) ?_;intro nd))
  go_ret2
  exact ⟨rf,hbx⟩
end Go.Proofs.Ythepmdlpjdlajaa.PFnExactLintImage
