/- The walk of FnExactLintFunction: each Go function that the law reaches as a plain Lean function, with the proof that a call does what it says; no conditions. Written by a program for this claim. -/
import Derived.Test.YthepmdlpjdlajaaPFnExactLintFunctionx0
import Derived.Test.YthepmdlpjdlajaaPFnExactLintFunctionx1
import Derived.Test.YthepmdlpjdlajaaPFnExactLintFunctionx10
import Derived.Test.YthepmdlpjdlajaaPFnExactLintFunctionx14
import Derived.Test.YthepmdlpjdlajaaPFnExactLintFunctionx15
namespace Go.Proofs.Ythepmdlpjdlajaa.PFnExactLintFunction
open Go.RowKit Go.Proofs.YthepmdlpjdlajaaW.PrintWords Go.Proofs.YthepmdlpjdlajaaW.PrintLast Go.Proofs.YthepmdlpjdlajaaW.PrintMore
attribute [local go_sem] max2_int min2_int max_two min_two max_three min_three max_four min_four   -- for this text's walks alone
set_option linter.unusedVariables false
set_option linter.unusedSimpArgs false
attribute [local go_sem high] eqA86
mutual
def impl_lint.l0:Nat→Int→Int→List Int→List (S86)→List (S86)→Int→Int→Option (Int × Int)
  | 0,_,_,_,_,_,_,_=>none
  | k+1,x1,x2,x3,x10,x42,x43,x44=>if x44 < x43 then (if 0≤x44 then (if x44 < (x42.length:Int) then (if x44 < (x10.length:Int) then (if (!(((rd_T86 x10 x44).f0)==((rd_T86 x42 x44).f0)) || (!(((rd_T86 x10 x44).f1)==((rd_T86 x42 x44).f1)) || (!(((rd_T86 x10 x44).f2)==((rd_T86 x42 x44).f2)) || (!(((rd_T86 x10 x44).f3)==((rd_T86 x42 x44).f3)) || (!(((rd_T86 x10 x44).f4)==((rd_T86 x42 x44).f4)))))))=true then (some (x44,17)) else (impl_lint.l0 k x1 x2 x3 x10 x42 x43 (wrap64 (x44+1)))) else (none)) else (none)) else (none)) else (if 0≤(wrap64 ((x10.length:Int) - 1)) then (if (wrap64 ((x10.length:Int) - 1)) < (x10.length:Int) then (if ((rd_T86 x10 (wrap64 ((x10.length:Int) - 1))).f0)=4 then (impl_lint.j1 k x1 x2 x3 x10 false) else (if ((rd_T86 x10 (wrap64 ((x10.length:Int) - 1))).f0)=3 then (impl_lint.j1 k x1 x2 x3 x10 (((rd_T86 x10 (wrap64 ((x10.length:Int) - 1))).f1) != 0)) else (impl_lint.j1 k x1 x2 x3 x10 true))) else (none)) else (none))
def impl_lint.j1:Nat→Int→Int→List Int→List (S86)→Bool→Option (Int × Int)
  | 0,_,_,_,_,_=>none
  | k+1,x1,x2,x3,x10,x75=>if x75=true then (some (wrap64 ((x10.length:Int) - 1),22)) else (if 0≤(x10.length:Int) then (if ((x10.length:Int):Int).toNat≤35184372088832 then (impl_lint.l1 k x2 x10 2 x10 x2 x1 x3 (List.replicate ((x10.length:Int):Int).toNat 0)) else (none)) else (none))
def impl_lint.l1:Nat→Int→List (S86)→Int→List (S86)→Int→Int→List Int→List Int→Option (Int × Int)
  | 0,_,_,_,_,_,_,_,_=>none
  | k+1,x2,x10,x17,x394000,x394001,x394002,x394003,x394004=>if (wrap64 (x17+3))≤(x10.length:Int) then (if 0≤x17 then (if x17≤(wrap64 (x17+3)) then ((impl_epilogue.f x2).bind fun t398=>((impl_Instr.f k ((x10.take ((wrap64 (x17+3)):Int).toNat).drop (x17:Int).toNat) t398).bind fun t401=>(if t401=true then (if x17 < (x394004.length:Int) then (if 0≤(wrap64 (x17+1)) then (if (wrap64 (x17+1)) < (x394004.length:Int) then (if 0≤(wrap64 (x17+2)) then (if (wrap64 (x17+2)) < (x394004.length:Int) then (impl_lint.l1 k x2 x10 (wrap64 (x17+1)) x394000 x394001 x394002 x394003 (((x394004.set (x17:Int).toNat 1).set ((wrap64 (x17+1)):Int).toNat 2).set ((wrap64 (x17+2)):Int).toNat 3)) else (none)) else (none)) else (none)) else (none)) else (none)) else (impl_lint.l1 k x2 x10 (wrap64 (x17+1)) x394000 x394001 x394002 x394003 x394004)))) else (none)) else (none)) else (impl_lint.l2 k x10 2 x394000 x394001 x394002 x394003 x394004)
def impl_lint.l2:Nat→List (S86)→Int→List (S86)→Int→Int→List Int→List Int→Option (Int × Int)
  | 0,_,_,_,_,_,_,_=>none
  | k+1,x10,x18,x394000,x394001,x394002,x394003,x394004=>if x18 < (x10.length:Int) then ((impl_linting_fault.f k x394000 x394001 x394002 x394003 x394004 x18).bind fun bt405=>(if bt405.1=0 then (impl_lint.l2 k x10 (wrap64 (x18+1)) x394000 bt405.2.1 bt405.2.2 x394003 x394004) else (some (x18,bt405.1)))) else (some (0,0))
end
def impl_lint.f (k:Nat) (a0:ByteArray) (a1:Int) (a2:Int) (l3:List Int):Option (Int × Int):=(impl_isCodeAt.f a1).bind fun t374=>(if t374=true then ((impl_FrameOK.f a2).bind fun t375=>(if t375=true then ((impl_isFuncSize.f a0).bind fun t376=>(if t376=true then ((impl_instrsOf.f k a0).bind fun bt377=>(if bt377.2.2=true then ((impl_prologue.f a2).bind fun t382=>(impl_lint.l0 k a1 a2 l3 bt377.1 t382 (t382.length:Int) 0)) else (some (bt377.2.1,10)))) else (some (0,8)))) else (some (0,17)))) else (some (0,4)))
theorem impl_lint.mono_l : ∀ k,(∀ y0 y1 y2 y3 y4 y5 y6,LeO (impl_lint.l0 k y0 y1 y2 y3 y4 y5 y6) (impl_lint.l0 (k+1) y0 y1 y2 y3 y4 y5 y6))∧(∀ y0 y1 y2 y3 y4,LeO (impl_lint.j1 k y0 y1 y2 y3 y4) (impl_lint.j1 (k+1) y0 y1 y2 y3 y4))∧(∀ y0 y1 y2 y3 y4 y5 y6 y7,LeO (impl_lint.l1 k y0 y1 y2 y3 y4 y5 y6 y7) (impl_lint.l1 (k+1) y0 y1 y2 y3 y4 y5 y6 y7))∧(∀ y0 y1 y2 y3 y4 y5 y6,LeO (impl_lint.l2 k y0 y1 y2 y3 y4 y5 y6) (impl_lint.l2 (k+1) y0 y1 y2 y3 y4 y5 y6))
  | 0=>⟨fun _ _ _ _ _ _ _ r h=>by simp [impl_lint.l0] at h,fun _ _ _ _ _ r h=>by simp [impl_lint.j1] at h,fun _ _ _ _ _ _ _ _ r h=>by simp [impl_lint.l1] at h,fun _ _ _ _ _ _ _ r h=>by simp [impl_lint.l2] at h⟩
  | k+1=>by
    obtain ⟨ih0,ih1,ih2,ih3⟩:=impl_lint.mono_l k
    refine ⟨?_,?_,?_,?_⟩<;>intros<;>(first|unfold impl_lint.l0|unfold impl_lint.j1|unfold impl_lint.l1|unfold impl_lint.l2)<;>repeat' (with_reducible first|apply ih0|apply ih1|apply ih2|apply ih3|apply impl_Instr.mono|apply impl_instrsOf.mono|apply impl_linting_fault.mono|apply LeO.refl|apply LeO.none|apply LeO.ite|refine LeO.bind ?_ (fun _=>?_))
theorem impl_lint.mono : ∀ a0 a1 a2 a3 k,LeO (impl_lint.f k a0 a1 a2 a3) (impl_lint.f (k+1) a0 a1 a2 a3):=by
 intro a0 a1 a2 a3 k
 obtain ⟨ih0,ih1,ih2,ih3⟩:=impl_lint.mono_l k
 unfold impl_lint.f
 repeat' (with_reducible first|apply ih0|apply ih1|apply ih2|apply ih3|apply impl_Instr.mono|apply impl_instrsOf.mono|apply impl_linting_fault.mono|apply LeO.refl|apply LeO.none|apply LeO.ite|refine LeO.bind ?_ (fun _=>?_))
def impl_lint.T23:Bool × List (List Nat × List Nat):=(true,[([],[]),([],[]),([],[]),([2],[2]),([0,1,3],[0,1,3]),([],[]),([5],[5]),([4,6,6],[4,6])])
def impl_lint.B23:List Nat:=[0,0,0,4,15,0,32,127]
theorem impl_lint.tab23:rtab .any (opsOf Try.f43 23)=impl_lint.T23:=by kernel_rfl
theorem impl_lint.bits23:waitsOk impl_lint.T23.2 impl_lint.B23=true:=by kernel_rfl
def impl_lint.T24:Bool × List (List Nat × List Nat):=(true,[([],[]),([0],[0]),([1],[1]),([2],[2]),([],[]),([],[]),([5],[5]),([6],[6]),([7],[7]),([],[]),([9],[9]),([],[]),([11],[11]),([12],[12]),([13],[13]),([],[]),([15],[15]),([3,4,0,1,2,3,4,8,14],[3,4]),([17,0,1,2,3,4,8,14],[17]),([8,10,0,1,2,3,4,5,6,7,8,9,10,14,17,18],[8,10]),([19,18,0,1,2,3,4,5,6,7,8,9,10,14,17,18],[19]),([14,16,0,1,2,3,4,5,6,7,8,9,10,11,12,13,14,15,16,17,18,19,20],[14,16]),([21,20,0,1,2,3,4,5,6,7,8,9,10,11,12,13,14,15,16,17,18,19,20],[21])])
def impl_lint.B24:List Nat:=[0,1,3,7,0,0,32,96,224,0,512,0,2048,6144,14336,0,32768,31231,162303,425983,950271,2097151,4194303]
theorem impl_lint.tab24:rtab .any (opsOf Try.f43 24)=impl_lint.T24:=by kernel_rfl
theorem impl_lint.bits24:waitsOk impl_lint.T24.2 impl_lint.B24=true:=by kernel_rfl
set_option maxHeartbeats 8000000 in
set_option maxRecDepth 100000 in
theorem impl_lint.calls (k:Nat) (a0:ByteArray) (a1:Int) (a2:Int) (A3:Option Addr) (c3:Nat) (l3:List Int) (r1:Int) (r2:Int) (w:World) (hr3:Kd.C (Kd.int .i64) w A3 l3.length l3) (hc3:l3.length≤c3) (h:impl_lint.f k a0 a1 a2 l3=some (r1,r2)) :
    Calls Try.prog 43 #[.string a0,.int .i64 a1,.int .i64 a2,.slice A3 l3.length c3] w fun e w'=>e=.returned (.tuple #[.int .i64 r1,.int .i64 r2])∧Below w.heap.size w w':=by
 have hu86:=Try.underlying86
 have hu93:=Try.underlying93
 have HR3:=Aside0.mk hr3
 have HC3:=Aside0.mk hc3
 clear hr3 hc3
 have HB:=Aside0.mk (Below.refl w.heap.size w)
 have H:((impl_isCodeAt.f a1).bind fun t374=>(if t374=true then ((impl_FrameOK.f a2).bind fun t375=>(if t375=true then ((impl_isFuncSize.f a0).bind fun t376=>(if t376=true then ((impl_instrsOf.f k a0).bind fun bt377=>(if bt377.2.2=true then ((impl_prologue.f a2).bind fun t382=>(impl_lint.l0 k a1 a2 l3 bt377.1 t382 (t382.length:Int) 0)) else (some (bt377.2.1,10)))) else (some (0,8)))) else (some (0,17)))) else (some (0,4))))=some (r1,r2):=h
 clear h
 obtain ⟨t374,A5,H⟩:=bindA H
 by_cases c6:t374=true
 ·subst c6
  rw [if_pos rfl] at H
  obtain ⟨t375,A7,H⟩:=bindA H
  by_cases c8:t375=true
  ·subst c8
   rw [if_pos rfl] at H
   obtain ⟨t376,A9,H⟩:=bindA H
   by_cases c10:t376=true
   ·subst c10
    rw [if_pos rfl] at H
    obtain ⟨⟨t377,t378,t379⟩,A11,H⟩:=bindA H
    try dsimp only at H
    by_cases c12:t379=true
    ·subst c12
     rw [if_pos rfl] at H
     obtain ⟨t382,A13,H⟩:=bindA H
     have H':=Aside0.mk H
     clear H
     go_enter Try.func43,Try.ntmps43
     go_wp2_with (first|((with_reducible refine gate_callee (f:=48) rfl ?_);refine goesL_ (some 22) rfl rfl Try.func48 (by kernel_rfl) rfl #[.int .i64 a1] rfl (by (try simp only [List.map_toArray,List.map_cons,List.map_nil]);first|done|rfl|(simp only [List.length_drop,List.length_take];rfl)) ?_;(with_reducible refine (impl_isCodeAt.calls a1 true _ A5.out).mono ?_);rintro e w' ⟨rfl,⟨nd,rfl⟩⟩;refine ⟨_,rfl,?_⟩)|((with_reducible refine gate_callee (f:=69) rfl ?_);refine goesL_ (some 26) rfl rfl Try.func69 (by kernel_rfl) rfl #[.int .i64 a2] rfl (by (try simp only [List.map_toArray,List.map_cons,List.map_nil]);first|done|rfl|(simp only [List.length_drop,List.length_take];rfl)) ?_;(with_reducible refine (impl_FrameOK.calls a2 true _ A7.out).mono ?_);rintro e w' ⟨rfl,⟨nd,rfl⟩⟩;refine ⟨_,rfl,?_⟩)|((with_reducible refine gate_callee (f:=70) rfl ?_);refine goesL_ (some 30) rfl rfl Try.func70 (by kernel_rfl) rfl #[.string a0] rfl (by (try simp only [List.map_toArray,List.map_cons,List.map_nil]);first|done|rfl|(simp only [List.length_drop,List.length_take];rfl)) ?_;(with_reducible refine (impl_isFuncSize.calls a0 true _ A9.out).mono ?_);rintro e w' ⟨rfl,⟨nd,rfl⟩⟩;refine ⟨_,rfl,?_⟩)|((with_reducible refine gate_callee (f:=71) rfl ?_);refine goesL_ (some 34) rfl rfl Try.func71 (by kernel_rfl) rfl #[.string a0] rfl (by (try simp only [List.map_toArray,List.map_cons,List.map_nil]);first|done|rfl|(simp only [List.length_drop,List.length_take];rfl)) ?_;(with_reducible refine (impl_instrsOf.calls k a0 t377 t378 true _ A11.out).mono ?_);rintro e w14 ⟨v380,rfl,ho0,hb⟩;refine ⟨_,rfl,?_⟩;have n0_:=Aside0.mk (Kd.R_lower ho0 (below_size (by repeat (with_reducible first|exact HB.out|apply Q4|apply Q5|apply Q6))));have n1_:=Aside0.mk (below_step (by repeat (with_reducible first|exact HB.out|apply Q4|apply Q5|apply Q6)) hb);clear HB;have HO381:=n0_;have HB:=n1_;clear n0_ n1_;(try clear hb);(try clear hb2);(try clear hk);(try clear hi);(try clear ho0))|((with_reducible refine gate_callee (f:=72) rfl ?_);refine goesL_ (some 42) rfl rfl Try.func72 (by kernel_rfl) rfl #[.int .i64 a2] rfl (by (try simp only [List.map_toArray,List.map_cons,List.map_nil]);first|done|rfl|(simp only [List.length_drop,List.length_take];rfl)) ?_;(with_reducible refine (impl_prologue.calls a2 t382 _ A13.out).mono ?_);rintro e w15 ⟨v383,rfl,ho0,hb⟩;refine ⟨_,rfl,?_⟩;have n0_:=Aside0.mk (Kd.R_elder' (by (with_reducible repeat (first|apply Kd.R_alloc|apply Kd.R_drewN|apply Kd.R_drew));exact HO381.out) (Kd.R_base ho0) hb);have n1_:=Aside0.mk (Kd.R_lower (Kd.R_new' ho0 (Kd.R_lt (by (with_reducible repeat (first|apply Kd.R_alloc|apply Kd.R_drewN|apply Kd.R_drew));exact HO381.out))) (below_size (by repeat (with_reducible first|exact HB.out|apply Q4|apply Q5|apply Q6))));have n2_:=Aside0.mk (below_step (by repeat (with_reducible first|exact HB.out|apply Q4|apply Q5|apply Q6)) hb);clear HO381;clear HB;have HO381:=n0_;have HO384:=n1_;have HB:=n2_;clear n0_ n1_ n2_;(try clear hb);(try clear hb2);(try clear hk);(try clear hi);(try clear ho0);obtain ⟨Ao16,co16,eo16⟩:=Kd.R_slice HO384.out;subst eo16))
     go_loopg [44] k (fun kq v44 w'=>∃ (x44_1:Int),v44=.int .i64 x44_1∧Aside0 (impl_lint.l0 kq a1 a2 l3 t377 t382 (t382.length:Int) x44_1=some (r1,r2))∧Aside0 (kq≤k)∧Aside0 (Kd.R k86 86 w' w.heap.size (fun k_=>some k_≠((.slice Ao16 t382.length co16):Value).ownBlock) v380 t377)∧Aside0 (Kd.R k86 86 w' w.heap.size (fun k_=>some k_≠(v380:Value).ownBlock) (.slice Ao16 t382.length co16) t382)∧Aside0 (Below w.heap.size w w'))
     case atStart=>exact ⟨(0),(by first|rfl|(simp;done)|(simp [*];done)),H',⟨Nat.le_refl _⟩,⟨by (with_reducible repeat (first|apply Kd.R_alloc|apply Kd.R_drewN|apply Kd.R_drew));exact Kd.R_mono HO381.out (fun _ hk=>hk.2)⟩,⟨by (with_reducible repeat (first|apply Kd.R_alloc|apply Kd.R_drewN|apply Kd.R_drew));exact Kd.R_mono HO384.out (fun _ hk=>hk.2)⟩,⟨by repeat (with_reducible first|exact HB.out|apply Q4|apply Q5|apply Q6)⟩⟩
     clear H'
     try clear c6
     try clear c8
     try clear c10
     try clear c12
     obtain ⟨x44_1,rfl,HA,HK1,HO_10,HO_42,HB⟩:=hrel
     cases gk with
     | zero=>exact absurd HA.out (by simp [impl_lint.l0])
     | succ k1 =>
      have H:=HA.out
      clear HA
      simp only [impl_lint.l0] at H
      by_cases c17:x44_1 < (t382.length:Int)
      ·rw [if_pos c17] at H
       have c17b0:decide (x44_1 < (t382.length:Int))=true:=decide_eq_true c17
       clear c17
       by_cases c18:0≤x44_1
       ·rw [if_pos c18] at H
        have c18b0:decide (0≤x44_1)=true:=decide_eq_true c18
        clear c18
        by_cases c19:x44_1 < (t382.length:Int)
        ·rw [if_pos c19] at H
         have c19b0:decide (x44_1 < (t382.length:Int))=true:=decide_eq_true c19
         clear c19
         by_cases c20:x44_1 < (t377.length:Int)
         ·rw [if_pos c20] at H
          have c20b0:decide (x44_1 < (t377.length:Int))=true:=decide_eq_true c20
          clear c20
          by_cases c21:(!(((rd_T86 t377 x44_1).f0)==((rd_T86 t382 x44_1).f0)) || (!(((rd_T86 t377 x44_1).f1)==((rd_T86 t382 x44_1).f1)) || (!(((rd_T86 t377 x44_1).f2)==((rd_T86 t382 x44_1).f2)) || (!(((rd_T86 t377 x44_1).f3)==((rd_T86 t382 x44_1).f3)) || (!(((rd_T86 t377 x44_1).f4)==((rd_T86 t382 x44_1).f4)))))))=true
          ·rw [if_pos c21] at H
           have c21b0:(!(((rd_T86 t377 x44_1).f0)==((rd_T86 t382 x44_1).f0)) || (!(((rd_T86 t377 x44_1).f1)==((rd_T86 t382 x44_1).f1)) || (!(((rd_T86 t377 x44_1).f2)==((rd_T86 t382 x44_1).f2)) || (!(((rd_T86 t377 x44_1).f3)==((rd_T86 t382 x44_1).f3)) || (!(((rd_T86 t377 x44_1).f4)==((rd_T86 t382 x44_1).f4)))))))=true:=c21
           clear c21
           simp only [Option.some.injEq,Prod.mk.injEq] at H
           obtain ⟨rfl,rfl⟩:=H
           have p385:0≤(x44_1:Int):=of_decide_eq_true (by first|(with_reducible assumption)|assumption)
           have q385:x44_1 < (t382.length:Int):=of_decide_eq_true (by first|(with_reducible assumption)|assumption)
           obtain ⟨ad385,e385,hx385_0,hx385_1,hx385_2,hx385_3,hx385_4⟩:=at_T86 (Kd.R_reads' HO_42.out).2.2 x44_1 p385 q385
           cases e385
           replace p385:=eq_true p385
           replace q385:=eq_true q385
           try go_wp2_with (first|((with_reducible refine gate_dst (N:=14) rfl ?_);refine box_event ?hg (N:=14) ?hd (cs:=#[.int .i64 0,.int .i64 0,.int .i64 0,.int .i64 0,.int .i64 0]) (t:=86) ?hr ?_;(case hd=>rfl);(case hg=>rfl);(case hr=>first|(go_simp;done)|(go_simp;rfl));intro gb386 hg w22 hbox hb;have n0_:=Aside0.mk (Kd.R_below (Kd.R_elderB (by (with_reducible repeat (first|apply Kd.R_alloc|apply Kd.R_drewN|apply Kd.R_drew));exact HO_10.out) gb386 (Nat.le_of_eq hg.symm)) hb);have n1_:=Aside0.mk (Kd.R_below (Kd.R_elderB (by (with_reducible repeat (first|apply Kd.R_alloc|apply Kd.R_drewN|apply Kd.R_drew));exact HO_42.out) gb386 (Nat.le_of_eq hg.symm)) hb);have n2_:=Aside0.mk (below_step (by repeat (with_reducible first|exact HB.out|apply Q4|apply Q5|apply Q6)) hb);have n3_:=Aside0.mk (hbox);have n4_:=Aside0.mk ((by rw [hg];exact (below_size (by repeat (with_reducible first|exact HB.out|apply Q4|apply Q5|apply Q6))):w.heap.size≤gb386));have n5_:=Aside0.mk ((by rw [hg];exact (below_size (by repeat (with_reducible first|exact HB.out|apply Q4|apply Q5|apply Q6))):w.heap.size≤gb386));clear HO_10;clear HO_42;clear HB;have HO_10:=n0_;have HO_42:=n1_;have HB:=n2_;have BK386:=n3_;have GW386:=n4_;have GE386:=n5_;clear n0_ n1_ n2_ n3_ n4_ n5_;clear hb hbox hg;have hcz23_0:w22.cell? ⟨gb386,0,none⟩=some (.int .i64 0):=(blk_cell BK386.out 0).trans rfl;have hcz23_1:w22.cell? ⟨gb386,1,none⟩=some (.int .i64 0):=(blk_cell BK386.out 1).trans rfl;have hcz23_2:w22.cell? ⟨gb386,2,none⟩=some (.int .i64 0):=(blk_cell BK386.out 2).trans rfl;have hcz23_3:w22.cell? ⟨gb386,3,none⟩=some (.int .i64 0):=(blk_cell BK386.out 3).trans rfl;have hcz23_4:w22.cell? ⟨gb386,4,none⟩=some (.int .i64 0):=(blk_cell BK386.out 4).trans rfl;have hfz23_0:=blk_frozen BK386.out 0;have hfz23_1:=blk_frozen BK386.out 1;have hfz23_2:=blk_frozen BK386.out 2;have hfz23_3:=blk_frozen BK386.out 3;have hfz23_4:=blk_frozen BK386.out 4))
           have n0_:Aside0 (Kd.R k86 86 (((((w22.setCell ⟨gb386,0,none⟩ (.int .i64 ((rd_T86 t382 x44_1).f0))).setCell ⟨gb386,1,none⟩ (.int .i64 ((rd_T86 t382 x44_1).f1))).setCell ⟨gb386,2,none⟩ (.int .i64 ((rd_T86 t382 x44_1).f2))).setCell ⟨gb386,3,none⟩ (.int .i64 ((rd_T86 t382 x44_1).f3))).setCell ⟨gb386,4,none⟩ (.int .i64 ((rd_T86 t382 x44_1).f4))) w.heap.size (fun k_=>some k_≠(.slice (some ad385) t382.length co16:Value).ownBlock∧k_≠gb386) v380 t377):=⟨by (with_reducible repeat (first|apply Kd.R_alloc|apply Kd.R_drewN|apply Kd.R_drew));exact Kd.R_mono (Kd.R_far (p:=⟨gb386,4,none⟩) (Kd.R_far (p:=⟨gb386,3,none⟩) (Kd.R_far (p:=⟨gb386,2,none⟩) (Kd.R_far (p:=⟨gb386,1,none⟩) (Kd.R_far (p:=⟨gb386,0,none⟩) (Kd.R_mono HO_10.out (fun k_ hk=>(⟨hk,hk.2⟩:_∧k_≠gb386))) (fun _ hk=>hk.2) (.int .i64 ((rd_T86 t382 x44_1).f0))) (fun _ hk=>hk.2) (.int .i64 ((rd_T86 t382 x44_1).f1))) (fun _ hk=>hk.2) (.int .i64 ((rd_T86 t382 x44_1).f2))) (fun _ hk=>hk.2) (.int .i64 ((rd_T86 t382 x44_1).f3))) (fun _ hk=>hk.2) (.int .i64 ((rd_T86 t382 x44_1).f4))) (fun _ hk=>⟨hk.1.1,hk.1.2⟩)⟩
           have n1_:Aside0 (Kd.R k86 86 (((((w22.setCell ⟨gb386,0,none⟩ (.int .i64 ((rd_T86 t382 x44_1).f0))).setCell ⟨gb386,1,none⟩ (.int .i64 ((rd_T86 t382 x44_1).f1))).setCell ⟨gb386,2,none⟩ (.int .i64 ((rd_T86 t382 x44_1).f2))).setCell ⟨gb386,3,none⟩ (.int .i64 ((rd_T86 t382 x44_1).f3))).setCell ⟨gb386,4,none⟩ (.int .i64 ((rd_T86 t382 x44_1).f4))) w.heap.size (fun k_=>some k_≠(v380:Value).ownBlock∧k_≠gb386) (.slice (some ad385) t382.length co16) t382):=⟨by (with_reducible repeat (first|apply Kd.R_alloc|apply Kd.R_drewN|apply Kd.R_drew));exact Kd.R_mono (Kd.R_far (p:=⟨gb386,4,none⟩) (Kd.R_far (p:=⟨gb386,3,none⟩) (Kd.R_far (p:=⟨gb386,2,none⟩) (Kd.R_far (p:=⟨gb386,1,none⟩) (Kd.R_far (p:=⟨gb386,0,none⟩) (Kd.R_mono HO_42.out (fun k_ hk=>(⟨hk,hk.2⟩:_∧k_≠gb386))) (fun _ hk=>hk.2) (.int .i64 ((rd_T86 t382 x44_1).f0))) (fun _ hk=>hk.2) (.int .i64 ((rd_T86 t382 x44_1).f1))) (fun _ hk=>hk.2) (.int .i64 ((rd_T86 t382 x44_1).f2))) (fun _ hk=>hk.2) (.int .i64 ((rd_T86 t382 x44_1).f3))) (fun _ hk=>hk.2) (.int .i64 ((rd_T86 t382 x44_1).f4))) (fun _ hk=>⟨hk.1.1,hk.1.2⟩)⟩
           have n2_:Aside0 ((((((w22.setCell ⟨gb386,0,none⟩ (.int .i64 ((rd_T86 t382 x44_1).f0))).setCell ⟨gb386,1,none⟩ (.int .i64 ((rd_T86 t382 x44_1).f1))).setCell ⟨gb386,2,none⟩ (.int .i64 ((rd_T86 t382 x44_1).f2))).setCell ⟨gb386,3,none⟩ (.int .i64 ((rd_T86 t382 x44_1).f3))).setCell ⟨gb386,4,none⟩ (.int .i64 ((rd_T86 t382 x44_1).f4))).heap[gb386]?=some (.cells #[.int .i64 ((rd_T86 t382 x44_1).f0),.int .i64 ((rd_T86 t382 x44_1).f1),.int .i64 ((rd_T86 t382 x44_1).f2),.int .i64 ((rd_T86 t382 x44_1).f3),.int .i64 ((rd_T86 t382 x44_1).f4)] 86 (0,0))):=⟨by (with_reducible repeat first|apply Q1|apply Q2|apply Q3);refine blk_put (cs:=#[.int .i64 ((rd_T86 t382 x44_1).f0),.int .i64 ((rd_T86 t382 x44_1).f1),.int .i64 ((rd_T86 t382 x44_1).f2),.int .i64 ((rd_T86 t382 x44_1).f3),.int .i64 0]) ?_ 4 _ rfl;(with_reducible repeat first|apply Q1|apply Q2|apply Q3);refine blk_put (cs:=#[.int .i64 ((rd_T86 t382 x44_1).f0),.int .i64 ((rd_T86 t382 x44_1).f1),.int .i64 ((rd_T86 t382 x44_1).f2),.int .i64 0,.int .i64 0]) ?_ 3 _ rfl;(with_reducible repeat first|apply Q1|apply Q2|apply Q3);refine blk_put (cs:=#[.int .i64 ((rd_T86 t382 x44_1).f0),.int .i64 ((rd_T86 t382 x44_1).f1),.int .i64 0,.int .i64 0,.int .i64 0]) ?_ 2 _ rfl;(with_reducible repeat first|apply Q1|apply Q2|apply Q3);refine blk_put (cs:=#[.int .i64 ((rd_T86 t382 x44_1).f0),.int .i64 0,.int .i64 0,.int .i64 0,.int .i64 0]) ?_ 1 _ rfl;(with_reducible repeat first|apply Q1|apply Q2|apply Q3);refine blk_put (cs:=#[.int .i64 0,.int .i64 0,.int .i64 0,.int .i64 0,.int .i64 0]) ?_ 0 _ rfl;(with_reducible repeat first|apply Q1|apply Q2|apply Q3);exact BK386.out⟩
           have n3_:Aside0 (Below w.heap.size w (((((w22.setCell ⟨gb386,0,none⟩ (.int .i64 ((rd_T86 t382 x44_1).f0))).setCell ⟨gb386,1,none⟩ (.int .i64 ((rd_T86 t382 x44_1).f1))).setCell ⟨gb386,2,none⟩ (.int .i64 ((rd_T86 t382 x44_1).f2))).setCell ⟨gb386,3,none⟩ (.int .i64 ((rd_T86 t382 x44_1).f3))).setCell ⟨gb386,4,none⟩ (.int .i64 ((rd_T86 t382 x44_1).f4)))):=⟨by repeat (with_reducible first|exact HB.out|apply Q4|apply Q5|apply Q6|apply Q7 GE386.out)⟩
           try clear HO_10 HO_42
           try clear BK386
           try clear HB
           generalize (((((w22.setCell ⟨gb386,0,none⟩ (.int .i64 ((rd_T86 t382 x44_1).f0))).setCell ⟨gb386,1,none⟩ (.int .i64 ((rd_T86 t382 x44_1).f1))).setCell ⟨gb386,2,none⟩ (.int .i64 ((rd_T86 t382 x44_1).f2))).setCell ⟨gb386,3,none⟩ (.int .i64 ((rd_T86 t382 x44_1).f3))).setCell ⟨gb386,4,none⟩ (.int .i64 ((rd_T86 t382 x44_1).f4)))=w24 at n0_ n1_ n2_ n3_ ⊢
           have HO_10:=n0_
           have HO_42:=n1_
           have BK386:=n2_
           have HB:=n3_
           clear n0_ n1_ n2_ n3_
           have n0_:=Aside0.mk (Kd.R_drew HO_10.out)
           have n1_:=Aside0.mk (Kd.R_drew HO_42.out)
           have n2_:=Aside0.mk (blk_drew BK386.out)
           have n3_:=Aside0.mk (below_drew1 HB.out)
           clear HO_10
           clear HO_42
           clear BK386
           clear HB
           have HO_10:=n0_
           have HO_42:=n1_
           have BK386:=n2_
           have HB:=n3_
           clear n0_ n1_ n2_ n3_
           obtain ⟨Ao26,co26,eo26⟩:=Kd.R_slice HO_10.out
           (first|subst eo26|(injection eo26 with f1_ f2_ f3_;have f4_:=f1_.symm;have f5_:=f3_.symm;clear f1_ f2_ f3_;subst f4_;subst f5_))
           have p387:0≤(x44_1:Int):=of_decide_eq_true (by first|(with_reducible assumption)|assumption)
           have q387:x44_1 < (t377.length:Int):=of_decide_eq_true (by first|(with_reducible assumption)|assumption)
           obtain ⟨ad387,e387,hx387_0,hx387_1,hx387_2,hx387_3,hx387_4⟩:=at_T86 (Kd.R_reads' HO_10.out).2.2 x44_1 p387 q387
           cases e387
           replace p387:=eq_true p387
           replace q387:=eq_true q387
           refine start_ (n:=6) (S:=fun w'=>w'.cell? ⟨gb386,0,none⟩=some (.int .i64 ((rd_T86 t382 x44_1).f0))∧w'.cell? ⟨gb386,1,none⟩=some (.int .i64 ((rd_T86 t382 x44_1).f1))∧w'.cell? ⟨gb386,2,none⟩=some (.int .i64 ((rd_T86 t382 x44_1).f2))∧w'.cell? ⟨gb386,3,none⟩=some (.int .i64 ((rd_T86 t382 x44_1).f3))∧w'.cell? ⟨gb386,4,none⟩=some (.int .i64 ((rd_T86 t382 x44_1).f4))∧w'.cell? (ad387.add ((x44_1).toNat*5))=some (.int .i64 ((rd_T86 t377 x44_1).f0))∧w'.cell? ⟨(ad387.add ((x44_1).toNat*5)).block,(ad387.add ((x44_1).toNat*5)).off+1,none⟩=some (.int .i64 ((rd_T86 t377 x44_1).f1))∧w'.cell? ⟨(ad387.add ((x44_1).toNat*5)).block,(ad387.add ((x44_1).toNat*5)).off+2,none⟩=some (.int .i64 ((rd_T86 t377 x44_1).f2))∧w'.cell? ⟨(ad387.add ((x44_1).toNat*5)).block,(ad387.add ((x44_1).toNat*5)).off+3,none⟩=some (.int .i64 ((rd_T86 t377 x44_1).f3))∧w'.cell? ⟨(ad387.add ((x44_1).toNat*5)).block,(ad387.add ((x44_1).toNat*5)).off+4,none⟩=some (.int .i64 ((rd_T86 t377 x44_1).f4))) (ds:=[]) #[false,false,false,false,false,false] (by kernel_rfl) rfl rfl ⟨(blk_cell BK386.out 0).trans rfl,(blk_cell BK386.out 1).trans rfl,(blk_cell BK386.out 2).trans rfl,(blk_cell BK386.out 3).trans rfl,(blk_cell BK386.out 4).trans rfl,hx387_0,hx387_1,hx387_2,hx387_3,hx387_4⟩ (fun hHeld=>?_)
           generalize w24.drew=w25 at HO_10 HO_42 BK386 HB hx387_0 hx387_1 hx387_2 hx387_3 hx387_4 hHeld ⊢
           refine pure_ (i:=0) (N:=some 49) (v:=?_) (a':=?_) #[true,false,false,false,false,false] rfl rfl (by kernel_rfl) (fun _ _ _ h=>h) (Or.inl ⟨by rfl,?_⟩) ?_ ?_
           rotate_left
           ·intro w'
            go_simp
            with_reducible rfl
           rotate_left
           ·simp only [Act.put,List.setIfInBounds_toArray,List.set_cons_zero,List.set_cons_succ,i64_w,i32_w]
            rfl
           refine pure_ (i:=1) (N:=some 50) (v:=?_) (a':=?_) #[true,true,false,false,false,false] rfl rfl (by kernel_rfl) (fun _ _ _ h=>h) (Or.inl ⟨by rfl,?_⟩) ?_ ?_
           rotate_left
           ·intro w'
            go_simp
            with_reducible rfl
           rotate_left
           ·simp only [Act.put,List.setIfInBounds_toArray,List.set_cons_zero,List.set_cons_succ,i64_w,i32_w]
            rfl
           refine pure_ (i:=2) (N:=some 51) (v:=?_) (a':=?_) #[true,true,true,false,false,false] rfl rfl (by kernel_rfl) (fun _ _ _ h=>h) (Or.inl ⟨by rfl,?_⟩) ?_ ?_
           rotate_left
           ·intro w'
            go_simp
            with_reducible rfl
           rotate_left
           ·simp only [Act.put,List.setIfInBounds_toArray,List.set_cons_zero,List.set_cons_succ,i64_w,i32_w]
            rfl
           refine take_ (i:=3) (N:=some 52) (v:=?_) (a':=?_) #[true,true,true,true,false,false] rfl rfl (by kernel_rfl) (fun _ _ _ h=>h) (Or.inl ⟨by rfl,?_⟩) hHeld ?_ ?_
           rotate_left
           ·rintro w' ⟨s0,s1,s2,s3,s4,s5,s6,s7,s8,s9⟩
            go_simp
            with_reducible rfl
           rotate_left
           ·simp only [Act.put,List.setIfInBounds_toArray,List.set_cons_zero,List.set_cons_succ,i64_w,i32_w]
            rfl
           refine take_ (i:=4) (N:=some 53) (v:=?_) (a':=?_) #[true,true,true,true,true,false] rfl rfl (by kernel_rfl) (fun _ _ _ h=>h) (Or.inl ⟨by rfl,?_⟩) hHeld ?_ ?_
           rotate_left
           ·rintro w' ⟨s0,s1,s2,s3,s4,s5,s6,s7,s8,s9⟩
            go_simp
            with_reducible rfl
           rotate_left
           ·simp only [Act.put,List.setIfInBounds_toArray,List.set_cons_zero,List.set_cons_succ,i64_w,i32_w]
            rfl
           refine pure_ (i:=5) (N:=some 54) (v:=?_) (a':=?_) #[true,true,true,true,true,true] rfl rfl (by kernel_rfl) (fun _ _ _ h=>h) (Or.inl ⟨by rfl,?_⟩) ?_ ?_
           rotate_left
           ·intro w'
            go_simp
            with_reducible rfl
           rotate_left
           ·simp only [Act.put,List.setIfInBounds_toArray,List.set_cons_zero,List.set_cons_succ,i64_w,i32_w]
            rfl
           refine done_ (by kernel_rfl) ?_
           try go_wp2
           go_ret2
           exact ⟨by first|rfl|(simp [errW_none,errW_some]<;>rfl)|(simp [*,errW_none,errW_some]<;>rfl),by repeat (with_reducible first|exact HB.out|apply Q4|apply Q5|apply Q6|apply Q7 GE386.out)⟩
          rw [if_neg c21] at H
          have c21b0:(!(((rd_T86 t377 x44_1).f0)==((rd_T86 t382 x44_1).f0)) || (!(((rd_T86 t377 x44_1).f1)==((rd_T86 t382 x44_1).f1)) || (!(((rd_T86 t377 x44_1).f2)==((rd_T86 t382 x44_1).f2)) || (!(((rd_T86 t377 x44_1).f3)==((rd_T86 t382 x44_1).f3)) || (!(((rd_T86 t377 x44_1).f4)==((rd_T86 t382 x44_1).f4)))))))=false:=by simpa using c21
          clear c21
          have H':=Aside0.mk H
          clear H
          have p385:0≤(x44_1:Int):=of_decide_eq_true (by first|(with_reducible assumption)|assumption)
          have q385:x44_1 < (t382.length:Int):=of_decide_eq_true (by first|(with_reducible assumption)|assumption)
          obtain ⟨ad385,e385,hx385_0,hx385_1,hx385_2,hx385_3,hx385_4⟩:=at_T86 (Kd.R_reads' HO_42.out).2.2 x44_1 p385 q385
          cases e385
          replace p385:=eq_true p385
          replace q385:=eq_true q385
          try go_wp2_with (first|((with_reducible refine gate_dst (N:=14) rfl ?_);refine box_event ?hg (N:=14) ?hd (cs:=#[.int .i64 0,.int .i64 0,.int .i64 0,.int .i64 0,.int .i64 0]) (t:=86) ?hr ?_;(case hd=>rfl);(case hg=>rfl);(case hr=>first|(go_simp;done)|(go_simp;rfl));intro gb386 hg w27 hbox hb;have n0_:=Aside0.mk (Kd.R_below (Kd.R_elderB (by (with_reducible repeat (first|apply Kd.R_alloc|apply Kd.R_drewN|apply Kd.R_drew));exact HO_10.out) gb386 (Nat.le_of_eq hg.symm)) hb);have n1_:=Aside0.mk (Kd.R_below (Kd.R_elderB (by (with_reducible repeat (first|apply Kd.R_alloc|apply Kd.R_drewN|apply Kd.R_drew));exact HO_42.out) gb386 (Nat.le_of_eq hg.symm)) hb);have n2_:=Aside0.mk (below_step (by repeat (with_reducible first|exact HB.out|apply Q4|apply Q5|apply Q6)) hb);have n3_:=Aside0.mk (hbox);have n4_:=Aside0.mk ((by rw [hg];exact (below_size (by repeat (with_reducible first|exact HB.out|apply Q4|apply Q5|apply Q6))):w.heap.size≤gb386));have n5_:=Aside0.mk ((by rw [hg];exact (below_size (by repeat (with_reducible first|exact HB.out|apply Q4|apply Q5|apply Q6))):w.heap.size≤gb386));clear HO_10;clear HO_42;clear HB;have HO_10:=n0_;have HO_42:=n1_;have HB:=n2_;have BK386:=n3_;have GW386:=n4_;have GE386:=n5_;clear n0_ n1_ n2_ n3_ n4_ n5_;clear hb hbox hg;have hcz28_0:w27.cell? ⟨gb386,0,none⟩=some (.int .i64 0):=(blk_cell BK386.out 0).trans rfl;have hcz28_1:w27.cell? ⟨gb386,1,none⟩=some (.int .i64 0):=(blk_cell BK386.out 1).trans rfl;have hcz28_2:w27.cell? ⟨gb386,2,none⟩=some (.int .i64 0):=(blk_cell BK386.out 2).trans rfl;have hcz28_3:w27.cell? ⟨gb386,3,none⟩=some (.int .i64 0):=(blk_cell BK386.out 3).trans rfl;have hcz28_4:w27.cell? ⟨gb386,4,none⟩=some (.int .i64 0):=(blk_cell BK386.out 4).trans rfl;have hfz28_0:=blk_frozen BK386.out 0;have hfz28_1:=blk_frozen BK386.out 1;have hfz28_2:=blk_frozen BK386.out 2;have hfz28_3:=blk_frozen BK386.out 3;have hfz28_4:=blk_frozen BK386.out 4))
          have n0_:Aside0 (Kd.R k86 86 (((((w27.setCell ⟨gb386,0,none⟩ (.int .i64 ((rd_T86 t382 x44_1).f0))).setCell ⟨gb386,1,none⟩ (.int .i64 ((rd_T86 t382 x44_1).f1))).setCell ⟨gb386,2,none⟩ (.int .i64 ((rd_T86 t382 x44_1).f2))).setCell ⟨gb386,3,none⟩ (.int .i64 ((rd_T86 t382 x44_1).f3))).setCell ⟨gb386,4,none⟩ (.int .i64 ((rd_T86 t382 x44_1).f4))) w.heap.size (fun k_=>some k_≠(.slice (some ad385) t382.length co16:Value).ownBlock∧k_≠gb386) v380 t377):=⟨by (with_reducible repeat (first|apply Kd.R_alloc|apply Kd.R_drewN|apply Kd.R_drew));exact Kd.R_mono (Kd.R_far (p:=⟨gb386,4,none⟩) (Kd.R_far (p:=⟨gb386,3,none⟩) (Kd.R_far (p:=⟨gb386,2,none⟩) (Kd.R_far (p:=⟨gb386,1,none⟩) (Kd.R_far (p:=⟨gb386,0,none⟩) (Kd.R_mono HO_10.out (fun k_ hk=>(⟨hk,hk.2⟩:_∧k_≠gb386))) (fun _ hk=>hk.2) (.int .i64 ((rd_T86 t382 x44_1).f0))) (fun _ hk=>hk.2) (.int .i64 ((rd_T86 t382 x44_1).f1))) (fun _ hk=>hk.2) (.int .i64 ((rd_T86 t382 x44_1).f2))) (fun _ hk=>hk.2) (.int .i64 ((rd_T86 t382 x44_1).f3))) (fun _ hk=>hk.2) (.int .i64 ((rd_T86 t382 x44_1).f4))) (fun _ hk=>⟨hk.1.1,hk.1.2⟩)⟩
          have n1_:Aside0 (Kd.R k86 86 (((((w27.setCell ⟨gb386,0,none⟩ (.int .i64 ((rd_T86 t382 x44_1).f0))).setCell ⟨gb386,1,none⟩ (.int .i64 ((rd_T86 t382 x44_1).f1))).setCell ⟨gb386,2,none⟩ (.int .i64 ((rd_T86 t382 x44_1).f2))).setCell ⟨gb386,3,none⟩ (.int .i64 ((rd_T86 t382 x44_1).f3))).setCell ⟨gb386,4,none⟩ (.int .i64 ((rd_T86 t382 x44_1).f4))) w.heap.size (fun k_=>some k_≠(v380:Value).ownBlock∧k_≠gb386) (.slice (some ad385) t382.length co16) t382):=⟨by (with_reducible repeat (first|apply Kd.R_alloc|apply Kd.R_drewN|apply Kd.R_drew));exact Kd.R_mono (Kd.R_far (p:=⟨gb386,4,none⟩) (Kd.R_far (p:=⟨gb386,3,none⟩) (Kd.R_far (p:=⟨gb386,2,none⟩) (Kd.R_far (p:=⟨gb386,1,none⟩) (Kd.R_far (p:=⟨gb386,0,none⟩) (Kd.R_mono HO_42.out (fun k_ hk=>(⟨hk,hk.2⟩:_∧k_≠gb386))) (fun _ hk=>hk.2) (.int .i64 ((rd_T86 t382 x44_1).f0))) (fun _ hk=>hk.2) (.int .i64 ((rd_T86 t382 x44_1).f1))) (fun _ hk=>hk.2) (.int .i64 ((rd_T86 t382 x44_1).f2))) (fun _ hk=>hk.2) (.int .i64 ((rd_T86 t382 x44_1).f3))) (fun _ hk=>hk.2) (.int .i64 ((rd_T86 t382 x44_1).f4))) (fun _ hk=>⟨hk.1.1,hk.1.2⟩)⟩
          have n2_:Aside0 ((((((w27.setCell ⟨gb386,0,none⟩ (.int .i64 ((rd_T86 t382 x44_1).f0))).setCell ⟨gb386,1,none⟩ (.int .i64 ((rd_T86 t382 x44_1).f1))).setCell ⟨gb386,2,none⟩ (.int .i64 ((rd_T86 t382 x44_1).f2))).setCell ⟨gb386,3,none⟩ (.int .i64 ((rd_T86 t382 x44_1).f3))).setCell ⟨gb386,4,none⟩ (.int .i64 ((rd_T86 t382 x44_1).f4))).heap[gb386]?=some (.cells #[.int .i64 ((rd_T86 t382 x44_1).f0),.int .i64 ((rd_T86 t382 x44_1).f1),.int .i64 ((rd_T86 t382 x44_1).f2),.int .i64 ((rd_T86 t382 x44_1).f3),.int .i64 ((rd_T86 t382 x44_1).f4)] 86 (0,0))):=⟨by (with_reducible repeat first|apply Q1|apply Q2|apply Q3);refine blk_put (cs:=#[.int .i64 ((rd_T86 t382 x44_1).f0),.int .i64 ((rd_T86 t382 x44_1).f1),.int .i64 ((rd_T86 t382 x44_1).f2),.int .i64 ((rd_T86 t382 x44_1).f3),.int .i64 0]) ?_ 4 _ rfl;(with_reducible repeat first|apply Q1|apply Q2|apply Q3);refine blk_put (cs:=#[.int .i64 ((rd_T86 t382 x44_1).f0),.int .i64 ((rd_T86 t382 x44_1).f1),.int .i64 ((rd_T86 t382 x44_1).f2),.int .i64 0,.int .i64 0]) ?_ 3 _ rfl;(with_reducible repeat first|apply Q1|apply Q2|apply Q3);refine blk_put (cs:=#[.int .i64 ((rd_T86 t382 x44_1).f0),.int .i64 ((rd_T86 t382 x44_1).f1),.int .i64 0,.int .i64 0,.int .i64 0]) ?_ 2 _ rfl;(with_reducible repeat first|apply Q1|apply Q2|apply Q3);refine blk_put (cs:=#[.int .i64 ((rd_T86 t382 x44_1).f0),.int .i64 0,.int .i64 0,.int .i64 0,.int .i64 0]) ?_ 1 _ rfl;(with_reducible repeat first|apply Q1|apply Q2|apply Q3);refine blk_put (cs:=#[.int .i64 0,.int .i64 0,.int .i64 0,.int .i64 0,.int .i64 0]) ?_ 0 _ rfl;(with_reducible repeat first|apply Q1|apply Q2|apply Q3);exact BK386.out⟩
          have n3_:Aside0 (Below w.heap.size w (((((w27.setCell ⟨gb386,0,none⟩ (.int .i64 ((rd_T86 t382 x44_1).f0))).setCell ⟨gb386,1,none⟩ (.int .i64 ((rd_T86 t382 x44_1).f1))).setCell ⟨gb386,2,none⟩ (.int .i64 ((rd_T86 t382 x44_1).f2))).setCell ⟨gb386,3,none⟩ (.int .i64 ((rd_T86 t382 x44_1).f3))).setCell ⟨gb386,4,none⟩ (.int .i64 ((rd_T86 t382 x44_1).f4)))):=⟨by repeat (with_reducible first|exact HB.out|apply Q4|apply Q5|apply Q6|apply Q7 GE386.out)⟩
          try clear HO_10 HO_42
          try clear BK386
          try clear HB
          generalize (((((w27.setCell ⟨gb386,0,none⟩ (.int .i64 ((rd_T86 t382 x44_1).f0))).setCell ⟨gb386,1,none⟩ (.int .i64 ((rd_T86 t382 x44_1).f1))).setCell ⟨gb386,2,none⟩ (.int .i64 ((rd_T86 t382 x44_1).f2))).setCell ⟨gb386,3,none⟩ (.int .i64 ((rd_T86 t382 x44_1).f3))).setCell ⟨gb386,4,none⟩ (.int .i64 ((rd_T86 t382 x44_1).f4)))=w29 at n0_ n1_ n2_ n3_ ⊢
          have HO_10:=n0_
          have HO_42:=n1_
          have BK386:=n2_
          have HB:=n3_
          clear n0_ n1_ n2_ n3_
          have n0_:=Aside0.mk (Kd.R_drew HO_10.out)
          have n1_:=Aside0.mk (Kd.R_drew HO_42.out)
          have n2_:=Aside0.mk (blk_drew BK386.out)
          have n3_:=Aside0.mk (below_drew1 HB.out)
          clear HO_10
          clear HO_42
          clear BK386
          clear HB
          have HO_10:=n0_
          have HO_42:=n1_
          have BK386:=n2_
          have HB:=n3_
          clear n0_ n1_ n2_ n3_
          obtain ⟨Ao31,co31,eo31⟩:=Kd.R_slice HO_10.out
          (first|subst eo31|(injection eo31 with f1_ f2_ f3_;have f4_:=f1_.symm;have f5_:=f3_.symm;clear f1_ f2_ f3_;subst f4_;subst f5_))
          have p387:0≤(x44_1:Int):=of_decide_eq_true (by first|(with_reducible assumption)|assumption)
          have q387:x44_1 < (t377.length:Int):=of_decide_eq_true (by first|(with_reducible assumption)|assumption)
          obtain ⟨ad387,e387,hx387_0,hx387_1,hx387_2,hx387_3,hx387_4⟩:=at_T86 (Kd.R_reads' HO_10.out).2.2 x44_1 p387 q387
          cases e387
          replace p387:=eq_true p387
          replace q387:=eq_true q387
          refine start_ (n:=6) (S:=fun w'=>w'.cell? ⟨gb386,0,none⟩=some (.int .i64 ((rd_T86 t382 x44_1).f0))∧w'.cell? ⟨gb386,1,none⟩=some (.int .i64 ((rd_T86 t382 x44_1).f1))∧w'.cell? ⟨gb386,2,none⟩=some (.int .i64 ((rd_T86 t382 x44_1).f2))∧w'.cell? ⟨gb386,3,none⟩=some (.int .i64 ((rd_T86 t382 x44_1).f3))∧w'.cell? ⟨gb386,4,none⟩=some (.int .i64 ((rd_T86 t382 x44_1).f4))∧w'.cell? (ad387.add ((x44_1).toNat*5))=some (.int .i64 ((rd_T86 t377 x44_1).f0))∧w'.cell? ⟨(ad387.add ((x44_1).toNat*5)).block,(ad387.add ((x44_1).toNat*5)).off+1,none⟩=some (.int .i64 ((rd_T86 t377 x44_1).f1))∧w'.cell? ⟨(ad387.add ((x44_1).toNat*5)).block,(ad387.add ((x44_1).toNat*5)).off+2,none⟩=some (.int .i64 ((rd_T86 t377 x44_1).f2))∧w'.cell? ⟨(ad387.add ((x44_1).toNat*5)).block,(ad387.add ((x44_1).toNat*5)).off+3,none⟩=some (.int .i64 ((rd_T86 t377 x44_1).f3))∧w'.cell? ⟨(ad387.add ((x44_1).toNat*5)).block,(ad387.add ((x44_1).toNat*5)).off+4,none⟩=some (.int .i64 ((rd_T86 t377 x44_1).f4))) (ds:=[]) #[false,false,false,false,false,false] (by kernel_rfl) rfl rfl ⟨(blk_cell BK386.out 0).trans rfl,(blk_cell BK386.out 1).trans rfl,(blk_cell BK386.out 2).trans rfl,(blk_cell BK386.out 3).trans rfl,(blk_cell BK386.out 4).trans rfl,hx387_0,hx387_1,hx387_2,hx387_3,hx387_4⟩ (fun hHeld=>?_)
          generalize w29.drew=w30 at HO_10 HO_42 BK386 HB hx387_0 hx387_1 hx387_2 hx387_3 hx387_4 hHeld ⊢
          refine pure_ (i:=0) (N:=some 49) (v:=?_) (a':=?_) #[true,false,false,false,false,false] rfl rfl (by kernel_rfl) (fun _ _ _ h=>h) (Or.inl ⟨by rfl,?_⟩) ?_ ?_
          rotate_left
          ·intro w'
           go_simp
           with_reducible rfl
          rotate_left
          ·simp only [Act.put,List.setIfInBounds_toArray,List.set_cons_zero,List.set_cons_succ,i64_w,i32_w]
           rfl
          refine pure_ (i:=1) (N:=some 50) (v:=?_) (a':=?_) #[true,true,false,false,false,false] rfl rfl (by kernel_rfl) (fun _ _ _ h=>h) (Or.inl ⟨by rfl,?_⟩) ?_ ?_
          rotate_left
          ·intro w'
           go_simp
           with_reducible rfl
          rotate_left
          ·simp only [Act.put,List.setIfInBounds_toArray,List.set_cons_zero,List.set_cons_succ,i64_w,i32_w]
           rfl
          refine pure_ (i:=2) (N:=some 51) (v:=?_) (a':=?_) #[true,true,true,false,false,false] rfl rfl (by kernel_rfl) (fun _ _ _ h=>h) (Or.inl ⟨by rfl,?_⟩) ?_ ?_
          rotate_left
          ·intro w'
           go_simp
           with_reducible rfl
          rotate_left
          ·simp only [Act.put,List.setIfInBounds_toArray,List.set_cons_zero,List.set_cons_succ,i64_w,i32_w]
           rfl
          refine take_ (i:=3) (N:=some 52) (v:=?_) (a':=?_) #[true,true,true,true,false,false] rfl rfl (by kernel_rfl) (fun _ _ _ h=>h) (Or.inl ⟨by rfl,?_⟩) hHeld ?_ ?_
          rotate_left
          ·rintro w' ⟨s0,s1,s2,s3,s4,s5,s6,s7,s8,s9⟩
           go_simp
           with_reducible rfl
          rotate_left
          ·simp only [Act.put,List.setIfInBounds_toArray,List.set_cons_zero,List.set_cons_succ,i64_w,i32_w]
           rfl
          refine take_ (i:=4) (N:=some 53) (v:=?_) (a':=?_) #[true,true,true,true,true,false] rfl rfl (by kernel_rfl) (fun _ _ _ h=>h) (Or.inl ⟨by rfl,?_⟩) hHeld ?_ ?_
          rotate_left
          ·rintro w' ⟨s0,s1,s2,s3,s4,s5,s6,s7,s8,s9⟩
           go_simp
           with_reducible rfl
          rotate_left
          ·simp only [Act.put,List.setIfInBounds_toArray,List.set_cons_zero,List.set_cons_succ,i64_w,i32_w]
           rfl
          refine pure_ (i:=5) (N:=some 54) (v:=?_) (a':=?_) #[true,true,true,true,true,true] rfl rfl (by kernel_rfl) (fun _ _ _ h=>h) (Or.inl ⟨by rfl,?_⟩) ?_ ?_
          rotate_left
          ·intro w'
           go_simp
           with_reducible rfl
          rotate_left
          ·simp only [Act.put,List.setIfInBounds_toArray,List.set_cons_zero,List.set_cons_succ,i64_w,i32_w]
           rfl
          refine done_ (by kernel_rfl) ?_
          try go_wp2
          go_roundg k1
          case measure=>have:=HK1.out;omega
          case rel=>exact ⟨(wrap64 (x44_1+1)),(by first|rfl|(simp;done)|(simp [*];done)),H',⟨by have:=HK1.out;omega⟩,⟨by (with_reducible repeat (first|apply Kd.R_alloc|apply Kd.R_drewN|apply Kd.R_drew));exact Kd.R_mono HO_10.out (fun _ hk=>hk.1)⟩,⟨by (with_reducible repeat (first|apply Kd.R_alloc|apply Kd.R_drewN|apply Kd.R_drew));exact Kd.R_mono HO_42.out (fun _ hk=>hk.1)⟩,⟨by repeat (with_reducible first|exact HB.out|apply Q4|apply Q5|apply Q6|apply Q7 GE386.out)⟩⟩
         rw [if_neg c20] at H
         exact absurd H (by simp)
        rw [if_neg c19] at H
        exact absurd H (by simp)
       rw [if_neg c18] at H
       exact absurd H (by simp)
      rw [if_neg c17] at H
      have c17b0:decide (x44_1 < (t382.length:Int))=false:=decide_eq_false c17
      clear c17
      obtain ⟨ji32,hji32⟩ : ∃ j_:Int,(wrap64 ((t377.length:Int) - 1))=j_:=⟨_,rfl⟩
      replace H:(if 0≤(ji32) then (if (ji32) < (t377.length:Int) then (if ((rd_T86 t377 (ji32)).f0)=4 then (impl_lint.j1 k1 a1 a2 l3 t377 false) else (if ((rd_T86 t377 (ji32)).f0)=3 then (impl_lint.j1 k1 a1 a2 l3 t377 (((rd_T86 t377 (ji32)).f1) != 0)) else (impl_lint.j1 k1 a1 a2 l3 t377 true))) else (none)) else (none))=some (r1,r2):=by first|(rw [hji32] at H;exact H)|(simp only [hji32] at H ⊢;exact H)
      have hji32w:(IntKind.i64.wrap ((t377.length:Int) - 1))=ji32:=(i64_w _).trans hji32
      by_cases c33:0≤(ji32)
      ·rw [if_pos c33] at H
       have c33b0:decide (0≤(ji32))=true:=decide_eq_true c33
       clear c33
       by_cases c34:(ji32) < (t377.length:Int)
       ·rw [if_pos c34] at H
        have c34b0:decide ((ji32) < (t377.length:Int))=true:=decide_eq_true c34
        clear c34
        have HC35:=Aside0.mk H
        clear H
        obtain ⟨Ao36,co36,eo36⟩:=Kd.R_slice HO_10.out
        subst eo36
        have p388:0≤((ji32):Int):=of_decide_eq_true (by first|(with_reducible assumption)|assumption)
        have q388:(ji32) < (t377.length:Int):=of_decide_eq_true (by first|(with_reducible assumption)|assumption)
        obtain ⟨ad388,e388,hx388_0,hx388_1,hx388_2,hx388_3,hx388_4⟩:=at_T86 (Kd.R_reads' HO_10.out).2.2 (ji32) p388 q388
        cases e388
        replace p388:=eq_true p388
        replace q388:=eq_true q388
        go_upto_region 17 with (first|((with_reducible refine gate_dst (N:=15) rfl ?_);refine box_event ?hg (N:=15) ?hd (cs:=#[.int .i64 0,.int .i64 0,.int .i64 0,.int .i64 0,.int .i64 0]) (t:=86) ?hr ?_;(case hd=>rfl);(case hg=>rfl);(case hr=>first|(go_simp;done)|(go_simp;rfl));intro gb389 hg w37 hbox hb;have n0_:=Aside0.mk (Kd.R_below (Kd.R_elderB (by (with_reducible repeat (first|apply Kd.R_alloc|apply Kd.R_drewN|apply Kd.R_drew));exact HO_10.out) gb389 (Nat.le_of_eq hg.symm)) hb);have n1_:=Aside0.mk (Kd.R_below (Kd.R_elderB (by (with_reducible repeat (first|apply Kd.R_alloc|apply Kd.R_drewN|apply Kd.R_drew));exact HO_42.out) gb389 (Nat.le_of_eq hg.symm)) hb);have n2_:=Aside0.mk (below_step (by repeat (with_reducible first|exact HB.out|apply Q4|apply Q5|apply Q6)) hb);have n3_:=Aside0.mk (hbox);have n4_:=Aside0.mk ((by rw [hg];exact (below_size (by repeat (with_reducible first|exact HB.out|apply Q4|apply Q5|apply Q6))):w.heap.size≤gb389));have n5_:=Aside0.mk ((by rw [hg];exact (below_size (by repeat (with_reducible first|exact HB.out|apply Q4|apply Q5|apply Q6))):w.heap.size≤gb389));clear HO_10;clear HO_42;clear HB;have HO_10:=n0_;have HO_42:=n1_;have HB:=n2_;have BK389:=n3_;have GW389:=n4_;have GE389:=n5_;clear n0_ n1_ n2_ n3_ n4_ n5_;clear hb hbox hg;have hcz38_0:w37.cell? ⟨gb389,0,none⟩=some (.int .i64 0):=(blk_cell BK389.out 0).trans rfl;have hcz38_1:w37.cell? ⟨gb389,1,none⟩=some (.int .i64 0):=(blk_cell BK389.out 1).trans rfl;have hcz38_2:w37.cell? ⟨gb389,2,none⟩=some (.int .i64 0):=(blk_cell BK389.out 2).trans rfl;have hcz38_3:w37.cell? ⟨gb389,3,none⟩=some (.int .i64 0):=(blk_cell BK389.out 3).trans rfl;have hcz38_4:w37.cell? ⟨gb389,4,none⟩=some (.int .i64 0):=(blk_cell BK389.out 4).trans rfl;have hfz38_0:=blk_frozen BK389.out 0;have hfz38_1:=blk_frozen BK389.out 1;have hfz38_2:=blk_frozen BK389.out 2;have hfz38_3:=blk_frozen BK389.out 3;have hfz38_4:=blk_frozen BK389.out 4))
        (try simp only [Act.put,List.setIfInBounds_toArray,List.set_cons_zero,List.set_cons_succ])
        go_cut [75] (fun v75 wc=>∃ (kq:Nat) (x75_34:Bool),v75=.bool x75_34∧Aside0 (impl_lint.j1 kq a1 a2 l3 t377 x75_34=some (r1,r2))∧Aside0 (kq≤k1)∧Aside0 (Kd.R k86 86 wc w.heap.size (fun k_=>k_≠gb389) (.slice (some ad388) t377.length co36) t377)∧Aside0 (wc.heap[gb389]?=some (.cells #[.int .i64 ((rd_T86 t377 (ji32)).f0),.int .i64 ((rd_T86 t377 (ji32)).f1),.int .i64 ((rd_T86 t377 (ji32)).f2),.int .i64 ((rd_T86 t377 (ji32)).f3),.int .i64 ((rd_T86 t377 (ji32)).f4)] 86 (0,0)))∧Aside0 (Below w.heap.size w wc))
        case first=>
         have H:=HC35.out
         clear HC35
         by_cases c39:((rd_T86 t377 (ji32)).f0)=4
         ·rw [if_pos c39] at H
          obtain ⟨c39b0,c39b1⟩:=eqP c39
          clear c39
          (first|rw [c39b0]|(simp only [i64_w,i32_w];rw [c39b0])|skip)
          have H':=Aside0.mk H
          clear H
          have hcz40_0:w37.cell? ⟨gb389,0,none⟩=some (.int .i64 0):=(blk_cell BK389.out 0).trans rfl
          have hcz40_1:w37.cell? ⟨gb389,1,none⟩=some (.int .i64 0):=(blk_cell BK389.out 1).trans rfl
          have hcz40_2:w37.cell? ⟨gb389,2,none⟩=some (.int .i64 0):=(blk_cell BK389.out 2).trans rfl
          have hcz40_3:w37.cell? ⟨gb389,3,none⟩=some (.int .i64 0):=(blk_cell BK389.out 3).trans rfl
          have hcz40_4:w37.cell? ⟨gb389,4,none⟩=some (.int .i64 0):=(blk_cell BK389.out 4).trans rfl
          have hfz40_0:=blk_frozen BK389.out 0
          have hfz40_1:=blk_frozen BK389.out 1
          have hfz40_2:=blk_frozen BK389.out 2
          have hfz40_3:=blk_frozen BK389.out 3
          have hfz40_4:=blk_frozen BK389.out 4
          go_wp2
          go_meet
          case rel=>exact ⟨_,(false),(by first|rfl|(simp;done)|(simp [*];done)),H',⟨by have:=HK1.out;first|omega|exact Nat.le_refl _⟩,⟨by (with_reducible repeat (first|apply Kd.R_alloc|apply Kd.R_drewN|apply Kd.R_drew));exact Kd.R_mono (Kd.R_far (p:=⟨gb389,4,none⟩) (Kd.R_far (p:=⟨gb389,3,none⟩) (Kd.R_far (p:=⟨gb389,2,none⟩) (Kd.R_far (p:=⟨gb389,1,none⟩) (Kd.R_far (p:=⟨gb389,0,none⟩) (Kd.R_mono HO_10.out (fun k_ hk=>(⟨hk,hk.2⟩:_∧k_≠gb389))) (fun _ hk=>hk.2) (.int .i64 ((rd_T86 t377 (ji32)).f0))) (fun _ hk=>hk.2) (.int .i64 ((rd_T86 t377 (ji32)).f1))) (fun _ hk=>hk.2) (.int .i64 ((rd_T86 t377 (ji32)).f2))) (fun _ hk=>hk.2) (.int .i64 ((rd_T86 t377 (ji32)).f3))) (fun _ hk=>hk.2) (.int .i64 ((rd_T86 t377 (ji32)).f4))) (fun _ hk=>hk.1.2)⟩,⟨by (with_reducible repeat first|apply Q1|apply Q2|apply Q3);refine blk_put (cs:=#[.int .i64 ((rd_T86 t377 (ji32)).f0),.int .i64 ((rd_T86 t377 (ji32)).f1),.int .i64 ((rd_T86 t377 (ji32)).f2),.int .i64 ((rd_T86 t377 (ji32)).f3),.int .i64 0]) ?_ 4 _ rfl;(with_reducible repeat first|apply Q1|apply Q2|apply Q3);refine blk_put (cs:=#[.int .i64 ((rd_T86 t377 (ji32)).f0),.int .i64 ((rd_T86 t377 (ji32)).f1),.int .i64 ((rd_T86 t377 (ji32)).f2),.int .i64 0,.int .i64 0]) ?_ 3 _ rfl;(with_reducible repeat first|apply Q1|apply Q2|apply Q3);refine blk_put (cs:=#[.int .i64 ((rd_T86 t377 (ji32)).f0),.int .i64 ((rd_T86 t377 (ji32)).f1),.int .i64 0,.int .i64 0,.int .i64 0]) ?_ 2 _ rfl;(with_reducible repeat first|apply Q1|apply Q2|apply Q3);refine blk_put (cs:=#[.int .i64 ((rd_T86 t377 (ji32)).f0),.int .i64 0,.int .i64 0,.int .i64 0,.int .i64 0]) ?_ 1 _ rfl;(with_reducible repeat first|apply Q1|apply Q2|apply Q3);refine blk_put (cs:=#[.int .i64 0,.int .i64 0,.int .i64 0,.int .i64 0,.int .i64 0]) ?_ 0 _ rfl;(with_reducible repeat first|apply Q1|apply Q2|apply Q3);exact BK389.out⟩,⟨by repeat (with_reducible first|exact HB.out|apply Q4|apply Q5|apply Q6|apply Q7 GE389.out)⟩⟩
         rw [if_neg c39] at H
         obtain ⟨c39b0,c39b1⟩:=eqN c39
         (first|rw [c39b0]|(simp only [i64_w,i32_w];rw [c39b0])|skip)
         by_cases c41:((rd_T86 t377 (ji32)).f0)=3
         ·rw [if_pos c41] at H
          obtain ⟨c41b0,c41b1⟩:=eqP c41
          clear c41
          have H':=Aside0.mk H
          clear H
          have hcz42_0:w37.cell? ⟨gb389,0,none⟩=some (.int .i64 0):=(blk_cell BK389.out 0).trans rfl
          have hcz42_1:w37.cell? ⟨gb389,1,none⟩=some (.int .i64 0):=(blk_cell BK389.out 1).trans rfl
          have hcz42_2:w37.cell? ⟨gb389,2,none⟩=some (.int .i64 0):=(blk_cell BK389.out 2).trans rfl
          have hcz42_3:w37.cell? ⟨gb389,3,none⟩=some (.int .i64 0):=(blk_cell BK389.out 3).trans rfl
          have hcz42_4:w37.cell? ⟨gb389,4,none⟩=some (.int .i64 0):=(blk_cell BK389.out 4).trans rfl
          have hfz42_0:=blk_frozen BK389.out 0
          have hfz42_1:=blk_frozen BK389.out 1
          have hfz42_2:=blk_frozen BK389.out 2
          have hfz42_3:=blk_frozen BK389.out 3
          have hfz42_4:=blk_frozen BK389.out 4
          go_wp2
          go_meet
          case rel=>exact ⟨_,((((rd_T86 t377 (ji32)).f1) != 0)),(by first|rfl|(simp;done)|(simp only [← hji32]<;>(first|rfl|simp))|(simp [*];done)),H',⟨by have:=HK1.out;first|omega|exact Nat.le_refl _⟩,⟨by (with_reducible repeat (first|apply Kd.R_alloc|apply Kd.R_drewN|apply Kd.R_drew));exact Kd.R_mono (Kd.R_far (p:=⟨gb389,4,none⟩) (Kd.R_far (p:=⟨gb389,3,none⟩) (Kd.R_far (p:=⟨gb389,2,none⟩) (Kd.R_far (p:=⟨gb389,1,none⟩) (Kd.R_far (p:=⟨gb389,0,none⟩) (Kd.R_mono HO_10.out (fun k_ hk=>(⟨hk,hk.2⟩:_∧k_≠gb389))) (fun _ hk=>hk.2) (.int .i64 ((rd_T86 t377 (ji32)).f0))) (fun _ hk=>hk.2) (.int .i64 ((rd_T86 t377 (ji32)).f1))) (fun _ hk=>hk.2) (.int .i64 ((rd_T86 t377 (ji32)).f2))) (fun _ hk=>hk.2) (.int .i64 ((rd_T86 t377 (ji32)).f3))) (fun _ hk=>hk.2) (.int .i64 ((rd_T86 t377 (ji32)).f4))) (fun _ hk=>hk.1.2)⟩,⟨by (with_reducible repeat first|apply Q1|apply Q2|apply Q3);refine blk_put (cs:=#[.int .i64 ((rd_T86 t377 (ji32)).f0),.int .i64 ((rd_T86 t377 (ji32)).f1),.int .i64 ((rd_T86 t377 (ji32)).f2),.int .i64 ((rd_T86 t377 (ji32)).f3),.int .i64 0]) ?_ 4 _ rfl;(with_reducible repeat first|apply Q1|apply Q2|apply Q3);refine blk_put (cs:=#[.int .i64 ((rd_T86 t377 (ji32)).f0),.int .i64 ((rd_T86 t377 (ji32)).f1),.int .i64 ((rd_T86 t377 (ji32)).f2),.int .i64 0,.int .i64 0]) ?_ 3 _ rfl;(with_reducible repeat first|apply Q1|apply Q2|apply Q3);refine blk_put (cs:=#[.int .i64 ((rd_T86 t377 (ji32)).f0),.int .i64 ((rd_T86 t377 (ji32)).f1),.int .i64 0,.int .i64 0,.int .i64 0]) ?_ 2 _ rfl;(with_reducible repeat first|apply Q1|apply Q2|apply Q3);refine blk_put (cs:=#[.int .i64 ((rd_T86 t377 (ji32)).f0),.int .i64 0,.int .i64 0,.int .i64 0,.int .i64 0]) ?_ 1 _ rfl;(with_reducible repeat first|apply Q1|apply Q2|apply Q3);refine blk_put (cs:=#[.int .i64 0,.int .i64 0,.int .i64 0,.int .i64 0,.int .i64 0]) ?_ 0 _ rfl;(with_reducible repeat first|apply Q1|apply Q2|apply Q3);exact BK389.out⟩,⟨by repeat (with_reducible first|exact HB.out|apply Q4|apply Q5|apply Q6|apply Q7 GE389.out)⟩⟩
         rw [if_neg c41] at H
         obtain ⟨c41b0,c41b1⟩:=eqN c41
         have H':=Aside0.mk H
         clear H
         have hcz43_0:w37.cell? ⟨gb389,0,none⟩=some (.int .i64 0):=(blk_cell BK389.out 0).trans rfl
         have hcz43_1:w37.cell? ⟨gb389,1,none⟩=some (.int .i64 0):=(blk_cell BK389.out 1).trans rfl
         have hcz43_2:w37.cell? ⟨gb389,2,none⟩=some (.int .i64 0):=(blk_cell BK389.out 2).trans rfl
         have hcz43_3:w37.cell? ⟨gb389,3,none⟩=some (.int .i64 0):=(blk_cell BK389.out 3).trans rfl
         have hcz43_4:w37.cell? ⟨gb389,4,none⟩=some (.int .i64 0):=(blk_cell BK389.out 4).trans rfl
         have hfz43_0:=blk_frozen BK389.out 0
         have hfz43_1:=blk_frozen BK389.out 1
         have hfz43_2:=blk_frozen BK389.out 2
         have hfz43_3:=blk_frozen BK389.out 3
         have hfz43_4:=blk_frozen BK389.out 4
         go_wp2
         go_meet
         case rel=>exact ⟨_,(true),(by first|rfl|(simp;done)|(simp [*];done)),H',⟨by have:=HK1.out;first|omega|exact Nat.le_refl _⟩,⟨by (with_reducible repeat (first|apply Kd.R_alloc|apply Kd.R_drewN|apply Kd.R_drew));exact Kd.R_mono (Kd.R_far (p:=⟨gb389,4,none⟩) (Kd.R_far (p:=⟨gb389,3,none⟩) (Kd.R_far (p:=⟨gb389,2,none⟩) (Kd.R_far (p:=⟨gb389,1,none⟩) (Kd.R_far (p:=⟨gb389,0,none⟩) (Kd.R_mono HO_10.out (fun k_ hk=>(⟨hk,hk.2⟩:_∧k_≠gb389))) (fun _ hk=>hk.2) (.int .i64 ((rd_T86 t377 (ji32)).f0))) (fun _ hk=>hk.2) (.int .i64 ((rd_T86 t377 (ji32)).f1))) (fun _ hk=>hk.2) (.int .i64 ((rd_T86 t377 (ji32)).f2))) (fun _ hk=>hk.2) (.int .i64 ((rd_T86 t377 (ji32)).f3))) (fun _ hk=>hk.2) (.int .i64 ((rd_T86 t377 (ji32)).f4))) (fun _ hk=>hk.1.2)⟩,⟨by (with_reducible repeat first|apply Q1|apply Q2|apply Q3);refine blk_put (cs:=#[.int .i64 ((rd_T86 t377 (ji32)).f0),.int .i64 ((rd_T86 t377 (ji32)).f1),.int .i64 ((rd_T86 t377 (ji32)).f2),.int .i64 ((rd_T86 t377 (ji32)).f3),.int .i64 0]) ?_ 4 _ rfl;(with_reducible repeat first|apply Q1|apply Q2|apply Q3);refine blk_put (cs:=#[.int .i64 ((rd_T86 t377 (ji32)).f0),.int .i64 ((rd_T86 t377 (ji32)).f1),.int .i64 ((rd_T86 t377 (ji32)).f2),.int .i64 0,.int .i64 0]) ?_ 3 _ rfl;(with_reducible repeat first|apply Q1|apply Q2|apply Q3);refine blk_put (cs:=#[.int .i64 ((rd_T86 t377 (ji32)).f0),.int .i64 ((rd_T86 t377 (ji32)).f1),.int .i64 0,.int .i64 0,.int .i64 0]) ?_ 2 _ rfl;(with_reducible repeat first|apply Q1|apply Q2|apply Q3);refine blk_put (cs:=#[.int .i64 ((rd_T86 t377 (ji32)).f0),.int .i64 0,.int .i64 0,.int .i64 0,.int .i64 0]) ?_ 1 _ rfl;(with_reducible repeat first|apply Q1|apply Q2|apply Q3);refine blk_put (cs:=#[.int .i64 0,.int .i64 0,.int .i64 0,.int .i64 0,.int .i64 0]) ?_ 0 _ rfl;(with_reducible repeat first|apply Q1|apply Q2|apply Q3);exact BK389.out⟩,⟨by repeat (with_reducible first|exact HB.out|apply Q4|apply Q5|apply Q6|apply Q7 GE389.out)⟩⟩
        clear HC35
        try clear c17b0
        try clear c33b0
        try clear c34b0
        try clear hcz38_0 hcz38_1 hcz38_2 hcz38_3 hcz38_4 hfz38_0 hfz38_1 hfz38_2 hfz38_3 hfz38_4
        try clear hx388_0 hx388_1 hx388_2 hx388_3 hx388_4
        try clear p388
        try clear q388
        obtain ⟨kq,x75_34,rfl,HA,HJ34,HO_10,BK389,HB⟩:=hcut
        cases kq with
        | zero=>exact absurd HA.out (by simp [impl_lint.j1])
        | succ kj34 =>
         have H:=HA.out
         clear HA
         simp only [impl_lint.j1] at H
         by_cases c44:x75_34=true
         ·subst c44
          rw [if_pos rfl] at H
          simp only [Option.some.injEq,Prod.mk.injEq] at H
          obtain ⟨rfl,rfl⟩:=H
          go_wp2
          go_ret2
          exact ⟨by first|rfl|(simp [errW_none,errW_some]<;>rfl)|(simp only [← hji32];first|rfl|(simp [errW_none,errW_some]<;>rfl))|(simp [*,errW_none,errW_some]<;>rfl),by repeat (with_reducible first|exact HB.out|apply Q4|apply Q5|apply Q6|apply Q7 GE389.out)⟩
         replace c44:=Bool.eq_false_iff.mpr c44
         subst c44
         rw [if_neg (show ¬ (false=true) by decide)] at H
         by_cases c45:0≤(t377.length:Int)
         ·rw [if_pos c45] at H
          have c45b0:=eq_true c45
          have c45b1:decide (0≤(t377.length:Int))=true:=decide_eq_true c45
          clear c45
          by_cases c46:((t377.length:Int):Int).toNat≤35184372088832
          ·rw [if_pos c46] at H
           have c46b0:=eq_true c46
           have c46b1:decide (((t377.length:Int):Int).toNat≤35184372088832)=true:=decide_eq_true c46
           clear c46
           obtain ⟨y390,hy390⟩ : ∃ y_:List Int,y_=(List.replicate ((t377.length:Int):Int).toNat 0):=⟨_,rfl⟩
           replace H:(impl_lint.l1 kj34 a2 t377 2 t377 a2 a1 l3 y390)=some (r1,r2):=by first|(rw [hy390];with_reducible exact H)|(have H2_:=(Option.bind_some _ _).symm.trans H;rw [hy390];with_reducible exact H2_)|(have H2_:=(Option.bind_some _ _).symm.trans H;with_reducible exact H2_)|with_reducible exact H|(rw [hy390];exact H)|exact H
           have Ny390:=Aside0.mk hy390
           clear hy390
           have H':=Aside0.mk H
           clear H
           go_wp2_with (first|((with_reducible refine gate_dst (N:=85) rfl ?_);refine Kd.R_make (Kd.int .i64) _ 3 rfl (N:=85) rfl 37 _ _ rfl (t377.length:Int) rfl rfl Try.underlying37 (.int .i64 0) 8 info3 rfl (by decide) (by omega) 0 (ok:=fun _=>True) (okp:=fun _=>True) rfl (fun _ hk=>hk) trivial (of_decide_eq_true (by first|(with_reducible assumption)|assumption)) (Nat.le_trans (Nat.mul_le_mul_right _ (of_decide_eq_true (by first|(with_reducible assumption)|assumption):(t377.length:Int).toNat≤35184372088832)) (by omega)) (Below.refl _ _) (Nat.le_refl _) ?_;intro v391 w47 ho48 hb hg_ hnew_;clear hg_ hnew_;(first|rw [← Ny390.out] at ho48|(simp only [Int.reduceToNat] at ho48;rw [← Ny390.out] at ho48));have n0_:=Aside0.mk (Kd.R_below (by (with_reducible repeat (first|apply Kd.R_alloc|apply Kd.R_drewN|apply Kd.R_drew));exact HO_10.out) hb);have n1_:=Aside0.mk (Kd.R_lower ho48 (below_size (by repeat (with_reducible first|exact HB.out|apply Q4|apply Q5|apply Q6|apply Q7 GE389.out))));have n2_:=Aside0.mk (blk_below (g:=gb389) (o:=.cells #[.int .i64 ((rd_T86 t377 (ji32)).f0),.int .i64 ((rd_T86 t377 (ji32)).f1),.int .i64 ((rd_T86 t377 (ji32)).f2),.int .i64 ((rd_T86 t377 (ji32)).f3),.int .i64 ((rd_T86 t377 (ji32)).f4)] 86 (0,0)) (by (with_reducible repeat first|apply Q1|apply Q2|apply Q3);exact BK389.out) hb);have n3_:=Aside0.mk (below_step (by repeat (with_reducible first|exact HB.out|apply Q4|apply Q5|apply Q6|apply Q7 GE389.out)) hb);clear HO_10;clear BK389;clear HB;have HO_10:=n0_;have HO392:=n1_;have BK389:=n2_;have HB:=n3_;clear n0_ n1_ n2_ n3_;clear hb ho48;obtain ⟨Ao49,co49,eo49⟩:=Kd.R_slice HO392.out;subst eo49)|((with_reducible refine gate_dst (N:=87) rfl ?_);refine box_event ?hg (N:=87) ?hd (cs:=#[.slice (some ad388) t377.length co36,.int .i64 a2,.int .i64 a1,.slice A3 l3.length c3,.slice Ao49 y390.length co49]) (t:=93) ?hr ?_;(case hd=>rfl);(case hg=>rfl);(case hr=>first|(go_simp;done)|(go_simp;rfl));intro gb393 hg w50 hbox hb;have n0_:=Aside0.mk (Kd.R_below (by (with_reducible repeat (first|apply Kd.R_alloc|apply Kd.R_drewN|apply Kd.R_drew));exact HO_10.out) hb);have n1_:=Aside0.mk (Kd.R_below (by (with_reducible repeat (first|apply Kd.R_alloc|apply Kd.R_drewN|apply Kd.R_drew));exact HO392.out) hb);have n2_:=Aside0.mk (blk_below (g:=gb389) (o:=.cells #[.int .i64 ((rd_T86 t377 (ji32)).f0),.int .i64 ((rd_T86 t377 (ji32)).f1),.int .i64 ((rd_T86 t377 (ji32)).f2),.int .i64 ((rd_T86 t377 (ji32)).f3),.int .i64 ((rd_T86 t377 (ji32)).f4)] 86 (0,0)) (by (with_reducible repeat first|apply Q1|apply Q2|apply Q3);exact BK389.out) hb);have n3_:=Aside0.mk (below_step (by repeat (with_reducible first|exact HB.out|apply Q4|apply Q5|apply Q6|apply Q7 GE389.out)) hb);have n4_:=Aside0.mk (hbox);have n5_:=Aside0.mk ((by rw [hg];exact (below_size (by repeat (with_reducible first|exact HB.out|apply Q4|apply Q5|apply Q6|apply Q7 GE389.out))):w.heap.size≤gb393));have n6_:=Aside0.mk ((by rw [hg];exact (below_size (by repeat (with_reducible first|exact HB.out|apply Q4|apply Q5|apply Q6|apply Q7 GE389.out))):w.heap.size≤gb393));have n7_:=Aside0.mk ((by rw [hg];exact Nat.ne_of_lt (blk_lt (g:=gb389) (o:=.cells #[.int .i64 ((rd_T86 t377 (ji32)).f0),.int .i64 ((rd_T86 t377 (ji32)).f1),.int .i64 ((rd_T86 t377 (ji32)).f2),.int .i64 ((rd_T86 t377 (ji32)).f3),.int .i64 ((rd_T86 t377 (ji32)).f4)] 86 (0,0)) (by (with_reducible repeat first|apply Q1|apply Q2|apply Q3);exact BK389.out)):gb389≠gb393));have n8_:=Aside0.mk ((by rw [hg];exact Nat.ne_of_gt (blk_lt (g:=gb389) (o:=.cells #[.int .i64 ((rd_T86 t377 (ji32)).f0),.int .i64 ((rd_T86 t377 (ji32)).f1),.int .i64 ((rd_T86 t377 (ji32)).f2),.int .i64 ((rd_T86 t377 (ji32)).f3),.int .i64 ((rd_T86 t377 (ji32)).f4)] 86 (0,0)) (by (with_reducible repeat first|apply Q1|apply Q2|apply Q3);exact BK389.out)):gb393≠gb389));clear HO_10;clear HO392;clear BK389;clear HB;have HO_10:=n0_;have HO392:=n1_;have BK389:=n2_;have HB:=n3_;have BK393:=n4_;have GW393:=n5_;have GE393:=n6_;have NB389_393:=n7_;have NB393_389:=n8_;clear n0_ n1_ n2_ n3_ n4_ n5_ n6_ n7_ n8_;clear hb hbox hg))
           go_loopg [17] kj34 (fun kq v17 w'=>∃ (x17_3:Int) (x394004_3:List Int) (u394004:Value),v17=.int .i64 x17_3∧Aside0 (impl_lint.l1 kq a2 t377 x17_3 t377 a2 a1 l3 x394004_3=some (r1,r2))∧Aside0 (kq≤kj34)∧Aside0 (Kd.R k86 86 w' w.heap.size (fun k_=>k_≠gb389) (.slice (some ad388) t377.length co36) t377)∧Aside0 (Kd.R k86 86 w' w.heap.size (fun k_=>k_≠gb389) (.slice (some ad388) t377.length co36) t377)∧Aside0 (Kd.R (Kd.int .i64) 3 w' w.heap.size (fun _=>True) u394004 x394004_3)∧Aside0 (w'.heap[gb389]?=some (.cells #[.int .i64 ((rd_T86 t377 (ji32)).f0),.int .i64 ((rd_T86 t377 (ji32)).f1),.int .i64 ((rd_T86 t377 (ji32)).f2),.int .i64 ((rd_T86 t377 (ji32)).f3),.int .i64 ((rd_T86 t377 (ji32)).f4)] 86 (0,0)))∧Aside0 (w'.heap[gb393]?=some (.cells #[(.slice (some ad388) t377.length co36),.int .i64 a2,.int .i64 a1,(.slice A3 l3.length c3),u394004] 93 (0,0)))∧Aside0 (Below w.heap.size w w'))
           case atStart=>exact ⟨(2),(y390),(.slice Ao49 y390.length co49),(by first|rfl|(simp;done)|(simp [*];done)),H',⟨Nat.le_refl _⟩,⟨by (with_reducible repeat (first|apply Kd.R_alloc|apply Kd.R_drewN|apply Kd.R_drew));exact HO_10.out⟩,⟨by (with_reducible repeat (first|apply Kd.R_alloc|apply Kd.R_drewN|apply Kd.R_drew));exact HO_10.out⟩,⟨by (with_reducible repeat (first|apply Kd.R_alloc|apply Kd.R_drewN|apply Kd.R_drew));exact HO392.out⟩,⟨by (with_reducible repeat first|apply Q1|apply Q2|apply Q3);exact BK389.out⟩,⟨by (with_reducible repeat first|apply Q1|apply Q2|apply Q3);exact BK393.out⟩,⟨by repeat (with_reducible first|exact HB.out|apply Q4|apply Q5|apply Q6|apply Q7 GE389.out|apply Q7 GE393.out)⟩⟩
           clear H'
           try clear c3
           try clear c44
           try clear c45b0
           try clear c45b1
           try clear c46b0
           try clear c46b1
           obtain ⟨x17_3,x394004_3,u394004,rfl,HA,HK3,HO_10,HO_394000,HO_394004,BK389,BK393,HB⟩:=hrel
           cases gk with
           | zero=>exact absurd HA.out (by simp [impl_lint.l1])
           | succ k3 =>
            have H:=HA.out
            clear HA
            simp only [impl_lint.l1] at H
            by_cases c51:(wrap64 (x17_3+3))≤(t377.length:Int)
            ·rw [if_pos c51] at H
             have c51b0:decide ((wrap64 (x17_3+3))≤(t377.length:Int))=true:=decide_eq_true c51
             clear c51
             by_cases c52:0≤x17_3
             ·rw [if_pos c52] at H
              have c52b0:=eq_true c52
              have c52b1:decide (0≤x17_3)=true:=decide_eq_true c52
              clear c52
              by_cases c53:x17_3≤(wrap64 (x17_3+3))
              ·rw [if_pos c53] at H
               have c53b0:=eq_true c53
               have c53b1:decide (x17_3≤(wrap64 (x17_3+3)))=true:=decide_eq_true c53
               have c54b0:=eq_true (of_decide_eq_true (by first|(with_reducible assumption)|assumption):(wrap64 (x17_3+3))≤(t377.length:Int))
               obtain ⟨y394,hy394⟩ : ∃ y_:List (S86),y_=((t377.take ((wrap64 (x17_3+3)):Int).toNat).drop (x17_3:Int).toNat):=⟨_,rfl⟩
               replace H:((impl_epilogue.f a2).bind fun t398=>((impl_Instr.f k3 y394 t398).bind fun t401=>(if t401=true then (if x17_3 < (x394004_3.length:Int) then (if 0≤(wrap64 (x17_3+1)) then (if (wrap64 (x17_3+1)) < (x394004_3.length:Int) then (if 0≤(wrap64 (x17_3+2)) then (if (wrap64 (x17_3+2)) < (x394004_3.length:Int) then (impl_lint.l1 k3 a2 t377 (wrap64 (x17_3+1)) t377 a2 a1 l3 (((x394004_3.set (x17_3:Int).toNat 1).set ((wrap64 (x17_3+1)):Int).toNat 2).set ((wrap64 (x17_3+2)):Int).toNat 3)) else (none)) else (none)) else (none)) else (none)) else (none)) else (impl_lint.l1 k3 a2 t377 (wrap64 (x17_3+1)) t377 a2 a1 l3 x394004_3))))=some (r1,r2):=by first|(rw [hy394];with_reducible exact H)|(have H2_:=(Option.bind_some _ _).symm.trans H;rw [hy394];with_reducible exact H2_)|(have H2_:=(Option.bind_some _ _).symm.trans H;with_reducible exact H2_)|with_reducible exact H|(rw [hy394];exact H)|exact H
               have Ny394:=Aside0.mk hy394
               clear hy394
               obtain ⟨t398,A55,H⟩:=bindA H
               obtain ⟨t401,A56,H⟩:=bindA H
               by_cases c57:t401=true
               ·subst c57
                rw [if_pos rfl] at H
                by_cases c58:x17_3 < (x394004_3.length:Int)
                ·rw [if_pos c58] at H
                 have c58b0:decide (x17_3 < (x394004_3.length:Int))=true:=decide_eq_true c58
                 clear c58
                 obtain ⟨y402,hy402⟩ : ∃ y_:List Int,y_=(x394004_3.set (x17_3:Int).toNat 1):=⟨_,rfl⟩
                 replace H:(if 0≤(wrap64 (x17_3+1)) then (if (wrap64 (x17_3+1)) < (x394004_3.length:Int) then (if 0≤(wrap64 (x17_3+2)) then (if (wrap64 (x17_3+2)) < (x394004_3.length:Int) then (impl_lint.l1 k3 a2 t377 (wrap64 (x17_3+1)) t377 a2 a1 l3 ((y402.set ((wrap64 (x17_3+1)):Int).toNat 2).set ((wrap64 (x17_3+2)):Int).toNat 3)) else (none)) else (none)) else (none)) else (none))=some (r1,r2):=by first|(rw [hy402];with_reducible exact H)|(have H2_:=(Option.bind_some _ _).symm.trans H;rw [hy402];with_reducible exact H2_)|(have H2_:=(Option.bind_some _ _).symm.trans H;with_reducible exact H2_)|with_reducible exact H|(rw [hy402];exact H)|exact H
                 have Ny402:=Aside0.mk hy402
                 clear hy402
                 obtain ⟨ji60,hji60⟩ : ∃ j_:Int,(wrap64 (x17_3+1))=j_:=⟨_,rfl⟩
                 replace H:(if 0≤(ji60) then (if (ji60) < (x394004_3.length:Int) then (if 0≤(wrap64 (x17_3+2)) then (if (wrap64 (x17_3+2)) < (x394004_3.length:Int) then (impl_lint.l1 k3 a2 t377 ji60 t377 a2 a1 l3 ((y402.set ((ji60):Int).toNat 2).set ((wrap64 (x17_3+2)):Int).toNat 3)) else (none)) else (none)) else (none)) else (none))=some (r1,r2):=by first|(rw [hji60] at H;exact H)|(simp only [hji60] at H ⊢;exact H)
                 (try rw [hji60] at A55)
                 (try rw [hji60] at A56)
                 have hji60w:(IntKind.i64.wrap (x17_3+1))=ji60:=(i64_w _).trans hji60
                 by_cases c61:0≤(ji60)
                 ·rw [if_pos c61] at H
                  have c61b0:decide (0≤(ji60))=true:=decide_eq_true c61
                  clear c61
                  by_cases c62:(ji60) < (x394004_3.length:Int)
                  ·rw [if_pos c62] at H
                   have c62b0:decide ((ji60) < (x394004_3.length:Int))=true:=decide_eq_true c62
                   clear c62
                   obtain ⟨y403,hy403⟩ : ∃ y_:List Int,y_=(y402.set ((ji60):Int).toNat 2):=⟨_,rfl⟩
                   replace H:(if 0≤(wrap64 (x17_3+2)) then (if (wrap64 (x17_3+2)) < (x394004_3.length:Int) then (impl_lint.l1 k3 a2 t377 ji60 t377 a2 a1 l3 (y403.set ((wrap64 (x17_3+2)):Int).toNat 3)) else (none)) else (none))=some (r1,r2):=by first|(rw [hy403];with_reducible exact H)|(have H2_:=(Option.bind_some _ _).symm.trans H;rw [hy403];with_reducible exact H2_)|(have H2_:=(Option.bind_some _ _).symm.trans H;with_reducible exact H2_)|with_reducible exact H|(rw [hy403];exact H)|exact H
                   have Ny403:=Aside0.mk hy403
                   clear hy403
                   obtain ⟨ji64,hji64⟩ : ∃ j_:Int,(wrap64 (x17_3+2))=j_:=⟨_,rfl⟩
                   replace H:(if 0≤(ji64) then (if (ji64) < (x394004_3.length:Int) then (impl_lint.l1 k3 a2 t377 ji60 t377 a2 a1 l3 (y403.set ((ji64):Int).toNat 3)) else (none)) else (none))=some (r1,r2):=by first|(rw [hji64] at H;exact H)|(simp only [hji64] at H ⊢;exact H)
                   (try rw [hji64] at A55)
                   (try rw [hji64] at A56)
                   have hji64w:(IntKind.i64.wrap (x17_3+2))=ji64:=(i64_w _).trans hji64
                   by_cases c65:0≤(ji64)
                   ·rw [if_pos c65] at H
                    have c65b0:decide (0≤(ji64))=true:=decide_eq_true c65
                    clear c65
                    by_cases c66:(ji64) < (x394004_3.length:Int)
                    ·rw [if_pos c66] at H
                     have c66b0:decide ((ji64) < (x394004_3.length:Int))=true:=decide_eq_true c66
                     clear c66
                     obtain ⟨y404,hy404⟩ : ∃ y_:List Int,y_=(y403.set ((ji64):Int).toNat 3):=⟨_,rfl⟩
                     replace H:(impl_lint.l1 k3 a2 t377 ji60 t377 a2 a1 l3 y404)=some (r1,r2):=by first|(rw [hy404];with_reducible exact H)|(have H2_:=(Option.bind_some _ _).symm.trans H;rw [hy404];with_reducible exact H2_)|(have H2_:=(Option.bind_some _ _).symm.trans H;with_reducible exact H2_)|with_reducible exact H|(rw [hy404];exact H)|exact H
                     have Ny404:=Aside0.mk hy404
                     clear hy404
                     have H':=Aside0.mk H
                     clear H
                     try go_wp2
                     have n0_:=Aside0.mk (Kd.R_drew HO_10.out)
                     have n1_:=Aside0.mk (Kd.R_drew HO_394000.out)
                     have n2_:=Aside0.mk (Kd.R_drew HO_394004.out)
                     have n3_:=Aside0.mk (blk_drew BK389.out)
                     have n4_:=Aside0.mk (blk_drew BK393.out)
                     have n5_:=Aside0.mk (below_drew1 HB.out)
                     clear HO_10
                     clear HO_394000
                     clear HO_394004
                     clear BK389
                     clear BK393
                     clear HB
                     have HO_10:=n0_
                     have HO_394000:=n1_
                     have HO_394004:=n2_
                     have BK389:=n3_
                     have BK393:=n4_
                     have HB:=n5_
                     clear n0_ n1_ n2_ n3_ n4_ n5_
                     have q69:((wrap64 (x17_3+3)):Int)≤((t377.length:Int):Int):=of_decide_eq_true (by first|(with_reducible assumption)|assumption)
                     obtain ⟨i069,hi069,_,hsz69,_⟩:=info_parts info86
                     have hroom69:t377.length≤co36:=(Kd.R_reads' HO_10.out).2.1
                     have hC69:Kd.C k86 _ (some ad388) t377.length t377:=(Kd.R_reads' HO_10.out).2.2
                     have ql69:(x17_3:Int)≤((wrap64 (x17_3+3)):Int):=of_decide_eq_true (by first|(with_reducible assumption)|assumption)
                     have q069:(0:Int)≤(x17_3:Int):=of_decide_eq_true (by first|(with_reducible assumption)|assumption)
                     have hcut69:=cut_mid (P:=Try.prog) 63 86 .i64 .i64 Try.underlying63 hi069 5 hsz69 (some ad388) t377.length co36 x17_3 (wrap64 (x17_3+3)) q069 ql69 q69 hroom69
                     have hr69:=Kd.C_mid (lo:=(x17_3:Int).toNat) (hi:=((wrap64 (x17_3+3)):Int).toNat) (c:=co36) hC69 (by omega) (by omega) hroom69
                     obtain ⟨A69,hA69⟩ : ∃ A1,A1=(if co36=(x17_3:Int).toNat then (some ad388) else ((some ad388):Option Addr).map (·.add ((x17_3:Int).toNat*5))):=⟨_,rfl⟩
                     obtain ⟨c69,hc69⟩ : ∃ c1,c1=co36 - (x17_3:Int).toNat:=⟨_,rfl⟩
                     have hy69:y394.length=((wrap64 (x17_3+3)):Int).toNat - (x17_3:Int).toNat:=(by rw [Ny394.out,List.length_drop,List.length_take]<;>omega)
                     rw [show ((t377).take ((wrap64 (x17_3+3)):Int).toNat).drop (x17_3:Int).toNat=y394 from Ny394.out.symm] at hr69
                     replace hr69:Kd.C k86 _ A69 y394.length y394:=(by rw [hA69];exact hr69)
                     rw [← hy69,← hA69,← hc69] at hcut69
                     have HR397:=Aside0.mk hr69
                     have HC397:=Aside0.mk (show y394.length≤c69 from by rw [hy69,hc69];exact Nat.sub_le_sub_right (Nat.le_trans (by omega) hroom69) _)
                     clear hr69 hC69 hroom69 hi069 hsz69 hc69
                     have KY69:=Aside0.mk hy69
                     have KA69:=Aside0.mk hA69
                     clear hy69 hA69
                     have KL69:=Aside0.mk (show ((wrap64 (x17_3+3)):Int).toNat≤t377.length from by omega)
                     have KM69:=Aside0.mk (show (x17_3:Int).toNat≤((wrap64 (x17_3+3)):Int).toNat from by omega)
                     replace q69:=eq_true q69
                     refine start_ (n:=8) (S:=fun w'=>True) (ds:=[]) #[false,false,false,false,false,false,false,false] (by kernel_rfl) rfl rfl trivial (fun hHeld=>?_);refine with_tabW impl_lint.tab23 impl_lint.bits23 (fun HT_ HW_=>?_)
                     generalize wr.drew=w68 at HO_10 HO_394000 HO_394004 BK389 BK393 HB HR397 hHeld ⊢
                     refine pure_ (i:=0) (N:=some 95) (v:=?_) (a':=?_) #[true,false,false,false,false,false,false,false] rfl rfl (any_of HT_.out (by kernel_rfl)) (fun _ _ _ h=>h) (Or.inl ⟨by rfl,?_⟩) ?_ ?_
                     rotate_left
                     ·intro w'
                      go_simp
                      with_reducible rfl
                     rotate_left
                     ·simp only [Act.put,List.setIfInBounds_toArray,List.set_cons_zero,List.set_cons_succ,i64_w,i32_w]
                      rfl
                     refine pure_ (i:=1) (N:=some 96) (v:=?_) (a':=?_) #[true,true,false,false,false,false,false,false] rfl rfl (any_of HT_.out (by kernel_rfl)) (fun _ _ _ h=>h) (Or.inl ⟨by rfl,?_⟩) ?_ ?_
                     rotate_left
                     ·intro w'
                      go_simp
                      with_reducible rfl
                     rotate_left
                     ·simp only [Act.put,List.setIfInBounds_toArray,List.set_cons_zero,List.set_cons_succ,i64_w,i32_w]
                      rfl
                     refine pure_ (i:=2) (N:=some 97) (v:=?_) (a':=?_) #[true,true,true,false,false,false,false,false] rfl rfl (any_of HT_.out (by kernel_rfl)) (fun _ _ _ h=>h) (Or.inl ⟨by rfl,?_⟩) ?_ ?_
                     rotate_left
                     ·intro w'
                      go_simp
                      with_reducible rfl
                     rotate_left
                     ·simp only [Act.put,List.setIfInBounds_toArray,List.set_cons_zero,List.set_cons_succ,i64_w,i32_w]
                      rfl
                     refine pure_ (i:=3) (N:=some 98) (v:=?_) (a':=?_) #[true,true,true,true,false,false,false,false] rfl rfl (any_of HT_.out (by kernel_rfl)) (fun _ _ _ h=>h) (Or.inl ⟨by rfl,?_⟩) ?_ ?_
                     rotate_left
                     ·intro w'
                      go_simp
                      with_reducible rfl
                     rotate_left
                     ·simp only [Act.put,List.setIfInBounds_toArray,List.set_cons_zero,List.set_cons_succ,i64_w,i32_w]
                      rfl
                     refine pure_ (i:=4) (N:=some 99) (v:=?_) (a':=?_) #[true,true,true,true,true,false,false,false] rfl rfl (any_of HT_.out (by kernel_rfl)) (fun _ _ _ h=>h) (Or.inl ⟨by rfl,?_⟩) ?_ ?_
                     rotate_left
                     ·intro w'
                      go_simp
                      with_reducible rfl
                     rotate_left
                     ·simp only [Act.put,List.setIfInBounds_toArray,List.set_cons_zero,List.set_cons_succ,i64_w,i32_w]
                      rfl
                     refine pure_ (i:=5) (N:=some 100) (v:=?_) (a':=?_) #[true,true,true,true,true,true,false,false] rfl rfl (any_of HT_.out (by kernel_rfl)) (fun _ _ _ h=>h) (Or.inl ⟨by rfl,?_⟩) ?_ ?_
                     rotate_left
                     ·intro w'
                      go_simp
                      with_reducible rfl
                     rotate_left
                     ·simp only [Act.put,List.setIfInBounds_toArray,List.set_cons_zero,List.set_cons_succ,i64_w,i32_w]
                      rfl
                     refine one_ (i:=6) (N:=some 101) #[true,true,true,true,true,true,true,false] rfl rfl (one_of HT_.out (by kernel_rfl)) (by decide) (fun K hK=>?_)
                     refine goes_ Try.func74 (by kernel_rfl) rfl #[.int .i64 a2] (by rfl) rfl rfl (by (try simp only [List.map_toArray,List.map_cons,List.map_nil]);first|done|rfl|(simp only [List.length_drop,List.length_take];rfl)) ?_
                     with_reducible refine (impl_epilogue.calls a2 t398 _ A55.out).mono ?_
                     rintro e w70 ⟨v399,rfl,ho0,hb⟩
                     refine ⟨_,rfl,?_⟩
                     have n0_:=Aside0.mk (Kd.R_elder' (by (with_reducible repeat (first|apply Kd.R_alloc|apply Kd.R_drewN|apply Kd.R_drew));exact HO_10.out) (Kd.R_base ho0) hb)
                     have n1_:=Aside0.mk (Kd.R_elder' (by (with_reducible repeat (first|apply Kd.R_alloc|apply Kd.R_drewN|apply Kd.R_drew));exact HO_394000.out) (Kd.R_base ho0) hb)
                     have n2_:=Aside0.mk (Kd.R_below (by (with_reducible repeat (first|apply Kd.R_alloc|apply Kd.R_drewN|apply Kd.R_drew));exact HO_394004.out) hb)
                     have n3_:=Aside0.mk (Kd.R_lower (Kd.R_newB (Kd.R_new' (Kd.R_new' ho0 (Kd.R_lt (by (with_reducible repeat (first|apply Kd.R_alloc|apply Kd.R_drewN|apply Kd.R_drew));exact HO_10.out))) (Kd.R_lt (by (with_reducible repeat (first|apply Kd.R_alloc|apply Kd.R_drewN|apply Kd.R_drew));exact HO_394000.out))) (g:=gb389) (o:=.cells #[.int .i64 ((rd_T86 t377 (ji32)).f0),.int .i64 ((rd_T86 t377 (ji32)).f1),.int .i64 ((rd_T86 t377 (ji32)).f2),.int .i64 ((rd_T86 t377 (ji32)).f3),.int .i64 ((rd_T86 t377 (ji32)).f4)] 86 (0,0)) (by (with_reducible repeat first|apply Q1|apply Q2|apply Q3);exact BK389.out)) (below_size (by repeat (with_reducible first|exact HB.out|apply Q4|apply Q5|apply Q6|apply Q7 GE389.out|apply Q7 GE393.out))))
                     have n4_:=Aside0.mk (blk_below (g:=gb389) (o:=.cells #[.int .i64 ((rd_T86 t377 (ji32)).f0),.int .i64 ((rd_T86 t377 (ji32)).f1),.int .i64 ((rd_T86 t377 (ji32)).f2),.int .i64 ((rd_T86 t377 (ji32)).f3),.int .i64 ((rd_T86 t377 (ji32)).f4)] 86 (0,0)) (by (with_reducible repeat first|apply Q1|apply Q2|apply Q3);exact BK389.out) hb)
                     have n5_:=Aside0.mk (blk_below (g:=gb393) (o:=.cells #[.slice (some ad388) t377.length co36,.int .i64 a2,.int .i64 a1,.slice A3 l3.length c3,u394004] 93 (0,0)) (by (with_reducible repeat first|apply Q1|apply Q2|apply Q3);exact BK393.out) hb)
                     have n6_:=Aside0.mk (Kd.C_below (by repeat (first|(with_reducible exact HR397.out)|(with_reducible refine Kd.C_alloc ?_ _)|(with_reducible refine Kd.C_drewN ?_ _)|(with_reducible refine Kd.C_drew ?_)|exact HR397.out)) hb)
                     have n7_:=Aside0.mk (below_step (by repeat (with_reducible first|exact HB.out|apply Q4|apply Q5|apply Q6|apply Q7 GE389.out|apply Q7 GE393.out)) hb)
                     clear HO_10
                     clear HO_394000
                     clear HO_394004
                     clear BK389
                     clear BK393
                     clear HR397
                     clear HB
                     have HO_10:=n0_
                     have HO_394000:=n1_
                     have HO_394004:=n2_
                     have HO400:=n3_
                     have BK389:=n4_
                     have BK393:=n5_
                     have HR397:=n6_
                     have HB:=n7_
                     clear n0_ n1_ n2_ n3_ n4_ n5_ n6_ n7_
                     try clear hb hb2
                     try clear hk
                     try clear hi
                     try clear ho0
                     obtain ⟨Ao71,co71,eo71⟩:=Kd.R_slice HO400.out
                     (first|subst eo71|(injection eo71 with f1_ f2_ f3_;have f4_:=f1_.symm;have f5_:=f3_.symm;clear f1_ f2_ f3_;subst f4_;subst f5_))
                     refine hK.out _ _ trivial (fun hHeld=>?_)
                     clear hK K
                     refine norm_ (a':=?_) ?_ ?_
                     rotate_left
                     ·show Act.put _ (some 101) _=_
                      simp only [Act.put,List.setIfInBounds_toArray,List.set_cons_zero,List.set_cons_succ,i64_w,i32_w]
                      rfl
                     refine one_ (i:=7) (N:=some 102) #[true,true,true,true,true,true,true,true] rfl rfl (one_of HT_.out (by kernel_rfl)) (by decide) (fun K hK=>?_)
                     refine goes_ Try.func73 (by kernel_rfl) rfl #[.slice A69 y394.length c69,.slice Ao71 t398.length co71] (by rfl) rfl rfl (by (try simp only [List.map_toArray,List.map_cons,List.map_nil]);first|done|rfl|(simp only [List.length_drop,List.length_take];rfl)) ?_
                     with_reducible refine (impl_Instr.calls k3 _ _ y394 _ _ t398 true _ ?side1 ?side2 ?side3 ?side4 A56.out).mono ?_
                     (case side1=>repeat (first|exact (by repeat (first|(with_reducible exact HR397.out)|(with_reducible refine Kd.C_alloc ?_ _)|(with_reducible refine Kd.C_drewN ?_ _)|(with_reducible refine Kd.C_drew ?_)|exact HR397.out))|(with_reducible refine Kd.C_alloc ?_ _)|(with_reducible refine Kd.C_drewN ?_ _)|(with_reducible refine Kd.C_drew ?_)))
                     (case side2=>exact HC397.out)
                     (case side3=>repeat (first|exact (Kd.R_reads' HO400.out).2.2|(with_reducible refine Kd.C_alloc ?_ _)|(with_reducible refine Kd.C_drewN ?_ _)|(with_reducible refine Kd.C_drew ?_)))
                     (case side4=>exact (Kd.R_reads' HO400.out).2.1)
                     rintro e w' ⟨rfl,⟨nd,rfl⟩⟩
                     refine ⟨_,rfl,?_⟩
                     refine hK.out _ _ trivial (fun hHeld=>?_)
                     clear hK K
                     refine norm_ (a':=?_) ?_ ?_
                     rotate_left
                     ·show Act.put _ (some 102) _=_
                      simp only [Act.put,List.setIfInBounds_toArray,List.set_cons_zero,List.set_cons_succ,i64_w,i32_w]
                      rfl
                     refine done_ (done_of HT_.out (by kernel_rfl)) ?_
                     try go_wp2
                     (try (rw [drewN_self w70];generalize hq_:World.drewN w70 _=w70;have n0_:Aside0 (Kd.R k86 86 w70 w.heap.size (fun k_=>some k_≠(.slice (some ad388) t377.length co36:Value).ownBlock∧some k_≠(.slice (some ad388) t377.length co36:Value).ownBlock∧k_≠gb389) (.slice Ao71 t398.length co71) t398):=⟨by rw [← hq_];exact (by (with_reducible repeat (first|apply Kd.R_alloc|apply Kd.R_drewN|apply Kd.R_drew));exact Kd.R_mono HO400.out (fun _ hk=>⟨hk.1.1.2,⟨hk.1.2,hk.2⟩⟩))⟩;have n1_:Aside0 (Kd.R k86 86 w70 w.heap.size (fun k_=>some k_≠(.slice Ao71 t398.length co71:Value).ownBlock∧k_≠gb389) (.slice (some ad388) t377.length co36) t377):=⟨by rw [← hq_];exact (by (with_reducible repeat (first|apply Kd.R_alloc|apply Kd.R_drewN|apply Kd.R_drew));exact Kd.R_mono HO_10.out (fun _ hk=>⟨hk.2,hk.1⟩))⟩;have n2_:Aside0 (Kd.R k86 86 w70 w.heap.size (fun k_=>some k_≠(.slice Ao71 t398.length co71:Value).ownBlock∧k_≠gb389) (.slice (some ad388) t377.length co36) t377):=⟨by rw [← hq_];exact (by (with_reducible repeat (first|apply Kd.R_alloc|apply Kd.R_drewN|apply Kd.R_drew));exact Kd.R_mono HO_394000.out (fun _ hk=>⟨hk.2,hk.1⟩))⟩;have n3_:Aside0 (Kd.R (Kd.int .i64) 3 w70 w.heap.size (fun _=>True) u394004 x394004_3):=⟨by rw [← hq_];exact (by (with_reducible repeat (first|apply Kd.R_alloc|apply Kd.R_drewN|apply Kd.R_drew));exact HO_394004.out)⟩;have n4_:Aside0 (w70.heap[gb389]?=some (.cells #[.int .i64 ((rd_T86 t377 (ji32)).f0),.int .i64 ((rd_T86 t377 (ji32)).f1),.int .i64 ((rd_T86 t377 (ji32)).f2),.int .i64 ((rd_T86 t377 (ji32)).f3),.int .i64 ((rd_T86 t377 (ji32)).f4)] 86 (0,0))):=⟨by rw [← hq_];exact (by (with_reducible repeat first|apply Q1|apply Q2|apply Q3);exact BK389.out)⟩;have n5_:Aside0 (w70.heap[gb393]?=some (.cells #[.slice (some ad388) t377.length co36,.int .i64 a2,.int .i64 a1,.slice A3 l3.length c3,u394004] 93 (0,0))):=⟨by rw [← hq_];exact (by (with_reducible repeat first|apply Q1|apply Q2|apply Q3);exact BK393.out)⟩;have n6_:Aside0 (Below w.heap.size w w70):=⟨by rw [← hq_];exact (by repeat (with_reducible first|exact HB.out|apply Q4|apply Q5|apply Q6|apply Q7 GE389.out|apply Q7 GE393.out))⟩;have n7_:Aside0 (Kd.C k86 w70 A69 y394.length y394):=⟨by rw [← hq_];exact (by repeat (first|(with_reducible exact HR397.out)|(with_reducible refine Kd.C_alloc ?_ _)|(with_reducible refine Kd.C_drewN ?_ _)|(with_reducible refine Kd.C_drew ?_)|exact HR397.out))⟩;clear HO400 HO_10 HO_394000 HO_394004 BK389 BK393 HB HR397 hq_;have HO400:=n0_;have HO_10:=n1_;have HO_394000:=n2_;have HO_394004:=n3_;have BK389:=n4_;have BK393:=n5_;have HB:=n6_;have HR397:=n7_;clear n0_ n1_ n2_ n3_ n4_ n5_ n6_ n7_))
                     have n0_:=Aside0.mk (Kd.R_drew HO_10.out)
                     have n1_:=Aside0.mk (Kd.R_drew HO_394000.out)
                     have n2_:=Aside0.mk (Kd.R_drew HO_394004.out)
                     have n3_:=Aside0.mk (Kd.R_drew HO400.out)
                     have n4_:=Aside0.mk (blk_drew BK389.out)
                     have n5_:=Aside0.mk (blk_drew BK393.out)
                     have n6_:=Aside0.mk (Kd.C_drew HR397.out)
                     have n7_:=Aside0.mk (below_drew1 HB.out)
                     clear HO_10
                     clear HO_394000
                     clear HO_394004
                     clear HO400
                     clear BK389
                     clear BK393
                     clear HR397
                     clear HB
                     have HO_10:=n0_
                     have HO_394000:=n1_
                     have HO_394004:=n2_
                     have HO400:=n3_
                     have BK389:=n4_
                     have BK393:=n5_
                     have HR397:=n6_
                     have HB:=n7_
                     clear n0_ n1_ n2_ n3_ n4_ n5_ n6_ n7_
                     have p59:0≤(x17_3:Int):=of_decide_eq_true (by first|(with_reducible assumption)|assumption)
                     have q59:(x17_3:Int) < ((x394004_3.length:Int):Int):=of_decide_eq_true (by first|(with_reducible assumption)|assumption)
                     obtain ⟨go59,co59,eo59,gb59,gl59,cl59,HG59⟩:=Kd.R_form HO_394004.out (by omega)
                     (first|cases eo59|(injection eo59 with ea_ en_ ec_;(first|subst ea_|(injection ea_ with ea_;subst ea_));subst ec_;clear en_))
                     have GB59:=Aside0.mk gb59
                     have GG59:=Aside0.mk HG59
                     clear gb59 gl59 HG59
                     obtain ⟨hx59_0,hf59_0⟩:=Kd.R_celln 0 HO_394004.out (x17_3:Int) p59 q59
                     replace p59:=eq_true p59
                     replace q59:=eq_true q59
                     have HP73:=Kd.R_putn HO_394004.out (x17_3:Int) 1
                     rw [← Ny402.out] at HP73
                     have HQ73:=Aside0.mk HP73
                     clear HP73
                     have p63:0≤((ji60):Int):=of_decide_eq_true (by first|(with_reducible assumption)|assumption)
                     have q63:((ji60):Int) < ((x394004_3.length:Int):Int):=of_decide_eq_true (by first|(with_reducible assumption)|assumption)
                     obtain ⟨hx63_0,hf63_0⟩:=Kd.R_celln 0 HQ73.out ((ji60):Int) p63 q63
                     replace p63:=eq_true p63
                     replace q63:=eq_true q63
                     have HP74:=Kd.R_putn HQ73.out ((ji60):Int) 2
                     rw [← Ny403.out] at HP74
                     have HQ74:=Aside0.mk HP74
                     clear HP74
                     have p67:0≤((ji64):Int):=of_decide_eq_true (by first|(with_reducible assumption)|assumption)
                     have q67:((ji64):Int) < ((x394004_3.length:Int):Int):=of_decide_eq_true (by first|(with_reducible assumption)|assumption)
                     obtain ⟨hx67_0,hf67_0⟩:=Kd.R_celln 0 HQ74.out ((ji64):Int) p67 q67
                     replace p67:=eq_true p67
                     replace q67:=eq_true q67
                     have HP75:=Kd.R_putn HQ74.out ((ji64):Int) 3
                     rw [← Ny404.out] at HP75
                     have HQ75:=Aside0.mk HP75
                     clear HP75
                     refine start_ (n:=23) (S:=fun w'=>w'.cell? ⟨gb393,0,none⟩=some (.slice (some ad388) t377.length co36)∧w'.cell? ⟨gb393,1,none⟩=some (.int .i64 a2)∧w'.cell? ⟨gb393,2,none⟩=some (.int .i64 a1)∧w'.cell? ⟨gb393,3,none⟩=some (.slice A3 l3.length c3)∧w'.cell? ⟨gb393,4,none⟩=some (.slice (some ⟨go59,0,none⟩) x394004_3.length co59)) (ds:=[18,20,22]) #[false,false,false,false,false,false,false,false,false,false,false,false,false,false,false,false,false,false,false,false,false,false,false] (by kernel_rfl) rfl rfl ⟨(blk_cell BK393.out 0).trans rfl,(blk_cell BK393.out 1).trans rfl,(blk_cell BK393.out 2).trans rfl,(blk_cell BK393.out 3).trans rfl,(blk_cell BK393.out 4).trans rfl⟩ (fun hHeld=>?_);refine with_tabW impl_lint.tab24 impl_lint.bits24 (fun HT_ HW_=>?_)
                     generalize w70.drew=w72 at HO_10 HO_394000 HO_394004 HO400 BK389 BK393 HR397 HB GG59 HQ73 HQ74 HQ75 hf59_0 hf63_0 hf67_0 hx59_0 hx63_0 hx67_0 hHeld ⊢
                     refine pure_ (i:=0) (N:=some 103) (v:=?_) (a':=?_) #[true,false,false,false,false,false,false,false,false,false,false,false,false,false,false,false,false,false,false,false,false,false,false] rfl rfl (any_of HT_.out (by kernel_rfl)) (fun _ _ _ h=>h) (Or.inl ⟨by rfl,?_⟩) ?_ ?_
                     rotate_left
                     ·intro w'
                      go_simp
                      with_reducible rfl
                     rotate_left
                     ·simp only [Act.put,List.setIfInBounds_toArray,List.set_cons_zero,List.set_cons_succ,i64_w,i32_w]
                      rfl
                     refine pure_ (i:=1) (N:=some 104) (v:=?_) (a':=?_) #[true,true,false,false,false,false,false,false,false,false,false,false,false,false,false,false,false,false,false,false,false,false,false] rfl rfl (any_of HT_.out (by kernel_rfl)) (fun _ _ _ h=>h) (Or.inl ⟨by rfl,?_⟩) ?_ ?_
                     rotate_left
                     ·intro w'
                      go_simp
                      with_reducible rfl
                     rotate_left
                     ·simp only [Act.put,List.setIfInBounds_toArray,List.set_cons_zero,List.set_cons_succ,i64_w,i32_w]
                      rfl
                     refine pure_ (i:=2) (N:=some 105) (v:=?_) (a':=?_) #[true,true,true,false,false,false,false,false,false,false,false,false,false,false,false,false,false,false,false,false,false,false,false] rfl rfl (any_of HT_.out (by kernel_rfl)) (fun _ _ _ h=>h) (Or.inl ⟨by rfl,?_⟩) ?_ ?_
                     rotate_left
                     ·intro w'
                      go_simp
                      with_reducible rfl
                     rotate_left
                     ·simp only [Act.put,List.setIfInBounds_toArray,List.set_cons_zero,List.set_cons_succ,i64_w,i32_w]
                      rfl
                     refine pure_ (i:=4) (N:=some 107) (v:=?_) (a':=?_) #[true,true,true,false,true,false,false,false,false,false,false,false,false,false,false,false,false,false,false,false,false,false,false] rfl rfl (any_of HT_.out (by kernel_rfl)) (fun _ _ _ h=>h) (Or.inl ⟨by rfl,?_⟩) ?_ ?_
                     rotate_left
                     ·intro w'
                      go_simp
                      with_reducible rfl
                     rotate_left
                     ·simp only [Act.put,List.setIfInBounds_toArray,List.set_cons_zero,List.set_cons_succ,i64_w,i32_w]
                      rfl
                     refine pure_ (i:=5) (N:=some 108) (v:=?_) (a':=?_) #[true,true,true,false,true,true,false,false,false,false,false,false,false,false,false,false,false,false,false,false,false,false,false] rfl rfl (any_of HT_.out (by kernel_rfl)) (fun _ _ _ h=>h) (Or.inl ⟨by rfl,?_⟩) ?_ ?_
                     rotate_left
                     ·intro w'
                      go_simp
                      with_reducible rfl
                     rotate_left
                     ·simp only [Act.put,List.setIfInBounds_toArray,List.set_cons_zero,List.set_cons_succ,i64_w,i32_w]
                      rfl
                     refine pure_ (i:=6) (N:=some 109) (v:=?_) (a':=?_) #[true,true,true,false,true,true,true,false,false,false,false,false,false,false,false,false,false,false,false,false,false,false,false] rfl rfl (any_of HT_.out (by kernel_rfl)) (fun _ _ _ h=>h) (Or.inl ⟨by rfl,?_⟩) ?_ ?_
                     rotate_left
                     ·intro w'
                      go_simp
                      with_reducible rfl
                     rotate_left
                     ·simp only [Act.put,List.setIfInBounds_toArray,List.set_cons_zero,List.set_cons_succ,i64_w,i32_w]
                      rfl
                     refine pure_ (i:=7) (N:=some 110) (v:=?_) (a':=?_) #[true,true,true,false,true,true,true,true,false,false,false,false,false,false,false,false,false,false,false,false,false,false,false] rfl rfl (any_of HT_.out (by kernel_rfl)) (fun _ _ _ h=>h) (Or.inl ⟨by rfl,?_⟩) ?_ ?_
                     rotate_left
                     ·intro w'
                      go_simp
                      with_reducible rfl
                     rotate_left
                     ·simp only [Act.put,List.setIfInBounds_toArray,List.set_cons_zero,List.set_cons_succ,i64_w,i32_w]
                      rfl
                     refine pure_ (i:=9) (N:=some 112) (v:=?_) (a':=?_) #[true,true,true,false,true,true,true,true,false,true,false,false,false,false,false,false,false,false,false,false,false,false,false] rfl rfl (any_of HT_.out (by kernel_rfl)) (fun _ _ _ h=>h) (Or.inl ⟨by rfl,?_⟩) ?_ ?_
                     rotate_left
                     ·intro w'
                      go_simp
                      with_reducible rfl
                     rotate_left
                     ·simp only [Act.put,List.setIfInBounds_toArray,List.set_cons_zero,List.set_cons_succ,i64_w,i32_w]
                      rfl
                     refine pure_ (i:=10) (N:=some 113) (v:=?_) (a':=?_) #[true,true,true,false,true,true,true,true,false,true,true,false,false,false,false,false,false,false,false,false,false,false,false] rfl rfl (any_of HT_.out (by kernel_rfl)) (fun _ _ _ h=>h) (Or.inl ⟨by rfl,?_⟩) ?_ ?_
                     rotate_left
                     ·intro w'
                      go_simp
                      with_reducible rfl
                     rotate_left
                     ·simp only [Act.put,List.setIfInBounds_toArray,List.set_cons_zero,List.set_cons_succ,i64_w,i32_w]
                      rfl
                     refine pure_ (i:=11) (N:=some 114) (v:=?_) (a':=?_) #[true,true,true,false,true,true,true,true,false,true,true,true,false,false,false,false,false,false,false,false,false,false,false] rfl rfl (any_of HT_.out (by kernel_rfl)) (fun _ _ _ h=>h) (Or.inl ⟨by rfl,?_⟩) ?_ ?_
                     rotate_left
                     ·intro w'
                      go_simp
                      with_reducible rfl
                     rotate_left
                     ·simp only [Act.put,List.setIfInBounds_toArray,List.set_cons_zero,List.set_cons_succ,i64_w,i32_w]
                      rfl
                     refine pure_ (i:=12) (N:=some 115) (v:=?_) (a':=?_) #[true,true,true,false,true,true,true,true,false,true,true,true,true,false,false,false,false,false,false,false,false,false,false] rfl rfl (any_of HT_.out (by kernel_rfl)) (fun _ _ _ h=>h) (Or.inl ⟨by rfl,?_⟩) ?_ ?_
                     rotate_left
                     ·intro w'
                      go_simp
                      with_reducible rfl
                     rotate_left
                     ·simp only [Act.put,List.setIfInBounds_toArray,List.set_cons_zero,List.set_cons_succ,i64_w,i32_w]
                      rfl
                     refine pure_ (i:=13) (N:=some 116) (v:=?_) (a':=?_) #[true,true,true,false,true,true,true,true,false,true,true,true,true,true,false,false,false,false,false,false,false,false,false] rfl rfl (any_of HT_.out (by kernel_rfl)) (fun _ _ _ h=>h) (Or.inl ⟨by rfl,?_⟩) ?_ ?_
                     rotate_left
                     ·intro w'
                      go_simp
                      with_reducible rfl
                     rotate_left
                     ·simp only [Act.put,List.setIfInBounds_toArray,List.set_cons_zero,List.set_cons_succ,i64_w,i32_w]
                      rfl
                     refine pure_ (i:=15) (N:=some 118) (v:=?_) (a':=?_) #[true,true,true,false,true,true,true,true,false,true,true,true,true,true,false,true,false,false,false,false,false,false,false] rfl rfl (any_of HT_.out (by kernel_rfl)) (fun _ _ _ h=>h) (Or.inl ⟨by rfl,?_⟩) ?_ ?_
                     rotate_left
                     ·intro w'
                      go_simp
                      with_reducible rfl
                     rotate_left
                     ·simp only [Act.put,List.setIfInBounds_toArray,List.set_cons_zero,List.set_cons_succ,i64_w,i32_w]
                      rfl
                     refine pure_ (i:=16) (N:=some 119) (v:=?_) (a':=?_) #[true,true,true,false,true,true,true,true,false,true,true,true,true,true,false,true,true,false,false,false,false,false,false] rfl rfl (any_of HT_.out (by kernel_rfl)) (fun _ _ _ h=>h) (Or.inl ⟨by rfl,?_⟩) ?_ ?_
                     rotate_left
                     ·intro w'
                      go_simp
                      with_reducible rfl
                     rotate_left
                     ·simp only [Act.put,List.setIfInBounds_toArray,List.set_cons_zero,List.set_cons_succ,i64_w,i32_w]
                      rfl
                     refine take_ (i:=3) (N:=some 106) (v:=?_) (a':=?_) #[true,true,true,true,true,true,true,true,false,true,true,true,true,true,false,true,true,false,false,false,false,false,false] rfl rfl (take_ofW HT_.out HW_.out (by kernel_rfl)) (fun _ _ _ h=>h) (Or.inl ⟨by rfl,?_⟩) hHeld ?_ ?_
                     rotate_left
                     ·rintro w' ⟨s0,s1,s2,s3,s4⟩
                      go_simp
                      with_reducible rfl
                     rotate_left
                     ·simp only [Act.put,List.setIfInBounds_toArray,List.set_cons_zero,List.set_cons_succ,i64_w,i32_w]
                      rfl
                     refine take_ (i:=8) (N:=some 111) (v:=?_) (a':=?_) #[true,true,true,true,true,true,true,true,true,true,true,true,true,true,false,true,true,false,false,false,false,false,false] rfl rfl (take_ofW HT_.out HW_.out (by kernel_rfl)) (fun _ _ _ h=>h) (Or.inl ⟨by rfl,?_⟩) hHeld ?_ ?_
                     rotate_left
                     ·rintro w' ⟨s0,s1,s2,s3,s4⟩
                      go_simp
                      with_reducible rfl
                     rotate_left
                     ·simp only [Act.put,List.setIfInBounds_toArray,List.set_cons_zero,List.set_cons_succ,i64_w,i32_w]
                      rfl
                     refine take_ (i:=14) (N:=some 117) (v:=?_) (a':=?_) #[true,true,true,true,true,true,true,true,true,true,true,true,true,true,true,true,true,false,false,false,false,false,false] rfl rfl (take_ofW HT_.out HW_.out (by kernel_rfl)) (fun _ _ _ h=>h) (Or.inl ⟨by rfl,?_⟩) hHeld ?_ ?_
                     rotate_left
                     ·rintro w' ⟨s0,s1,s2,s3,s4⟩
                      go_simp
                      with_reducible rfl
                     rotate_left
                     ·simp only [Act.put,List.setIfInBounds_toArray,List.set_cons_zero,List.set_cons_succ,i64_w,i32_w]
                      rfl
                     refine pure_ (i:=17) (N:=some 120) (v:=?_) (a':=?_) #[true,true,true,true,true,true,true,true,true,true,true,true,true,true,true,true,true,true,false,false,false,false,false] rfl rfl (any_of HT_.out (by kernel_rfl)) (fun _ _ _ h=>h) (Or.inl ⟨by rfl,?_⟩) ?_ ?_
                     rotate_left
                     ·intro w'
                      go_simp
                      with_reducible rfl
                     rotate_left
                     ·simp only [Act.put,List.setIfInBounds_toArray,List.set_cons_zero,List.set_cons_succ,i64_w,i32_w]
                      rfl
                     refine last_ (i:=18) (N:=none) #[true,true,true,true,true,true,true,true,true,true,true,true,true,true,true,true,true,true,true,false,false,false,false] rfl rfl (one_of HT_.out (by kernel_rfl)) (by decide) (fun K hK=>?_)
                     refine skip_ (w1:=?_) (by rfl) rfl ?_ ?_
                     rotate_left
                     ·go_simp
                      rfl
                     refine hK.out _ _ ?_
                     clear hK K
                     refine pure_ (i:=19) (N:=some 121) (v:=?_) (a':=?_) #[true,true,true,true,true,true,true,true,true,true,true,true,true,true,true,true,true,true,true,true,false,false,false] rfl rfl (any_of HT_.out (by kernel_rfl)) (fun _ _ _ h=>h) (Or.inl ⟨by rfl,?_⟩) ?_ ?_
                     rotate_left
                     ·intro w'
                      go_simp
                      with_reducible rfl
                     rotate_left
                     ·simp only [Act.put,List.setIfInBounds_toArray,List.set_cons_zero,List.set_cons_succ,i64_w,i32_w]
                      rfl
                     refine last_ (i:=20) (N:=none) #[true,true,true,true,true,true,true,true,true,true,true,true,true,true,true,true,true,true,true,true,true,false,false] rfl rfl (one_of HT_.out (by kernel_rfl)) (by decide) (fun K hK=>?_)
                     refine skip_ (w1:=?_) (by rfl) rfl ?_ ?_
                     rotate_left
                     ·go_simp
                      rfl
                     refine hK.out _ _ ?_
                     clear hK K
                     refine pure_ (i:=21) (N:=some 122) (v:=?_) (a':=?_) #[true,true,true,true,true,true,true,true,true,true,true,true,true,true,true,true,true,true,true,true,true,true,false] rfl rfl (any_of HT_.out (by kernel_rfl)) (fun _ _ _ h=>h) (Or.inl ⟨by rfl,?_⟩) ?_ ?_
                     rotate_left
                     ·intro w'
                      go_simp
                      with_reducible rfl
                     rotate_left
                     ·simp only [Act.put,List.setIfInBounds_toArray,List.set_cons_zero,List.set_cons_succ,i64_w,i32_w]
                      rfl
                     refine last_ (i:=22) (N:=none) #[true,true,true,true,true,true,true,true,true,true,true,true,true,true,true,true,true,true,true,true,true,true,true] rfl rfl (one_of HT_.out (by kernel_rfl)) (by decide) (fun K hK=>?_)
                     refine skip_ (w1:=?_) (by rfl) rfl ?_ ?_
                     rotate_left
                     ·go_simp
                      rfl
                     refine hK.out _ _ ?_
                     clear hK K
                     refine done_ (done_of HT_.out (by kernel_rfl)) ?_
                     try go_wp2
                     go_roundg k3
                     case measure=>have:=HK1.out;have:=HJ34.out;have:=HK3.out;omega
                     case rel=>exact ⟨(ji60),(y404),(.slice (some ⟨go59,0,none⟩) x394004_3.length co59),(by first|rfl|(simp;done)|(simp only [← hji60]<;>(first|rfl|simp))|(simp [*];done)),H',⟨by have:=HK1.out;have:=HJ34.out;have:=HK3.out;omega⟩,⟨by (with_reducible repeat (first|apply Kd.R_alloc|apply Kd.R_drewN|apply Kd.R_drew));exact Kd.R_mono (Kd.R_far (p:=⟨go59,((ji64):Int).toNat,none⟩) (Kd.R_far (p:=⟨go59,((ji60):Int).toNat,none⟩) (Kd.R_far (p:=⟨go59,(x17_3:Int).toNat,none⟩) (Kd.R_types HO_10.out GG59.out (by decide)) (fun _ hk=>hk.2) (.int .i64 1)) (fun _ hk=>hk.2) (.int .i64 2)) (fun _ hk=>hk.2) (.int .i64 3)) (fun _ hk=>by first|exact hk.1.1|exact hk.1.2)⟩,⟨by (with_reducible repeat (first|apply Kd.R_alloc|apply Kd.R_drewN|apply Kd.R_drew));exact Kd.R_mono (Kd.R_far (p:=⟨go59,((ji64):Int).toNat,none⟩) (Kd.R_far (p:=⟨go59,((ji60):Int).toNat,none⟩) (Kd.R_far (p:=⟨go59,(x17_3:Int).toNat,none⟩) (Kd.R_types HO_394000.out GG59.out (by decide)) (fun _ hk=>hk.2) (.int .i64 1)) (fun _ hk=>hk.2) (.int .i64 2)) (fun _ hk=>hk.2) (.int .i64 3)) (fun _ hk=>by first|exact hk.1.1|exact hk.1.2)⟩,⟨by (with_reducible repeat (first|apply Kd.R_alloc|apply Kd.R_drewN|apply Kd.R_drew));exact HQ75.out⟩,⟨by (with_reducible repeat first|apply Q1|apply Q2|apply Q3);refine blk_far ?_ (by have h_:=Kd.R_ne HO_394004.out BK389.out (by decide);intro e_;exact h_ (by rw [e_];rfl)) _;(with_reducible repeat first|apply Q1|apply Q2|apply Q3);refine blk_far ?_ (by have h_:=Kd.R_ne HO_394004.out BK389.out (by decide);intro e_;exact h_ (by rw [e_];rfl)) _;(with_reducible repeat first|apply Q1|apply Q2|apply Q3);refine blk_far ?_ (by have h_:=Kd.R_ne HO_394004.out BK389.out (by decide);intro e_;exact h_ (by rw [e_];rfl)) _;(with_reducible repeat first|apply Q1|apply Q2|apply Q3);exact BK389.out⟩,⟨by (with_reducible repeat first|apply Q1|apply Q2|apply Q3);refine blk_far ?_ (by have h_:=Kd.R_ne HO_394004.out BK393.out (by decide);intro e_;exact h_ (by rw [e_];rfl)) _;(with_reducible repeat first|apply Q1|apply Q2|apply Q3);refine blk_far ?_ (by have h_:=Kd.R_ne HO_394004.out BK393.out (by decide);intro e_;exact h_ (by rw [e_];rfl)) _;(with_reducible repeat first|apply Q1|apply Q2|apply Q3);refine blk_far ?_ (by have h_:=Kd.R_ne HO_394004.out BK393.out (by decide);intro e_;exact h_ (by rw [e_];rfl)) _;(with_reducible repeat first|apply Q1|apply Q2|apply Q3);exact BK393.out⟩,⟨by repeat (with_reducible first|exact HB.out|apply Q4|apply Q5|apply Q6|apply Q7 GB59.out|apply Q7 GB59.out|apply Q7 GB59.out|apply Q7 GE389.out|apply Q7 GE393.out)⟩⟩
                    rw [if_neg c66] at H
                    exact absurd H (by simp)
                   rw [if_neg c65] at H
                   exact absurd H (by simp)
                  rw [if_neg c62] at H
                  exact absurd H (by simp)
                 rw [if_neg c61] at H
                 exact absurd H (by simp)
                rw [if_neg c58] at H
                exact absurd H (by simp)
               replace c57:=Bool.eq_false_iff.mpr c57
               subst c57
               rw [if_neg (show ¬ (false=true) by decide)] at H
               have H':=Aside0.mk H
               clear H
               try go_wp2
               have n0_:=Aside0.mk (Kd.R_drew HO_10.out)
               have n1_:=Aside0.mk (Kd.R_drew HO_394000.out)
               have n2_:=Aside0.mk (Kd.R_drew HO_394004.out)
               have n3_:=Aside0.mk (blk_drew BK389.out)
               have n4_:=Aside0.mk (blk_drew BK393.out)
               have n5_:=Aside0.mk (below_drew1 HB.out)
               clear HO_10
               clear HO_394000
               clear HO_394004
               clear BK389
               clear BK393
               clear HB
               have HO_10:=n0_
               have HO_394000:=n1_
               have HO_394004:=n2_
               have BK389:=n3_
               have BK393:=n4_
               have HB:=n5_
               clear n0_ n1_ n2_ n3_ n4_ n5_
               have q77:((wrap64 (x17_3+3)):Int)≤((t377.length:Int):Int):=of_decide_eq_true (by first|(with_reducible assumption)|assumption)
               obtain ⟨i077,hi077,_,hsz77,_⟩:=info_parts info86
               have hroom77:t377.length≤co36:=(Kd.R_reads' HO_10.out).2.1
               have hC77:Kd.C k86 _ (some ad388) t377.length t377:=(Kd.R_reads' HO_10.out).2.2
               have ql77:(x17_3:Int)≤((wrap64 (x17_3+3)):Int):=of_decide_eq_true (by first|(with_reducible assumption)|assumption)
               have q077:(0:Int)≤(x17_3:Int):=of_decide_eq_true (by first|(with_reducible assumption)|assumption)
               have hcut77:=cut_mid (P:=Try.prog) 63 86 .i64 .i64 Try.underlying63 hi077 5 hsz77 (some ad388) t377.length co36 x17_3 (wrap64 (x17_3+3)) q077 ql77 q77 hroom77
               have hr77:=Kd.C_mid (lo:=(x17_3:Int).toNat) (hi:=((wrap64 (x17_3+3)):Int).toNat) (c:=co36) hC77 (by omega) (by omega) hroom77
               obtain ⟨A77,hA77⟩ : ∃ A1,A1=(if co36=(x17_3:Int).toNat then (some ad388) else ((some ad388):Option Addr).map (·.add ((x17_3:Int).toNat*5))):=⟨_,rfl⟩
               obtain ⟨c77,hc77⟩ : ∃ c1,c1=co36 - (x17_3:Int).toNat:=⟨_,rfl⟩
               have hy77:y394.length=((wrap64 (x17_3+3)):Int).toNat - (x17_3:Int).toNat:=(by rw [Ny394.out,List.length_drop,List.length_take]<;>omega)
               rw [show ((t377).take ((wrap64 (x17_3+3)):Int).toNat).drop (x17_3:Int).toNat=y394 from Ny394.out.symm] at hr77
               replace hr77:Kd.C k86 _ A77 y394.length y394:=(by rw [hA77];exact hr77)
               rw [← hy77,← hA77,← hc77] at hcut77
               have HR397:=Aside0.mk hr77
               have HC397:=Aside0.mk (show y394.length≤c77 from by rw [hy77,hc77];exact Nat.sub_le_sub_right (Nat.le_trans (by omega) hroom77) _)
               clear hr77 hC77 hroom77 hi077 hsz77 hc77
               have KY77:=Aside0.mk hy77
               have KA77:=Aside0.mk hA77
               clear hy77 hA77
               have KL77:=Aside0.mk (show ((wrap64 (x17_3+3)):Int).toNat≤t377.length from by omega)
               have KM77:=Aside0.mk (show (x17_3:Int).toNat≤((wrap64 (x17_3+3)):Int).toNat from by omega)
               replace q77:=eq_true q77
               refine start_ (n:=8) (S:=fun w'=>True) (ds:=[]) #[false,false,false,false,false,false,false,false] (by kernel_rfl) rfl rfl trivial (fun hHeld=>?_);refine with_tabW impl_lint.tab23 impl_lint.bits23 (fun HT_ HW_=>?_)
               generalize wr.drew=w76 at HO_10 HO_394000 HO_394004 BK389 BK393 HB HR397 hHeld ⊢
               refine pure_ (i:=0) (N:=some 95) (v:=?_) (a':=?_) #[true,false,false,false,false,false,false,false] rfl rfl (any_of HT_.out (by kernel_rfl)) (fun _ _ _ h=>h) (Or.inl ⟨by rfl,?_⟩) ?_ ?_
               rotate_left
               ·intro w'
                go_simp
                with_reducible rfl
               rotate_left
               ·simp only [Act.put,List.setIfInBounds_toArray,List.set_cons_zero,List.set_cons_succ,i64_w,i32_w]
                rfl
               refine pure_ (i:=1) (N:=some 96) (v:=?_) (a':=?_) #[true,true,false,false,false,false,false,false] rfl rfl (any_of HT_.out (by kernel_rfl)) (fun _ _ _ h=>h) (Or.inl ⟨by rfl,?_⟩) ?_ ?_
               rotate_left
               ·intro w'
                go_simp
                with_reducible rfl
               rotate_left
               ·simp only [Act.put,List.setIfInBounds_toArray,List.set_cons_zero,List.set_cons_succ,i64_w,i32_w]
                rfl
               refine pure_ (i:=2) (N:=some 97) (v:=?_) (a':=?_) #[true,true,true,false,false,false,false,false] rfl rfl (any_of HT_.out (by kernel_rfl)) (fun _ _ _ h=>h) (Or.inl ⟨by rfl,?_⟩) ?_ ?_
               rotate_left
               ·intro w'
                go_simp
                with_reducible rfl
               rotate_left
               ·simp only [Act.put,List.setIfInBounds_toArray,List.set_cons_zero,List.set_cons_succ,i64_w,i32_w]
                rfl
               refine pure_ (i:=3) (N:=some 98) (v:=?_) (a':=?_) #[true,true,true,true,false,false,false,false] rfl rfl (any_of HT_.out (by kernel_rfl)) (fun _ _ _ h=>h) (Or.inl ⟨by rfl,?_⟩) ?_ ?_
               rotate_left
               ·intro w'
                go_simp
                with_reducible rfl
               rotate_left
               ·simp only [Act.put,List.setIfInBounds_toArray,List.set_cons_zero,List.set_cons_succ,i64_w,i32_w]
                rfl
               refine pure_ (i:=4) (N:=some 99) (v:=?_) (a':=?_) #[true,true,true,true,true,false,false,false] rfl rfl (any_of HT_.out (by kernel_rfl)) (fun _ _ _ h=>h) (Or.inl ⟨by rfl,?_⟩) ?_ ?_
               rotate_left
               ·intro w'
                go_simp
                with_reducible rfl
               rotate_left
               ·simp only [Act.put,List.setIfInBounds_toArray,List.set_cons_zero,List.set_cons_succ,i64_w,i32_w]
                rfl
               refine pure_ (i:=5) (N:=some 100) (v:=?_) (a':=?_) #[true,true,true,true,true,true,false,false] rfl rfl (any_of HT_.out (by kernel_rfl)) (fun _ _ _ h=>h) (Or.inl ⟨by rfl,?_⟩) ?_ ?_
               rotate_left
               ·intro w'
                go_simp
                with_reducible rfl
               rotate_left
               ·simp only [Act.put,List.setIfInBounds_toArray,List.set_cons_zero,List.set_cons_succ,i64_w,i32_w]
                rfl
               refine one_ (i:=6) (N:=some 101) #[true,true,true,true,true,true,true,false] rfl rfl (one_of HT_.out (by kernel_rfl)) (by decide) (fun K hK=>?_)
               refine goes_ Try.func74 (by kernel_rfl) rfl #[.int .i64 a2] (by rfl) rfl rfl (by (try simp only [List.map_toArray,List.map_cons,List.map_nil]);first|done|rfl|(simp only [List.length_drop,List.length_take];rfl)) ?_
               with_reducible refine (impl_epilogue.calls a2 t398 _ A55.out).mono ?_
               rintro e w78 ⟨v399,rfl,ho0,hb⟩
               refine ⟨_,rfl,?_⟩
               have n0_:=Aside0.mk (Kd.R_elder' (by (with_reducible repeat (first|apply Kd.R_alloc|apply Kd.R_drewN|apply Kd.R_drew));exact HO_10.out) (Kd.R_base ho0) hb)
               have n1_:=Aside0.mk (Kd.R_elder' (by (with_reducible repeat (first|apply Kd.R_alloc|apply Kd.R_drewN|apply Kd.R_drew));exact HO_394000.out) (Kd.R_base ho0) hb)
               have n2_:=Aside0.mk (Kd.R_below (by (with_reducible repeat (first|apply Kd.R_alloc|apply Kd.R_drewN|apply Kd.R_drew));exact HO_394004.out) hb)
               have n3_:=Aside0.mk (Kd.R_lower (Kd.R_newB (Kd.R_new' (Kd.R_new' ho0 (Kd.R_lt (by (with_reducible repeat (first|apply Kd.R_alloc|apply Kd.R_drewN|apply Kd.R_drew));exact HO_10.out))) (Kd.R_lt (by (with_reducible repeat (first|apply Kd.R_alloc|apply Kd.R_drewN|apply Kd.R_drew));exact HO_394000.out))) (g:=gb389) (o:=.cells #[.int .i64 ((rd_T86 t377 (ji32)).f0),.int .i64 ((rd_T86 t377 (ji32)).f1),.int .i64 ((rd_T86 t377 (ji32)).f2),.int .i64 ((rd_T86 t377 (ji32)).f3),.int .i64 ((rd_T86 t377 (ji32)).f4)] 86 (0,0)) (by (with_reducible repeat first|apply Q1|apply Q2|apply Q3);exact BK389.out)) (below_size (by repeat (with_reducible first|exact HB.out|apply Q4|apply Q5|apply Q6|apply Q7 GE389.out|apply Q7 GE393.out))))
               have n4_:=Aside0.mk (blk_below (g:=gb389) (o:=.cells #[.int .i64 ((rd_T86 t377 (ji32)).f0),.int .i64 ((rd_T86 t377 (ji32)).f1),.int .i64 ((rd_T86 t377 (ji32)).f2),.int .i64 ((rd_T86 t377 (ji32)).f3),.int .i64 ((rd_T86 t377 (ji32)).f4)] 86 (0,0)) (by (with_reducible repeat first|apply Q1|apply Q2|apply Q3);exact BK389.out) hb)
               have n5_:=Aside0.mk (blk_below (g:=gb393) (o:=.cells #[.slice (some ad388) t377.length co36,.int .i64 a2,.int .i64 a1,.slice A3 l3.length c3,u394004] 93 (0,0)) (by (with_reducible repeat first|apply Q1|apply Q2|apply Q3);exact BK393.out) hb)
               have n6_:=Aside0.mk (Kd.C_below (by repeat (first|(with_reducible exact HR397.out)|(with_reducible refine Kd.C_alloc ?_ _)|(with_reducible refine Kd.C_drewN ?_ _)|(with_reducible refine Kd.C_drew ?_)|exact HR397.out)) hb)
               have n7_:=Aside0.mk (below_step (by repeat (with_reducible first|exact HB.out|apply Q4|apply Q5|apply Q6|apply Q7 GE389.out|apply Q7 GE393.out)) hb)
               clear HO_10
               clear HO_394000
               clear HO_394004
               clear BK389
               clear BK393
               clear HR397
               clear HB
               have HO_10:=n0_
               have HO_394000:=n1_
               have HO_394004:=n2_
               have HO400:=n3_
               have BK389:=n4_
               have BK393:=n5_
               have HR397:=n6_
               have HB:=n7_
               clear n0_ n1_ n2_ n3_ n4_ n5_ n6_ n7_
               try clear hb hb2
               try clear hk
               try clear hi
               try clear ho0
               obtain ⟨Ao79,co79,eo79⟩:=Kd.R_slice HO400.out
               (first|subst eo79|(injection eo79 with f1_ f2_ f3_;have f4_:=f1_.symm;have f5_:=f3_.symm;clear f1_ f2_ f3_;subst f4_;subst f5_))
               refine hK.out _ _ trivial (fun hHeld=>?_)
               clear hK K
               refine norm_ (a':=?_) ?_ ?_
               rotate_left
               ·show Act.put _ (some 101) _=_
                simp only [Act.put,List.setIfInBounds_toArray,List.set_cons_zero,List.set_cons_succ,i64_w,i32_w]
                rfl
               refine one_ (i:=7) (N:=some 102) #[true,true,true,true,true,true,true,true] rfl rfl (one_of HT_.out (by kernel_rfl)) (by decide) (fun K hK=>?_)
               refine goes_ Try.func73 (by kernel_rfl) rfl #[.slice A77 y394.length c77,.slice Ao79 t398.length co79] (by rfl) rfl rfl (by (try simp only [List.map_toArray,List.map_cons,List.map_nil]);first|done|rfl|(simp only [List.length_drop,List.length_take];rfl)) ?_
               with_reducible refine (impl_Instr.calls k3 _ _ y394 _ _ t398 false _ ?side1 ?side2 ?side3 ?side4 A56.out).mono ?_
               (case side1=>repeat (first|exact (by repeat (first|(with_reducible exact HR397.out)|(with_reducible refine Kd.C_alloc ?_ _)|(with_reducible refine Kd.C_drewN ?_ _)|(with_reducible refine Kd.C_drew ?_)|exact HR397.out))|(with_reducible refine Kd.C_alloc ?_ _)|(with_reducible refine Kd.C_drewN ?_ _)|(with_reducible refine Kd.C_drew ?_)))
               (case side2=>exact HC397.out)
               (case side3=>repeat (first|exact (Kd.R_reads' HO400.out).2.2|(with_reducible refine Kd.C_alloc ?_ _)|(with_reducible refine Kd.C_drewN ?_ _)|(with_reducible refine Kd.C_drew ?_)))
               (case side4=>exact (Kd.R_reads' HO400.out).2.1)
               rintro e w' ⟨rfl,⟨nd,rfl⟩⟩
               refine ⟨_,rfl,?_⟩
               refine hK.out _ _ trivial (fun hHeld=>?_)
               clear hK K
               refine norm_ (a':=?_) ?_ ?_
               rotate_left
               ·show Act.put _ (some 102) _=_
                simp only [Act.put,List.setIfInBounds_toArray,List.set_cons_zero,List.set_cons_succ,i64_w,i32_w]
                rfl
               refine done_ (done_of HT_.out (by kernel_rfl)) ?_
               try go_wp2
               go_roundg k3
               case measure=>have:=HK1.out;have:=HJ34.out;have:=HK3.out;omega
               case rel=>exact ⟨(wrap64 (x17_3+1)),(x394004_3),(u394004),(by first|rfl|(simp;done)|(simp [*];done)),H',⟨by have:=HK1.out;have:=HJ34.out;have:=HK3.out;omega⟩,⟨by (with_reducible repeat (first|apply Kd.R_alloc|apply Kd.R_drewN|apply Kd.R_drew));exact Kd.R_mono HO_10.out (fun _ hk=>hk.1)⟩,⟨by (with_reducible repeat (first|apply Kd.R_alloc|apply Kd.R_drewN|apply Kd.R_drew));exact Kd.R_mono HO_394000.out (fun _ hk=>hk.1)⟩,⟨by (with_reducible repeat (first|apply Kd.R_alloc|apply Kd.R_drewN|apply Kd.R_drew));exact HO_394004.out⟩,⟨by (with_reducible repeat first|apply Q1|apply Q2|apply Q3);exact BK389.out⟩,⟨by (with_reducible repeat first|apply Q1|apply Q2|apply Q3);exact BK393.out⟩,⟨by repeat (with_reducible first|exact HB.out|apply Q4|apply Q5|apply Q6|apply Q7 GE389.out|apply Q7 GE393.out)⟩⟩
              rw [if_neg c53] at H
              exact absurd H (by simp)
             rw [if_neg c52] at H
             exact absurd H (by simp)
            rw [if_neg c51] at H
            have c51b0:decide ((wrap64 (x17_3+3))≤(t377.length:Int))=false:=decide_eq_false c51
            clear c51
            have H':=Aside0.mk H
            clear H
            go_wp2
            go_loopg [18] k3 (fun kq v18 w'=>∃ (x18_4:Int) (x394001_4:Int) (x394002_4:Int),v18=.int .i64 x18_4∧Aside0 (impl_lint.l2 kq t377 x18_4 t377 x394001_4 x394002_4 l3 x394004_3=some (r1,r2))∧Aside0 (kq≤k3)∧Aside0 (Kd.R k86 86 w' w.heap.size (fun k_=>k_≠gb389) (.slice (some ad388) t377.length co36) t377)∧Aside0 (Kd.R k86 86 w' w.heap.size (fun k_=>k_≠gb389) (.slice (some ad388) t377.length co36) t377)∧Aside0 (Kd.R (Kd.int .i64) 3 w' w.heap.size (fun _=>True) u394004 x394004_3)∧Aside0 (w'.heap[gb389]?=some (.cells #[.int .i64 ((rd_T86 t377 (ji32)).f0),.int .i64 ((rd_T86 t377 (ji32)).f1),.int .i64 ((rd_T86 t377 (ji32)).f2),.int .i64 ((rd_T86 t377 (ji32)).f3),.int .i64 ((rd_T86 t377 (ji32)).f4)] 86 (0,0)))∧Aside0 (w'.heap[gb393]?=some (.cells #[(.slice (some ad388) t377.length co36),.int .i64 x394001_4,.int .i64 x394002_4,(.slice A3 l3.length c3),u394004] 93 (0,0)))∧Aside0 (Below w.heap.size w w'))
            case atStart=>exact ⟨(2),(a2),(a1),(by first|rfl|(simp;done)|(simp [*];done)),H',⟨Nat.le_refl _⟩,⟨by (with_reducible repeat (first|apply Kd.R_alloc|apply Kd.R_drewN|apply Kd.R_drew));exact HO_10.out⟩,⟨by (with_reducible repeat (first|apply Kd.R_alloc|apply Kd.R_drewN|apply Kd.R_drew));exact HO_394000.out⟩,⟨by (with_reducible repeat (first|apply Kd.R_alloc|apply Kd.R_drewN|apply Kd.R_drew));exact HO_394004.out⟩,⟨by (with_reducible repeat first|apply Q1|apply Q2|apply Q3);exact BK389.out⟩,⟨by (with_reducible repeat first|apply Q1|apply Q2|apply Q3);exact BK393.out⟩,⟨by repeat (with_reducible first|exact HB.out|apply Q4|apply Q5|apply Q6|apply Q7 GE389.out|apply Q7 GE393.out)⟩⟩
            clear H'
            try clear c3
            try clear c51b0
            obtain ⟨x18_4,x394001_4,x394002_4,rfl,HA,HK4,HO_10,HO_394000,HO_394004,BK389,BK393,HB⟩:=hrel
            cases gk with
            | zero=>exact absurd HA.out (by simp [impl_lint.l2])
            | succ k4 =>
             have H:=HA.out
             clear HA
             simp only [impl_lint.l2] at H
             by_cases c80:x18_4 < (t377.length:Int)
             ·rw [if_pos c80] at H
              have c80b0:decide (x18_4 < (t377.length:Int))=true:=decide_eq_true c80
              clear c80
              obtain ⟨⟨t405,t406,t407⟩,A81,H⟩:=bindA H
              try dsimp only at H
              by_cases c82:t405=0
              ·rw [if_pos c82] at H
               obtain ⟨c82b0,c82b1⟩:=eqP c82
               clear c82
               have H':=Aside0.mk H
               clear H
               obtain ⟨Ao83,co83,eo83⟩:=Kd.R_slice HO_394004.out
               subst eo83
               go_wp2_with (first|((with_reducible refine gate_callee (f:=75) rfl ?_);refine goesL_ (some 131) rfl rfl Try.func75 (by kernel_rfl) rfl #[.pointer (some ⟨gb393,0,none⟩),.int .i64 x18_4] rfl (by (try simp only [List.map_toArray,List.map_cons,List.map_nil]);first|done|rfl|(simp only [List.length_drop,List.length_take];rfl)) ?_;(with_reducible refine (impl_linting_fault.calls k4 gb393 t377 x394001_4 x394002_4 l3 x394004_3 x18_4 t405 t406 t407 _ ?side1 A81.out).mono ?_);(case side1=>exact ⟨_,_,_,_,_,_,by (with_reducible repeat first|apply Q1|apply Q2|apply Q3);exact BK393.out,(by repeat (first|exact (Kd.R_reads' HO_394000.out).2.2|(with_reducible refine Kd.C_alloc ?_ _)|(with_reducible refine Kd.C_drewN ?_ _)|(with_reducible refine Kd.C_drew ?_))),(by exact (Kd.R_reads' HO_394000.out).2.1),(by repeat (first|exact (Kd.C_below HR3.out HB.out)|(with_reducible refine Kd.C_alloc ?_ _)|(with_reducible refine Kd.C_drewN ?_ _)|(with_reducible refine Kd.C_drew ?_))),(by exact HC3.out),(by repeat (first|exact (Kd.R_reads' HO_394004.out).2.2|(with_reducible refine Kd.C_alloc ?_ _)|(with_reducible refine Kd.C_drewN ?_ _)|(with_reducible refine Kd.C_drew ?_))),(by exact (Kd.R_reads' HO_394004.out).2.1)⟩);rintro e w84 ⟨rfl,hb⟩;refine ⟨_,rfl,?_⟩;obtain ⟨hkp0_,hkp1_⟩:=impl_linting_fault.keeps A81.out;have n0_:=Aside0.mk (Kd.R_below (by (with_reducible repeat (first|apply Kd.R_alloc|apply Kd.R_drewN|apply Kd.R_drew));exact HO_10.out) hb);have n1_:=Aside0.mk (Kd.R_below (by (with_reducible repeat (first|apply Kd.R_alloc|apply Kd.R_drewN|apply Kd.R_drew));exact HO_394000.out) hb);have n2_:=Aside0.mk (Kd.R_below (by (with_reducible repeat (first|apply Kd.R_alloc|apply Kd.R_drewN|apply Kd.R_drew));exact HO_394004.out) hb);have n3_:=Aside0.mk (blk_below (g:=gb389) (o:=.cells #[.int .i64 ((rd_T86 t377 (ji32)).f0),.int .i64 ((rd_T86 t377 (ji32)).f1),.int .i64 ((rd_T86 t377 (ji32)).f2),.int .i64 ((rd_T86 t377 (ji32)).f3),.int .i64 ((rd_T86 t377 (ji32)).f4)] 86 (0,0)) (by (with_reducible repeat first|apply Q1|apply Q2|apply Q3);exact BK389.out) hb);have n4_:=Aside0.mk (blk_below (g:=gb393) (o:=.cells #[.slice (some ad388) t377.length co36,.int .i64 x394001_4,.int .i64 x394002_4,.slice A3 l3.length c3,.slice Ao83 x394004_3.length co83] 93 (0,0)) (by (with_reducible repeat first|apply Q1|apply Q2|apply Q3);exact BK393.out) hb);have n5_:=Aside0.mk (below_step (by repeat (with_reducible first|exact HB.out|apply Q4|apply Q5|apply Q6|apply Q7 GE389.out|apply Q7 GE393.out)) hb);clear HO_10;clear HO_394000;clear HO_394004;clear BK389;clear BK393;clear HB;have HO_10:=n0_;have HO_394000:=n1_;have HO_394004:=n2_;have BK389:=n3_;have BK393:=n4_;have HB:=n5_;clear n0_ n1_ n2_ n3_ n4_ n5_;(try clear hb);(try clear hb2);(try clear hk);(try clear hi);subst hkp0_;subst hkp1_))
               go_roundg k4
               case measure=>have:=HK1.out;have:=HJ34.out;have:=HK3.out;have:=HK4.out;omega
               case rel=>exact ⟨(wrap64 (x18_4+1)),(t406),(t407),(by first|rfl|(simp;done)|(simp [*];done)),H',⟨by have:=HK1.out;have:=HJ34.out;have:=HK3.out;have:=HK4.out;omega⟩,⟨by (with_reducible repeat (first|apply Kd.R_alloc|apply Kd.R_drewN|apply Kd.R_drew));exact HO_10.out⟩,⟨by (with_reducible repeat (first|apply Kd.R_alloc|apply Kd.R_drewN|apply Kd.R_drew));exact HO_394000.out⟩,⟨by (with_reducible repeat (first|apply Kd.R_alloc|apply Kd.R_drewN|apply Kd.R_drew));exact HO_394004.out⟩,⟨by (with_reducible repeat first|apply Q1|apply Q2|apply Q3);exact BK389.out⟩,⟨by (with_reducible repeat first|apply Q1|apply Q2|apply Q3);exact BK393.out⟩,⟨by repeat (with_reducible first|exact HB.out|apply Q4|apply Q5|apply Q6|apply Q7 GE389.out|apply Q7 GE393.out)⟩⟩
              rw [if_neg c82] at H
              obtain ⟨c82b0,c82b1⟩:=eqN c82
              simp only [Option.some.injEq,Prod.mk.injEq] at H
              obtain ⟨rfl,rfl⟩:=H
              obtain ⟨Ao85,co85,eo85⟩:=Kd.R_slice HO_394004.out
              subst eo85
              go_wp2_with (first|((with_reducible refine gate_callee (f:=75) rfl ?_);refine goesL_ (some 131) rfl rfl Try.func75 (by kernel_rfl) rfl #[.pointer (some ⟨gb393,0,none⟩),.int .i64 x18_4] rfl (by (try simp only [List.map_toArray,List.map_cons,List.map_nil]);first|done|rfl|(simp only [List.length_drop,List.length_take];rfl)) ?_;(with_reducible refine (impl_linting_fault.calls k4 gb393 t377 x394001_4 x394002_4 l3 x394004_3 x18_4 t405 t406 t407 _ ?side1 A81.out).mono ?_);(case side1=>exact ⟨_,_,_,_,_,_,by (with_reducible repeat first|apply Q1|apply Q2|apply Q3);exact BK393.out,(by repeat (first|exact (Kd.R_reads' HO_394000.out).2.2|(with_reducible refine Kd.C_alloc ?_ _)|(with_reducible refine Kd.C_drewN ?_ _)|(with_reducible refine Kd.C_drew ?_))),(by exact (Kd.R_reads' HO_394000.out).2.1),(by repeat (first|exact (Kd.C_below HR3.out HB.out)|(with_reducible refine Kd.C_alloc ?_ _)|(with_reducible refine Kd.C_drewN ?_ _)|(with_reducible refine Kd.C_drew ?_))),(by exact HC3.out),(by repeat (first|exact (Kd.R_reads' HO_394004.out).2.2|(with_reducible refine Kd.C_alloc ?_ _)|(with_reducible refine Kd.C_drewN ?_ _)|(with_reducible refine Kd.C_drew ?_))),(by exact (Kd.R_reads' HO_394004.out).2.1)⟩);rintro e w86 ⟨rfl,hb⟩;refine ⟨_,rfl,?_⟩;obtain ⟨hkp0_,hkp1_⟩:=impl_linting_fault.keeps A81.out;have n0_:=Aside0.mk (Kd.R_below (by (with_reducible repeat (first|apply Kd.R_alloc|apply Kd.R_drewN|apply Kd.R_drew));exact HO_10.out) hb);have n1_:=Aside0.mk (Kd.R_below (by (with_reducible repeat (first|apply Kd.R_alloc|apply Kd.R_drewN|apply Kd.R_drew));exact HO_394000.out) hb);have n2_:=Aside0.mk (Kd.R_below (by (with_reducible repeat (first|apply Kd.R_alloc|apply Kd.R_drewN|apply Kd.R_drew));exact HO_394004.out) hb);have n3_:=Aside0.mk (blk_below (g:=gb389) (o:=.cells #[.int .i64 ((rd_T86 t377 (ji32)).f0),.int .i64 ((rd_T86 t377 (ji32)).f1),.int .i64 ((rd_T86 t377 (ji32)).f2),.int .i64 ((rd_T86 t377 (ji32)).f3),.int .i64 ((rd_T86 t377 (ji32)).f4)] 86 (0,0)) (by (with_reducible repeat first|apply Q1|apply Q2|apply Q3);exact BK389.out) hb);have n4_:=Aside0.mk (blk_below (g:=gb393) (o:=.cells #[.slice (some ad388) t377.length co36,.int .i64 x394001_4,.int .i64 x394002_4,.slice A3 l3.length c3,.slice Ao85 x394004_3.length co85] 93 (0,0)) (by (with_reducible repeat first|apply Q1|apply Q2|apply Q3);exact BK393.out) hb);have n5_:=Aside0.mk (below_step (by repeat (with_reducible first|exact HB.out|apply Q4|apply Q5|apply Q6|apply Q7 GE389.out|apply Q7 GE393.out)) hb);clear HO_10;clear HO_394000;clear HO_394004;clear BK389;clear BK393;clear HB;have HO_10:=n0_;have HO_394000:=n1_;have HO_394004:=n2_;have BK389:=n3_;have BK393:=n4_;have HB:=n5_;clear n0_ n1_ n2_ n3_ n4_ n5_;(try clear hb);(try clear hb2);(try clear hk);(try clear hi);subst hkp0_;subst hkp1_))
              go_ret2
              exact ⟨by first|rfl|(simp [errW_none,errW_some]<;>rfl)|(simp only [← hji32];first|rfl|(simp [errW_none,errW_some]<;>rfl))|(simp [*,errW_none,errW_some]<;>rfl),by repeat (with_reducible first|exact HB.out|apply Q4|apply Q5|apply Q6|apply Q7 GE389.out|apply Q7 GE393.out)⟩
             rw [if_neg c80] at H
             have c80b0:decide (x18_4 < (t377.length:Int))=false:=decide_eq_false c80
             clear c80
             simp only [Option.some.injEq,Prod.mk.injEq] at H
             obtain ⟨rfl,rfl⟩:=H
             go_wp2
             go_ret2
             exact ⟨by first|rfl|(simp [errW_none,errW_some]<;>rfl)|(simp only [← hji32];first|rfl|(simp [errW_none,errW_some]<;>rfl))|(simp [*,errW_none,errW_some]<;>rfl),by repeat (with_reducible first|exact HB.out|apply Q4|apply Q5|apply Q6|apply Q7 GE389.out|apply Q7 GE393.out)⟩
          rw [if_neg c46] at H
          exact absurd H (by simp)
         rw [if_neg c45] at H
         exact absurd H (by simp)
       rw [if_neg c34] at H
       exact absurd H (by simp)
      rw [if_neg c33] at H
      exact absurd H (by simp)
    replace c12:=Bool.eq_false_iff.mpr c12
    subst c12
    rw [if_neg (show ¬ (false=true) by decide)] at H
    simp only [Option.some.injEq,Prod.mk.injEq] at H
    obtain ⟨rfl,rfl⟩:=H
    go_enter Try.func43,Try.ntmps43
    go_wp2_with (first|((with_reducible refine gate_callee (f:=48) rfl ?_);refine goesL_ (some 22) rfl rfl Try.func48 (by kernel_rfl) rfl #[.int .i64 a1] rfl (by (try simp only [List.map_toArray,List.map_cons,List.map_nil]);first|done|rfl|(simp only [List.length_drop,List.length_take];rfl)) ?_;(with_reducible refine (impl_isCodeAt.calls a1 true _ A5.out).mono ?_);rintro e w' ⟨rfl,⟨nd,rfl⟩⟩;refine ⟨_,rfl,?_⟩)|((with_reducible refine gate_callee (f:=69) rfl ?_);refine goesL_ (some 26) rfl rfl Try.func69 (by kernel_rfl) rfl #[.int .i64 a2] rfl (by (try simp only [List.map_toArray,List.map_cons,List.map_nil]);first|done|rfl|(simp only [List.length_drop,List.length_take];rfl)) ?_;(with_reducible refine (impl_FrameOK.calls a2 true _ A7.out).mono ?_);rintro e w' ⟨rfl,⟨nd,rfl⟩⟩;refine ⟨_,rfl,?_⟩)|((with_reducible refine gate_callee (f:=70) rfl ?_);refine goesL_ (some 30) rfl rfl Try.func70 (by kernel_rfl) rfl #[.string a0] rfl (by (try simp only [List.map_toArray,List.map_cons,List.map_nil]);first|done|rfl|(simp only [List.length_drop,List.length_take];rfl)) ?_;(with_reducible refine (impl_isFuncSize.calls a0 true _ A9.out).mono ?_);rintro e w' ⟨rfl,⟨nd,rfl⟩⟩;refine ⟨_,rfl,?_⟩)|((with_reducible refine gate_callee (f:=71) rfl ?_);refine goesL_ (some 34) rfl rfl Try.func71 (by kernel_rfl) rfl #[.string a0] rfl (by (try simp only [List.map_toArray,List.map_cons,List.map_nil]);first|done|rfl|(simp only [List.length_drop,List.length_take];rfl)) ?_;(with_reducible refine (impl_instrsOf.calls k a0 t377 t378 false _ A11.out).mono ?_);rintro e w87 ⟨v380,rfl,ho0,hb⟩;refine ⟨_,rfl,?_⟩;have n0_:=Aside0.mk (Kd.R_lower ho0 (below_size (by repeat (with_reducible first|exact HB.out|apply Q4|apply Q5|apply Q6))));have n1_:=Aside0.mk (below_step (by repeat (with_reducible first|exact HB.out|apply Q4|apply Q5|apply Q6)) hb);clear HB;have HO381:=n0_;have HB:=n1_;clear n0_ n1_;(try clear hb);(try clear hb2);(try clear hk);(try clear hi);(try clear ho0)))
    go_ret2
    exact ⟨by first|rfl|(simp [errW_none,errW_some]<;>rfl)|(simp [*,errW_none,errW_some]<;>rfl),by repeat (with_reducible first|exact HB.out|apply Q4|apply Q5|apply Q6)⟩
   replace c10:=Bool.eq_false_iff.mpr c10
   subst c10
   rw [if_neg (show ¬ (false=true) by decide)] at H
   simp only [Option.some.injEq,Prod.mk.injEq] at H
   obtain ⟨rfl,rfl⟩:=H
   go_enter Try.func43,Try.ntmps43
   go_wp2_with (first|((with_reducible refine gate_callee (f:=48) rfl ?_);refine goesL_ (some 22) rfl rfl Try.func48 (by kernel_rfl) rfl #[.int .i64 a1] rfl (by (try simp only [List.map_toArray,List.map_cons,List.map_nil]);first|done|rfl|(simp only [List.length_drop,List.length_take];rfl)) ?_;(with_reducible refine (impl_isCodeAt.calls a1 true _ A5.out).mono ?_);rintro e w' ⟨rfl,⟨nd,rfl⟩⟩;refine ⟨_,rfl,?_⟩)|((with_reducible refine gate_callee (f:=69) rfl ?_);refine goesL_ (some 26) rfl rfl Try.func69 (by kernel_rfl) rfl #[.int .i64 a2] rfl (by (try simp only [List.map_toArray,List.map_cons,List.map_nil]);first|done|rfl|(simp only [List.length_drop,List.length_take];rfl)) ?_;(with_reducible refine (impl_FrameOK.calls a2 true _ A7.out).mono ?_);rintro e w' ⟨rfl,⟨nd,rfl⟩⟩;refine ⟨_,rfl,?_⟩)|((with_reducible refine gate_callee (f:=70) rfl ?_);refine goesL_ (some 30) rfl rfl Try.func70 (by kernel_rfl) rfl #[.string a0] rfl (by (try simp only [List.map_toArray,List.map_cons,List.map_nil]);first|done|rfl|(simp only [List.length_drop,List.length_take];rfl)) ?_;(with_reducible refine (impl_isFuncSize.calls a0 false _ A9.out).mono ?_);rintro e w' ⟨rfl,⟨nd,rfl⟩⟩;refine ⟨_,rfl,?_⟩))
   go_ret2
   exact ⟨by first|rfl|(simp [errW_none,errW_some]<;>rfl)|(simp [*,errW_none,errW_some]<;>rfl),by repeat (with_reducible first|exact HB.out|apply Q4|apply Q5|apply Q6)⟩
  replace c8:=Bool.eq_false_iff.mpr c8
  subst c8
  rw [if_neg (show ¬ (false=true) by decide)] at H
  simp only [Option.some.injEq,Prod.mk.injEq] at H
  obtain ⟨rfl,rfl⟩:=H
  go_enter Try.func43,Try.ntmps43
  go_wp2_with (first|((with_reducible refine gate_callee (f:=48) rfl ?_);refine goesL_ (some 22) rfl rfl Try.func48 (by kernel_rfl) rfl #[.int .i64 a1] rfl (by (try simp only [List.map_toArray,List.map_cons,List.map_nil]);first|done|rfl|(simp only [List.length_drop,List.length_take];rfl)) ?_;(with_reducible refine (impl_isCodeAt.calls a1 true _ A5.out).mono ?_);rintro e w' ⟨rfl,⟨nd,rfl⟩⟩;refine ⟨_,rfl,?_⟩)|((with_reducible refine gate_callee (f:=69) rfl ?_);refine goesL_ (some 26) rfl rfl Try.func69 (by kernel_rfl) rfl #[.int .i64 a2] rfl (by (try simp only [List.map_toArray,List.map_cons,List.map_nil]);first|done|rfl|(simp only [List.length_drop,List.length_take];rfl)) ?_;(with_reducible refine (impl_FrameOK.calls a2 false _ A7.out).mono ?_);rintro e w' ⟨rfl,⟨nd,rfl⟩⟩;refine ⟨_,rfl,?_⟩))
  go_ret2
  exact ⟨by first|rfl|(simp [errW_none,errW_some]<;>rfl)|(simp [*,errW_none,errW_some]<;>rfl),by repeat (with_reducible first|exact HB.out|apply Q4|apply Q5|apply Q6)⟩
 replace c6:=Bool.eq_false_iff.mpr c6
 subst c6
 rw [if_neg (show ¬ (false=true) by decide)] at H
 simp only [Option.some.injEq,Prod.mk.injEq] at H
 obtain ⟨rfl,rfl⟩:=H
 go_enter Try.func43,Try.ntmps43
 go_wp2_with (first|((with_reducible refine gate_callee (f:=48) rfl ?_);refine goesL_ (some 22) rfl rfl Try.func48 (by kernel_rfl) rfl #[.int .i64 a1] rfl (by (try simp only [List.map_toArray,List.map_cons,List.map_nil]);first|done|rfl|(simp only [List.length_drop,List.length_take];rfl)) ?_;(with_reducible refine (impl_isCodeAt.calls a1 false _ A5.out).mono ?_);rintro e w' ⟨rfl,⟨nd,rfl⟩⟩;refine ⟨_,rfl,?_⟩))
 go_ret2
 exact ⟨by first|rfl|(simp [errW_none,errW_some]<;>rfl)|(simp [*,errW_none,errW_some]<;>rfl),by repeat (with_reducible first|exact HB.out|apply Q4|apply Q5|apply Q6)⟩
end Go.Proofs.Ythepmdlpjdlajaa.PFnExactLintFunction
