-- Written by a program for this claim.
import Derived.Test.YthepmdlpjdlajaaPFnExactLintImagex0
import Derived.Test.YthepmdlpjdlajaaPFnExactLintImagex1
import Derived.Test.YthepmdlpjdlajaaPFnExactLintImagex16
import Derived.Test.YthepmdlpjdlajaaPFnExactLintImagex20
import Derived.Test.YthepmdlpjdlajaaPFnExactLintImagex21
namespace Go.Proofs.Ythepmdlpjdlajaa.PFnExactLintImage
open Go.RowKit Go.Proofs.YthepmdlpjdlajaaW.PrintWords Go.Proofs.YthepmdlpjdlajaaW.PrintLast Go.Proofs.YthepmdlpjdlajaaW.PrintMore
attribute [local go_sem] max2_int min2_int max_two min_two max_three min_three max_four min_four   -- for this text's walks alone
set_option linter.unusedVariables false
set_option linter.unusedSimpArgs false
attribute [local go_sem high] eqA86
mutual
def impl_lint.l0:Nat→Int→Int→List Int→List (S86)→List (S86)→Int→Int→Option (Int × Int)
  | 0,_,_,_,_,_,_,_=>none
  | k+1,x1,x2,x3,x10,x42,x43,x44=>if x44 < x43 then (if 0≤x44 then (if x44 < (x42.length:Int) then (if x44 < (x10.length:Int) then (if (!(((rd_T86 x10 x44).f0)==((rd_T86 x42 x44).f0)) || (!(((rd_T86 x10 x44).f1)==((rd_T86 x42 x44).f1)) || (!(((rd_T86 x10 x44).f2)==((rd_T86 x42 x44).f2)) || (!(((rd_T86 x10 x44).f3)==((rd_T86 x42 x44).f3)) || (!(((rd_T86 x10 x44).f4)==((rd_T86 x42 x44).f4)))))))=true then (some (x44,17)) else (impl_lint.l0 k x1 x2 x3 x10 x42 x43 (wrap64 (x44+1)))) else (none)) else (none)) else (none)) else (if 0≤(wrap64 ((x10.length:Int) - 1)) then (if (wrap64 ((x10.length:Int) - 1)) < (x10.length:Int) then (if ((rd_T86 x10 (wrap64 ((x10.length:Int) - 1))).f0)=4 then (impl_lint.j1 k x1 x2 x3 x10 false) else (if ((rd_T86 x10 (wrap64 ((x10.length:Int) - 1))).f0)=3 then (impl_lint.j1 k x1 x2 x3 x10 (((rd_T86 x10 (wrap64 ((x10.length:Int) - 1))).f1) != 0)) else (impl_lint.j1 k x1 x2 x3 x10 true))) else (none)) else (none))
def impl_lint.j1:Nat→Int→Int→List Int→List (S86)→Bool→Option (Int × Int)
  | 0,_,_,_,_,_=>none
  | k+1,x1,x2,x3,x10,x75=>if x75=true then (some (wrap64 ((x10.length:Int) - 1),22)) else (if 0≤(x10.length:Int) then (if ((x10.length:Int):Int).toNat≤35184372088832 then (impl_lint.l1 k x2 x10 2 x10 x2 x1 x3 (List.replicate ((x10.length:Int):Int).toNat 0)) else (none)) else (none))
def impl_lint.l1:Nat→Int→List (S86)→Int→List (S86)→Int→Int→List Int→List Int→Option (Int × Int)
  | 0,_,_,_,_,_,_,_,_=>none
  | k+1,x2,x10,x17,x453000,x453001,x453002,x453003,x453004=>if (wrap64 (x17+3))≤(x10.length:Int) then (if 0≤x17 then (if x17≤(wrap64 (x17+3)) then ((impl_epilogue.f x2).bind fun t457=>((impl_Instr.f k ((x10.take ((wrap64 (x17+3)):Int).toNat).drop (x17:Int).toNat) t457).bind fun t460=>(if t460=true then (if x17 < (x453004.length:Int) then (if 0≤(wrap64 (x17+1)) then (if (wrap64 (x17+1)) < (x453004.length:Int) then (if 0≤(wrap64 (x17+2)) then (if (wrap64 (x17+2)) < (x453004.length:Int) then (impl_lint.l1 k x2 x10 (wrap64 (x17+1)) x453000 x453001 x453002 x453003 (((x453004.set (x17:Int).toNat 1).set ((wrap64 (x17+1)):Int).toNat 2).set ((wrap64 (x17+2)):Int).toNat 3)) else (none)) else (none)) else (none)) else (none)) else (none)) else (impl_lint.l1 k x2 x10 (wrap64 (x17+1)) x453000 x453001 x453002 x453003 x453004)))) else (none)) else (none)) else (impl_lint.l2 k x10 2 x453000 x453001 x453002 x453003 x453004)
def impl_lint.l2:Nat→List (S86)→Int→List (S86)→Int→Int→List Int→List Int→Option (Int × Int)
  | 0,_,_,_,_,_,_,_=>none
  | k+1,x10,x18,x453000,x453001,x453002,x453003,x453004=>if x18 < (x10.length:Int) then ((impl_linting_fault.f k x453000 x453001 x453002 x453003 x453004 x18).bind fun bt464=>(if bt464.1=0 then (impl_lint.l2 k x10 (wrap64 (x18+1)) x453000 bt464.2.1 bt464.2.2 x453003 x453004) else (some (x18,bt464.1)))) else (some (0,0))
end
def impl_lint.f (k:Nat) (a0:ByteArray) (a1:Int) (a2:Int) (l3:List Int):Option (Int × Int):=(impl_isCodeAt.f a1).bind fun t433=>(if t433=true then ((impl_FrameOK.f a2).bind fun t434=>(if t434=true then ((impl_isFuncSize.f a0).bind fun t435=>(if t435=true then ((impl_instrsOf.f k a0).bind fun bt436=>(if bt436.2.2=true then ((impl_prologue.f a2).bind fun t441=>(impl_lint.l0 k a1 a2 l3 bt436.1 t441 (t441.length:Int) 0)) else (some (bt436.2.1,10)))) else (some (0,8)))) else (some (0,17)))) else (some (0,4)))
theorem impl_lint.mono_l : ∀ k,(∀ y0 y1 y2 y3 y4 y5 y6,LeO (impl_lint.l0 k y0 y1 y2 y3 y4 y5 y6) (impl_lint.l0 (k+1) y0 y1 y2 y3 y4 y5 y6))∧(∀ y0 y1 y2 y3 y4,LeO (impl_lint.j1 k y0 y1 y2 y3 y4) (impl_lint.j1 (k+1) y0 y1 y2 y3 y4))∧(∀ y0 y1 y2 y3 y4 y5 y6 y7,LeO (impl_lint.l1 k y0 y1 y2 y3 y4 y5 y6 y7) (impl_lint.l1 (k+1) y0 y1 y2 y3 y4 y5 y6 y7))∧(∀ y0 y1 y2 y3 y4 y5 y6,LeO (impl_lint.l2 k y0 y1 y2 y3 y4 y5 y6) (impl_lint.l2 (k+1) y0 y1 y2 y3 y4 y5 y6))
  | 0=>⟨fun _ _ _ _ _ _ _ r h=>by simp [impl_lint.l0] at h,fun _ _ _ _ _ r h=>by simp [impl_lint.j1] at h,fun _ _ _ _ _ _ _ _ r h=>by simp [impl_lint.l1] at h,fun _ _ _ _ _ _ _ r h=>by simp [impl_lint.l2] at h⟩
  | k+1=>by
    obtain ⟨ih0,ih1,ih2,ih3⟩:=impl_lint.mono_l k
    refine ⟨?_,?_,?_,?_⟩<;>intros<;>(first|unfold impl_lint.l0|unfold impl_lint.j1|unfold impl_lint.l1|unfold impl_lint.l2)<;>repeat' (with_reducible first|apply ih0|apply ih1|apply ih2|apply ih3|apply impl_Instr.mono|apply impl_instrsOf.mono|apply impl_linting_fault.mono|apply LeO.refl|apply LeO.none|apply LeO.ite|refine LeO.bind ?_ (fun _=>?_))
theorem impl_lint.mono : ∀ a0 a1 a2 a3 k,LeO (impl_lint.f k a0 a1 a2 a3) (impl_lint.f (k+1) a0 a1 a2 a3):=by
 intro a0 a1 a2 a3 k
 obtain ⟨ih0,ih1,ih2,ih3⟩:=impl_lint.mono_l k
 unfold impl_lint.f
 repeat' (with_reducible first|apply ih0|apply ih1|apply ih2|apply ih3|apply impl_Instr.mono|apply impl_instrsOf.mono|apply impl_linting_fault.mono|apply LeO.refl|apply LeO.none|apply LeO.ite|refine LeO.bind ?_ (fun _=>?_))
def impl_lint.T23:Bool × List (List Nat × List Nat):=(true,[([],[]),([],[]),([],[]),([2],[2]),([0,1,3],[0,1,3]),([],[]),([5],[5]),([4,6,6],[4,6])])
def impl_lint.B23:List Nat:=[0,0,0,4,15,0,32,127]
theorem impl_lint.tab23:rtab .any (opsOf Try.f43 23)=impl_lint.T23:=by kernel_rfl
theorem impl_lint.bits23:waitsOk impl_lint.T23.2 impl_lint.B23=true:=by kernel_rfl
def impl_lint.T24:Bool × List (List Nat × List Nat):=(true,[([],[]),([0],[0]),([1],[1]),([2],[2]),([],[]),([],[]),([5],[5]),([6],[6]),([7],[7]),([],[]),([9],[9]),([],[]),([11],[11]),([12],[12]),([13],[13]),([],[]),([15],[15]),([3,4,0,1,2,3,4,8,14],[3,4]),([17,0,1,2,3,4,8,14],[17]),([8,10,0,1,2,3,4,5,6,7,8,9,10,14,17,18],[8,10]),([19,18,0,1,2,3,4,5,6,7,8,9,10,14,17,18],[19]),([14,16,0,1,2,3,4,5,6,7,8,9,10,11,12,13,14,15,16,17,18,19,20],[14,16]),([21,20,0,1,2,3,4,5,6,7,8,9,10,11,12,13,14,15,16,17,18,19,20],[21])])
def impl_lint.B24:List Nat:=[0,1,3,7,0,0,32,96,224,0,512,0,2048,6144,14336,0,32768,31231,162303,425983,950271,2097151,4194303]
theorem impl_lint.tab24:rtab .any (opsOf Try.f43 24)=impl_lint.T24:=by kernel_rfl
theorem impl_lint.bits24:waitsOk impl_lint.T24.2 impl_lint.B24=true:=by kernel_rfl
set_option maxHeartbeats 8000000 in
set_option maxRecDepth 100000 in
theorem impl_lint.calls (k:Nat) (a0:ByteArray) (a1:Int) (a2:Int) (A3:Option Addr) (c3:Nat) (l3:List Int) (r1:Int) (r2:Int) (w:World) (hr3:Kd.C (Kd.int .i64) w A3 l3.length l3) (hc3:l3.length≤c3) (h:impl_lint.f k a0 a1 a2 l3=some (r1,r2)) :
    Calls Try.prog 43 #[.string a0,.int .i64 a1,.int .i64 a2,.slice A3 l3.length c3] w fun e w'=>e=.returned (.tuple #[.int .i64 r1,.int .i64 r2])∧Below w.heap.size w w':=by
 have hu86:=Try.underlying86
 have hu93:=Try.underlying93
 have HR3:=Aside0.mk hr3
 have HC3:=Aside0.mk hc3
 clear hr3 hc3
 have HB:=Aside0.mk (Below.refl w.heap.size w)
 have H:((impl_isCodeAt.f a1).bind fun t433=>(if t433=true then ((impl_FrameOK.f a2).bind fun t434=>(if t434=true then ((impl_isFuncSize.f a0).bind fun t435=>(if t435=true then ((impl_instrsOf.f k a0).bind fun bt436=>(if bt436.2.2=true then ((impl_prologue.f a2).bind fun t441=>(impl_lint.l0 k a1 a2 l3 bt436.1 t441 (t441.length:Int) 0)) else (some (bt436.2.1,10)))) else (some (0,8)))) else (some (0,17)))) else (some (0,4))))=some (r1,r2):=h
 clear h
 obtain ⟨t433,A5,H⟩:=bindA H
 by_cases c6:t433=true
 ·subst c6
  rw [if_pos rfl] at H
  obtain ⟨t434,A7,H⟩:=bindA H
  by_cases c8:t434=true
  ·subst c8
   rw [if_pos rfl] at H
   obtain ⟨t435,A9,H⟩:=bindA H
   by_cases c10:t435=true
   ·subst c10
    rw [if_pos rfl] at H
    obtain ⟨⟨t436,t437,t438⟩,A11,H⟩:=bindA H
    try dsimp only at H
    by_cases c12:t438=true
    ·subst c12
     rw [if_pos rfl] at H
     obtain ⟨t441,A13,H⟩:=bindA H
     have H':=Aside0.mk H
     clear H
     go_enter Try.func43,Try.ntmps43
     go_wp2_with (first|(refine gd 48 22 Try.func48 #[.int .i64 a1] (impl_isCodeAt.calls a1 true _ A5.out) ?_;intro nd)|(refine gd 69 26 Try.func69 #[.int .i64 a2] (impl_FrameOK.calls a2 true _ A7.out) ?_;intro nd)|(refine gd 70 30 Try.func70 #[.string a0] (impl_isFuncSize.calls a0 true _ A9.out) ?_;intro nd)|(refine gl 71 34 Try.func71 #[.string a0] ?_;(with_reducible refine (impl_instrsOf.calls k a0 t436 t437 true _ A11.out).mono ?_);rintro e w14 ⟨v439,rfl,ho0,hb⟩;refine ⟨_,rfl,?_⟩;have n0_:=Aside0.mk (Kd.R_lower ho0 (below_size hbx));replace HB:=Aside0.mk (below_step hbx hb);have HO440:=n0_;clear n0_;(try clear hb);(try clear hb2);(try clear hk);(try clear hi);(try clear ho0))|(refine gl 72 42 Try.func72 #[.int .i64 a2] ?_;(with_reducible refine (impl_prologue.calls a2 t441 _ A13.out).mono ?_);rintro e w15 ⟨v442,rfl,ho0,hb⟩;refine ⟨_,rfl,?_⟩;have n0_:=Aside0.mk (Kd.R_elder' (kr HO440.out) (Kd.R_base ho0) hb);have n1_:=Aside0.mk (Kd.R_lower (Kd.R_new' ho0 (Kd.R_lt (kr HO440.out))) (below_size hbx));replace HB:=Aside0.mk (below_step hbx hb);clear HO440;have HO440:=n0_;have HO443:=n1_;clear n0_ n1_;(try clear hb);(try clear hb2);(try clear hk);(try clear hi);(try clear ho0);obtain ⟨Ao16,co16,eo16⟩:=Kd.R_slice HO443.out;subst eo16))
     go_loopg [44] k (fun kq v44 w'=>∃ (x44_1:Int),v44=.int .i64 x44_1∧Aside0 (impl_lint.l0 kq a1 a2 l3 t436 t441 (t441.length:Int) x44_1=some (r1,r2))∧Aside0 (kq≤k)∧Aside0 (Kd.R k86 86 w' w.heap.size (fun k_=>some k_≠((.slice Ao16 t441.length co16):Value).ownBlock) v439 t436)∧Aside0 (Kd.R k86 86 w' w.heap.size (fun k_=>some k_≠(v439:Value).ownBlock) (.slice Ao16 t441.length co16) t441)∧Aside0 (Below w.heap.size w w'))
     case atStart=>exact ⟨(0),rs,H',⟨Nat.le_refl _⟩,⟨by (with_reducible repeat (first|apply Kd.R_alloc|apply Kd.R_drewN|apply Kd.R_drew));exact Kd.R_mono HO440.out (fun _ hk=>hk.2)⟩,⟨by (with_reducible repeat (first|apply Kd.R_alloc|apply Kd.R_drewN|apply Kd.R_drew));exact Kd.R_mono HO443.out (fun _ hk=>hk.2)⟩,⟨hbx⟩⟩
     clear H'
     try clear c6
     try clear c8
     try clear c10
     try clear c12
     obtain ⟨x44_1,rfl,HA,HK1,HO_10,HO_42,HB⟩:=hrel
     cases gk with
     | zero=>exact absurd HA.out (by simp [impl_lint.l0])
     | succ k1 =>
      have H:=HA.out
      clear HA
      simp only [impl_lint.l0] at H
      by_cases c17:x44_1 < (t441.length:Int)
      ·rw [if_pos c17] at H
       have c17b0:decide (x44_1 < (t441.length:Int))=true:=decide_eq_true c17
       clear c17
       by_cases c18:0≤x44_1
       ·rw [if_pos c18] at H
        have c18b0:decide (0≤x44_1)=true:=decide_eq_true c18
        clear c18
        by_cases c19:x44_1 < (t441.length:Int)
        ·rw [if_pos c19] at H
         have c19b0:decide (x44_1 < (t441.length:Int))=true:=decide_eq_true c19
         clear c19
         by_cases c20:x44_1 < (t436.length:Int)
         ·rw [if_pos c20] at H
          have c20b0:decide (x44_1 < (t436.length:Int))=true:=decide_eq_true c20
          clear c20
          by_cases c21:(!(((rd_T86 t436 x44_1).f0)==((rd_T86 t441 x44_1).f0)) || (!(((rd_T86 t436 x44_1).f1)==((rd_T86 t441 x44_1).f1)) || (!(((rd_T86 t436 x44_1).f2)==((rd_T86 t441 x44_1).f2)) || (!(((rd_T86 t436 x44_1).f3)==((rd_T86 t441 x44_1).f3)) || (!(((rd_T86 t436 x44_1).f4)==((rd_T86 t441 x44_1).f4)))))))=true
          ·rw [if_pos c21] at H
           have c21b0:(!(((rd_T86 t436 x44_1).f0)==((rd_T86 t441 x44_1).f0)) || (!(((rd_T86 t436 x44_1).f1)==((rd_T86 t441 x44_1).f1)) || (!(((rd_T86 t436 x44_1).f2)==((rd_T86 t441 x44_1).f2)) || (!(((rd_T86 t436 x44_1).f3)==((rd_T86 t441 x44_1).f3)) || (!(((rd_T86 t436 x44_1).f4)==((rd_T86 t441 x44_1).f4)))))))=true:=c21
           clear c21
           simp only [Option.some.injEq,Prod.mk.injEq] at H
           obtain ⟨rfl,rfl⟩:=H
           have p444:0≤(x44_1:Int):=od
           have q444:x44_1 < (t441.length:Int):=od
           obtain ⟨ad444,e444,hx444_0,hx444_1,hx444_2,hx444_3,hx444_4⟩:=at_T86 (Kd.R_reads' HO_42.out).2.2 x44_1 p444 q444
           cases e444
           replace p444:=eq_true p444
           replace q444:=eq_true q444
           try go_wp2_with (first|(refine bv 14 #[.int .i64 0,.int .i64 0,.int .i64 0,.int .i64 0,.int .i64 0] 86 ?_;intro gb445 hg w22 hbox hb;obtain ⟨n2_,n4_⟩:=bx0 hbx hb hg;have n0_:=Aside0.mk (Kd.R_below (Kd.R_elderB (kr HO_10.out) gb445 (Nat.le_of_eq hg.symm)) hb);have n1_:=Aside0.mk (Kd.R_below (Kd.R_elderB (kr HO_42.out) gb445 (Nat.le_of_eq hg.symm)) hb);have n3_:=Aside0.mk (hbox);clear HO_10;clear HO_42;clear HB;have HO_10:=n0_;have HO_42:=n1_;have HB:=n2_;have BK445:=n3_;have GW445:=n4_;have GE445:=n4_;clear n0_ n1_ n2_ n3_ n4_;clear hb hbox hg;obtain ⟨Z23_0,Z23_1,Z23_2,Z23_3,Z23_4,Y23_0,Y23_1,Y23_2,Y23_3,Y23_4⟩:=cel5 BK445.out))
           have n0_:Aside0 (Kd.R k86 86 (((((w22.setCell ⟨gb445,0,none⟩ (.int .i64 ((rd_T86 t441 x44_1).f0))).setCell ⟨gb445,1,none⟩ (.int .i64 ((rd_T86 t441 x44_1).f1))).setCell ⟨gb445,2,none⟩ (.int .i64 ((rd_T86 t441 x44_1).f2))).setCell ⟨gb445,3,none⟩ (.int .i64 ((rd_T86 t441 x44_1).f3))).setCell ⟨gb445,4,none⟩ (.int .i64 ((rd_T86 t441 x44_1).f4))) w.heap.size (fun k_=>some k_≠(.slice (some ad444) t441.length co16:Value).ownBlock∧k_≠gb445) v439 t436):=⟨by (with_reducible repeat (first|apply Kd.R_alloc|apply Kd.R_drewN|apply Kd.R_drew));exact Kd.R_mono (Kd.R_far (p:=⟨gb445,4,none⟩) (Kd.R_far (p:=⟨gb445,3,none⟩) (Kd.R_far (p:=⟨gb445,2,none⟩) (Kd.R_far (p:=⟨gb445,1,none⟩) (Kd.R_far (p:=⟨gb445,0,none⟩) (Kd.R_mono HO_10.out (fun k_ hk=>(⟨hk,hk.2⟩:_∧k_≠gb445))) (fun _ hk=>hk.2) (.int .i64 ((rd_T86 t441 x44_1).f0))) (fun _ hk=>hk.2) (.int .i64 ((rd_T86 t441 x44_1).f1))) (fun _ hk=>hk.2) (.int .i64 ((rd_T86 t441 x44_1).f2))) (fun _ hk=>hk.2) (.int .i64 ((rd_T86 t441 x44_1).f3))) (fun _ hk=>hk.2) (.int .i64 ((rd_T86 t441 x44_1).f4))) (fun _ hk=>⟨hk.1.1,hk.1.2⟩)⟩
           have n1_:Aside0 (Kd.R k86 86 (((((w22.setCell ⟨gb445,0,none⟩ (.int .i64 ((rd_T86 t441 x44_1).f0))).setCell ⟨gb445,1,none⟩ (.int .i64 ((rd_T86 t441 x44_1).f1))).setCell ⟨gb445,2,none⟩ (.int .i64 ((rd_T86 t441 x44_1).f2))).setCell ⟨gb445,3,none⟩ (.int .i64 ((rd_T86 t441 x44_1).f3))).setCell ⟨gb445,4,none⟩ (.int .i64 ((rd_T86 t441 x44_1).f4))) w.heap.size (fun k_=>some k_≠(v439:Value).ownBlock∧k_≠gb445) (.slice (some ad444) t441.length co16) t441):=⟨by (with_reducible repeat (first|apply Kd.R_alloc|apply Kd.R_drewN|apply Kd.R_drew));exact Kd.R_mono (Kd.R_far (p:=⟨gb445,4,none⟩) (Kd.R_far (p:=⟨gb445,3,none⟩) (Kd.R_far (p:=⟨gb445,2,none⟩) (Kd.R_far (p:=⟨gb445,1,none⟩) (Kd.R_far (p:=⟨gb445,0,none⟩) (Kd.R_mono HO_42.out (fun k_ hk=>(⟨hk,hk.2⟩:_∧k_≠gb445))) (fun _ hk=>hk.2) (.int .i64 ((rd_T86 t441 x44_1).f0))) (fun _ hk=>hk.2) (.int .i64 ((rd_T86 t441 x44_1).f1))) (fun _ hk=>hk.2) (.int .i64 ((rd_T86 t441 x44_1).f2))) (fun _ hk=>hk.2) (.int .i64 ((rd_T86 t441 x44_1).f3))) (fun _ hk=>hk.2) (.int .i64 ((rd_T86 t441 x44_1).f4))) (fun _ hk=>⟨hk.1.1,hk.1.2⟩)⟩
           have n2_:Aside0 ((((((w22.setCell ⟨gb445,0,none⟩ (.int .i64 ((rd_T86 t441 x44_1).f0))).setCell ⟨gb445,1,none⟩ (.int .i64 ((rd_T86 t441 x44_1).f1))).setCell ⟨gb445,2,none⟩ (.int .i64 ((rd_T86 t441 x44_1).f2))).setCell ⟨gb445,3,none⟩ (.int .i64 ((rd_T86 t441 x44_1).f3))).setCell ⟨gb445,4,none⟩ (.int .i64 ((rd_T86 t441 x44_1).f4))).heap[gb445]?=some (.cells #[.int .i64 ((rd_T86 t441 x44_1).f0),.int .i64 ((rd_T86 t441 x44_1).f1),.int .i64 ((rd_T86 t441 x44_1).f2),.int .i64 ((rd_T86 t441 x44_1).f3),.int .i64 ((rd_T86 t441 x44_1).f4)] 86 (0,0))):=⟨qp BK445.out⟩
           have n3_:Aside0 (Below w.heap.size w (((((w22.setCell ⟨gb445,0,none⟩ (.int .i64 ((rd_T86 t441 x44_1).f0))).setCell ⟨gb445,1,none⟩ (.int .i64 ((rd_T86 t441 x44_1).f1))).setCell ⟨gb445,2,none⟩ (.int .i64 ((rd_T86 t441 x44_1).f2))).setCell ⟨gb445,3,none⟩ (.int .i64 ((rd_T86 t441 x44_1).f3))).setCell ⟨gb445,4,none⟩ (.int .i64 ((rd_T86 t441 x44_1).f4)))):=⟨hb1 GE445.out⟩
           try clear HO_10 HO_42
           try clear BK445
           try clear HB
           generalize (((((w22.setCell ⟨gb445,0,none⟩ (.int .i64 ((rd_T86 t441 x44_1).f0))).setCell ⟨gb445,1,none⟩ (.int .i64 ((rd_T86 t441 x44_1).f1))).setCell ⟨gb445,2,none⟩ (.int .i64 ((rd_T86 t441 x44_1).f2))).setCell ⟨gb445,3,none⟩ (.int .i64 ((rd_T86 t441 x44_1).f3))).setCell ⟨gb445,4,none⟩ (.int .i64 ((rd_T86 t441 x44_1).f4)))=w24 at n0_ n1_ n2_ n3_ ⊢
           have HO_10:=n0_
           have HO_42:=n1_
           have BK445:=n2_
           have HB:=n3_
           clear n0_ n1_ n2_ n3_
           replace HO_10:=Aside0.mk (Kd.R_drew HO_10.out);replace HO_42:=Aside0.mk (Kd.R_drew HO_42.out);replace BK445:=Aside0.mk (blk_drew BK445.out);replace HB:=Aside0.mk (below_drew1 HB.out)
           obtain ⟨Ao26,co26,eo26⟩:=Kd.R_slice HO_10.out
           (first|subst eo26|(injection eo26 with f1_ f2_ f3_;have f4_:=f1_.symm;have f5_:=f3_.symm;clear f1_ f2_ f3_;subst f4_;subst f5_))
           have p446:0≤(x44_1:Int):=od
           have q446:x44_1 < (t436.length:Int):=od
           obtain ⟨ad446,e446,hx446_0,hx446_1,hx446_2,hx446_3,hx446_4⟩:=at_T86 (Kd.R_reads' HO_10.out).2.2 x44_1 p446 q446
           cases e446
           replace p446:=eq_true p446
           replace q446:=eq_true q446
           refine start_ (n:=6) (S:=fun w'=>w'.cell? ⟨gb445,0,none⟩=some (.int .i64 ((rd_T86 t441 x44_1).f0))∧w'.cell? ⟨gb445,1,none⟩=some (.int .i64 ((rd_T86 t441 x44_1).f1))∧w'.cell? ⟨gb445,2,none⟩=some (.int .i64 ((rd_T86 t441 x44_1).f2))∧w'.cell? ⟨gb445,3,none⟩=some (.int .i64 ((rd_T86 t441 x44_1).f3))∧w'.cell? ⟨gb445,4,none⟩=some (.int .i64 ((rd_T86 t441 x44_1).f4))∧w'.cell? (ad446.add ((x44_1).toNat*5))=some (.int .i64 ((rd_T86 t436 x44_1).f0))∧w'.cell? ⟨(ad446.add ((x44_1).toNat*5)).block,(ad446.add ((x44_1).toNat*5)).off+1,none⟩=some (.int .i64 ((rd_T86 t436 x44_1).f1))∧w'.cell? ⟨(ad446.add ((x44_1).toNat*5)).block,(ad446.add ((x44_1).toNat*5)).off+2,none⟩=some (.int .i64 ((rd_T86 t436 x44_1).f2))∧w'.cell? ⟨(ad446.add ((x44_1).toNat*5)).block,(ad446.add ((x44_1).toNat*5)).off+3,none⟩=some (.int .i64 ((rd_T86 t436 x44_1).f3))∧w'.cell? ⟨(ad446.add ((x44_1).toNat*5)).block,(ad446.add ((x44_1).toNat*5)).off+4,none⟩=some (.int .i64 ((rd_T86 t436 x44_1).f4))) (ds:=[]) #[false,false,false,false,false,false] (by kernel_rfl) rfl rfl ⟨(blk_cell BK445.out 0).trans rfl,(blk_cell BK445.out 1).trans rfl,(blk_cell BK445.out 2).trans rfl,(blk_cell BK445.out 3).trans rfl,(blk_cell BK445.out 4).trans rfl,hx446_0,hx446_1,hx446_2,hx446_3,hx446_4⟩ (fun hHeld=>?_)
           generalize w24.drew=w25 at HO_10 HO_42 BK445 HB hx446_0 hx446_1 hx446_2 hx446_3 hx446_4 hHeld ⊢
           refine pu 0 49 #[true,false,false,false,false,false] ?_
           refine pu 1 50 #[true,true,false,false,false,false] ?_
           refine pu 2 51 #[true,true,true,false,false,false] ?_
           refine tk10 3 52 #[true,true,true,true,false,false] hHeld ?_
           refine tk10 4 53 #[true,true,true,true,true,false] hHeld ?_
           refine pu 5 54 #[true,true,true,true,true,true] ?_
           refine done_ (by kernel_rfl) ?_
           try go_wp2
           go_ret2
           exact ⟨rf,hb1 GE445.out⟩
          rw [if_neg c21] at H
          have c21b0:(!(((rd_T86 t436 x44_1).f0)==((rd_T86 t441 x44_1).f0)) || (!(((rd_T86 t436 x44_1).f1)==((rd_T86 t441 x44_1).f1)) || (!(((rd_T86 t436 x44_1).f2)==((rd_T86 t441 x44_1).f2)) || (!(((rd_T86 t436 x44_1).f3)==((rd_T86 t441 x44_1).f3)) || (!(((rd_T86 t436 x44_1).f4)==((rd_T86 t441 x44_1).f4)))))))=false:=by simpa using c21
          clear c21
          have H':=Aside0.mk H
          clear H
          have p444:0≤(x44_1:Int):=od
          have q444:x44_1 < (t441.length:Int):=od
          obtain ⟨ad444,e444,hx444_0,hx444_1,hx444_2,hx444_3,hx444_4⟩:=at_T86 (Kd.R_reads' HO_42.out).2.2 x44_1 p444 q444
          cases e444
          replace p444:=eq_true p444
          replace q444:=eq_true q444
          try go_wp2_with (first|(refine bv 14 #[.int .i64 0,.int .i64 0,.int .i64 0,.int .i64 0,.int .i64 0] 86 ?_;intro gb445 hg w27 hbox hb;obtain ⟨n2_,n4_⟩:=bx0 hbx hb hg;have n0_:=Aside0.mk (Kd.R_below (Kd.R_elderB (kr HO_10.out) gb445 (Nat.le_of_eq hg.symm)) hb);have n1_:=Aside0.mk (Kd.R_below (Kd.R_elderB (kr HO_42.out) gb445 (Nat.le_of_eq hg.symm)) hb);have n3_:=Aside0.mk (hbox);clear HO_10;clear HO_42;clear HB;have HO_10:=n0_;have HO_42:=n1_;have HB:=n2_;have BK445:=n3_;have GW445:=n4_;have GE445:=n4_;clear n0_ n1_ n2_ n3_ n4_;clear hb hbox hg;obtain ⟨Z28_0,Z28_1,Z28_2,Z28_3,Z28_4,Y28_0,Y28_1,Y28_2,Y28_3,Y28_4⟩:=cel5 BK445.out))
          have n0_:Aside0 (Kd.R k86 86 (((((w27.setCell ⟨gb445,0,none⟩ (.int .i64 ((rd_T86 t441 x44_1).f0))).setCell ⟨gb445,1,none⟩ (.int .i64 ((rd_T86 t441 x44_1).f1))).setCell ⟨gb445,2,none⟩ (.int .i64 ((rd_T86 t441 x44_1).f2))).setCell ⟨gb445,3,none⟩ (.int .i64 ((rd_T86 t441 x44_1).f3))).setCell ⟨gb445,4,none⟩ (.int .i64 ((rd_T86 t441 x44_1).f4))) w.heap.size (fun k_=>some k_≠(.slice (some ad444) t441.length co16:Value).ownBlock∧k_≠gb445) v439 t436):=⟨by (with_reducible repeat (first|apply Kd.R_alloc|apply Kd.R_drewN|apply Kd.R_drew));exact Kd.R_mono (Kd.R_far (p:=⟨gb445,4,none⟩) (Kd.R_far (p:=⟨gb445,3,none⟩) (Kd.R_far (p:=⟨gb445,2,none⟩) (Kd.R_far (p:=⟨gb445,1,none⟩) (Kd.R_far (p:=⟨gb445,0,none⟩) (Kd.R_mono HO_10.out (fun k_ hk=>(⟨hk,hk.2⟩:_∧k_≠gb445))) (fun _ hk=>hk.2) (.int .i64 ((rd_T86 t441 x44_1).f0))) (fun _ hk=>hk.2) (.int .i64 ((rd_T86 t441 x44_1).f1))) (fun _ hk=>hk.2) (.int .i64 ((rd_T86 t441 x44_1).f2))) (fun _ hk=>hk.2) (.int .i64 ((rd_T86 t441 x44_1).f3))) (fun _ hk=>hk.2) (.int .i64 ((rd_T86 t441 x44_1).f4))) (fun _ hk=>⟨hk.1.1,hk.1.2⟩)⟩
          have n1_:Aside0 (Kd.R k86 86 (((((w27.setCell ⟨gb445,0,none⟩ (.int .i64 ((rd_T86 t441 x44_1).f0))).setCell ⟨gb445,1,none⟩ (.int .i64 ((rd_T86 t441 x44_1).f1))).setCell ⟨gb445,2,none⟩ (.int .i64 ((rd_T86 t441 x44_1).f2))).setCell ⟨gb445,3,none⟩ (.int .i64 ((rd_T86 t441 x44_1).f3))).setCell ⟨gb445,4,none⟩ (.int .i64 ((rd_T86 t441 x44_1).f4))) w.heap.size (fun k_=>some k_≠(v439:Value).ownBlock∧k_≠gb445) (.slice (some ad444) t441.length co16) t441):=⟨by (with_reducible repeat (first|apply Kd.R_alloc|apply Kd.R_drewN|apply Kd.R_drew));exact Kd.R_mono (Kd.R_far (p:=⟨gb445,4,none⟩) (Kd.R_far (p:=⟨gb445,3,none⟩) (Kd.R_far (p:=⟨gb445,2,none⟩) (Kd.R_far (p:=⟨gb445,1,none⟩) (Kd.R_far (p:=⟨gb445,0,none⟩) (Kd.R_mono HO_42.out (fun k_ hk=>(⟨hk,hk.2⟩:_∧k_≠gb445))) (fun _ hk=>hk.2) (.int .i64 ((rd_T86 t441 x44_1).f0))) (fun _ hk=>hk.2) (.int .i64 ((rd_T86 t441 x44_1).f1))) (fun _ hk=>hk.2) (.int .i64 ((rd_T86 t441 x44_1).f2))) (fun _ hk=>hk.2) (.int .i64 ((rd_T86 t441 x44_1).f3))) (fun _ hk=>hk.2) (.int .i64 ((rd_T86 t441 x44_1).f4))) (fun _ hk=>⟨hk.1.1,hk.1.2⟩)⟩
          have n2_:Aside0 ((((((w27.setCell ⟨gb445,0,none⟩ (.int .i64 ((rd_T86 t441 x44_1).f0))).setCell ⟨gb445,1,none⟩ (.int .i64 ((rd_T86 t441 x44_1).f1))).setCell ⟨gb445,2,none⟩ (.int .i64 ((rd_T86 t441 x44_1).f2))).setCell ⟨gb445,3,none⟩ (.int .i64 ((rd_T86 t441 x44_1).f3))).setCell ⟨gb445,4,none⟩ (.int .i64 ((rd_T86 t441 x44_1).f4))).heap[gb445]?=some (.cells #[.int .i64 ((rd_T86 t441 x44_1).f0),.int .i64 ((rd_T86 t441 x44_1).f1),.int .i64 ((rd_T86 t441 x44_1).f2),.int .i64 ((rd_T86 t441 x44_1).f3),.int .i64 ((rd_T86 t441 x44_1).f4)] 86 (0,0))):=⟨qp BK445.out⟩
          have n3_:Aside0 (Below w.heap.size w (((((w27.setCell ⟨gb445,0,none⟩ (.int .i64 ((rd_T86 t441 x44_1).f0))).setCell ⟨gb445,1,none⟩ (.int .i64 ((rd_T86 t441 x44_1).f1))).setCell ⟨gb445,2,none⟩ (.int .i64 ((rd_T86 t441 x44_1).f2))).setCell ⟨gb445,3,none⟩ (.int .i64 ((rd_T86 t441 x44_1).f3))).setCell ⟨gb445,4,none⟩ (.int .i64 ((rd_T86 t441 x44_1).f4)))):=⟨hb1 GE445.out⟩
          try clear HO_10 HO_42
          try clear BK445
          try clear HB
          generalize (((((w27.setCell ⟨gb445,0,none⟩ (.int .i64 ((rd_T86 t441 x44_1).f0))).setCell ⟨gb445,1,none⟩ (.int .i64 ((rd_T86 t441 x44_1).f1))).setCell ⟨gb445,2,none⟩ (.int .i64 ((rd_T86 t441 x44_1).f2))).setCell ⟨gb445,3,none⟩ (.int .i64 ((rd_T86 t441 x44_1).f3))).setCell ⟨gb445,4,none⟩ (.int .i64 ((rd_T86 t441 x44_1).f4)))=w29 at n0_ n1_ n2_ n3_ ⊢
          have HO_10:=n0_
          have HO_42:=n1_
          have BK445:=n2_
          have HB:=n3_
          clear n0_ n1_ n2_ n3_
          replace HO_10:=Aside0.mk (Kd.R_drew HO_10.out);replace HO_42:=Aside0.mk (Kd.R_drew HO_42.out);replace BK445:=Aside0.mk (blk_drew BK445.out);replace HB:=Aside0.mk (below_drew1 HB.out)
          obtain ⟨Ao31,co31,eo31⟩:=Kd.R_slice HO_10.out
          (first|subst eo31|(injection eo31 with f1_ f2_ f3_;have f4_:=f1_.symm;have f5_:=f3_.symm;clear f1_ f2_ f3_;subst f4_;subst f5_))
          have p446:0≤(x44_1:Int):=od
          have q446:x44_1 < (t436.length:Int):=od
          obtain ⟨ad446,e446,hx446_0,hx446_1,hx446_2,hx446_3,hx446_4⟩:=at_T86 (Kd.R_reads' HO_10.out).2.2 x44_1 p446 q446
          cases e446
          replace p446:=eq_true p446
          replace q446:=eq_true q446
          refine start_ (n:=6) (S:=fun w'=>w'.cell? ⟨gb445,0,none⟩=some (.int .i64 ((rd_T86 t441 x44_1).f0))∧w'.cell? ⟨gb445,1,none⟩=some (.int .i64 ((rd_T86 t441 x44_1).f1))∧w'.cell? ⟨gb445,2,none⟩=some (.int .i64 ((rd_T86 t441 x44_1).f2))∧w'.cell? ⟨gb445,3,none⟩=some (.int .i64 ((rd_T86 t441 x44_1).f3))∧w'.cell? ⟨gb445,4,none⟩=some (.int .i64 ((rd_T86 t441 x44_1).f4))∧w'.cell? (ad446.add ((x44_1).toNat*5))=some (.int .i64 ((rd_T86 t436 x44_1).f0))∧w'.cell? ⟨(ad446.add ((x44_1).toNat*5)).block,(ad446.add ((x44_1).toNat*5)).off+1,none⟩=some (.int .i64 ((rd_T86 t436 x44_1).f1))∧w'.cell? ⟨(ad446.add ((x44_1).toNat*5)).block,(ad446.add ((x44_1).toNat*5)).off+2,none⟩=some (.int .i64 ((rd_T86 t436 x44_1).f2))∧w'.cell? ⟨(ad446.add ((x44_1).toNat*5)).block,(ad446.add ((x44_1).toNat*5)).off+3,none⟩=some (.int .i64 ((rd_T86 t436 x44_1).f3))∧w'.cell? ⟨(ad446.add ((x44_1).toNat*5)).block,(ad446.add ((x44_1).toNat*5)).off+4,none⟩=some (.int .i64 ((rd_T86 t436 x44_1).f4))) (ds:=[]) #[false,false,false,false,false,false] (by kernel_rfl) rfl rfl ⟨(blk_cell BK445.out 0).trans rfl,(blk_cell BK445.out 1).trans rfl,(blk_cell BK445.out 2).trans rfl,(blk_cell BK445.out 3).trans rfl,(blk_cell BK445.out 4).trans rfl,hx446_0,hx446_1,hx446_2,hx446_3,hx446_4⟩ (fun hHeld=>?_)
          generalize w29.drew=w30 at HO_10 HO_42 BK445 HB hx446_0 hx446_1 hx446_2 hx446_3 hx446_4 hHeld ⊢
          refine pu 0 49 #[true,false,false,false,false,false] ?_
          refine pu 1 50 #[true,true,false,false,false,false] ?_
          refine pu 2 51 #[true,true,true,false,false,false] ?_
          refine tk10 3 52 #[true,true,true,true,false,false] hHeld ?_
          refine tk10 4 53 #[true,true,true,true,true,false] hHeld ?_
          refine pu 5 54 #[true,true,true,true,true,true] ?_
          refine done_ (by kernel_rfl) ?_
          try go_wp2
          go_roundg k1
          case measure=>have:=HK1.out;omega
          case rel=>exact ⟨(wrap64 (x44_1+1)),rs,H',⟨by have:=HK1.out;omega⟩,⟨by (with_reducible repeat (first|apply Kd.R_alloc|apply Kd.R_drewN|apply Kd.R_drew));exact Kd.R_mono HO_10.out (fun _ hk=>hk.1)⟩,⟨by (with_reducible repeat (first|apply Kd.R_alloc|apply Kd.R_drewN|apply Kd.R_drew));exact Kd.R_mono HO_42.out (fun _ hk=>hk.1)⟩,⟨hb1 GE445.out⟩⟩
         rw [if_neg c20] at H
         exact absurd H (by simp)
        rw [if_neg c19] at H
        exact absurd H (by simp)
       rw [if_neg c18] at H
       exact absurd H (by simp)
      rw [if_neg c17] at H
      have c17b0:decide (x44_1 < (t441.length:Int))=false:=decide_eq_false c17
      clear c17
      obtain ⟨ji32,hji32⟩ : ∃ j_:Int,(wrap64 ((t436.length:Int) - 1))=j_:=⟨_,rfl⟩
      replace H:(if 0≤(ji32) then (if (ji32) < (t436.length:Int) then (if ((rd_T86 t436 (ji32)).f0)=4 then (impl_lint.j1 k1 a1 a2 l3 t436 false) else (if ((rd_T86 t436 (ji32)).f0)=3 then (impl_lint.j1 k1 a1 a2 l3 t436 (((rd_T86 t436 (ji32)).f1) != 0)) else (impl_lint.j1 k1 a1 a2 l3 t436 true))) else (none)) else (none))=some (r1,r2):=by first|(rw [hji32] at H;exact H)|(simp only [hji32] at H ⊢;exact H)
      have hji32w:(IntKind.i64.wrap ((t436.length:Int) - 1))=ji32:=(i64_w _).trans hji32
      by_cases c33:0≤(ji32)
      ·rw [if_pos c33] at H
       have c33b0:decide (0≤(ji32))=true:=decide_eq_true c33
       clear c33
       by_cases c34:(ji32) < (t436.length:Int)
       ·rw [if_pos c34] at H
        have c34b0:decide ((ji32) < (t436.length:Int))=true:=decide_eq_true c34
        clear c34
        have HC35:=Aside0.mk H
        clear H
        obtain ⟨Ao36,co36,eo36⟩:=Kd.R_slice HO_10.out
        subst eo36
        have p447:0≤((ji32):Int):=od
        have q447:(ji32) < (t436.length:Int):=od
        obtain ⟨ad447,e447,hx447_0,hx447_1,hx447_2,hx447_3,hx447_4⟩:=at_T86 (Kd.R_reads' HO_10.out).2.2 (ji32) p447 q447
        cases e447
        replace p447:=eq_true p447
        replace q447:=eq_true q447
        go_upto_region 17 with (first|(refine bv 15 #[.int .i64 0,.int .i64 0,.int .i64 0,.int .i64 0,.int .i64 0] 86 ?_;intro gb448 hg w37 hbox hb;obtain ⟨n2_,n4_⟩:=bx0 hbx hb hg;have n0_:=Aside0.mk (Kd.R_below (Kd.R_elderB (kr HO_10.out) gb448 (Nat.le_of_eq hg.symm)) hb);have n1_:=Aside0.mk (Kd.R_below (Kd.R_elderB (kr HO_42.out) gb448 (Nat.le_of_eq hg.symm)) hb);have n3_:=Aside0.mk (hbox);clear HO_10;clear HO_42;clear HB;have HO_10:=n0_;have HO_42:=n1_;have HB:=n2_;have BK448:=n3_;have GW448:=n4_;have GE448:=n4_;clear n0_ n1_ n2_ n3_ n4_;clear hb hbox hg;obtain ⟨Z38_0,Z38_1,Z38_2,Z38_3,Z38_4,Y38_0,Y38_1,Y38_2,Y38_3,Y38_4⟩:=cel5 BK448.out))
        (try simp only [Act.put,List.setIfInBounds_toArray,List.set_cons_zero,List.set_cons_succ])
        go_cut [75] (fun v75 wc=>∃ (kq:Nat) (x75_34:Bool),v75=.bool x75_34∧Aside0 (impl_lint.j1 kq a1 a2 l3 t436 x75_34=some (r1,r2))∧Aside0 (kq≤k1)∧Aside0 (Kd.R k86 86 wc w.heap.size (fun k_=>k_≠gb448) (.slice (some ad447) t436.length co36) t436)∧Aside0 (wc.heap[gb448]?=some (.cells #[.int .i64 ((rd_T86 t436 (ji32)).f0),.int .i64 ((rd_T86 t436 (ji32)).f1),.int .i64 ((rd_T86 t436 (ji32)).f2),.int .i64 ((rd_T86 t436 (ji32)).f3),.int .i64 ((rd_T86 t436 (ji32)).f4)] 86 (0,0)))∧Aside0 (Below w.heap.size w wc))
        case first=>
         have H:=HC35.out
         clear HC35
         by_cases c39:((rd_T86 t436 (ji32)).f0)=4
         ·rw [if_pos c39] at H
          obtain ⟨c39b0,c39b1⟩:=eqP c39
          clear c39
          (first|rw [c39b0]|(simp only [i64_w,i32_w];rw [c39b0])|skip)
          have H':=Aside0.mk H
          clear H
          obtain ⟨Z40_0,Z40_1,Z40_2,Z40_3,Z40_4,Y40_0,Y40_1,Y40_2,Y40_3,Y40_4⟩:=cel5 BK448.out
          go_wp2
          go_meet
          case rel=>exact ⟨_,(false),rs,H',⟨om HK1.out⟩,⟨by (with_reducible repeat (first|apply Kd.R_alloc|apply Kd.R_drewN|apply Kd.R_drew));exact Kd.R_mono (Kd.R_far (p:=⟨gb448,4,none⟩) (Kd.R_far (p:=⟨gb448,3,none⟩) (Kd.R_far (p:=⟨gb448,2,none⟩) (Kd.R_far (p:=⟨gb448,1,none⟩) (Kd.R_far (p:=⟨gb448,0,none⟩) (Kd.R_mono HO_10.out (fun k_ hk=>(⟨hk,hk.2⟩:_∧k_≠gb448))) (fun _ hk=>hk.2) (.int .i64 ((rd_T86 t436 (ji32)).f0))) (fun _ hk=>hk.2) (.int .i64 ((rd_T86 t436 (ji32)).f1))) (fun _ hk=>hk.2) (.int .i64 ((rd_T86 t436 (ji32)).f2))) (fun _ hk=>hk.2) (.int .i64 ((rd_T86 t436 (ji32)).f3))) (fun _ hk=>hk.2) (.int .i64 ((rd_T86 t436 (ji32)).f4))) (fun _ hk=>hk.1.2)⟩,⟨qp BK448.out⟩,⟨hb1 GE448.out⟩⟩
         rw [if_neg c39] at H
         obtain ⟨c39b0,c39b1⟩:=eqN c39
         (first|rw [c39b0]|(simp only [i64_w,i32_w];rw [c39b0])|skip)
         by_cases c41:((rd_T86 t436 (ji32)).f0)=3
         ·rw [if_pos c41] at H
          obtain ⟨c41b0,c41b1⟩:=eqP c41
          clear c41
          have H':=Aside0.mk H
          clear H
          obtain ⟨Z42_0,Z42_1,Z42_2,Z42_3,Z42_4,Y42_0,Y42_1,Y42_2,Y42_3,Y42_4⟩:=cel5 BK448.out
          go_wp2
          go_meet
          case rel=>exact ⟨_,((((rd_T86 t436 (ji32)).f1) != 0)),(by first|rfl|(simp;done)|(simp only [← hji32]<;>(first|rfl|simp))|(simp [*];done)),H',⟨om HK1.out⟩,⟨by (with_reducible repeat (first|apply Kd.R_alloc|apply Kd.R_drewN|apply Kd.R_drew));exact Kd.R_mono (Kd.R_far (p:=⟨gb448,4,none⟩) (Kd.R_far (p:=⟨gb448,3,none⟩) (Kd.R_far (p:=⟨gb448,2,none⟩) (Kd.R_far (p:=⟨gb448,1,none⟩) (Kd.R_far (p:=⟨gb448,0,none⟩) (Kd.R_mono HO_10.out (fun k_ hk=>(⟨hk,hk.2⟩:_∧k_≠gb448))) (fun _ hk=>hk.2) (.int .i64 ((rd_T86 t436 (ji32)).f0))) (fun _ hk=>hk.2) (.int .i64 ((rd_T86 t436 (ji32)).f1))) (fun _ hk=>hk.2) (.int .i64 ((rd_T86 t436 (ji32)).f2))) (fun _ hk=>hk.2) (.int .i64 ((rd_T86 t436 (ji32)).f3))) (fun _ hk=>hk.2) (.int .i64 ((rd_T86 t436 (ji32)).f4))) (fun _ hk=>hk.1.2)⟩,⟨qp BK448.out⟩,⟨hb1 GE448.out⟩⟩
         rw [if_neg c41] at H
         obtain ⟨c41b0,c41b1⟩:=eqN c41
         have H':=Aside0.mk H
         clear H
         obtain ⟨Z43_0,Z43_1,Z43_2,Z43_3,Z43_4,Y43_0,Y43_1,Y43_2,Y43_3,Y43_4⟩:=cel5 BK448.out
         go_wp2
         go_meet
         case rel=>exact ⟨_,(true),rs,H',⟨om HK1.out⟩,⟨by (with_reducible repeat (first|apply Kd.R_alloc|apply Kd.R_drewN|apply Kd.R_drew));exact Kd.R_mono (Kd.R_far (p:=⟨gb448,4,none⟩) (Kd.R_far (p:=⟨gb448,3,none⟩) (Kd.R_far (p:=⟨gb448,2,none⟩) (Kd.R_far (p:=⟨gb448,1,none⟩) (Kd.R_far (p:=⟨gb448,0,none⟩) (Kd.R_mono HO_10.out (fun k_ hk=>(⟨hk,hk.2⟩:_∧k_≠gb448))) (fun _ hk=>hk.2) (.int .i64 ((rd_T86 t436 (ji32)).f0))) (fun _ hk=>hk.2) (.int .i64 ((rd_T86 t436 (ji32)).f1))) (fun _ hk=>hk.2) (.int .i64 ((rd_T86 t436 (ji32)).f2))) (fun _ hk=>hk.2) (.int .i64 ((rd_T86 t436 (ji32)).f3))) (fun _ hk=>hk.2) (.int .i64 ((rd_T86 t436 (ji32)).f4))) (fun _ hk=>hk.1.2)⟩,⟨qp BK448.out⟩,⟨hb1 GE448.out⟩⟩
        clear HC35
        try clear c17b0
        try clear c33b0
        try clear c34b0
        try clear Z38_0 Z38_1 Z38_2 Z38_3 Z38_4 Y38_0 Y38_1 Y38_2 Y38_3 Y38_4
        try clear hx447_0 hx447_1 hx447_2 hx447_3 hx447_4
        try clear p447
        try clear q447
        obtain ⟨kq,x75_34,rfl,HA,HJ34,HO_10,BK448,HB⟩:=hcut
        cases kq with
        | zero=>exact absurd HA.out (by simp [impl_lint.j1])
        | succ kj34 =>
         have H:=HA.out
         clear HA
         simp only [impl_lint.j1] at H
         by_cases c44:x75_34=true
         ·subst c44
          rw [if_pos rfl] at H
          simp only [Option.some.injEq,Prod.mk.injEq] at H
          obtain ⟨rfl,rfl⟩:=H
          go_wp2
          go_ret2
          exact ⟨by first|rfl|(simp [errW_none,errW_some]<;>rfl)|(simp only [← hji32];first|rfl|(simp [errW_none,errW_some]<;>rfl))|(simp [*,errW_none,errW_some]<;>rfl),hb1 GE448.out⟩
         replace c44:=Bool.eq_false_iff.mpr c44
         subst c44
         rw [if_neg (show ¬ (false=true) by decide)] at H
         by_cases c45:0≤(t436.length:Int)
         ·rw [if_pos c45] at H
          have c45b0:=eq_true c45
          have c45b1:decide (0≤(t436.length:Int))=true:=decide_eq_true c45
          clear c45
          by_cases c46:((t436.length:Int):Int).toNat≤35184372088832
          ·rw [if_pos c46] at H
           have c46b0:=eq_true c46
           have c46b1:decide (((t436.length:Int):Int).toNat≤35184372088832)=true:=decide_eq_true c46
           clear c46
           obtain ⟨y449,hy449⟩ : ∃ y_:List Int,y_=(List.replicate ((t436.length:Int):Int).toNat 0):=⟨_,rfl⟩
           replace H:(impl_lint.l1 kj34 a2 t436 2 t436 a2 a1 l3 y449)=some (r1,r2):=by first|(rw [hy449];with_reducible exact H)|(have H2_:=(Option.bind_some _ _).symm.trans H;rw [hy449];with_reducible exact H2_)|(have H2_:=(Option.bind_some _ _).symm.trans H;with_reducible exact H2_)|with_reducible exact H|(rw [hy449];exact H)|exact H
           have Ny449:=Aside0.mk hy449
           clear hy449
           have H':=Aside0.mk H
           clear H
           go_wp2_with (first|((with_reducible refine gate_dst (N:=85) rfl ?_);refine Kd.R_make (Kd.int .i64) _ 3 rfl (N:=85) rfl 37 _ _ rfl (t436.length:Int) rfl rfl Try.underlying37 (.int .i64 0) 8 info3 rfl (by decide) (by omega) 0 (ok:=fun _=>True) (okp:=fun _=>True) rfl (fun _ hk=>hk) trivial (od) (Nat.le_trans (Nat.mul_le_mul_right _ (od:(t436.length:Int).toNat≤35184372088832)) (by omega)) (Below.refl _ _) (Nat.le_refl _) ?_;intro v450 w47 ho48 hb hg_ hnew_;clear hg_ hnew_;(first|rw [← Ny449.out] at ho48|(simp only [Int.reduceToNat] at ho48;rw [← Ny449.out] at ho48));have n0_:=Aside0.mk (Kd.R_below (kr HO_10.out) hb);have n1_:=Aside0.mk (Kd.R_lower ho48 (below_size (hb1 GE448.out)));have n2_:=Aside0.mk (blk_below (qx BK448.out) hb);have n3_:=Aside0.mk (below_step (hb1 GE448.out) hb);clear HO_10;clear BK448;clear HB;have HO_10:=n0_;have HO451:=n1_;have BK448:=n2_;have HB:=n3_;clear n0_ n1_ n2_ n3_;clear hb ho48;obtain ⟨Ao49,co49,eo49⟩:=Kd.R_slice HO451.out;subst eo49)|(refine bv 87 #[.slice (some ad447) t436.length co36,.int .i64 a2,.int .i64 a1,.slice A3 l3.length c3,.slice Ao49 y449.length co49] 93 ?_;intro gb452 hg w50 hbox hb;obtain ⟨n3_,n5_⟩:=bx0 (hb1 GE448.out) hb hg;have n0_:=Aside0.mk (Kd.R_below (kr HO_10.out) hb);have n1_:=Aside0.mk (Kd.R_below (kr HO451.out) hb);obtain ⟨n2_,n7_,n8_⟩:=bx3 (qx BK448.out) hb hg;have n4_:=Aside0.mk (hbox);clear HO_10;clear HO451;clear BK448;clear HB;have HO_10:=n0_;have HO451:=n1_;have BK448:=n2_;have HB:=n3_;have BK452:=n4_;have GW452:=n5_;have GE452:=n5_;have NB448_452:=n7_;have NB452_448:=n8_;clear n0_ n1_ n2_ n3_ n4_ n5_ n7_ n8_;clear hb hbox hg))
           go_loopg [17] kj34 (fun kq v17 w'=>∃ (x17_3:Int) (x453004_3:List Int) (u453004:Value),v17=.int .i64 x17_3∧Aside0 (impl_lint.l1 kq a2 t436 x17_3 t436 a2 a1 l3 x453004_3=some (r1,r2))∧Aside0 (kq≤kj34)∧Aside0 (Kd.R k86 86 w' w.heap.size (fun k_=>k_≠gb448) (.slice (some ad447) t436.length co36) t436)∧Aside0 (Kd.R k86 86 w' w.heap.size (fun k_=>k_≠gb448) (.slice (some ad447) t436.length co36) t436)∧Aside0 (Kd.R (Kd.int .i64) 3 w' w.heap.size (fun _=>True) u453004 x453004_3)∧Aside0 (w'.heap[gb448]?=some (.cells #[.int .i64 ((rd_T86 t436 (ji32)).f0),.int .i64 ((rd_T86 t436 (ji32)).f1),.int .i64 ((rd_T86 t436 (ji32)).f2),.int .i64 ((rd_T86 t436 (ji32)).f3),.int .i64 ((rd_T86 t436 (ji32)).f4)] 86 (0,0)))∧Aside0 (w'.heap[gb452]?=some (.cells #[(.slice (some ad447) t436.length co36),.int .i64 a2,.int .i64 a1,(.slice A3 l3.length c3),u453004] 93 (0,0)))∧Aside0 (Below w.heap.size w w'))
           case atStart=>exact ⟨(2),(y449),(.slice Ao49 y449.length co49),rs,H',⟨Nat.le_refl _⟩,⟨kr HO_10.out⟩,⟨kr HO_10.out⟩,⟨kr HO451.out⟩,⟨qx BK448.out⟩,⟨qx BK452.out⟩,⟨hb2 GE448.out GE452.out⟩⟩
           clear H'
           try clear c3
           try clear c44
           try clear c45b0
           try clear c45b1
           try clear c46b0
           try clear c46b1
           obtain ⟨x17_3,x453004_3,u453004,rfl,HA,HK3,HO_10,HO_453000,HO_453004,BK448,BK452,HB⟩:=hrel
           cases gk with
           | zero=>exact absurd HA.out (by simp [impl_lint.l1])
           | succ k3 =>
            have H:=HA.out
            clear HA
            simp only [impl_lint.l1] at H
            by_cases c51:(wrap64 (x17_3+3))≤(t436.length:Int)
            ·rw [if_pos c51] at H
             have c51b0:decide ((wrap64 (x17_3+3))≤(t436.length:Int))=true:=decide_eq_true c51
             clear c51
             by_cases c52:0≤x17_3
             ·rw [if_pos c52] at H
              have c52b0:=eq_true c52
              have c52b1:decide (0≤x17_3)=true:=decide_eq_true c52
              clear c52
              by_cases c53:x17_3≤(wrap64 (x17_3+3))
              ·rw [if_pos c53] at H
               have c53b0:=eq_true c53
               have c53b1:decide (x17_3≤(wrap64 (x17_3+3)))=true:=decide_eq_true c53
               have c54b0:=eq_true (od:(wrap64 (x17_3+3))≤(t436.length:Int))
               obtain ⟨y453,hy453⟩ : ∃ y_:List (S86),y_=((t436.take ((wrap64 (x17_3+3)):Int).toNat).drop (x17_3:Int).toNat):=⟨_,rfl⟩
               replace H:((impl_epilogue.f a2).bind fun t457=>((impl_Instr.f k3 y453 t457).bind fun t460=>(if t460=true then (if x17_3 < (x453004_3.length:Int) then (if 0≤(wrap64 (x17_3+1)) then (if (wrap64 (x17_3+1)) < (x453004_3.length:Int) then (if 0≤(wrap64 (x17_3+2)) then (if (wrap64 (x17_3+2)) < (x453004_3.length:Int) then (impl_lint.l1 k3 a2 t436 (wrap64 (x17_3+1)) t436 a2 a1 l3 (((x453004_3.set (x17_3:Int).toNat 1).set ((wrap64 (x17_3+1)):Int).toNat 2).set ((wrap64 (x17_3+2)):Int).toNat 3)) else (none)) else (none)) else (none)) else (none)) else (none)) else (impl_lint.l1 k3 a2 t436 (wrap64 (x17_3+1)) t436 a2 a1 l3 x453004_3))))=some (r1,r2):=by first|(rw [hy453];with_reducible exact H)|(have H2_:=(Option.bind_some _ _).symm.trans H;rw [hy453];with_reducible exact H2_)|(have H2_:=(Option.bind_some _ _).symm.trans H;with_reducible exact H2_)|with_reducible exact H|(rw [hy453];exact H)|exact H
               have Ny453:=Aside0.mk hy453
               clear hy453
               obtain ⟨t457,A55,H⟩:=bindA H
               obtain ⟨t460,A56,H⟩:=bindA H
               by_cases c57:t460=true
               ·subst c57
                rw [if_pos rfl] at H
                by_cases c58:x17_3 < (x453004_3.length:Int)
                ·rw [if_pos c58] at H
                 have c58b0:decide (x17_3 < (x453004_3.length:Int))=true:=decide_eq_true c58
                 clear c58
                 obtain ⟨y461,hy461⟩ : ∃ y_:List Int,y_=(x453004_3.set (x17_3:Int).toNat 1):=⟨_,rfl⟩
                 replace H:(if 0≤(wrap64 (x17_3+1)) then (if (wrap64 (x17_3+1)) < (x453004_3.length:Int) then (if 0≤(wrap64 (x17_3+2)) then (if (wrap64 (x17_3+2)) < (x453004_3.length:Int) then (impl_lint.l1 k3 a2 t436 (wrap64 (x17_3+1)) t436 a2 a1 l3 ((y461.set ((wrap64 (x17_3+1)):Int).toNat 2).set ((wrap64 (x17_3+2)):Int).toNat 3)) else (none)) else (none)) else (none)) else (none))=some (r1,r2):=by first|(rw [hy461];with_reducible exact H)|(have H2_:=(Option.bind_some _ _).symm.trans H;rw [hy461];with_reducible exact H2_)|(have H2_:=(Option.bind_some _ _).symm.trans H;with_reducible exact H2_)|with_reducible exact H|(rw [hy461];exact H)|exact H
                 have Ny461:=Aside0.mk hy461
                 clear hy461
                 obtain ⟨ji60,hji60⟩ : ∃ j_:Int,(wrap64 (x17_3+1))=j_:=⟨_,rfl⟩
                 replace H:(if 0≤(ji60) then (if (ji60) < (x453004_3.length:Int) then (if 0≤(wrap64 (x17_3+2)) then (if (wrap64 (x17_3+2)) < (x453004_3.length:Int) then (impl_lint.l1 k3 a2 t436 ji60 t436 a2 a1 l3 ((y461.set ((ji60):Int).toNat 2).set ((wrap64 (x17_3+2)):Int).toNat 3)) else (none)) else (none)) else (none)) else (none))=some (r1,r2):=by first|(rw [hji60] at H;exact H)|(simp only [hji60] at H ⊢;exact H)
                 (try rw [hji60] at A55)
                 (try rw [hji60] at A56)
                 have hji60w:(IntKind.i64.wrap (x17_3+1))=ji60:=(i64_w _).trans hji60
                 by_cases c61:0≤(ji60)
                 ·rw [if_pos c61] at H
                  have c61b0:decide (0≤(ji60))=true:=decide_eq_true c61
                  clear c61
                  by_cases c62:(ji60) < (x453004_3.length:Int)
                  ·rw [if_pos c62] at H
                   have c62b0:decide ((ji60) < (x453004_3.length:Int))=true:=decide_eq_true c62
                   clear c62
                   obtain ⟨y462,hy462⟩ : ∃ y_:List Int,y_=(y461.set ((ji60):Int).toNat 2):=⟨_,rfl⟩
                   replace H:(if 0≤(wrap64 (x17_3+2)) then (if (wrap64 (x17_3+2)) < (x453004_3.length:Int) then (impl_lint.l1 k3 a2 t436 ji60 t436 a2 a1 l3 (y462.set ((wrap64 (x17_3+2)):Int).toNat 3)) else (none)) else (none))=some (r1,r2):=by first|(rw [hy462];with_reducible exact H)|(have H2_:=(Option.bind_some _ _).symm.trans H;rw [hy462];with_reducible exact H2_)|(have H2_:=(Option.bind_some _ _).symm.trans H;with_reducible exact H2_)|with_reducible exact H|(rw [hy462];exact H)|exact H
                   have Ny462:=Aside0.mk hy462
                   clear hy462
                   obtain ⟨ji64,hji64⟩ : ∃ j_:Int,(wrap64 (x17_3+2))=j_:=⟨_,rfl⟩
                   replace H:(if 0≤(ji64) then (if (ji64) < (x453004_3.length:Int) then (impl_lint.l1 k3 a2 t436 ji60 t436 a2 a1 l3 (y462.set ((ji64):Int).toNat 3)) else (none)) else (none))=some (r1,r2):=by first|(rw [hji64] at H;exact H)|(simp only [hji64] at H ⊢;exact H)
                   (try rw [hji64] at A55)
                   (try rw [hji64] at A56)
                   have hji64w:(IntKind.i64.wrap (x17_3+2))=ji64:=(i64_w _).trans hji64
                   by_cases c65:0≤(ji64)
                   ·rw [if_pos c65] at H
                    have c65b0:decide (0≤(ji64))=true:=decide_eq_true c65
                    clear c65
                    by_cases c66:(ji64) < (x453004_3.length:Int)
                    ·rw [if_pos c66] at H
                     have c66b0:decide ((ji64) < (x453004_3.length:Int))=true:=decide_eq_true c66
                     clear c66
                     obtain ⟨y463,hy463⟩ : ∃ y_:List Int,y_=(y462.set ((ji64):Int).toNat 3):=⟨_,rfl⟩
                     replace H:(impl_lint.l1 k3 a2 t436 ji60 t436 a2 a1 l3 y463)=some (r1,r2):=by first|(rw [hy463];with_reducible exact H)|(have H2_:=(Option.bind_some _ _).symm.trans H;rw [hy463];with_reducible exact H2_)|(have H2_:=(Option.bind_some _ _).symm.trans H;with_reducible exact H2_)|with_reducible exact H|(rw [hy463];exact H)|exact H
                     have Ny463:=Aside0.mk hy463
                     clear hy463
                     have H':=Aside0.mk H
                     clear H
                     try go_wp2
                     replace HO_10:=Aside0.mk (Kd.R_drew HO_10.out);replace HO_453000:=Aside0.mk (Kd.R_drew HO_453000.out);replace HO_453004:=Aside0.mk (Kd.R_drew HO_453004.out);replace BK448:=Aside0.mk (blk_drew BK448.out);replace BK452:=Aside0.mk (blk_drew BK452.out);replace HB:=Aside0.mk (below_drew1 HB.out)
                     have q69:((wrap64 (x17_3+3)):Int)≤((t436.length:Int):Int):=od
                     obtain ⟨i069,hi069,_,hsz69,_⟩:=info_parts info86
                     have hroom69:t436.length≤co36:=(Kd.R_reads' HO_10.out).2.1
                     have hC69:Kd.C k86 _ (some ad447) t436.length t436:=(Kd.R_reads' HO_10.out).2.2
                     have ql69:(x17_3:Int)≤((wrap64 (x17_3+3)):Int):=od
                     have q069:(0:Int)≤(x17_3:Int):=od
                     have hcut69:=cut_mid (P:=Try.prog) 63 86 .i64 .i64 Try.underlying63 hi069 5 hsz69 (some ad447) t436.length co36 x17_3 (wrap64 (x17_3+3)) q069 ql69 q69 hroom69
                     have hr69:=Kd.C_mid (lo:=(x17_3:Int).toNat) (hi:=((wrap64 (x17_3+3)):Int).toNat) (c:=co36) hC69 (by omega) (by omega) hroom69
                     obtain ⟨A69,hA69⟩ : ∃ A1,A1=(if co36=(x17_3:Int).toNat then (some ad447) else ((some ad447):Option Addr).map (·.add ((x17_3:Int).toNat*5))):=⟨_,rfl⟩
                     obtain ⟨c69,hc69⟩ : ∃ c1,c1=co36 - (x17_3:Int).toNat:=⟨_,rfl⟩
                     have hy69:y453.length=((wrap64 (x17_3+3)):Int).toNat - (x17_3:Int).toNat:=(by rw [Ny453.out,List.length_drop,List.length_take]<;>omega)
                     rw [show ((t436).take ((wrap64 (x17_3+3)):Int).toNat).drop (x17_3:Int).toNat=y453 from Ny453.out.symm] at hr69
                     replace hr69:Kd.C k86 _ A69 y453.length y453:=(by rw [hA69];exact hr69)
                     rw [← hy69,← hA69,← hc69] at hcut69
                     have HR456:=Aside0.mk hr69
                     have HC456:=Aside0.mk (show y453.length≤c69 from by rw [hy69,hc69];exact Nat.sub_le_sub_right (Nat.le_trans (by omega) hroom69) _)
                     clear hr69 hC69 hroom69 hi069 hsz69 hc69
                     have KY69:=Aside0.mk hy69
                     have KA69:=Aside0.mk hA69
                     clear hy69 hA69
                     have KL69:=Aside0.mk (show ((wrap64 (x17_3+3)):Int).toNat≤t436.length from by omega)
                     have KM69:=Aside0.mk (show (x17_3:Int).toNat≤((wrap64 (x17_3+3)):Int).toNat from by omega)
                     replace q69:=eq_true q69
                     refine start_ (n:=8) (S:=fun w'=>True) (ds:=[]) #[false,false,false,false,false,false,false,false] (by kernel_rfl) rfl rfl trivial (fun hHeld=>?_);refine with_tabW impl_lint.tab23 impl_lint.bits23 (fun HT_ HW_=>?_)
                     generalize wr.drew=w68 at HO_10 HO_453000 HO_453004 BK448 BK452 HB HR456 hHeld ⊢
                     refine pu 0 95 #[true,false,false,false,false,false,false,false] ?_
                     refine pu 1 96 #[true,true,false,false,false,false,false,false] ?_
                     refine pu 2 97 #[true,true,true,false,false,false,false,false] ?_
                     refine pu 3 98 #[true,true,true,true,false,false,false,false] ?_
                     refine pu 4 99 #[true,true,true,true,true,false,false,false] ?_
                     refine pu 5 100 #[true,true,true,true,true,true,false,false] ?_
                     refine one_ (i:=6) (N:=some 101) #[true,true,true,true,true,true,true,false] rfl rfl (one_of HT_.out (by kernel_rfl)) (by decide) (fun K hK=>?_)
                     refine goes_ Try.func74 (by kernel_rfl) rfl #[.int .i64 a2] (by rfl) rfl rfl (mp_ rfl) ?_
                     with_reducible refine (impl_epilogue.calls a2 t457 _ A55.out).mono ?_
                     rintro e w70 ⟨v458,rfl,ho0,hb⟩
                     refine ⟨_,rfl,?_⟩
                     have n0_:=Aside0.mk (Kd.R_elder' (kr HO_10.out) (Kd.R_base ho0) hb)
                     have n1_:=Aside0.mk (Kd.R_elder' (kr HO_453000.out) (Kd.R_base ho0) hb)
                     have n2_:=Aside0.mk (Kd.R_below (kr HO_453004.out) hb)
                     have n3_:=Aside0.mk (Kd.R_lower (Kd.R_newB (Kd.R_new' (Kd.R_new' ho0 (Kd.R_lt (kr HO_10.out))) (Kd.R_lt (kr HO_453000.out))) (g:=gb448) (o:=.cells #[.int .i64 ((rd_T86 t436 (ji32)).f0),.int .i64 ((rd_T86 t436 (ji32)).f1),.int .i64 ((rd_T86 t436 (ji32)).f2),.int .i64 ((rd_T86 t436 (ji32)).f3),.int .i64 ((rd_T86 t436 (ji32)).f4)] 86 (0,0)) (qx BK448.out)) (below_size (hb2 GE448.out GE452.out)))
                     have n4_:=Aside0.mk (blk_below (qx BK448.out) hb)
                     have n5_:=Aside0.mk (blk_below (qx BK452.out) hb)
                     have n6_:=Aside0.mk (Kd.C_below (by repeat (first|(with_reducible exact HR456.out)|(with_reducible refine Kd.C_alloc ?_ _)|(with_reducible refine Kd.C_drewN ?_ _)|(with_reducible refine Kd.C_drew ?_)|exact HR456.out)) hb)
                     have n7_:=Aside0.mk (below_step (hb2 GE448.out GE452.out) hb)
                     clear HO_10
                     clear HO_453000
                     clear HO_453004
                     clear BK448
                     clear BK452
                     clear HR456
                     clear HB
                     have HO_10:=n0_
                     have HO_453000:=n1_
                     have HO_453004:=n2_
                     have HO459:=n3_
                     have BK448:=n4_
                     have BK452:=n5_
                     have HR456:=n6_
                     have HB:=n7_
                     clear n0_ n1_ n2_ n3_ n4_ n5_ n6_ n7_
                     try clear hb hb2
                     try clear hk
                     try clear hi
                     try clear ho0
                     obtain ⟨Ao71,co71,eo71⟩:=Kd.R_slice HO459.out
                     (first|subst eo71|(injection eo71 with f1_ f2_ f3_;have f4_:=f1_.symm;have f5_:=f3_.symm;clear f1_ f2_ f3_;subst f4_;subst f5_))
                     refine hK.out _ _ trivial (fun hHeld=>?_)
                     clear hK K
                     refine norm_ (a':=?_) ?_ ?_
                     rotate_left
                     ·show Act.put _ (some 101) _=_
                      simp only [Act.put,List.setIfInBounds_toArray,List.set_cons_zero,List.set_cons_succ,i64_w,i32_w]
                      rfl
                     refine one_ (i:=7) (N:=some 102) #[true,true,true,true,true,true,true,true] rfl rfl (one_of HT_.out (by kernel_rfl)) (by decide) (fun K hK=>?_)
                     refine goes_ Try.func73 (by kernel_rfl) rfl #[.slice A69 y453.length c69,.slice Ao71 t457.length co71] (by rfl) rfl rfl (mp_ rfl) ?_
                     with_reducible refine (impl_Instr.calls k3 _ _ y453 _ _ t457 true _ ?side1 ?side2 ?side3 ?side4 A56.out).mono ?_
                     (case side1=>repeat (first|exact (by repeat (first|(with_reducible exact HR456.out)|(with_reducible refine Kd.C_alloc ?_ _)|(with_reducible refine Kd.C_drewN ?_ _)|(with_reducible refine Kd.C_drew ?_)|exact HR456.out))|(with_reducible refine Kd.C_alloc ?_ _)|(with_reducible refine Kd.C_drewN ?_ _)|(with_reducible refine Kd.C_drew ?_)))
                     (case side2=>exact HC456.out)
                     (case side3=>repeat (first|exact (Kd.R_reads' HO459.out).2.2|(with_reducible refine Kd.C_alloc ?_ _)|(with_reducible refine Kd.C_drewN ?_ _)|(with_reducible refine Kd.C_drew ?_)))
                     (case side4=>exact (Kd.R_reads' HO459.out).2.1)
                     rintro e w' ⟨rfl,⟨nd,rfl⟩⟩
                     refine ⟨_,rfl,?_⟩
                     refine hK.out _ _ trivial (fun hHeld=>?_)
                     clear hK K
                     refine norm_ (a':=?_) ?_ ?_
                     rotate_left
                     ·show Act.put _ (some 102) _=_
                      simp only [Act.put,List.setIfInBounds_toArray,List.set_cons_zero,List.set_cons_succ,i64_w,i32_w]
                      rfl
                     refine done_ (done_of HT_.out (by kernel_rfl)) ?_
                     try go_wp2
                     (try (rw [drewN_self w70];generalize hq_:World.drewN w70 _=w70;replace HO459:Aside0 (Kd.R k86 86 w70 w.heap.size (fun k_=>some k_≠(.slice (some ad447) t436.length co36:Value).ownBlock∧some k_≠(.slice (some ad447) t436.length co36:Value).ownBlock∧k_≠gb448) (.slice Ao71 t457.length co71) t457):=⟨by rw [← hq_];exact (by (with_reducible repeat (first|apply Kd.R_alloc|apply Kd.R_drewN|apply Kd.R_drew));exact Kd.R_mono HO459.out (fun _ hk=>⟨hk.1.1.2,⟨hk.1.2,hk.2⟩⟩))⟩;replace HO_10:Aside0 (Kd.R k86 86 w70 w.heap.size (fun k_=>some k_≠(.slice Ao71 t457.length co71:Value).ownBlock∧k_≠gb448) (.slice (some ad447) t436.length co36) t436):=⟨by rw [← hq_];exact (by (with_reducible repeat (first|apply Kd.R_alloc|apply Kd.R_drewN|apply Kd.R_drew));exact Kd.R_mono HO_10.out (fun _ hk=>⟨hk.2,hk.1⟩))⟩;replace HO_453000:Aside0 (Kd.R k86 86 w70 w.heap.size (fun k_=>some k_≠(.slice Ao71 t457.length co71:Value).ownBlock∧k_≠gb448) (.slice (some ad447) t436.length co36) t436):=⟨by rw [← hq_];exact (by (with_reducible repeat (first|apply Kd.R_alloc|apply Kd.R_drewN|apply Kd.R_drew));exact Kd.R_mono HO_453000.out (fun _ hk=>⟨hk.2,hk.1⟩))⟩;replace HO_453004:Aside0 (Kd.R (Kd.int .i64) 3 w70 w.heap.size (fun _=>True) u453004 x453004_3):=⟨by rw [← hq_];exact (kr HO_453004.out)⟩;replace BK448:Aside0 (w70.heap[gb448]?=some (.cells #[.int .i64 ((rd_T86 t436 (ji32)).f0),.int .i64 ((rd_T86 t436 (ji32)).f1),.int .i64 ((rd_T86 t436 (ji32)).f2),.int .i64 ((rd_T86 t436 (ji32)).f3),.int .i64 ((rd_T86 t436 (ji32)).f4)] 86 (0,0))):=⟨by rw [← hq_];exact (qx BK448.out)⟩;replace BK452:Aside0 (w70.heap[gb452]?=some (.cells #[.slice (some ad447) t436.length co36,.int .i64 a2,.int .i64 a1,.slice A3 l3.length c3,u453004] 93 (0,0))):=⟨by rw [← hq_];exact (qx BK452.out)⟩;replace HB:Aside0 (Below w.heap.size w w70):=⟨by rw [← hq_];exact (hb2 GE448.out GE452.out)⟩;replace HR456:Aside0 (Kd.C k86 w70 A69 y453.length y453):=⟨by rw [← hq_];exact (by repeat (first|(with_reducible exact HR456.out)|(with_reducible refine Kd.C_alloc ?_ _)|(with_reducible refine Kd.C_drewN ?_ _)|(with_reducible refine Kd.C_drew ?_)|exact HR456.out))⟩;clear hq_))
                     replace HO_10:=Aside0.mk (Kd.R_drew HO_10.out);replace HO_453000:=Aside0.mk (Kd.R_drew HO_453000.out);replace HO_453004:=Aside0.mk (Kd.R_drew HO_453004.out);replace HO459:=Aside0.mk (Kd.R_drew HO459.out);replace BK448:=Aside0.mk (blk_drew BK448.out);replace BK452:=Aside0.mk (blk_drew BK452.out);replace HR456:=Aside0.mk (Kd.C_drew HR456.out);replace HB:=Aside0.mk (below_drew1 HB.out)
                     have p59:0≤(x17_3:Int):=od
                     have q59:(x17_3:Int) < ((x453004_3.length:Int):Int):=od
                     obtain ⟨go59,co59,eo59,gb59,gl59,cl59,HG59⟩:=Kd.R_form HO_453004.out (by omega)
                     (first|cases eo59|(injection eo59 with ea_ en_ ec_;(first|subst ea_|(injection ea_ with ea_;subst ea_));subst ec_;clear en_))
                     have GB59:=Aside0.mk gb59
                     have GG59:=Aside0.mk HG59
                     clear gb59 gl59 HG59
                     obtain ⟨hx59_0,hf59_0⟩:=Kd.R_celln 0 HO_453004.out (x17_3:Int) p59 q59
                     replace p59:=eq_true p59
                     replace q59:=eq_true q59
                     have HP73:=Kd.R_putn HO_453004.out (x17_3:Int) 1
                     rw [← Ny461.out] at HP73
                     have HQ73:=Aside0.mk HP73
                     clear HP73
                     have p63:0≤((ji60):Int):=od
                     have q63:((ji60):Int) < ((x453004_3.length:Int):Int):=od
                     obtain ⟨hx63_0,hf63_0⟩:=Kd.R_celln 0 HQ73.out ((ji60):Int) p63 q63
                     replace p63:=eq_true p63
                     replace q63:=eq_true q63
                     have HP74:=Kd.R_putn HQ73.out ((ji60):Int) 2
                     rw [← Ny462.out] at HP74
                     have HQ74:=Aside0.mk HP74
                     clear HP74
                     have p67:0≤((ji64):Int):=od
                     have q67:((ji64):Int) < ((x453004_3.length:Int):Int):=od
                     obtain ⟨hx67_0,hf67_0⟩:=Kd.R_celln 0 HQ74.out ((ji64):Int) p67 q67
                     replace p67:=eq_true p67
                     replace q67:=eq_true q67
                     have HP75:=Kd.R_putn HQ74.out ((ji64):Int) 3
                     rw [← Ny463.out] at HP75
                     have HQ75:=Aside0.mk HP75
                     clear HP75
                     refine start_ (n:=23) (S:=fun w'=>w'.cell? ⟨gb452,0,none⟩=some (.slice (some ad447) t436.length co36)∧w'.cell? ⟨gb452,1,none⟩=some (.int .i64 a2)∧w'.cell? ⟨gb452,2,none⟩=some (.int .i64 a1)∧w'.cell? ⟨gb452,3,none⟩=some (.slice A3 l3.length c3)∧w'.cell? ⟨gb452,4,none⟩=some (.slice (some ⟨go59,0,none⟩) x453004_3.length co59)) (ds:=[18,20,22]) #[false,false,false,false,false,false,false,false,false,false,false,false,false,false,false,false,false,false,false,false,false,false,false] (by kernel_rfl) rfl rfl ⟨(blk_cell BK452.out 0).trans rfl,(blk_cell BK452.out 1).trans rfl,(blk_cell BK452.out 2).trans rfl,(blk_cell BK452.out 3).trans rfl,(blk_cell BK452.out 4).trans rfl⟩ (fun hHeld=>?_);refine with_tabW impl_lint.tab24 impl_lint.bits24 (fun HT_ HW_=>?_)
                     generalize w70.drew=w72 at HO_10 HO_453000 HO_453004 HO459 BK448 BK452 HR456 HB GG59 HQ73 HQ74 HQ75 hf59_0 hf63_0 hf67_0 hx59_0 hx63_0 hx67_0 hHeld ⊢
                     refine pu 0 103 #[true,false,false,false,false,false,false,false,false,false,false,false,false,false,false,false,false,false,false,false,false,false,false] ?_
                     refine pu 1 104 #[true,true,false,false,false,false,false,false,false,false,false,false,false,false,false,false,false,false,false,false,false,false,false] ?_
                     refine pu 2 105 #[true,true,true,false,false,false,false,false,false,false,false,false,false,false,false,false,false,false,false,false,false,false,false] ?_
                     refine pu 4 107 #[true,true,true,false,true,false,false,false,false,false,false,false,false,false,false,false,false,false,false,false,false,false,false] ?_
                     refine pu 5 108 #[true,true,true,false,true,true,false,false,false,false,false,false,false,false,false,false,false,false,false,false,false,false,false] ?_
                     refine pu 6 109 #[true,true,true,false,true,true,true,false,false,false,false,false,false,false,false,false,false,false,false,false,false,false,false] ?_
                     refine pu 7 110 #[true,true,true,false,true,true,true,true,false,false,false,false,false,false,false,false,false,false,false,false,false,false,false] ?_
                     refine pu 9 112 #[true,true,true,false,true,true,true,true,false,true,false,false,false,false,false,false,false,false,false,false,false,false,false] ?_
                     refine pu 10 113 #[true,true,true,false,true,true,true,true,false,true,true,false,false,false,false,false,false,false,false,false,false,false,false] ?_
                     refine pu 11 114 #[true,true,true,false,true,true,true,true,false,true,true,true,false,false,false,false,false,false,false,false,false,false,false] ?_
                     refine pu 12 115 #[true,true,true,false,true,true,true,true,false,true,true,true,true,false,false,false,false,false,false,false,false,false,false] ?_
                     refine pu 13 116 #[true,true,true,false,true,true,true,true,false,true,true,true,true,true,false,false,false,false,false,false,false,false,false] ?_
                     refine pu 15 118 #[true,true,true,false,true,true,true,true,false,true,true,true,true,true,false,true,false,false,false,false,false,false,false] ?_
                     refine pu 16 119 #[true,true,true,false,true,true,true,true,false,true,true,true,true,true,false,true,true,false,false,false,false,false,false] ?_
                     refine tk5 3 106 #[true,true,true,true,true,true,true,true,false,true,true,true,true,true,false,true,true,false,false,false,false,false,false] hHeld ?_
                     refine tk5 8 111 #[true,true,true,true,true,true,true,true,true,true,true,true,true,true,false,true,true,false,false,false,false,false,false] hHeld ?_
                     refine tk5 14 117 #[true,true,true,true,true,true,true,true,true,true,true,true,true,true,true,true,true,false,false,false,false,false,false] hHeld ?_
                     refine pu 17 120 #[true,true,true,true,true,true,true,true,true,true,true,true,true,true,true,true,true,true,false,false,false,false,false] ?_
                     refine last_ (i:=18) (N:=none) #[true,true,true,true,true,true,true,true,true,true,true,true,true,true,true,true,true,true,true,false,false,false,false] rfl rfl (one_of HT_.out (by kernel_rfl)) (by decide) (fun K hK=>?_)
                     refine skip_ (w1:=?_) (by rfl) rfl ?_ ?_
                     rotate_left
                     ·go_simp
                      rfl
                     refine hK.out _ _ ?_
                     clear hK K
                     refine pu 19 121 #[true,true,true,true,true,true,true,true,true,true,true,true,true,true,true,true,true,true,true,true,false,false,false] ?_
                     refine last_ (i:=20) (N:=none) #[true,true,true,true,true,true,true,true,true,true,true,true,true,true,true,true,true,true,true,true,true,false,false] rfl rfl (one_of HT_.out (by kernel_rfl)) (by decide) (fun K hK=>?_)
                     refine skip_ (w1:=?_) (by rfl) rfl ?_ ?_
                     rotate_left
                     ·go_simp
                      rfl
                     refine hK.out _ _ ?_
                     clear hK K
                     refine pu 21 122 #[true,true,true,true,true,true,true,true,true,true,true,true,true,true,true,true,true,true,true,true,true,true,false] ?_
                     refine last_ (i:=22) (N:=none) #[true,true,true,true,true,true,true,true,true,true,true,true,true,true,true,true,true,true,true,true,true,true,true] rfl rfl (one_of HT_.out (by kernel_rfl)) (by decide) (fun K hK=>?_)
                     refine skip_ (w1:=?_) (by rfl) rfl ?_ ?_
                     rotate_left
                     ·go_simp
                      rfl
                     refine hK.out _ _ ?_
                     clear hK K
                     refine done_ (done_of HT_.out (by kernel_rfl)) ?_
                     try go_wp2
                     go_roundg k3
                     case measure=>have:=HK1.out;have:=HJ34.out;have:=HK3.out;omega
                     case rel=>exact ⟨(ji60),(y463),(.slice (some ⟨go59,0,none⟩) x453004_3.length co59),(by first|rfl|(simp;done)|(simp only [← hji60]<;>(first|rfl|simp))|(simp [*];done)),H',⟨by have:=HK1.out;have:=HJ34.out;have:=HK3.out;omega⟩,⟨by (with_reducible repeat (first|apply Kd.R_alloc|apply Kd.R_drewN|apply Kd.R_drew));exact Kd.R_mono (Kd.R_far (p:=⟨go59,((ji64):Int).toNat,none⟩) (Kd.R_far (p:=⟨go59,((ji60):Int).toNat,none⟩) (Kd.R_far (p:=⟨go59,(x17_3:Int).toNat,none⟩) (Kd.R_types HO_10.out GG59.out (by decide)) (fun _ hk=>hk.2) (.int .i64 1)) (fun _ hk=>hk.2) (.int .i64 2)) (fun _ hk=>hk.2) (.int .i64 3)) (fun _ hk=>by first|exact hk.1.1|exact hk.1.2)⟩,⟨by (with_reducible repeat (first|apply Kd.R_alloc|apply Kd.R_drewN|apply Kd.R_drew));exact Kd.R_mono (Kd.R_far (p:=⟨go59,((ji64):Int).toNat,none⟩) (Kd.R_far (p:=⟨go59,((ji60):Int).toNat,none⟩) (Kd.R_far (p:=⟨go59,(x17_3:Int).toNat,none⟩) (Kd.R_types HO_453000.out GG59.out (by decide)) (fun _ hk=>hk.2) (.int .i64 1)) (fun _ hk=>hk.2) (.int .i64 2)) (fun _ hk=>hk.2) (.int .i64 3)) (fun _ hk=>by first|exact hk.1.1|exact hk.1.2)⟩,⟨kr HQ75.out⟩,⟨by (with_reducible repeat first|apply Q1|apply Q2|apply Q3);refine blk_far ?_ (by have h_:=Kd.R_ne HO_453004.out BK448.out (by decide);intro e_;exact h_ (by rw [e_];rfl)) _;(with_reducible repeat first|apply Q1|apply Q2|apply Q3);refine blk_far ?_ (by have h_:=Kd.R_ne HO_453004.out BK448.out (by decide);intro e_;exact h_ (by rw [e_];rfl)) _;(with_reducible repeat first|apply Q1|apply Q2|apply Q3);refine blk_far ?_ (by have h_:=Kd.R_ne HO_453004.out BK448.out (by decide);intro e_;exact h_ (by rw [e_];rfl)) _;(with_reducible repeat first|apply Q1|apply Q2|apply Q3);exact BK448.out⟩,⟨by (with_reducible repeat first|apply Q1|apply Q2|apply Q3);refine blk_far ?_ (by have h_:=Kd.R_ne HO_453004.out BK452.out (by decide);intro e_;exact h_ (by rw [e_];rfl)) _;(with_reducible repeat first|apply Q1|apply Q2|apply Q3);refine blk_far ?_ (by have h_:=Kd.R_ne HO_453004.out BK452.out (by decide);intro e_;exact h_ (by rw [e_];rfl)) _;(with_reducible repeat first|apply Q1|apply Q2|apply Q3);refine blk_far ?_ (by have h_:=Kd.R_ne HO_453004.out BK452.out (by decide);intro e_;exact h_ (by rw [e_];rfl)) _;(with_reducible repeat first|apply Q1|apply Q2|apply Q3);exact BK452.out⟩,⟨hb5 GB59.out GB59.out GB59.out GE448.out GE452.out⟩⟩
                    rw [if_neg c66] at H
                    exact absurd H (by simp)
                   rw [if_neg c65] at H
                   exact absurd H (by simp)
                  rw [if_neg c62] at H
                  exact absurd H (by simp)
                 rw [if_neg c61] at H
                 exact absurd H (by simp)
                rw [if_neg c58] at H
                exact absurd H (by simp)
               replace c57:=Bool.eq_false_iff.mpr c57
               subst c57
               rw [if_neg (show ¬ (false=true) by decide)] at H
               have H':=Aside0.mk H
               clear H
               try go_wp2
               replace HO_10:=Aside0.mk (Kd.R_drew HO_10.out);replace HO_453000:=Aside0.mk (Kd.R_drew HO_453000.out);replace HO_453004:=Aside0.mk (Kd.R_drew HO_453004.out);replace BK448:=Aside0.mk (blk_drew BK448.out);replace BK452:=Aside0.mk (blk_drew BK452.out);replace HB:=Aside0.mk (below_drew1 HB.out)
               have q77:((wrap64 (x17_3+3)):Int)≤((t436.length:Int):Int):=od
               obtain ⟨i077,hi077,_,hsz77,_⟩:=info_parts info86
               have hroom77:t436.length≤co36:=(Kd.R_reads' HO_10.out).2.1
               have hC77:Kd.C k86 _ (some ad447) t436.length t436:=(Kd.R_reads' HO_10.out).2.2
               have ql77:(x17_3:Int)≤((wrap64 (x17_3+3)):Int):=od
               have q077:(0:Int)≤(x17_3:Int):=od
               have hcut77:=cut_mid (P:=Try.prog) 63 86 .i64 .i64 Try.underlying63 hi077 5 hsz77 (some ad447) t436.length co36 x17_3 (wrap64 (x17_3+3)) q077 ql77 q77 hroom77
               have hr77:=Kd.C_mid (lo:=(x17_3:Int).toNat) (hi:=((wrap64 (x17_3+3)):Int).toNat) (c:=co36) hC77 (by omega) (by omega) hroom77
               obtain ⟨A77,hA77⟩ : ∃ A1,A1=(if co36=(x17_3:Int).toNat then (some ad447) else ((some ad447):Option Addr).map (·.add ((x17_3:Int).toNat*5))):=⟨_,rfl⟩
               obtain ⟨c77,hc77⟩ : ∃ c1,c1=co36 - (x17_3:Int).toNat:=⟨_,rfl⟩
               have hy77:y453.length=((wrap64 (x17_3+3)):Int).toNat - (x17_3:Int).toNat:=(by rw [Ny453.out,List.length_drop,List.length_take]<;>omega)
               rw [show ((t436).take ((wrap64 (x17_3+3)):Int).toNat).drop (x17_3:Int).toNat=y453 from Ny453.out.symm] at hr77
               replace hr77:Kd.C k86 _ A77 y453.length y453:=(by rw [hA77];exact hr77)
               rw [← hy77,← hA77,← hc77] at hcut77
               have HR456:=Aside0.mk hr77
               have HC456:=Aside0.mk (show y453.length≤c77 from by rw [hy77,hc77];exact Nat.sub_le_sub_right (Nat.le_trans (by omega) hroom77) _)
               clear hr77 hC77 hroom77 hi077 hsz77 hc77
               have KY77:=Aside0.mk hy77
               have KA77:=Aside0.mk hA77
               clear hy77 hA77
               have KL77:=Aside0.mk (show ((wrap64 (x17_3+3)):Int).toNat≤t436.length from by omega)
               have KM77:=Aside0.mk (show (x17_3:Int).toNat≤((wrap64 (x17_3+3)):Int).toNat from by omega)
               replace q77:=eq_true q77
               refine start_ (n:=8) (S:=fun w'=>True) (ds:=[]) #[false,false,false,false,false,false,false,false] (by kernel_rfl) rfl rfl trivial (fun hHeld=>?_);refine with_tabW impl_lint.tab23 impl_lint.bits23 (fun HT_ HW_=>?_)
               generalize wr.drew=w76 at HO_10 HO_453000 HO_453004 BK448 BK452 HB HR456 hHeld ⊢
               refine pu 0 95 #[true,false,false,false,false,false,false,false] ?_
               refine pu 1 96 #[true,true,false,false,false,false,false,false] ?_
               refine pu 2 97 #[true,true,true,false,false,false,false,false] ?_
               refine pu 3 98 #[true,true,true,true,false,false,false,false] ?_
               refine pu 4 99 #[true,true,true,true,true,false,false,false] ?_
               refine pu 5 100 #[true,true,true,true,true,true,false,false] ?_
               refine one_ (i:=6) (N:=some 101) #[true,true,true,true,true,true,true,false] rfl rfl (one_of HT_.out (by kernel_rfl)) (by decide) (fun K hK=>?_)
               refine goes_ Try.func74 (by kernel_rfl) rfl #[.int .i64 a2] (by rfl) rfl rfl (mp_ rfl) ?_
               with_reducible refine (impl_epilogue.calls a2 t457 _ A55.out).mono ?_
               rintro e w78 ⟨v458,rfl,ho0,hb⟩
               refine ⟨_,rfl,?_⟩
               have n0_:=Aside0.mk (Kd.R_elder' (kr HO_10.out) (Kd.R_base ho0) hb)
               have n1_:=Aside0.mk (Kd.R_elder' (kr HO_453000.out) (Kd.R_base ho0) hb)
               have n2_:=Aside0.mk (Kd.R_below (kr HO_453004.out) hb)
               have n3_:=Aside0.mk (Kd.R_lower (Kd.R_newB (Kd.R_new' (Kd.R_new' ho0 (Kd.R_lt (kr HO_10.out))) (Kd.R_lt (kr HO_453000.out))) (g:=gb448) (o:=.cells #[.int .i64 ((rd_T86 t436 (ji32)).f0),.int .i64 ((rd_T86 t436 (ji32)).f1),.int .i64 ((rd_T86 t436 (ji32)).f2),.int .i64 ((rd_T86 t436 (ji32)).f3),.int .i64 ((rd_T86 t436 (ji32)).f4)] 86 (0,0)) (qx BK448.out)) (below_size (hb2 GE448.out GE452.out)))
               have n4_:=Aside0.mk (blk_below (qx BK448.out) hb)
               have n5_:=Aside0.mk (blk_below (qx BK452.out) hb)
               have n6_:=Aside0.mk (Kd.C_below (by repeat (first|(with_reducible exact HR456.out)|(with_reducible refine Kd.C_alloc ?_ _)|(with_reducible refine Kd.C_drewN ?_ _)|(with_reducible refine Kd.C_drew ?_)|exact HR456.out)) hb)
               have n7_:=Aside0.mk (below_step (hb2 GE448.out GE452.out) hb)
               clear HO_10
               clear HO_453000
               clear HO_453004
               clear BK448
               clear BK452
               clear HR456
               clear HB
               have HO_10:=n0_
               have HO_453000:=n1_
               have HO_453004:=n2_
               have HO459:=n3_
               have BK448:=n4_
               have BK452:=n5_
               have HR456:=n6_
               have HB:=n7_
               clear n0_ n1_ n2_ n3_ n4_ n5_ n6_ n7_
               try clear hb hb2
               try clear hk
               try clear hi
               try clear ho0
               obtain ⟨Ao79,co79,eo79⟩:=Kd.R_slice HO459.out
               (first|subst eo79|(injection eo79 with f1_ f2_ f3_;have f4_:=f1_.symm;have f5_:=f3_.symm;clear f1_ f2_ f3_;subst f4_;subst f5_))
               refine hK.out _ _ trivial (fun hHeld=>?_)
               clear hK K
               refine norm_ (a':=?_) ?_ ?_
               rotate_left
               ·show Act.put _ (some 101) _=_
                simp only [Act.put,List.setIfInBounds_toArray,List.set_cons_zero,List.set_cons_succ,i64_w,i32_w]
                rfl
               refine one_ (i:=7) (N:=some 102) #[true,true,true,true,true,true,true,true] rfl rfl (one_of HT_.out (by kernel_rfl)) (by decide) (fun K hK=>?_)
               refine goes_ Try.func73 (by kernel_rfl) rfl #[.slice A77 y453.length c77,.slice Ao79 t457.length co79] (by rfl) rfl rfl (mp_ rfl) ?_
               with_reducible refine (impl_Instr.calls k3 _ _ y453 _ _ t457 false _ ?side1 ?side2 ?side3 ?side4 A56.out).mono ?_
               (case side1=>repeat (first|exact (by repeat (first|(with_reducible exact HR456.out)|(with_reducible refine Kd.C_alloc ?_ _)|(with_reducible refine Kd.C_drewN ?_ _)|(with_reducible refine Kd.C_drew ?_)|exact HR456.out))|(with_reducible refine Kd.C_alloc ?_ _)|(with_reducible refine Kd.C_drewN ?_ _)|(with_reducible refine Kd.C_drew ?_)))
               (case side2=>exact HC456.out)
               (case side3=>repeat (first|exact (Kd.R_reads' HO459.out).2.2|(with_reducible refine Kd.C_alloc ?_ _)|(with_reducible refine Kd.C_drewN ?_ _)|(with_reducible refine Kd.C_drew ?_)))
               (case side4=>exact (Kd.R_reads' HO459.out).2.1)
               rintro e w' ⟨rfl,⟨nd,rfl⟩⟩
               refine ⟨_,rfl,?_⟩
               refine hK.out _ _ trivial (fun hHeld=>?_)
               clear hK K
               refine norm_ (a':=?_) ?_ ?_
               rotate_left
               ·show Act.put _ (some 102) _=_
                simp only [Act.put,List.setIfInBounds_toArray,List.set_cons_zero,List.set_cons_succ,i64_w,i32_w]
                rfl
               refine done_ (done_of HT_.out (by kernel_rfl)) ?_
               try go_wp2
               go_roundg k3
               case measure=>have:=HK1.out;have:=HJ34.out;have:=HK3.out;omega
               case rel=>exact ⟨(wrap64 (x17_3+1)),(x453004_3),(u453004),rs,H',⟨by have:=HK1.out;have:=HJ34.out;have:=HK3.out;omega⟩,⟨by (with_reducible repeat (first|apply Kd.R_alloc|apply Kd.R_drewN|apply Kd.R_drew));exact Kd.R_mono HO_10.out (fun _ hk=>hk.1)⟩,⟨by (with_reducible repeat (first|apply Kd.R_alloc|apply Kd.R_drewN|apply Kd.R_drew));exact Kd.R_mono HO_453000.out (fun _ hk=>hk.1)⟩,⟨kr HO_453004.out⟩,⟨qx BK448.out⟩,⟨qx BK452.out⟩,⟨hb2 GE448.out GE452.out⟩⟩
              rw [if_neg c53] at H
              exact absurd H (by simp)
             rw [if_neg c52] at H
             exact absurd H (by simp)
            rw [if_neg c51] at H
            have c51b0:decide ((wrap64 (x17_3+3))≤(t436.length:Int))=false:=decide_eq_false c51
            clear c51
            have H':=Aside0.mk H
            clear H
            go_wp2
            go_loopg [18] k3 (fun kq v18 w'=>∃ (x18_4:Int) (x453001_4:Int) (x453002_4:Int),v18=.int .i64 x18_4∧Aside0 (impl_lint.l2 kq t436 x18_4 t436 x453001_4 x453002_4 l3 x453004_3=some (r1,r2))∧Aside0 (kq≤k3)∧Aside0 (Kd.R k86 86 w' w.heap.size (fun k_=>k_≠gb448) (.slice (some ad447) t436.length co36) t436)∧Aside0 (Kd.R k86 86 w' w.heap.size (fun k_=>k_≠gb448) (.slice (some ad447) t436.length co36) t436)∧Aside0 (Kd.R (Kd.int .i64) 3 w' w.heap.size (fun _=>True) u453004 x453004_3)∧Aside0 (w'.heap[gb448]?=some (.cells #[.int .i64 ((rd_T86 t436 (ji32)).f0),.int .i64 ((rd_T86 t436 (ji32)).f1),.int .i64 ((rd_T86 t436 (ji32)).f2),.int .i64 ((rd_T86 t436 (ji32)).f3),.int .i64 ((rd_T86 t436 (ji32)).f4)] 86 (0,0)))∧Aside0 (w'.heap[gb452]?=some (.cells #[(.slice (some ad447) t436.length co36),.int .i64 x453001_4,.int .i64 x453002_4,(.slice A3 l3.length c3),u453004] 93 (0,0)))∧Aside0 (Below w.heap.size w w'))
            case atStart=>exact ⟨(2),(a2),(a1),rs,H',⟨Nat.le_refl _⟩,⟨kr HO_10.out⟩,⟨kr HO_453000.out⟩,⟨kr HO_453004.out⟩,⟨qx BK448.out⟩,⟨qx BK452.out⟩,⟨hb2 GE448.out GE452.out⟩⟩
            clear H'
            try clear c3
            try clear c51b0
            obtain ⟨x18_4,x453001_4,x453002_4,rfl,HA,HK4,HO_10,HO_453000,HO_453004,BK448,BK452,HB⟩:=hrel
            cases gk with
            | zero=>exact absurd HA.out (by simp [impl_lint.l2])
            | succ k4 =>
             have H:=HA.out
             clear HA
             simp only [impl_lint.l2] at H
             by_cases c80:x18_4 < (t436.length:Int)
             ·rw [if_pos c80] at H
              have c80b0:decide (x18_4 < (t436.length:Int))=true:=decide_eq_true c80
              clear c80
              obtain ⟨⟨t464,t465,t466⟩,A81,H⟩:=bindA H
              try dsimp only at H
              by_cases c82:t464=0
              ·rw [if_pos c82] at H
               obtain ⟨c82b0,c82b1⟩:=eqP c82
               clear c82
               have H':=Aside0.mk H
               clear H
               obtain ⟨Ao83,co83,eo83⟩:=Kd.R_slice HO_453004.out
               subst eo83
               go_wp2_with (first|(refine gl 75 131 Try.func75 #[.pointer (some ⟨gb452,0,none⟩),.int .i64 x18_4] ?_;(with_reducible refine (impl_linting_fault.calls k4 gb452 t436 x453001_4 x453002_4 l3 x453004_3 x18_4 t464 t465 t466 _ ?side1 A81.out).mono ?_);(case side1=>exact ⟨_,_,_,_,_,_,by (with_reducible repeat first|apply Q1|apply Q2|apply Q3);exact BK452.out,(by repeat (first|exact (Kd.R_reads' HO_453000.out).2.2|(with_reducible refine Kd.C_alloc ?_ _)|(with_reducible refine Kd.C_drewN ?_ _)|(with_reducible refine Kd.C_drew ?_))),(by exact (Kd.R_reads' HO_453000.out).2.1),(by repeat (first|exact (Kd.C_below HR3.out HB.out)|(with_reducible refine Kd.C_alloc ?_ _)|(with_reducible refine Kd.C_drewN ?_ _)|(with_reducible refine Kd.C_drew ?_))),(by exact HC3.out),(by repeat (first|exact (Kd.R_reads' HO_453004.out).2.2|(with_reducible refine Kd.C_alloc ?_ _)|(with_reducible refine Kd.C_drewN ?_ _)|(with_reducible refine Kd.C_drew ?_))),(by exact (Kd.R_reads' HO_453004.out).2.1)⟩);rintro e w84 ⟨rfl,hb⟩;refine ⟨_,rfl,?_⟩;obtain ⟨hkp0_,hkp1_⟩:=impl_linting_fault.keeps A81.out;have n0_:=Aside0.mk (Kd.R_below (kr HO_10.out) hb);have n1_:=Aside0.mk (Kd.R_below (kr HO_453000.out) hb);have n2_:=Aside0.mk (Kd.R_below (kr HO_453004.out) hb);have n3_:=Aside0.mk (blk_below (qx BK448.out) hb);have n4_:=Aside0.mk (blk_below (qx BK452.out) hb);replace HB:=Aside0.mk (below_step (hb2 GE448.out GE452.out) hb);clear HO_10;clear HO_453000;clear HO_453004;clear BK448;clear BK452;have HO_10:=n0_;have HO_453000:=n1_;have HO_453004:=n2_;have BK448:=n3_;have BK452:=n4_;clear n0_ n1_ n2_ n3_ n4_;(try clear hb);(try clear hb2);(try clear hk);(try clear hi);subst hkp0_;subst hkp1_))
               go_roundg k4
               case measure=>have:=HK1.out;have:=HJ34.out;have:=HK3.out;have:=HK4.out;omega
               case rel=>exact ⟨(wrap64 (x18_4+1)),(t465),(t466),rs,H',⟨by have:=HK1.out;have:=HJ34.out;have:=HK3.out;have:=HK4.out;omega⟩,⟨kr HO_10.out⟩,⟨kr HO_453000.out⟩,⟨kr HO_453004.out⟩,⟨qx BK448.out⟩,⟨qx BK452.out⟩,⟨hb2 GE448.out GE452.out⟩⟩
              rw [if_neg c82] at H
              obtain ⟨c82b0,c82b1⟩:=eqN c82
              simp only [Option.some.injEq,Prod.mk.injEq] at H
              obtain ⟨rfl,rfl⟩:=H
              obtain ⟨Ao85,co85,eo85⟩:=Kd.R_slice HO_453004.out
              subst eo85
              go_wp2_with (first|(refine gl 75 131 Try.func75 #[.pointer (some ⟨gb452,0,none⟩),.int .i64 x18_4] ?_;(with_reducible refine (impl_linting_fault.calls k4 gb452 t436 x453001_4 x453002_4 l3 x453004_3 x18_4 t464 t465 t466 _ ?side1 A81.out).mono ?_);(case side1=>exact ⟨_,_,_,_,_,_,by (with_reducible repeat first|apply Q1|apply Q2|apply Q3);exact BK452.out,(by repeat (first|exact (Kd.R_reads' HO_453000.out).2.2|(with_reducible refine Kd.C_alloc ?_ _)|(with_reducible refine Kd.C_drewN ?_ _)|(with_reducible refine Kd.C_drew ?_))),(by exact (Kd.R_reads' HO_453000.out).2.1),(by repeat (first|exact (Kd.C_below HR3.out HB.out)|(with_reducible refine Kd.C_alloc ?_ _)|(with_reducible refine Kd.C_drewN ?_ _)|(with_reducible refine Kd.C_drew ?_))),(by exact HC3.out),(by repeat (first|exact (Kd.R_reads' HO_453004.out).2.2|(with_reducible refine Kd.C_alloc ?_ _)|(with_reducible refine Kd.C_drewN ?_ _)|(with_reducible refine Kd.C_drew ?_))),(by exact (Kd.R_reads' HO_453004.out).2.1)⟩);rintro e w86 ⟨rfl,hb⟩;refine ⟨_,rfl,?_⟩;obtain ⟨hkp0_,hkp1_⟩:=impl_linting_fault.keeps A81.out;have n0_:=Aside0.mk (Kd.R_below (kr HO_10.out) hb);have n1_:=Aside0.mk (Kd.R_below (kr HO_453000.out) hb);have n2_:=Aside0.mk (Kd.R_below (kr HO_453004.out) hb);have n3_:=Aside0.mk (blk_below (qx BK448.out) hb);have n4_:=Aside0.mk (blk_below (qx BK452.out) hb);replace HB:=Aside0.mk (below_step (hb2 GE448.out GE452.out) hb);clear HO_10;clear HO_453000;clear HO_453004;clear BK448;clear BK452;have HO_10:=n0_;have HO_453000:=n1_;have HO_453004:=n2_;have BK448:=n3_;have BK452:=n4_;clear n0_ n1_ n2_ n3_ n4_;(try clear hb);(try clear hb2);(try clear hk);(try clear hi);subst hkp0_;subst hkp1_))
              go_ret2
              exact ⟨by first|rfl|(simp [errW_none,errW_some]<;>rfl)|(simp only [← hji32];first|rfl|(simp [errW_none,errW_some]<;>rfl))|(simp [*,errW_none,errW_some]<;>rfl),hb2 GE448.out GE452.out⟩
             rw [if_neg c80] at H
             have c80b0:decide (x18_4 < (t436.length:Int))=false:=decide_eq_false c80
             clear c80
             simp only [Option.some.injEq,Prod.mk.injEq] at H
             obtain ⟨rfl,rfl⟩:=H
             go_wp2
             go_ret2
             exact ⟨by first|rfl|(simp [errW_none,errW_some]<;>rfl)|(simp only [← hji32];first|rfl|(simp [errW_none,errW_some]<;>rfl))|(simp [*,errW_none,errW_some]<;>rfl),hb2 GE448.out GE452.out⟩
          rw [if_neg c46] at H
          exact absurd H (by simp)
         rw [if_neg c45] at H
         exact absurd H (by simp)
       rw [if_neg c34] at H
       exact absurd H (by simp)
      rw [if_neg c33] at H
      exact absurd H (by simp)
    replace c12:=Bool.eq_false_iff.mpr c12
    subst c12
    rw [if_neg (show ¬ (false=true) by decide)] at H
    simp only [Option.some.injEq,Prod.mk.injEq] at H
    obtain ⟨rfl,rfl⟩:=H
    go_enter Try.func43,Try.ntmps43
    go_wp2_with (first|(refine gd 48 22 Try.func48 #[.int .i64 a1] (impl_isCodeAt.calls a1 true _ A5.out) ?_;intro nd)|(refine gd 69 26 Try.func69 #[.int .i64 a2] (impl_FrameOK.calls a2 true _ A7.out) ?_;intro nd)|(refine gd 70 30 Try.func70 #[.string a0] (impl_isFuncSize.calls a0 true _ A9.out) ?_;intro nd)|(refine gl 71 34 Try.func71 #[.string a0] ?_;(with_reducible refine (impl_instrsOf.calls k a0 t436 t437 false _ A11.out).mono ?_);rintro e w87 ⟨v439,rfl,ho0,hb⟩;refine ⟨_,rfl,?_⟩;have n0_:=Aside0.mk (Kd.R_lower ho0 (below_size hbx));replace HB:=Aside0.mk (below_step hbx hb);have HO440:=n0_;clear n0_;(try clear hb);(try clear hb2);(try clear hk);(try clear hi);(try clear ho0)))
    go_ret2
    exact ⟨rf,hbx⟩
   replace c10:=Bool.eq_false_iff.mpr c10
   subst c10
   rw [if_neg (show ¬ (false=true) by decide)] at H
   simp only [Option.some.injEq,Prod.mk.injEq] at H
   obtain ⟨rfl,rfl⟩:=H
   go_enter Try.func43,Try.ntmps43
   go_wp2_with (first|(refine gd 48 22 Try.func48 #[.int .i64 a1] (impl_isCodeAt.calls a1 true _ A5.out) ?_;intro nd)|(refine gd 69 26 Try.func69 #[.int .i64 a2] (impl_FrameOK.calls a2 true _ A7.out) ?_;intro nd)|(refine gd 70 30 Try.func70 #[.string a0] (impl_isFuncSize.calls a0 false _ A9.out) ?_;intro nd))
   go_ret2
   exact ⟨rf,hbx⟩
  replace c8:=Bool.eq_false_iff.mpr c8
  subst c8
  rw [if_neg (show ¬ (false=true) by decide)] at H
  simp only [Option.some.injEq,Prod.mk.injEq] at H
  obtain ⟨rfl,rfl⟩:=H
  go_enter Try.func43,Try.ntmps43
  go_wp2_with (first|(refine gd 48 22 Try.func48 #[.int .i64 a1] (impl_isCodeAt.calls a1 true _ A5.out) ?_;intro nd)|(refine gd 69 26 Try.func69 #[.int .i64 a2] (impl_FrameOK.calls a2 false _ A7.out) ?_;intro nd))
  go_ret2
  exact ⟨rf,hbx⟩
 replace c6:=Bool.eq_false_iff.mpr c6
 subst c6
 rw [if_neg (show ¬ (false=true) by decide)] at H
 simp only [Option.some.injEq,Prod.mk.injEq] at H
 obtain ⟨rfl,rfl⟩:=H
 go_enter Try.func43,Try.ntmps43
 go_wp2_with (first|(refine gd 48 22 Try.func48 #[.int .i64 a1] (impl_isCodeAt.calls a1 false _ A5.out) ?_;intro nd))
 go_ret2
 exact ⟨rf,hbx⟩
end Go.Proofs.Ythepmdlpjdlajaa.PFnExactLintImage
