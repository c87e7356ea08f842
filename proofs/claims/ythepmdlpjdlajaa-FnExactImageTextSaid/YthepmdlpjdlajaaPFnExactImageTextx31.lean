-- Written by a program for this claim.
import Derived.Test.YthepmdlpjdlajaaZFnExactImageTexta
import Derived.Test.YthepmdlpjdlajaaPFnExactLintImagex2
import Derived.Test.YthepmdlpjdlajaaPFnExactLintImagex3
import Derived.Test.YthepmdlpjdlajaaPFnExactLintImagex16
import Derived.Test.YthepmdlpjdlajaaPFnExactLintImagex24
import Derived.Test.YthepmdlpjdlajaaPFnExactImageTextx30
namespace Go.Proofs.Ythepmdlpjdlajaa.PFnExactLintImage
open Go.RowKit Go.Proofs.YthepmdlpjdlajaaW.PrintWords Go.Proofs.YthepmdlpjdlajaaW.PrintLast Go.Proofs.YthepmdlpjdlajaaW.PrintMore
attribute [local go_sem] max2_int min2_int max_two min_two max_three min_three max_four min_four   -- for this text's walks alone
set_option linter.unusedVariables false
set_option linter.unusedSimpArgs false
def spec_l07Text.l0:Nat→ByteArray→Int→ByteArray→ByteArray→List (S54)→Option (ByteArray)
  | 0,_,_,_,_,_=>none
  | k+1,x3,x4,x346000,x346001,x346002=>if x4 < (x346002.length:Int) then (if 0≤x4 then ((spec_l07Name.f ((rd_T54 x346002 x4).f0)).bind fun t353=>((spec_l01Little.f k ((rd_T54 x346002 x4).f1) 1).bind fun t354=>(if t353.size+t354.size≤9223372036854775807 then ((spec_l01Little.f k ((rd_T54 x346002 x4).f2) 2).bind fun t355=>(if (t353 ++ t354).size+t355.size≤9223372036854775807 then ((spec_l01Little.f k ((rd_T54 x346002 x4).f3) 2).bind fun t356=>(if ((t353 ++ t354) ++ t355).size+t356.size≤9223372036854775807 then ((spec_l01Little.f k ((rd_T54 x346002 x4).f4) 1).bind fun t357=>(if (((t353 ++ t354) ++ t355) ++ t356).size+t357.size≤9223372036854775807 then (if x3.size+((((t353 ++ t354) ++ t355) ++ t356) ++ t357).size≤9223372036854775807 then (spec_l07Text.l0 k (x3 ++ ((((t353 ++ t354) ++ t355) ++ t356) ++ t357)) (wrap64 (x4+1)) x346000 x346001 x346002) else (none)) else (none))) else (none))) else (none))) else (none)))) else (none)) else ((spec_l01Sum.f k x3).bind fun t349=>((spec_l01Little.f k t349 4).bind fun t350=>(if x3.size+t350.size≤9223372036854775807 then (some (x3 ++ t350)) else (none))))
def spec_l07Text.f (k:Nat) (a0_0:ByteArray) (a0_1:ByteArray) (l0_2:List (S54)):Option (ByteArray):=(spec_l01Little.f k (a0_0.size:Int) 2).bind fun t346=>(if 4+t346.size≤9223372036854775807 then (if ((⟨#[80,73,77,49]⟩:ByteArray) ++ t346).size+a0_0.size≤9223372036854775807 then ((spec_l01Little.f k (a0_1.size:Int) 2).bind fun t347=>(if (((⟨#[80,73,77,49]⟩:ByteArray) ++ t346) ++ a0_0).size+t347.size≤9223372036854775807 then (if ((((⟨#[80,73,77,49]⟩:ByteArray) ++ t346) ++ a0_0) ++ t347).size+a0_1.size≤9223372036854775807 then ((spec_l01Little.f k (l0_2.length:Int) 1).bind fun t348=>(if (((((⟨#[80,73,77,49]⟩:ByteArray) ++ t346) ++ a0_0) ++ t347) ++ a0_1).size+t348.size≤9223372036854775807 then (spec_l07Text.l0 k ((((((⟨#[80,73,77,49]⟩:ByteArray) ++ t346) ++ a0_0) ++ t347) ++ a0_1) ++ t348) 0 a0_0 a0_1 l0_2) else (none))) else (none)) else (none))) else (none)) else (none))
theorem spec_l07Text.mono_l : ∀ k,(∀ y0 y1 y2 y3 y4,LeO (spec_l07Text.l0 k y0 y1 y2 y3 y4) (spec_l07Text.l0 (k+1) y0 y1 y2 y3 y4))
  | 0=>fun _ _ _ _ _ r h=>by simp [spec_l07Text.l0] at h
  | k+1=>by
    have ih0:=spec_l07Text.mono_l k
    · intro y0 y1 y2 y3 y4
      unfold spec_l07Text.l0
      repeat' (with_reducible first|apply ih0|apply spec_l01Little.mono|apply spec_l01Sum.mono|apply LeO.refl|apply LeO.none|apply LeO.ite|refine LeO.bind ?_ (fun _=>?_))
theorem spec_l07Text.mono : ∀ a0 a1 a2 k,LeO (spec_l07Text.f k a0 a1 a2) (spec_l07Text.f (k+1) a0 a1 a2):=by
 intro a0 a1 a2 k
 have ih0:=spec_l07Text.mono_l k
 unfold spec_l07Text.f
 repeat' (with_reducible first|apply ih0|apply spec_l01Little.mono|apply spec_l01Sum.mono|apply LeO.refl|apply LeO.none|apply LeO.ite|refine LeO.bind ?_ (fun _=>?_))
def spec_l07Text.T1:Bool × List (List Nat × List Nat):=(true,[([],[]),([0],[0]),([1],[1]),([2],[2]),([3],[3]),([],[]),([5],[5]),([4,6],[4,6]),([],[]),([8],[8]),([9],[9]),([10,3],[10]),([7,11],[7,11]),([],[]),([13],[13]),([12,14],[12,14]),([],[]),([16],[16]),([17],[17]),([18,11],[18]),([15,19],[15,19]),([20,19,0,1,2,3,4,5,6,7,8,9,10,11,12,13,14,15,16,17,18,19,20],[20])])
def spec_l07Text.B1:List Nat:=[0,1,3,7,15,0,32,127,0,256,768,1807,4095,0,8192,32767,0,65536,196608,462607,1048575,2097151]
theorem spec_l07Text.tab1:rtab .any (opsOf Try.f39 1)=spec_l07Text.T1:=by kernel_rfl
theorem spec_l07Text.bits1:waitsOk spec_l07Text.T1.2 spec_l07Text.B1=true:=by kernel_rfl
def spec_l07Text.T6:Bool × List (List Nat × List Nat):=(true,[([],[]),([],[]),([1],[1]),([2],[2]),([],[]),([4],[4]),([5,3],[5]),([3,6],[3,6]),([],[]),([8],[8]),([9,6],[9]),([7,10],[7,10]),([],[]),([12],[12]),([13,10],[13]),([11,14],[11,14]),([],[]),([16],[16]),([17,14],[17]),([15,18],[15,18]),([0,19],[0,19]),([20,18,0,1,2,3,4,5,6,7,8,9,10,11,12,13,14,15,16,17,18,19,20],[0,20])])
def spec_l07Text.B6:List Nat:=[0,0,2,6,0,16,62,126,0,256,894,2046,0,4096,14206,32766,0,65536,227198,524286,1048575,2097151]
theorem spec_l07Text.tab6:rtab .any (opsOf Try.f39 6)=spec_l07Text.T6:=by kernel_rfl
theorem spec_l07Text.bits6:waitsOk spec_l07Text.T6.2 spec_l07Text.B6=true:=by kernel_rfl
set_option maxHeartbeats 8000000 in
set_option maxRecDepth 100000 in
theorem spec_l07Text.calls (k:Nat) (a0_0:ByteArray) (a0_1:ByteArray) (A0_2:Option Addr) (c0_2:Nat) (l0_2:List (S54)) (r:ByteArray) (w:World) (hr0_2:Kd.C k54 w A0_2 l0_2.length l0_2) (hc0_2:l0_2.length≤c0_2) (h:spec_l07Text.f k a0_0 a0_1 l0_2=some r) :
    Calls Try.prog 39 #[.agg #[.string a0_0,.string a0_1,.slice A0_2 l0_2.length c0_2]] w fun e w'=>e=.returned (.string r)∧Below w.heap.size w w':=by
 have hu30:=Try.underlying30
 have hu54:=Try.underlying54
 have HR0_2:=Aside0.mk hr0_2
 have HC0_2:=Aside0.mk hc0_2
 clear hr0_2 hc0_2
 have HB:=Aside0.mk (Below.refl w.heap.size w)
 have H:((spec_l01Little.f k (a0_0.size:Int) 2).bind fun t346=>(if 4+t346.size≤9223372036854775807 then (if ((⟨#[80,73,77,49]⟩:ByteArray) ++ t346).size+a0_0.size≤9223372036854775807 then ((spec_l01Little.f k (a0_1.size:Int) 2).bind fun t347=>(if (((⟨#[80,73,77,49]⟩:ByteArray) ++ t346) ++ a0_0).size+t347.size≤9223372036854775807 then (if ((((⟨#[80,73,77,49]⟩:ByteArray) ++ t346) ++ a0_0) ++ t347).size+a0_1.size≤9223372036854775807 then ((spec_l01Little.f k (l0_2.length:Int) 1).bind fun t348=>(if (((((⟨#[80,73,77,49]⟩:ByteArray) ++ t346) ++ a0_0) ++ t347) ++ a0_1).size+t348.size≤9223372036854775807 then (spec_l07Text.l0 k ((((((⟨#[80,73,77,49]⟩:ByteArray) ++ t346) ++ a0_0) ++ t347) ++ a0_1) ++ t348) 0 a0_0 a0_1 l0_2) else (none))) else (none)) else (none))) else (none)) else (none)))=some r:=h
 clear h
 obtain ⟨t346,A2,H⟩:=bindA H
 by_cases c3:4+t346.size≤9223372036854775807
 ·rw [if_pos c3] at H
  have c3b0:=eq_true c3
  have c3b1:decide (4+t346.size≤9223372036854775807)=true:=decide_eq_true c3
  try have c3b2:(9223372036854775807 < 4+t346.size)=False:=eq_false (Nat.not_lt.2 c3)
  by_cases c4:((⟨#[80,73,77,49]⟩:ByteArray) ++ t346).size+a0_0.size≤9223372036854775807
  ·rw [if_pos c4] at H
   have c4b0:=eq_true c4
   have c4b1:decide (((⟨#[80,73,77,49]⟩:ByteArray) ++ t346).size+a0_0.size≤9223372036854775807)=true:=decide_eq_true c4
   try have c4b2:(9223372036854775807 < ((⟨#[80,73,77,49]⟩:ByteArray) ++ t346).size+a0_0.size)=False:=eq_false (Nat.not_lt.2 c4)
   try have c4b3:(9223372036854775807 < 4+t346.size+a0_0.size)=False:=eq_false (by have hz0_:(⟨#[80,73,77,49]⟩:ByteArray).size=4:=rfl;have h_:=c4;simp only [eq_iff_iff,iff_true,decide_eq_true_eq,ByteArray.size_append,ByteArray.size_extract] at *;omega)
   obtain ⟨t347,A5,H⟩:=bindA H
   by_cases c6:(((⟨#[80,73,77,49]⟩:ByteArray) ++ t346) ++ a0_0).size+t347.size≤9223372036854775807
   ·rw [if_pos c6] at H
    have c6b0:=eq_true c6
    have c6b1:decide ((((⟨#[80,73,77,49]⟩:ByteArray) ++ t346) ++ a0_0).size+t347.size≤9223372036854775807)=true:=decide_eq_true c6
    try have c6b2:(9223372036854775807 < (((⟨#[80,73,77,49]⟩:ByteArray) ++ t346) ++ a0_0).size+t347.size)=False:=eq_false (Nat.not_lt.2 c6)
    try have c6b3:(9223372036854775807 < 4+t346.size+a0_0.size+t347.size)=False:=eq_false (by have hz0_:(⟨#[80,73,77,49]⟩:ByteArray).size=4:=rfl;have h_:=c6;simp only [eq_iff_iff,iff_true,decide_eq_true_eq,ByteArray.size_append,ByteArray.size_extract] at *;omega)
    by_cases c7:((((⟨#[80,73,77,49]⟩:ByteArray) ++ t346) ++ a0_0) ++ t347).size+a0_1.size≤9223372036854775807
    ·rw [if_pos c7] at H
     have c7b0:=eq_true c7
     have c7b1:decide (((((⟨#[80,73,77,49]⟩:ByteArray) ++ t346) ++ a0_0) ++ t347).size+a0_1.size≤9223372036854775807)=true:=decide_eq_true c7
     try have c7b2:(9223372036854775807 < ((((⟨#[80,73,77,49]⟩:ByteArray) ++ t346) ++ a0_0) ++ t347).size+a0_1.size)=False:=eq_false (Nat.not_lt.2 c7)
     try have c7b3:(9223372036854775807 < 4+t346.size+a0_0.size+t347.size+a0_1.size)=False:=eq_false (by have hz0_:(⟨#[80,73,77,49]⟩:ByteArray).size=4:=rfl;have h_:=c7;simp only [eq_iff_iff,iff_true,decide_eq_true_eq,ByteArray.size_append,ByteArray.size_extract] at *;omega)
     obtain ⟨t348,A8,H⟩:=bindA H
     by_cases c9:(((((⟨#[80,73,77,49]⟩:ByteArray) ++ t346) ++ a0_0) ++ t347) ++ a0_1).size+t348.size≤9223372036854775807
     ·rw [if_pos c9] at H
      have c9b0:=eq_true c9
      have c9b1:decide ((((((⟨#[80,73,77,49]⟩:ByteArray) ++ t346) ++ a0_0) ++ t347) ++ a0_1).size+t348.size≤9223372036854775807)=true:=decide_eq_true c9
      try have c9b2:(9223372036854775807 < (((((⟨#[80,73,77,49]⟩:ByteArray) ++ t346) ++ a0_0) ++ t347) ++ a0_1).size+t348.size)=False:=eq_false (Nat.not_lt.2 c9)
      try have c9b3:(9223372036854775807 < 4+t346.size+a0_0.size+t347.size+a0_1.size+t348.size)=False:=eq_false (by have hz0_:(⟨#[80,73,77,49]⟩:ByteArray).size=4:=rfl;have h_:=c9;simp only [eq_iff_iff,iff_true,decide_eq_true_eq,ByteArray.size_append,ByteArray.size_extract] at *;omega)
      have H':=Aside0.mk H
      clear H
      go_enter Try.func39,Try.ntmps39
      try go_wp2_with (first|(refine bv 1 #[.string a0_0,.string a0_1,.slice A0_2 l0_2.length c0_2] 30 ?_;intro gb345 hg w10 hbox hb;obtain ⟨n0_,n2_⟩:=bx0 hbx hb hg;have n1_:=Aside0.mk (hbox);clear HB;have HB:=n0_;have BK345:=n1_;have GW345:=n2_;have GE345:=n2_;clear n0_ n1_ n2_;clear hb hbox hg))
      replace BK345:=Aside0.mk (blk_drew BK345.out);replace HB:=Aside0.mk (below_drew1 HB.out)
      refine start_ (n:=22) (S:=fun w'=>w'.cell? ⟨gb345,0,none⟩=some (.string a0_0)∧w'.cell? ⟨gb345,1,none⟩=some (.string a0_1)∧w'.cell? ⟨gb345,2,none⟩=some (.slice A0_2 l0_2.length c0_2)) (ds:=[]) #[false,false,false,false,false,false,false,false,false,false,false,false,false,false,false,false,false,false,false,false,false,false] (by kernel_rfl) rfl rfl ⟨(blk_cell BK345.out 0).trans rfl,(blk_cell BK345.out 1).trans rfl,(blk_cell BK345.out 2).trans rfl⟩ (fun hHeld=>?_);refine with_tabW spec_l07Text.tab1 spec_l07Text.bits1 (fun HT_ HW_=>?_)
      generalize w10.drew=w11 at BK345 HB hHeld ⊢
      refine pu 0 6 #[true,false,false,false,false,false,false,false,false,false,false,false,false,false,false,false,false,false,false,false,false,false] ?_
      refine pu 5 11 #[true,false,false,false,false,true,false,false,false,false,false,false,false,false,false,false,false,false,false,false,false,false] ?_
      refine pu 8 14 #[true,false,false,false,false,true,false,false,true,false,false,false,false,false,false,false,false,false,false,false,false,false] ?_
      refine pu 13 19 #[true,false,false,false,false,true,false,false,true,false,false,false,false,true,false,false,false,false,false,false,false,false] ?_
      refine pu 16 22 #[true,false,false,false,false,true,false,false,true,false,false,false,false,true,false,false,true,false,false,false,false,false] ?_
      refine take_ (i:=1) (N:=some 7) (v:=?_) (a':=?_) #[true,true,false,false,false,true,false,false,true,false,false,false,false,true,false,false,true,false,false,false,false,false] rfl rfl (take_ofW HT_.out HW_.out (by kernel_rfl)) (fun _ _ _ h=>h) (Or.inl ⟨by rfl,?_⟩) hHeld ?_ ?_
      rotate_left
      ·rintro w' ⟨s0,s1,s2⟩
       go_simp
       with_reducible rfl
      rotate_left
      ·simp only [Act.put,List.setIfInBounds_toArray,List.set_cons_zero,List.set_cons_succ,i64_w,i32_w]
       rfl
      refine pu 2 8 #[true,true,true,false,false,true,false,false,true,false,false,false,false,true,false,false,true,false,false,false,false,false] ?_
      refine take_ (i:=6) (N:=some 12) (v:=?_) (a':=?_) #[true,true,true,false,false,true,true,false,true,false,false,false,false,true,false,false,true,false,false,false,false,false] rfl rfl (take_ofW HT_.out HW_.out (by kernel_rfl)) (fun _ _ _ h=>h) (Or.inl ⟨by rfl,?_⟩) hHeld ?_ ?_
      rotate_left
      ·rintro w' ⟨s0,s1,s2⟩
       go_simp
       with_reducible rfl
      rotate_left
      ·simp only [Act.put,List.setIfInBounds_toArray,List.set_cons_zero,List.set_cons_succ,i64_w,i32_w]
       rfl
      refine take_ (i:=9) (N:=some 15) (v:=?_) (a':=?_) #[true,true,true,false,false,true,true,false,true,true,false,false,false,true,false,false,true,false,false,false,false,false] rfl rfl (take_ofW HT_.out HW_.out (by kernel_rfl)) (fun _ _ _ h=>h) (Or.inl ⟨by rfl,?_⟩) hHeld ?_ ?_
      rotate_left
      ·rintro w' ⟨s0,s1,s2⟩
       go_simp
       with_reducible rfl
      rotate_left
      ·simp only [Act.put,List.setIfInBounds_toArray,List.set_cons_zero,List.set_cons_succ,i64_w,i32_w]
       rfl
      refine pu 10 16 #[true,true,true,false,false,true,true,false,true,true,true,false,false,true,false,false,true,false,false,false,false,false] ?_
      refine take_ (i:=14) (N:=some 20) (v:=?_) (a':=?_) #[true,true,true,false,false,true,true,false,true,true,true,false,false,true,true,false,true,false,false,false,false,false] rfl rfl (take_ofW HT_.out HW_.out (by kernel_rfl)) (fun _ _ _ h=>h) (Or.inl ⟨by rfl,?_⟩) hHeld ?_ ?_
      rotate_left
      ·rintro w' ⟨s0,s1,s2⟩
       go_simp
       with_reducible rfl
      rotate_left
      ·simp only [Act.put,List.setIfInBounds_toArray,List.set_cons_zero,List.set_cons_succ,i64_w,i32_w]
       rfl
      refine take_ (i:=17) (N:=some 23) (v:=?_) (a':=?_) #[true,true,true,false,false,true,true,false,true,true,true,false,false,true,true,false,true,true,false,false,false,false] rfl rfl (take_ofW HT_.out HW_.out (by kernel_rfl)) (fun _ _ _ h=>h) (Or.inl ⟨by rfl,?_⟩) hHeld ?_ ?_
      rotate_left
      ·rintro w' ⟨s0,s1,s2⟩
       go_simp
       with_reducible rfl
      rotate_left
      ·simp only [Act.put,List.setIfInBounds_toArray,List.set_cons_zero,List.set_cons_succ,i64_w,i32_w]
       rfl
      refine pu 18 24 #[true,true,true,false,false,true,true,false,true,true,true,false,false,true,true,false,true,true,true,false,false,false] ?_
      refine one_ (i:=3) (N:=some 9) #[true,true,true,true,false,true,true,false,true,true,true,false,false,true,true,false,true,true,true,false,false,false] rfl rfl (one_of HT_.out (by kernel_rfl)) (by decide) (fun K hK=>?_)
      refine goes_ Try.func62 (by kernel_rfl) rfl #[.int .i64 (a0_0.size:Int),.int .i64 2] (by rfl) rfl rfl (mp_ rfl) ?_
      with_reducible refine (spec_l01Little.calls k (a0_0.size:Int) 2 t346 _ A2.out).mono ?_
      rintro e w12 ⟨rfl,hb⟩
      refine ⟨_,rfl,?_⟩
      replace BK345:=Aside0.mk (blk_below (qx BK345.out) hb);replace HB:=Aside0.mk (below_step (hb1 GE345.out) hb)
      try clear hb
      refine hK.out _ _ ⟨(blk_cell BK345.out 0).trans rfl,(blk_cell BK345.out 1).trans rfl,(blk_cell BK345.out 2).trans rfl⟩ (fun hHeld=>?_)
      clear hK K
      refine norm_ (a':=?_) ?_ ?_
      rotate_left
      ·show Act.put _ (some 9) _=_
       simp only [Act.put,List.setIfInBounds_toArray,List.set_cons_zero,List.set_cons_succ,i64_w,i32_w]
       rfl
      refine pu 4 10 #[true,true,true,true,true,true,true,false,true,true,true,false,false,true,true,false,true,true,true,false,false,false] ?_
      refine pu 7 13 #[true,true,true,true,true,true,true,true,true,true,true,false,false,true,true,false,true,true,true,false,false,false] ?_
      refine one_ (i:=11) (N:=some 17) #[true,true,true,true,true,true,true,true,true,true,true,true,false,true,true,false,true,true,true,false,false,false] rfl rfl (one_of HT_.out (by kernel_rfl)) (by decide) (fun K hK=>?_)
      refine goes_ Try.func62 (by kernel_rfl) rfl #[.int .i64 (a0_1.size:Int),.int .i64 2] (by rfl) rfl rfl (mp_ rfl) ?_
      with_reducible refine (spec_l01Little.calls k (a0_1.size:Int) 2 t347 _ A5.out).mono ?_
      rintro e w13 ⟨rfl,hb⟩
      refine ⟨_,rfl,?_⟩
      replace BK345:=Aside0.mk (blk_below (qx BK345.out) hb);replace HB:=Aside0.mk (below_step (hb1 GE345.out) hb)
      try clear hb
      refine hK.out _ _ ⟨(blk_cell BK345.out 0).trans rfl,(blk_cell BK345.out 1).trans rfl,(blk_cell BK345.out 2).trans rfl⟩ (fun hHeld=>?_)
      clear hK K
      refine norm_ (a':=?_) ?_ ?_
      rotate_left
      ·show Act.put _ (some 17) _=_
       simp only [Act.put,List.setIfInBounds_toArray,List.set_cons_zero,List.set_cons_succ,i64_w,i32_w]
       rfl
      refine pu 12 18 #[true,true,true,true,true,true,true,true,true,true,true,true,true,true,true,false,true,true,true,false,false,false] ?_
      refine pu 15 21 #[true,true,true,true,true,true,true,true,true,true,true,true,true,true,true,true,true,true,true,false,false,false] ?_
      refine one_ (i:=19) (N:=some 25) #[true,true,true,true,true,true,true,true,true,true,true,true,true,true,true,true,true,true,true,true,false,false] rfl rfl (one_of HT_.out (by kernel_rfl)) (by decide) (fun K hK=>?_)
      refine goes_ Try.func62 (by kernel_rfl) rfl #[.int .i64 (l0_2.length:Int),.int .i64 1] (by rfl) rfl rfl (mp_ rfl) ?_
      with_reducible refine (spec_l01Little.calls k (l0_2.length:Int) 1 t348 _ A8.out).mono ?_
      rintro e w14 ⟨rfl,hb⟩
      refine ⟨_,rfl,?_⟩
      replace BK345:=Aside0.mk (blk_below (qx BK345.out) hb);replace HB:=Aside0.mk (below_step (hb1 GE345.out) hb)
      try clear hb
      refine hK.out _ _ ⟨(blk_cell BK345.out 0).trans rfl,(blk_cell BK345.out 1).trans rfl,(blk_cell BK345.out 2).trans rfl⟩ (fun hHeld=>?_)
      clear hK K
      refine norm_ (a':=?_) ?_ ?_
      rotate_left
      ·show Act.put _ (some 25) _=_
       simp only [Act.put,List.setIfInBounds_toArray,List.set_cons_zero,List.set_cons_succ,i64_w,i32_w]
       rfl
      refine pu 20 26 #[true,true,true,true,true,true,true,true,true,true,true,true,true,true,true,true,true,true,true,true,true,false] ?_
      refine pu 21 3 #[true,true,true,true,true,true,true,true,true,true,true,true,true,true,true,true,true,true,true,true,true,true] ?_
      refine done_ (done_of HT_.out (by kernel_rfl)) ?_
      try go_wp2
      go_loopg [3,4] k (fun kq v3 v4 w'=>∃ (x3_1:ByteArray) (x4_1:Int),v3=.string x3_1∧v4=.int .i64 x4_1∧Aside0 (spec_l07Text.l0 kq x3_1 x4_1 a0_0 a0_1 l0_2=some r)∧Aside0 (kq≤k)∧Aside0 (w'.heap[gb345]?=some (.cells #[.string a0_0,.string a0_1,(.slice A0_2 l0_2.length c0_2)] 30 (0,0)))∧Aside0 (Below w.heap.size w w'))
      case atStart=>exact ⟨((((((⟨#[80,73,77,49]⟩:ByteArray) ++ t346) ++ a0_0) ++ t347) ++ a0_1) ++ t348),(0),rs,rs,H',⟨Nat.le_refl _⟩,⟨qx BK345.out⟩,⟨hb1 GE345.out⟩⟩
      clear H'
      try clear c3
      try clear c3b0
      try clear c3b1
      try clear c3b2
      try clear c4
      try clear c4b0
      try clear c4b1
      try clear c4b2
      try clear c6
      try clear c6b0
      try clear c6b1
      try clear c6b2
      try clear c7
      try clear c7b0
      try clear c7b1
      try clear c7b2
      try clear c9
      try clear c9b0
      try clear c9b1
      try clear c9b2
      obtain ⟨x3_1,x4_1,rfl,rfl,HA,HK1,BK345,HB⟩:=hrel
      cases gk with
      | zero=>exact absurd HA.out (by simp [spec_l07Text.l0])
      | succ k1 =>
       have H:=HA.out
       clear HA
       simp only [spec_l07Text.l0] at H
       by_cases c15:x4_1 < (l0_2.length:Int)
       ·rw [if_pos c15] at H
        have c15b0:decide (x4_1 < (l0_2.length:Int))=true:=decide_eq_true c15
        clear c15
        by_cases c16:0≤x4_1
        ·rw [if_pos c16] at H
         have c16b0:decide (0≤x4_1)=true:=decide_eq_true c16
         clear c16
         obtain ⟨t353,A17,H⟩:=bindA H
         obtain ⟨t354,A18,H⟩:=bindA H
         by_cases c19:t353.size+t354.size≤9223372036854775807
         ·rw [if_pos c19] at H
          have c19b0:=eq_true c19
          have c19b1:decide (t353.size+t354.size≤9223372036854775807)=true:=decide_eq_true c19
          try have c19b2:(9223372036854775807 < t353.size+t354.size)=False:=eq_false (Nat.not_lt.2 c19)
          obtain ⟨t355,A20,H⟩:=bindA H
          by_cases c21:(t353 ++ t354).size+t355.size≤9223372036854775807
          ·rw [if_pos c21] at H
           have c21b0:=eq_true c21
           have c21b1:decide ((t353 ++ t354).size+t355.size≤9223372036854775807)=true:=decide_eq_true c21
           try have c21b2:(9223372036854775807 < (t353 ++ t354).size+t355.size)=False:=eq_false (Nat.not_lt.2 c21)
           try have c21b3:(9223372036854775807 < t353.size+t354.size+t355.size)=False:=eq_false (by have h_:=c21;simp only [eq_iff_iff,iff_true,decide_eq_true_eq,ByteArray.size_append,ByteArray.size_extract] at *;omega)
           obtain ⟨t356,A22,H⟩:=bindA H
           by_cases c23:((t353 ++ t354) ++ t355).size+t356.size≤9223372036854775807
           ·rw [if_pos c23] at H
            have c23b0:=eq_true c23
            have c23b1:decide (((t353 ++ t354) ++ t355).size+t356.size≤9223372036854775807)=true:=decide_eq_true c23
            try have c23b2:(9223372036854775807 < ((t353 ++ t354) ++ t355).size+t356.size)=False:=eq_false (Nat.not_lt.2 c23)
            try have c23b3:(9223372036854775807 < t353.size+t354.size+t355.size+t356.size)=False:=eq_false (by have h_:=c23;simp only [eq_iff_iff,iff_true,decide_eq_true_eq,ByteArray.size_append,ByteArray.size_extract] at *;omega)
            obtain ⟨t357,A24,H⟩:=bindA H
            by_cases c25:(((t353 ++ t354) ++ t355) ++ t356).size+t357.size≤9223372036854775807
            ·rw [if_pos c25] at H
             have c25b0:=eq_true c25
             have c25b1:decide ((((t353 ++ t354) ++ t355) ++ t356).size+t357.size≤9223372036854775807)=true:=decide_eq_true c25
             try have c25b2:(9223372036854775807 < (((t353 ++ t354) ++ t355) ++ t356).size+t357.size)=False:=eq_false (Nat.not_lt.2 c25)
             try have c25b3:(9223372036854775807 < t353.size+t354.size+t355.size+t356.size+t357.size)=False:=eq_false (by have h_:=c25;simp only [eq_iff_iff,iff_true,decide_eq_true_eq,ByteArray.size_append,ByteArray.size_extract] at *;omega)
             by_cases c26:x3_1.size+((((t353 ++ t354) ++ t355) ++ t356) ++ t357).size≤9223372036854775807
             ·rw [if_pos c26] at H
              have c26b0:=eq_true c26
              have c26b1:decide (x3_1.size+((((t353 ++ t354) ++ t355) ++ t356) ++ t357).size≤9223372036854775807)=true:=decide_eq_true c26
              try have c26b2:(9223372036854775807 < x3_1.size+((((t353 ++ t354) ++ t355) ++ t356) ++ t357).size)=False:=eq_false (Nat.not_lt.2 c26)
              try have c26b3:(9223372036854775807 < x3_1.size+(t353.size+t354.size+t355.size+t356.size+t357.size))=False:=eq_false (by have h_:=c26;simp only [eq_iff_iff,iff_true,decide_eq_true_eq,ByteArray.size_append,ByteArray.size_extract] at *;omega)
              have H':=Aside0.mk H
              clear H
              obtain ⟨Z27_0,Z27_1,Z27_2,Y27_0,Y27_1,Y27_2⟩:=cel3 BK345.out
              have p351:0≤(x4_1:Int):=od
              have q351:x4_1 < (l0_2.length:Int):=od
              obtain ⟨ad351,e351,hx351_0,hx351_1,hx351_2,hx351_3,hx351_4⟩:=at_T54 HR0_2.out x4_1 p351 q351
              cases e351
              replace hx351_0:=cx HB.out hx351_0
              replace hx351_1:=cx HB.out hx351_1
              replace hx351_2:=cx HB.out hx351_2
              replace hx351_3:=cx HB.out hx351_3
              replace hx351_4:=cx HB.out hx351_4
              replace p351:=eq_true p351
              replace q351:=eq_true q351
              try go_wp2_with (first|(refine bv 5 #[.string (⟨#[]⟩:ByteArray),.int .i64 0,.int .i64 0,.int .i64 0,.int .i64 0] 54 ?_;intro gb352 hg w28 hbox hb;obtain ⟨n1_,n3_⟩:=bx0 (hb1 GE345.out) hb hg;obtain ⟨n0_,n5_,n6_⟩:=bx3 (qx BK345.out) hb hg;have n2_:=Aside0.mk (hbox);clear BK345;clear HB;have BK345:=n0_;have HB:=n1_;have BK352:=n2_;have GW352:=n3_;have GE352:=n3_;have NB345_352:=n5_;have NB352_345:=n6_;clear n0_ n1_ n2_ n3_ n5_ n6_;clear hb hbox hg;have hnb29:=NB352_345.out;have hnc29:=NB345_352.out;obtain ⟨Z30_0,Z30_1,Z30_2,Z30_3,Z30_4,Y30_0,Y30_1,Y30_2,Y30_3,Y30_4⟩:=cel5 BK352.out))
              have n0_:Aside0 ((((((w28.setCell ⟨gb352,0,none⟩ (.string ((rd_T54 l0_2 x4_1).f0))).setCell ⟨gb352,1,none⟩ (.int .i64 ((rd_T54 l0_2 x4_1).f1))).setCell ⟨gb352,2,none⟩ (.int .i64 ((rd_T54 l0_2 x4_1).f2))).setCell ⟨gb352,3,none⟩ (.int .i64 ((rd_T54 l0_2 x4_1).f3))).setCell ⟨gb352,4,none⟩ (.int .i64 ((rd_T54 l0_2 x4_1).f4))).heap[gb345]?=some (.cells #[.string a0_0,.string a0_1,.slice (some ad351) l0_2.length c0_2] 30 (0,0))):=⟨qg NB345_352.out BK345.out⟩
              have n1_:Aside0 ((((((w28.setCell ⟨gb352,0,none⟩ (.string ((rd_T54 l0_2 x4_1).f0))).setCell ⟨gb352,1,none⟩ (.int .i64 ((rd_T54 l0_2 x4_1).f1))).setCell ⟨gb352,2,none⟩ (.int .i64 ((rd_T54 l0_2 x4_1).f2))).setCell ⟨gb352,3,none⟩ (.int .i64 ((rd_T54 l0_2 x4_1).f3))).setCell ⟨gb352,4,none⟩ (.int .i64 ((rd_T54 l0_2 x4_1).f4))).heap[gb352]?=some (.cells #[.string ((rd_T54 l0_2 x4_1).f0),.int .i64 ((rd_T54 l0_2 x4_1).f1),.int .i64 ((rd_T54 l0_2 x4_1).f2),.int .i64 ((rd_T54 l0_2 x4_1).f3),.int .i64 ((rd_T54 l0_2 x4_1).f4)] 54 (0,0))):=⟨by (with_reducible repeat first|apply Q1|apply Q2|apply Q3);refine blk_put (cs:=#[.string ((rd_T54 l0_2 x4_1).f0),.int .i64 ((rd_T54 l0_2 x4_1).f1),.int .i64 ((rd_T54 l0_2 x4_1).f2),.int .i64 ((rd_T54 l0_2 x4_1).f3),.int .i64 0]) ?_ 4 _ rfl;(with_reducible repeat first|apply Q1|apply Q2|apply Q3);refine blk_put (cs:=#[.string ((rd_T54 l0_2 x4_1).f0),.int .i64 ((rd_T54 l0_2 x4_1).f1),.int .i64 ((rd_T54 l0_2 x4_1).f2),.int .i64 0,.int .i64 0]) ?_ 3 _ rfl;(with_reducible repeat first|apply Q1|apply Q2|apply Q3);refine blk_put (cs:=#[.string ((rd_T54 l0_2 x4_1).f0),.int .i64 ((rd_T54 l0_2 x4_1).f1),.int .i64 0,.int .i64 0,.int .i64 0]) ?_ 2 _ rfl;(with_reducible repeat first|apply Q1|apply Q2|apply Q3);refine blk_put (cs:=#[.string ((rd_T54 l0_2 x4_1).f0),.int .i64 0,.int .i64 0,.int .i64 0,.int .i64 0]) ?_ 1 _ rfl;(with_reducible repeat first|apply Q1|apply Q2|apply Q3);refine blk_put (cs:=#[.string (⟨#[]⟩:ByteArray),.int .i64 0,.int .i64 0,.int .i64 0,.int .i64 0]) ?_ 0 _ rfl;(with_reducible repeat first|apply Q1|apply Q2|apply Q3);exact BK352.out⟩
              have n2_:Aside0 (Below w.heap.size w (((((w28.setCell ⟨gb352,0,none⟩ (.string ((rd_T54 l0_2 x4_1).f0))).setCell ⟨gb352,1,none⟩ (.int .i64 ((rd_T54 l0_2 x4_1).f1))).setCell ⟨gb352,2,none⟩ (.int .i64 ((rd_T54 l0_2 x4_1).f2))).setCell ⟨gb352,3,none⟩ (.int .i64 ((rd_T54 l0_2 x4_1).f3))).setCell ⟨gb352,4,none⟩ (.int .i64 ((rd_T54 l0_2 x4_1).f4)))):=⟨hb2 GE345.out GE352.out⟩
              try clear BK345
              try clear BK352
              try clear HB
              generalize (((((w28.setCell ⟨gb352,0,none⟩ (.string ((rd_T54 l0_2 x4_1).f0))).setCell ⟨gb352,1,none⟩ (.int .i64 ((rd_T54 l0_2 x4_1).f1))).setCell ⟨gb352,2,none⟩ (.int .i64 ((rd_T54 l0_2 x4_1).f2))).setCell ⟨gb352,3,none⟩ (.int .i64 ((rd_T54 l0_2 x4_1).f3))).setCell ⟨gb352,4,none⟩ (.int .i64 ((rd_T54 l0_2 x4_1).f4)))=w31 at n0_ n1_ n2_ ⊢
              have BK345:=n0_
              have BK352:=n1_
              have HB:=n2_
              clear n0_ n1_ n2_
              replace BK345:=Aside0.mk (blk_drew BK345.out);replace BK352:=Aside0.mk (blk_drew BK352.out);replace HB:=Aside0.mk (below_drew1 HB.out)
              refine start_ (n:=22) (S:=fun w'=>w'.cell? ⟨gb352,0,none⟩=some (.string ((rd_T54 l0_2 x4_1).f0))∧w'.cell? ⟨gb352,1,none⟩=some (.int .i64 ((rd_T54 l0_2 x4_1).f1))∧w'.cell? ⟨gb352,2,none⟩=some (.int .i64 ((rd_T54 l0_2 x4_1).f2))∧w'.cell? ⟨gb352,3,none⟩=some (.int .i64 ((rd_T54 l0_2 x4_1).f3))∧w'.cell? ⟨gb352,4,none⟩=some (.int .i64 ((rd_T54 l0_2 x4_1).f4))) (ds:=[]) #[false,false,false,false,false,false,false,false,false,false,false,false,false,false,false,false,false,false,false,false,false,false] (by kernel_rfl) rfl rfl ⟨(blk_cell BK352.out 0).trans rfl,(blk_cell BK352.out 1).trans rfl,(blk_cell BK352.out 2).trans rfl,(blk_cell BK352.out 3).trans rfl,(blk_cell BK352.out 4).trans rfl⟩ (fun hHeld=>?_);refine with_tabW spec_l07Text.tab6 spec_l07Text.bits6 (fun HT_ HW_=>?_)
              generalize w31.drew=w32 at BK345 BK352 HB hHeld ⊢
              refine pu 0 39 #[true,false,false,false,false,false,false,false,false,false,false,false,false,false,false,false,false,false,false,false,false,false] ?_
              refine pu 1 40 #[true,true,false,false,false,false,false,false,false,false,false,false,false,false,false,false,false,false,false,false,false,false] ?_
              refine pu 4 43 #[true,true,false,false,true,false,false,false,false,false,false,false,false,false,false,false,false,false,false,false,false,false] ?_
              refine pu 8 47 #[true,true,false,false,true,false,false,false,true,false,false,false,false,false,false,false,false,false,false,false,false,false] ?_
              refine pu 12 51 #[true,true,false,false,true,false,false,false,true,false,false,false,true,false,false,false,false,false,false,false,false,false] ?_
              refine pu 16 55 #[true,true,false,false,true,false,false,false,true,false,false,false,true,false,false,false,true,false,false,false,false,false] ?_
              refine tk5 2 41 #[true,true,true,false,true,false,false,false,true,false,false,false,true,false,false,false,true,false,false,false,false,false] hHeld ?_
              refine tk5 5 44 #[true,true,true,false,true,true,false,false,true,false,false,false,true,false,false,false,true,false,false,false,false,false] hHeld ?_
              refine tk5 9 48 #[true,true,true,false,true,true,false,false,true,true,false,false,true,false,false,false,true,false,false,false,false,false] hHeld ?_
              refine tk5 13 52 #[true,true,true,false,true,true,false,false,true,true,false,false,true,true,false,false,true,false,false,false,false,false] hHeld ?_
              refine tk5 17 56 #[true,true,true,false,true,true,false,false,true,true,false,false,true,true,false,false,true,true,false,false,false,false] hHeld ?_
              refine one_ (i:=3) (N:=some 42) #[true,true,true,true,true,true,false,false,true,true,false,false,true,true,false,false,true,true,false,false,false,false] rfl rfl (one_of HT_.out (by kernel_rfl)) (by decide) (fun K hK=>?_)
              refine goes_ Try.func63 (by kernel_rfl) rfl #[.string ((rd_T54 l0_2 x4_1).f0)] (by rfl) rfl rfl (mp_ rfl) ?_
              with_reducible refine (spec_l07Name.calls ((rd_T54 l0_2 x4_1).f0) t353 _ A17.out).mono ?_
              rintro e w33 ⟨rfl,hb⟩
              refine ⟨_,rfl,?_⟩
              replace BK345:=Aside0.mk (blk_below (qx BK345.out) hb);replace BK352:=Aside0.mk (blk_below (qx BK352.out) hb);replace HB:=Aside0.mk (below_step (hb2 GE345.out GE352.out) hb)
              try clear hb
              refine hK.out _ _ ⟨(blk_cell BK352.out 0).trans rfl,(blk_cell BK352.out 1).trans rfl,(blk_cell BK352.out 2).trans rfl,(blk_cell BK352.out 3).trans rfl,(blk_cell BK352.out 4).trans rfl⟩ (fun hHeld=>?_)
              clear hK K
              refine norm_ (a':=?_) ?_ ?_
              rotate_left
              ·show Act.put _ (some 42) _=_
               simp only [Act.put,List.setIfInBounds_toArray,List.set_cons_zero,List.set_cons_succ,i64_w,i32_w]
               rfl
              refine one_ (i:=6) (N:=some 45) #[true,true,true,true,true,true,true,false,true,true,false,false,true,true,false,false,true,true,false,false,false,false] rfl rfl (one_of HT_.out (by kernel_rfl)) (by decide) (fun K hK=>?_)
              refine goes_ Try.func62 (by kernel_rfl) rfl #[.int .i64 ((rd_T54 l0_2 x4_1).f1),.int .i64 1] (by rfl) rfl rfl (mp_ rfl) ?_
              with_reducible refine (spec_l01Little.calls k1 ((rd_T54 l0_2 x4_1).f1) 1 t354 _ A18.out).mono ?_
              rintro e w34 ⟨rfl,hb⟩
              refine ⟨_,rfl,?_⟩
              replace BK345:=Aside0.mk (blk_below (qx BK345.out) hb);replace BK352:=Aside0.mk (blk_below (qx BK352.out) hb);replace HB:=Aside0.mk (below_step (hb2 GE345.out GE352.out) hb)
              try clear hb
              refine hK.out _ _ ⟨(blk_cell BK352.out 0).trans rfl,(blk_cell BK352.out 1).trans rfl,(blk_cell BK352.out 2).trans rfl,(blk_cell BK352.out 3).trans rfl,(blk_cell BK352.out 4).trans rfl⟩ (fun hHeld=>?_)
              clear hK K
              refine norm_ (a':=?_) ?_ ?_
              rotate_left
              ·show Act.put _ (some 45) _=_
               simp only [Act.put,List.setIfInBounds_toArray,List.set_cons_zero,List.set_cons_succ,i64_w,i32_w]
               rfl
              refine pu 7 46 #[true,true,true,true,true,true,true,true,true,true,false,false,true,true,false,false,true,true,false,false,false,false] ?_
              refine one_ (i:=10) (N:=some 49) #[true,true,true,true,true,true,true,true,true,true,true,false,true,true,false,false,true,true,false,false,false,false] rfl rfl (one_of HT_.out (by kernel_rfl)) (by decide) (fun K hK=>?_)
              refine goes_ Try.func62 (by kernel_rfl) rfl #[.int .i64 ((rd_T54 l0_2 x4_1).f2),.int .i64 2] (by rfl) rfl rfl (mp_ rfl) ?_
              with_reducible refine (spec_l01Little.calls k1 ((rd_T54 l0_2 x4_1).f2) 2 t355 _ A20.out).mono ?_
              rintro e w35 ⟨rfl,hb⟩
              refine ⟨_,rfl,?_⟩
              replace BK345:=Aside0.mk (blk_below (qx BK345.out) hb);replace BK352:=Aside0.mk (blk_below (qx BK352.out) hb);replace HB:=Aside0.mk (below_step (hb2 GE345.out GE352.out) hb)
              try clear hb
              refine hK.out _ _ ⟨(blk_cell BK352.out 0).trans rfl,(blk_cell BK352.out 1).trans rfl,(blk_cell BK352.out 2).trans rfl,(blk_cell BK352.out 3).trans rfl,(blk_cell BK352.out 4).trans rfl⟩ (fun hHeld=>?_)
              clear hK K
              refine norm_ (a':=?_) ?_ ?_
              rotate_left
              ·show Act.put _ (some 49) _=_
               simp only [Act.put,List.setIfInBounds_toArray,List.set_cons_zero,List.set_cons_succ,i64_w,i32_w]
               rfl
              refine pu 11 50 #[true,true,true,true,true,true,true,true,true,true,true,true,true,true,false,false,true,true,false,false,false,false] ?_
              refine one_ (i:=14) (N:=some 53) #[true,true,true,true,true,true,true,true,true,true,true,true,true,true,true,false,true,true,false,false,false,false] rfl rfl (one_of HT_.out (by kernel_rfl)) (by decide) (fun K hK=>?_)
              refine goes_ Try.func62 (by kernel_rfl) rfl #[.int .i64 ((rd_T54 l0_2 x4_1).f3),.int .i64 2] (by rfl) rfl rfl (mp_ rfl) ?_
              with_reducible refine (spec_l01Little.calls k1 ((rd_T54 l0_2 x4_1).f3) 2 t356 _ A22.out).mono ?_
              rintro e w36 ⟨rfl,hb⟩
              refine ⟨_,rfl,?_⟩
              replace BK345:=Aside0.mk (blk_below (qx BK345.out) hb);replace BK352:=Aside0.mk (blk_below (qx BK352.out) hb);replace HB:=Aside0.mk (below_step (hb2 GE345.out GE352.out) hb)
              try clear hb
              refine hK.out _ _ ⟨(blk_cell BK352.out 0).trans rfl,(blk_cell BK352.out 1).trans rfl,(blk_cell BK352.out 2).trans rfl,(blk_cell BK352.out 3).trans rfl,(blk_cell BK352.out 4).trans rfl⟩ (fun hHeld=>?_)
              clear hK K
              refine norm_ (a':=?_) ?_ ?_
              rotate_left
              ·show Act.put _ (some 53) _=_
               simp only [Act.put,List.setIfInBounds_toArray,List.set_cons_zero,List.set_cons_succ,i64_w,i32_w]
               rfl
              refine pu 15 54 #[true,true,true,true,true,true,true,true,true,true,true,true,true,true,true,true,true,true,false,false,false,false] ?_
              refine one_ (i:=18) (N:=some 57) #[true,true,true,true,true,true,true,true,true,true,true,true,true,true,true,true,true,true,true,false,false,false] rfl rfl (one_of HT_.out (by kernel_rfl)) (by decide) (fun K hK=>?_)
              refine goes_ Try.func62 (by kernel_rfl) rfl #[.int .i64 ((rd_T54 l0_2 x4_1).f4),.int .i64 1] (by rfl) rfl rfl (mp_ rfl) ?_
              with_reducible refine (spec_l01Little.calls k1 ((rd_T54 l0_2 x4_1).f4) 1 t357 _ A24.out).mono ?_
              rintro e w37 ⟨rfl,hb⟩
              refine ⟨_,rfl,?_⟩
              replace BK345:=Aside0.mk (blk_below (qx BK345.out) hb);replace BK352:=Aside0.mk (blk_below (qx BK352.out) hb);replace HB:=Aside0.mk (below_step (hb2 GE345.out GE352.out) hb)
              try clear hb
              refine hK.out _ _ ⟨(blk_cell BK352.out 0).trans rfl,(blk_cell BK352.out 1).trans rfl,(blk_cell BK352.out 2).trans rfl,(blk_cell BK352.out 3).trans rfl,(blk_cell BK352.out 4).trans rfl⟩ (fun hHeld=>?_)
              clear hK K
              refine norm_ (a':=?_) ?_ ?_
              rotate_left
              ·show Act.put _ (some 57) _=_
               simp only [Act.put,List.setIfInBounds_toArray,List.set_cons_zero,List.set_cons_succ,i64_w,i32_w]
               rfl
              refine pu 19 58 #[true,true,true,true,true,true,true,true,true,true,true,true,true,true,true,true,true,true,true,true,false,false] ?_
              refine pu 20 59 #[true,true,true,true,true,true,true,true,true,true,true,true,true,true,true,true,true,true,true,true,true,false] ?_
              refine pu 21 3 #[true,true,true,true,true,true,true,true,true,true,true,true,true,true,true,true,true,true,true,true,true,true] ?_
              refine done_ (done_of HT_.out (by kernel_rfl)) ?_
              try go_wp2
              go_roundg k1
              case measure=>have:=HK1.out;omega
              case rel=>exact ⟨(x3_1 ++ ((((t353 ++ t354) ++ t355) ++ t356) ++ t357)),(wrap64 (x4_1+1)),rs,rs,H',⟨by have:=HK1.out;omega⟩,⟨qx BK345.out⟩,⟨hb2 GE345.out GE352.out⟩⟩
             rw [if_neg c26] at H
             exact absurd H (by simp)
            rw [if_neg c25] at H
            exact absurd H (by simp)
           rw [if_neg c23] at H
           exact absurd H (by simp)
          rw [if_neg c21] at H
          exact absurd H (by simp)
         rw [if_neg c19] at H
         exact absurd H (by simp)
        rw [if_neg c16] at H
        exact absurd H (by simp)
       rw [if_neg c15] at H
       have c15b0:decide (x4_1 < (l0_2.length:Int))=false:=decide_eq_false c15
       clear c15
       obtain ⟨t349,A38,H⟩:=bindA H
       obtain ⟨t350,A39,H⟩:=bindA H
       by_cases c40:x3_1.size+t350.size≤9223372036854775807
       ·rw [if_pos c40] at H
        have c40b0:=eq_true c40
        have c40b1:decide (x3_1.size+t350.size≤9223372036854775807)=true:=decide_eq_true c40
        try have c40b2:(9223372036854775807 < x3_1.size+t350.size)=False:=eq_false (Nat.not_lt.2 c40)
        obtain rfl:=Option.some.inj H
        obtain ⟨Z41_0,Z41_1,Z41_2,Y41_0,Y41_1,Y41_2⟩:=cel3 BK345.out
        go_wp2_with (first|(refine gd 64 62 Try.func64 #[.string x3_1] (spec_l01Sum.calls k1 x3_1 t349 _ A38.out) ?_;intro nd)|(refine gl 62 63 Try.func62 #[.int .i64 t349,.int .i64 4] ?_;(with_reducible refine (spec_l01Little.calls k1 t349 4 t350 _ A39.out).mono ?_);rintro e w42 ⟨rfl,hb⟩;refine ⟨_,rfl,?_⟩;have n0_:=Aside0.mk (blk_below (qx BK345.out) hb);replace HB:=Aside0.mk (below_step (hb1 GE345.out) hb);clear BK345;have BK345:=n0_;clear n0_;(try clear hb);(try clear hb2);(try clear hk);(try clear hi)))
        go_ret
        exact ⟨rf,hb1 GE345.out⟩
       rw [if_neg c40] at H
       exact absurd H (by simp)
     rw [if_neg c9] at H
     exact absurd H (by simp)
    rw [if_neg c7] at H
    exact absurd H (by simp)
   rw [if_neg c6] at H
   exact absurd H (by simp)
  rw [if_neg c4] at H
  exact absurd H (by simp)
 rw [if_neg c3] at H
 exact absurd H (by simp)
end Go.Proofs.Ythepmdlpjdlajaa.PFnExactLintImage
