-- Written by a program for this claim.
import Derived.Test.YthepmdlpjdlajaaZFnExactImageTexta
import Derived.Test.YthepmdlpjdlajaaPFnExactLintImagex2
import Derived.Test.YthepmdlpjdlajaaPFnExactLintImagex3
import Derived.Test.YthepmdlpjdlajaaPFnExactLintImagex16
import Derived.Test.YthepmdlpjdlajaaPFnExactLintImagex24
import Derived.Test.YthepmdlpjdlajaaPFnExactImageTextx30
import Derived.Test.YthepmdlpjdlajaaPFnExactImageTextx32
namespace Go.Proofs.Ythepmdlpjdlajaa.PFnExactLintImage
open Go.RowKit Go.Proofs.YthepmdlpjdlajaaW.PrintWords Go.Proofs.YthepmdlpjdlajaaW.PrintLast Go.Proofs.YthepmdlpjdlajaaW.PrintMore
attribute [local go_sem] max2_int min2_int max_two min_two max_three min_three max_four min_four   -- for this text's walks alone
set_option linter.unusedVariables false
set_option linter.unusedSimpArgs false
def impl_ImageText.l0:Nat→ByteArray→List (S54)→Int→Int→Option (ByteArray × Int)
  | 0,_,_,_,_=>none
  | k+1,x4,x32,x33,x34=>if x34 < x33 then (if 0≤x34 then (if x34 < (x32.length:Int) then ((impl_putLittle.f k (((rd_T54 x32 x34).f0).size:Int) 1).bind fun t535=>(if t535.size+((rd_T54 x32 x34).f0).size≤9223372036854775807 then ((impl_putLittle.f k ((rd_T54 x32 x34).f1) 1).bind fun t536=>(if (t535 ++ ((rd_T54 x32 x34).f0)).size+t536.size≤9223372036854775807 then ((impl_putLittle.f k ((rd_T54 x32 x34).f2) 2).bind fun t537=>(if ((t535 ++ ((rd_T54 x32 x34).f0)) ++ t536).size+t537.size≤9223372036854775807 then ((impl_putLittle.f k ((rd_T54 x32 x34).f3) 2).bind fun t538=>(if (((t535 ++ ((rd_T54 x32 x34).f0)) ++ t536) ++ t537).size+t538.size≤9223372036854775807 then ((impl_putLittle.f k ((rd_T54 x32 x34).f4) 1).bind fun t539=>(if ((((t535 ++ ((rd_T54 x32 x34).f0)) ++ t536) ++ t537) ++ t538).size+t539.size≤9223372036854775807 then (if x4.size+(((((t535 ++ ((rd_T54 x32 x34).f0)) ++ t536) ++ t537) ++ t538) ++ t539).size≤9223372036854775807 then (impl_ImageText.l0 k (x4 ++ (((((t535 ++ ((rd_T54 x32 x34).f0)) ++ t536) ++ t537) ++ t538) ++ t539)) x32 x33 (wrap64 (x34+1))) else (none)) else (none))) else (none))) else (none))) else (none))) else (none))) else (none)) else (none)) else ((impl_withSum.f k x4).bind fun t532=>(some (t532,0)))
def impl_ImageText.f (k:Nat) (a0_0:ByteArray) (a0_1:ByteArray) (l0_2:List (S54)):Option (ByteArray × Int):=(impl_ImageOK.f k a0_0 a0_1 l0_2).bind fun t528=>(if t528=true then ((impl_putLittle.f k (a0_0.size:Int) 2).bind fun t529=>(if 4+t529.size≤9223372036854775807 then (if ((⟨#[80,73,77,49]⟩:ByteArray) ++ t529).size+a0_0.size≤9223372036854775807 then ((impl_putLittle.f k (a0_1.size:Int) 2).bind fun t530=>(if (((⟨#[80,73,77,49]⟩:ByteArray) ++ t529) ++ a0_0).size+t530.size≤9223372036854775807 then (if ((((⟨#[80,73,77,49]⟩:ByteArray) ++ t529) ++ a0_0) ++ t530).size+a0_1.size≤9223372036854775807 then ((impl_putLittle.f k (l0_2.length:Int) 1).bind fun t531=>(if (((((⟨#[80,73,77,49]⟩:ByteArray) ++ t529) ++ a0_0) ++ t530) ++ a0_1).size+t531.size≤9223372036854775807 then (impl_ImageText.l0 k ((((((⟨#[80,73,77,49]⟩:ByteArray) ++ t529) ++ a0_0) ++ t530) ++ a0_1) ++ t531) l0_2 (l0_2.length:Int) 0) else (none))) else (none)) else (none))) else (none)) else (none))) else (some ((⟨#[]⟩:ByteArray),1)))
theorem impl_ImageText.mono_l : ∀ k,(∀ y0 y1 y2 y3,LeO (impl_ImageText.l0 k y0 y1 y2 y3) (impl_ImageText.l0 (k+1) y0 y1 y2 y3))
  | 0=>fun _ _ _ _ r h=>by simp [impl_ImageText.l0] at h
  | k+1=>by
    have ih0:=impl_ImageText.mono_l k
    · intro y0 y1 y2 y3
      unfold impl_ImageText.l0
      repeat' (with_reducible first|apply ih0|apply impl_ImageOK.mono|apply impl_putLittle.mono|apply impl_withSum.mono|apply LeO.refl|apply LeO.none|apply LeO.ite|refine LeO.bind ?_ (fun _=>?_))
theorem impl_ImageText.mono : ∀ a0 a1 a2 k,LeO (impl_ImageText.f k a0 a1 a2) (impl_ImageText.f (k+1) a0 a1 a2):=by
 intro a0 a1 a2 k
 have ih0:=impl_ImageText.mono_l k
 unfold impl_ImageText.f
 repeat' (with_reducible first|apply ih0|apply impl_ImageOK.mono|apply impl_putLittle.mono|apply impl_withSum.mono|apply LeO.refl|apply LeO.none|apply LeO.ite|refine LeO.bind ?_ (fun _=>?_))
def impl_ImageText.T3:Bool × List (List Nat × List Nat):=(true,[([],[]),([0],[0]),([1],[1]),([2],[2]),([3],[3]),([],[]),([5],[5]),([4,6],[4,6]),([],[]),([8],[8]),([9],[9]),([10,3],[10]),([7,11],[7,11]),([],[]),([13],[13]),([12,14],[12,14]),([],[]),([16],[16]),([17],[17]),([18,11],[18]),([15,19],[15,19]),([20,19,0,1,2,3,4,5,6,7,8,9,10,11,12,13,14,15,16,17,18,19,20],[20])])
def impl_ImageText.B3:List Nat:=[0,1,3,7,15,0,32,127,0,256,768,1807,4095,0,8192,32767,0,65536,196608,462607,1048575,2097151]
theorem impl_ImageText.tab3:rtab .any (opsOf Try.f17 3)=impl_ImageText.T3:=by kernel_rfl
theorem impl_ImageText.bits3:waitsOk impl_ImageText.T3.2 impl_ImageText.B3=true:=by kernel_rfl
def impl_ImageText.T7:Bool × List (List Nat × List Nat):=(true,[([],[]),([],[]),([1],[1]),([2],[2]),([3],[3]),([],[]),([5],[5]),([4,6],[4,6]),([],[]),([8],[8]),([9,4],[9]),([7,10],[7,10]),([],[]),([12],[12]),([13,10],[13]),([11,14],[11,14]),([],[]),([16],[16]),([17,14],[17]),([15,18],[15,18]),([],[]),([20],[20]),([21,18],[21]),([19,22],[19,22]),([0,23],[0,23]),([24,22,0,1,2,3,4,5,6,7,8,9,10,11,12,13,14,15,16,17,18,19,20,21,22,23,24],[0,24])])
def impl_ImageText.B7:List Nat:=[0,0,2,6,14,0,32,126,0,256,798,2046,0,4096,14110,32766,0,65536,227102,524286,0,1048576,3634974,8388606,16777215,33554431]
theorem impl_ImageText.tab7:rtab .any (opsOf Try.f17 7)=impl_ImageText.T7:=by kernel_rfl
theorem impl_ImageText.bits7:waitsOk impl_ImageText.T7.2 impl_ImageText.B7=true:=by kernel_rfl
set_option maxHeartbeats 8000000 in
set_option maxRecDepth 100000 in
theorem impl_ImageText.calls (k:Nat) (a0_0:ByteArray) (a0_1:ByteArray) (A0_2:Option Addr) (c0_2:Nat) (l0_2:List (S54)) (r1:ByteArray) (r2:Int) (w:World) (hr0_2:Kd.C k54 w A0_2 l0_2.length l0_2) (hc0_2:l0_2.length≤c0_2) (h:impl_ImageText.f k a0_0 a0_1 l0_2=some (r1,r2)) :
    Calls Try.prog 17 #[.agg #[.string a0_0,.string a0_1,.slice A0_2 l0_2.length c0_2]] w fun e w'=>e=.returned (.tuple #[.string r1,.int .i64 r2])∧Below w.heap.size w w':=by
 have hu30:=Try.underlying30
 have hu54:=Try.underlying54
 have HR0_2:=Aside0.mk hr0_2
 have HC0_2:=Aside0.mk hc0_2
 clear hr0_2 hc0_2
 have HB:=Aside0.mk (Below.refl w.heap.size w)
 have H:((impl_ImageOK.f k a0_0 a0_1 l0_2).bind fun t528=>(if t528=true then ((impl_putLittle.f k (a0_0.size:Int) 2).bind fun t529=>(if 4+t529.size≤9223372036854775807 then (if ((⟨#[80,73,77,49]⟩:ByteArray) ++ t529).size+a0_0.size≤9223372036854775807 then ((impl_putLittle.f k (a0_1.size:Int) 2).bind fun t530=>(if (((⟨#[80,73,77,49]⟩:ByteArray) ++ t529) ++ a0_0).size+t530.size≤9223372036854775807 then (if ((((⟨#[80,73,77,49]⟩:ByteArray) ++ t529) ++ a0_0) ++ t530).size+a0_1.size≤9223372036854775807 then ((impl_putLittle.f k (l0_2.length:Int) 1).bind fun t531=>(if (((((⟨#[80,73,77,49]⟩:ByteArray) ++ t529) ++ a0_0) ++ t530) ++ a0_1).size+t531.size≤9223372036854775807 then (impl_ImageText.l0 k ((((((⟨#[80,73,77,49]⟩:ByteArray) ++ t529) ++ a0_0) ++ t530) ++ a0_1) ++ t531) l0_2 (l0_2.length:Int) 0) else (none))) else (none)) else (none))) else (none)) else (none))) else (some ((⟨#[]⟩:ByteArray),1))))=some (r1,r2):=h
 clear h
 obtain ⟨t528,A2,H⟩:=bindA H
 by_cases c3:t528=true
 ·subst c3
  rw [if_pos rfl] at H
  obtain ⟨t529,A4,H⟩:=bindA H
  by_cases c5:4+t529.size≤9223372036854775807
  ·rw [if_pos c5] at H
   have c5b0:=eq_true c5
   have c5b1:decide (4+t529.size≤9223372036854775807)=true:=decide_eq_true c5
   try have c5b2:(9223372036854775807 < 4+t529.size)=False:=eq_false (Nat.not_lt.2 c5)
   by_cases c6:((⟨#[80,73,77,49]⟩:ByteArray) ++ t529).size+a0_0.size≤9223372036854775807
   ·rw [if_pos c6] at H
    have c6b0:=eq_true c6
    have c6b1:decide (((⟨#[80,73,77,49]⟩:ByteArray) ++ t529).size+a0_0.size≤9223372036854775807)=true:=decide_eq_true c6
    try have c6b2:(9223372036854775807 < ((⟨#[80,73,77,49]⟩:ByteArray) ++ t529).size+a0_0.size)=False:=eq_false (Nat.not_lt.2 c6)
    try have c6b3:(9223372036854775807 < 4+t529.size+a0_0.size)=False:=eq_false (by have hz0_:(⟨#[80,73,77,49]⟩:ByteArray).size=4:=rfl;have h_:=c6;simp only [eq_iff_iff,iff_true,decide_eq_true_eq,ByteArray.size_append,ByteArray.size_extract] at *;omega)
    obtain ⟨t530,A7,H⟩:=bindA H
    by_cases c8:(((⟨#[80,73,77,49]⟩:ByteArray) ++ t529) ++ a0_0).size+t530.size≤9223372036854775807
    ·rw [if_pos c8] at H
     have c8b0:=eq_true c8
     have c8b1:decide ((((⟨#[80,73,77,49]⟩:ByteArray) ++ t529) ++ a0_0).size+t530.size≤9223372036854775807)=true:=decide_eq_true c8
     try have c8b2:(9223372036854775807 < (((⟨#[80,73,77,49]⟩:ByteArray) ++ t529) ++ a0_0).size+t530.size)=False:=eq_false (Nat.not_lt.2 c8)
     try have c8b3:(9223372036854775807 < 4+t529.size+a0_0.size+t530.size)=False:=eq_false (by have hz0_:(⟨#[80,73,77,49]⟩:ByteArray).size=4:=rfl;have h_:=c8;simp only [eq_iff_iff,iff_true,decide_eq_true_eq,ByteArray.size_append,ByteArray.size_extract] at *;omega)
     by_cases c9:((((⟨#[80,73,77,49]⟩:ByteArray) ++ t529) ++ a0_0) ++ t530).size+a0_1.size≤9223372036854775807
     ·rw [if_pos c9] at H
      have c9b0:=eq_true c9
      have c9b1:decide (((((⟨#[80,73,77,49]⟩:ByteArray) ++ t529) ++ a0_0) ++ t530).size+a0_1.size≤9223372036854775807)=true:=decide_eq_true c9
      try have c9b2:(9223372036854775807 < ((((⟨#[80,73,77,49]⟩:ByteArray) ++ t529) ++ a0_0) ++ t530).size+a0_1.size)=False:=eq_false (Nat.not_lt.2 c9)
      try have c9b3:(9223372036854775807 < 4+t529.size+a0_0.size+t530.size+a0_1.size)=False:=eq_false (by have hz0_:(⟨#[80,73,77,49]⟩:ByteArray).size=4:=rfl;have h_:=c9;simp only [eq_iff_iff,iff_true,decide_eq_true_eq,ByteArray.size_append,ByteArray.size_extract] at *;omega)
      obtain ⟨t531,A10,H⟩:=bindA H
      by_cases c11:(((((⟨#[80,73,77,49]⟩:ByteArray) ++ t529) ++ a0_0) ++ t530) ++ a0_1).size+t531.size≤9223372036854775807
      ·rw [if_pos c11] at H
       have c11b0:=eq_true c11
       have c11b1:decide ((((((⟨#[80,73,77,49]⟩:ByteArray) ++ t529) ++ a0_0) ++ t530) ++ a0_1).size+t531.size≤9223372036854775807)=true:=decide_eq_true c11
       try have c11b2:(9223372036854775807 < (((((⟨#[80,73,77,49]⟩:ByteArray) ++ t529) ++ a0_0) ++ t530) ++ a0_1).size+t531.size)=False:=eq_false (Nat.not_lt.2 c11)
       try have c11b3:(9223372036854775807 < 4+t529.size+a0_0.size+t530.size+a0_1.size+t531.size)=False:=eq_false (by have hz0_:(⟨#[80,73,77,49]⟩:ByteArray).size=4:=rfl;have h_:=c11;simp only [eq_iff_iff,iff_true,decide_eq_true_eq,ByteArray.size_append,ByteArray.size_extract] at *;omega)
       have H':=Aside0.mk H
       clear H
       go_enter Try.func17,Try.ntmps17
       try go_wp2_with (first|(refine bv 1 #[.string a0_0,.string a0_1,.slice A0_2 l0_2.length c0_2] 30 ?_;intro gb527 hg w12 hbox hb;obtain ⟨n0_,n2_⟩:=bx0 hbx hb hg;have n1_:=Aside0.mk (hbox);clear HB;have HB:=n0_;have BK527:=n1_;have GW527:=n2_;have GE527:=n2_;clear n0_ n1_ n2_;clear hb hbox hg;obtain ⟨Z13_0,Z13_1,Z13_2,Y13_0,Y13_1,Y13_2⟩:=cel3 BK527.out)|(refine gl 29 8 Try.func29 #[.agg #[.string a0_0,.string a0_1,.slice A0_2 l0_2.length c0_2]] ?_;(with_reducible refine (impl_ImageOK.calls k a0_0 a0_1 _ _ l0_2 true _ ?side1 ?side2 A2.out).mono ?_);(case side1=>exact kc HR0_2.out);(case side2=>exact HC0_2.out);rintro e w14 ⟨rfl,hb⟩;refine ⟨_,rfl,?_⟩;have n0_:=Aside0.mk (blk_below (qx BK527.out) hb);replace HB:=Aside0.mk (below_step (hb1 GE527.out) hb);clear BK527;have BK527:=n0_;clear n0_;(try clear hb);(try clear hb2);(try clear hk);(try clear hi)))
       replace BK527:=Aside0.mk (blk_drew BK527.out);replace HB:=Aside0.mk (below_drew1 HB.out)
       refine start_ (n:=22) (S:=fun w'=>w'.cell? ⟨gb527,0,none⟩=some (.string a0_0)∧w'.cell? ⟨gb527,1,none⟩=some (.string a0_1)∧w'.cell? ⟨gb527,2,none⟩=some (.slice A0_2 l0_2.length c0_2)) (ds:=[]) #[false,false,false,false,false,false,false,false,false,false,false,false,false,false,false,false,false,false,false,false,false,false] (by kernel_rfl) rfl rfl ⟨(blk_cell BK527.out 0).trans rfl,(blk_cell BK527.out 1).trans rfl,(blk_cell BK527.out 2).trans rfl⟩ (fun hHeld=>?_);refine with_tabW impl_ImageText.tab3 impl_ImageText.bits3 (fun HT_ HW_=>?_)
       generalize w14.drew=w15 at BK527 HB hHeld ⊢
       refine pu 0 10 #[true,false,false,false,false,false,false,false,false,false,false,false,false,false,false,false,false,false,false,false,false,false] ?_
       refine pu 5 15 #[true,false,false,false,false,true,false,false,false,false,false,false,false,false,false,false,false,false,false,false,false,false] ?_
       refine pu 8 18 #[true,false,false,false,false,true,false,false,true,false,false,false,false,false,false,false,false,false,false,false,false,false] ?_
       refine pu 13 23 #[true,false,false,false,false,true,false,false,true,false,false,false,false,true,false,false,false,false,false,false,false,false] ?_
       refine pu 16 26 #[true,false,false,false,false,true,false,false,true,false,false,false,false,true,false,false,true,false,false,false,false,false] ?_
       refine take_ (i:=1) (N:=some 11) (v:=?_) (a':=?_) #[true,true,false,false,false,true,false,false,true,false,false,false,false,true,false,false,true,false,false,false,false,false] rfl rfl (take_ofW HT_.out HW_.out (by kernel_rfl)) (fun _ _ _ h=>h) (Or.inl ⟨by rfl,?_⟩) hHeld ?_ ?_
       rotate_left
       ·rintro w' ⟨s0,s1,s2⟩
        go_simp
        with_reducible rfl
       rotate_left
       ·simp only [Act.put,List.setIfInBounds_toArray,List.set_cons_zero,List.set_cons_succ,i64_w,i32_w]
        rfl
       refine pu 2 12 #[true,true,true,false,false,true,false,false,true,false,false,false,false,true,false,false,true,false,false,false,false,false] ?_
       refine take_ (i:=6) (N:=some 16) (v:=?_) (a':=?_) #[true,true,true,false,false,true,true,false,true,false,false,false,false,true,false,false,true,false,false,false,false,false] rfl rfl (take_ofW HT_.out HW_.out (by kernel_rfl)) (fun _ _ _ h=>h) (Or.inl ⟨by rfl,?_⟩) hHeld ?_ ?_
       rotate_left
       ·rintro w' ⟨s0,s1,s2⟩
        go_simp
        with_reducible rfl
       rotate_left
       ·simp only [Act.put,List.setIfInBounds_toArray,List.set_cons_zero,List.set_cons_succ,i64_w,i32_w]
        rfl
       refine take_ (i:=9) (N:=some 19) (v:=?_) (a':=?_) #[true,true,true,false,false,true,true,false,true,true,false,false,false,true,false,false,true,false,false,false,false,false] rfl rfl (take_ofW HT_.out HW_.out (by kernel_rfl)) (fun _ _ _ h=>h) (Or.inl ⟨by rfl,?_⟩) hHeld ?_ ?_
       rotate_left
       ·rintro w' ⟨s0,s1,s2⟩
        go_simp
        with_reducible rfl
       rotate_left
       ·simp only [Act.put,List.setIfInBounds_toArray,List.set_cons_zero,List.set_cons_succ,i64_w,i32_w]
        rfl
       refine pu 10 20 #[true,true,true,false,false,true,true,false,true,true,true,false,false,true,false,false,true,false,false,false,false,false] ?_
       refine take_ (i:=14) (N:=some 24) (v:=?_) (a':=?_) #[true,true,true,false,false,true,true,false,true,true,true,false,false,true,true,false,true,false,false,false,false,false] rfl rfl (take_ofW HT_.out HW_.out (by kernel_rfl)) (fun _ _ _ h=>h) (Or.inl ⟨by rfl,?_⟩) hHeld ?_ ?_
       rotate_left
       ·rintro w' ⟨s0,s1,s2⟩
        go_simp
        with_reducible rfl
       rotate_left
       ·simp only [Act.put,List.setIfInBounds_toArray,List.set_cons_zero,List.set_cons_succ,i64_w,i32_w]
        rfl
       refine take_ (i:=17) (N:=some 27) (v:=?_) (a':=?_) #[true,true,true,false,false,true,true,false,true,true,true,false,false,true,true,false,true,true,false,false,false,false] rfl rfl (take_ofW HT_.out HW_.out (by kernel_rfl)) (fun _ _ _ h=>h) (Or.inl ⟨by rfl,?_⟩) hHeld ?_ ?_
       rotate_left
       ·rintro w' ⟨s0,s1,s2⟩
        go_simp
        with_reducible rfl
       rotate_left
       ·simp only [Act.put,List.setIfInBounds_toArray,List.set_cons_zero,List.set_cons_succ,i64_w,i32_w]
        rfl
       refine pu 18 28 #[true,true,true,false,false,true,true,false,true,true,true,false,false,true,true,false,true,true,true,false,false,false] ?_
       refine one_ (i:=3) (N:=some 13) #[true,true,true,true,false,true,true,false,true,true,true,false,false,true,true,false,true,true,true,false,false,false] rfl rfl (one_of HT_.out (by kernel_rfl)) (by decide) (fun K hK=>?_)
       refine goes_ Try.func40 (by kernel_rfl) rfl #[.int .i64 (a0_0.size:Int),.int .i64 2] (by rfl) rfl rfl (mp_ rfl) ?_
       with_reducible refine (impl_putLittle.calls k (a0_0.size:Int) 2 t529 _ A4.out).mono ?_
       rintro e w16 ⟨rfl,hb⟩
       refine ⟨_,rfl,?_⟩
       replace BK527:=Aside0.mk (blk_below (qx BK527.out) hb);replace HB:=Aside0.mk (below_step (hb1 GE527.out) hb)
       try clear hb hb2
       try clear hk
       try clear hi
       refine hK.out _ _ ⟨(blk_cell BK527.out 0).trans rfl,(blk_cell BK527.out 1).trans rfl,(blk_cell BK527.out 2).trans rfl⟩ (fun hHeld=>?_)
       clear hK K
       refine norm_ (a':=?_) ?_ ?_
       rotate_left
       ·show Act.put _ (some 13) _=_
        simp only [Act.put,List.setIfInBounds_toArray,List.set_cons_zero,List.set_cons_succ,i64_w,i32_w]
        rfl
       refine pu 4 14 #[true,true,true,true,true,true,true,false,true,true,true,false,false,true,true,false,true,true,true,false,false,false] ?_
       refine pu 7 17 #[true,true,true,true,true,true,true,true,true,true,true,false,false,true,true,false,true,true,true,false,false,false] ?_
       refine one_ (i:=11) (N:=some 21) #[true,true,true,true,true,true,true,true,true,true,true,true,false,true,true,false,true,true,true,false,false,false] rfl rfl (one_of HT_.out (by kernel_rfl)) (by decide) (fun K hK=>?_)
       refine goes_ Try.func40 (by kernel_rfl) rfl #[.int .i64 (a0_1.size:Int),.int .i64 2] (by rfl) rfl rfl (mp_ rfl) ?_
       with_reducible refine (impl_putLittle.calls k (a0_1.size:Int) 2 t530 _ A7.out).mono ?_
       rintro e w17 ⟨rfl,hb⟩
       refine ⟨_,rfl,?_⟩
       replace BK527:=Aside0.mk (blk_below (qx BK527.out) hb);replace HB:=Aside0.mk (below_step (hb1 GE527.out) hb)
       try clear hb
       refine hK.out _ _ ⟨(blk_cell BK527.out 0).trans rfl,(blk_cell BK527.out 1).trans rfl,(blk_cell BK527.out 2).trans rfl⟩ (fun hHeld=>?_)
       clear hK K
       refine norm_ (a':=?_) ?_ ?_
       rotate_left
       ·show Act.put _ (some 21) _=_
        simp only [Act.put,List.setIfInBounds_toArray,List.set_cons_zero,List.set_cons_succ,i64_w,i32_w]
        rfl
       refine pu 12 22 #[true,true,true,true,true,true,true,true,true,true,true,true,true,true,true,false,true,true,true,false,false,false] ?_
       refine pu 15 25 #[true,true,true,true,true,true,true,true,true,true,true,true,true,true,true,true,true,true,true,false,false,false] ?_
       refine one_ (i:=19) (N:=some 29) #[true,true,true,true,true,true,true,true,true,true,true,true,true,true,true,true,true,true,true,true,false,false] rfl rfl (one_of HT_.out (by kernel_rfl)) (by decide) (fun K hK=>?_)
       refine goes_ Try.func40 (by kernel_rfl) rfl #[.int .i64 (l0_2.length:Int),.int .i64 1] (by rfl) rfl rfl (mp_ rfl) ?_
       with_reducible refine (impl_putLittle.calls k (l0_2.length:Int) 1 t531 _ A10.out).mono ?_
       rintro e w18 ⟨rfl,hb⟩
       refine ⟨_,rfl,?_⟩
       replace BK527:=Aside0.mk (blk_below (qx BK527.out) hb);replace HB:=Aside0.mk (below_step (hb1 GE527.out) hb)
       try clear hb
       refine hK.out _ _ ⟨(blk_cell BK527.out 0).trans rfl,(blk_cell BK527.out 1).trans rfl,(blk_cell BK527.out 2).trans rfl⟩ (fun hHeld=>?_)
       clear hK K
       refine norm_ (a':=?_) ?_ ?_
       rotate_left
       ·show Act.put _ (some 29) _=_
        simp only [Act.put,List.setIfInBounds_toArray,List.set_cons_zero,List.set_cons_succ,i64_w,i32_w]
        rfl
       refine pu 20 30 #[true,true,true,true,true,true,true,true,true,true,true,true,true,true,true,true,true,true,true,true,true,false] ?_
       refine pu 21 4 #[true,true,true,true,true,true,true,true,true,true,true,true,true,true,true,true,true,true,true,true,true,true] ?_
       refine done_ (done_of HT_.out (by kernel_rfl)) ?_
       obtain ⟨Z19_0,Z19_1,Z19_2,Y19_0,Y19_1,Y19_2⟩:=cel3 BK527.out
       try go_wp2
       go_loopg [4,34] k (fun kq v4 v34 w'=>∃ (x4_1:ByteArray) (x34_1:Int),v4=.string x4_1∧v34=.int .i64 x34_1∧Aside0 (impl_ImageText.l0 kq x4_1 l0_2 (l0_2.length:Int) x34_1=some (r1,r2))∧Aside0 (kq≤k)∧Aside0 (w'.heap[gb527]?=some (.cells #[.string a0_0,.string a0_1,(.slice A0_2 l0_2.length c0_2)] 30 (0,0)))∧Aside0 (Below w.heap.size w w'))
       case atStart=>exact ⟨((((((⟨#[80,73,77,49]⟩:ByteArray) ++ t529) ++ a0_0) ++ t530) ++ a0_1) ++ t531),(0),rs,rs,H',⟨Nat.le_refl _⟩,⟨qx BK527.out⟩,⟨hb1 GE527.out⟩⟩
       clear H'
       try clear c3
       try clear c5
       try clear c5b0
       try clear c5b1
       try clear c5b2
       try clear c6
       try clear c6b0
       try clear c6b1
       try clear c6b2
       try clear c8
       try clear c8b0
       try clear c8b1
       try clear c8b2
       try clear c9
       try clear c9b0
       try clear c9b1
       try clear c9b2
       try clear c11
       try clear c11b0
       try clear c11b1
       try clear c11b2
       try clear Z13_0 Z13_1 Z13_2
       try clear Z19_0
       try clear Z19_1
       try clear Z19_2
       try clear Y13_0 Y13_1 Y13_2
       try clear Y19_0
       try clear Y19_1
       try clear Y19_2
       obtain ⟨x4_1,x34_1,rfl,rfl,HA,HK1,BK527,HB⟩:=hrel
       cases gk with
       | zero=>exact absurd HA.out (by simp [impl_ImageText.l0])
       | succ k1 =>
        have H:=HA.out
        clear HA
        simp only [impl_ImageText.l0] at H
        by_cases c20:x34_1 < (l0_2.length:Int)
        ·rw [if_pos c20] at H
         have c20b0:decide (x34_1 < (l0_2.length:Int))=true:=decide_eq_true c20
         clear c20
         by_cases c21:0≤x34_1
         ·rw [if_pos c21] at H
          have c21b0:decide (0≤x34_1)=true:=decide_eq_true c21
          clear c21
          by_cases c22:x34_1 < (l0_2.length:Int)
          ·rw [if_pos c22] at H
           have c22b0:decide (x34_1 < (l0_2.length:Int))=true:=decide_eq_true c22
           clear c22
           obtain ⟨t535,A23,H⟩:=bindA H
           by_cases c24:t535.size+((rd_T54 l0_2 x34_1).f0).size≤9223372036854775807
           ·rw [if_pos c24] at H
            have c24b0:=eq_true c24
            have c24b1:decide (t535.size+((rd_T54 l0_2 x34_1).f0).size≤9223372036854775807)=true:=decide_eq_true c24
            try have c24b2:(9223372036854775807 < t535.size+((rd_T54 l0_2 x34_1).f0).size)=False:=eq_false (Nat.not_lt.2 c24)
            obtain ⟨t536,A25,H⟩:=bindA H
            by_cases c26:(t535 ++ ((rd_T54 l0_2 x34_1).f0)).size+t536.size≤9223372036854775807
            ·rw [if_pos c26] at H
             have c26b0:=eq_true c26
             have c26b1:decide ((t535 ++ ((rd_T54 l0_2 x34_1).f0)).size+t536.size≤9223372036854775807)=true:=decide_eq_true c26
             try have c26b2:(9223372036854775807 < (t535 ++ ((rd_T54 l0_2 x34_1).f0)).size+t536.size)=False:=eq_false (Nat.not_lt.2 c26)
             try have c26b3:(9223372036854775807 < t535.size+((rd_T54 l0_2 x34_1).f0).size+t536.size)=False:=eq_false (by have h_:=c26;simp only [eq_iff_iff,iff_true,decide_eq_true_eq,ByteArray.size_append,ByteArray.size_extract] at *;omega)
             obtain ⟨t537,A27,H⟩:=bindA H
             by_cases c28:((t535 ++ ((rd_T54 l0_2 x34_1).f0)) ++ t536).size+t537.size≤9223372036854775807
             ·rw [if_pos c28] at H
              have c28b0:=eq_true c28
              have c28b1:decide (((t535 ++ ((rd_T54 l0_2 x34_1).f0)) ++ t536).size+t537.size≤9223372036854775807)=true:=decide_eq_true c28
              try have c28b2:(9223372036854775807 < ((t535 ++ ((rd_T54 l0_2 x34_1).f0)) ++ t536).size+t537.size)=False:=eq_false (Nat.not_lt.2 c28)
              try have c28b3:(9223372036854775807 < t535.size+((rd_T54 l0_2 x34_1).f0).size+t536.size+t537.size)=False:=eq_false (by have h_:=c28;simp only [eq_iff_iff,iff_true,decide_eq_true_eq,ByteArray.size_append,ByteArray.size_extract] at *;omega)
              obtain ⟨t538,A29,H⟩:=bindA H
              by_cases c30:(((t535 ++ ((rd_T54 l0_2 x34_1).f0)) ++ t536) ++ t537).size+t538.size≤9223372036854775807
              ·rw [if_pos c30] at H
               have c30b0:=eq_true c30
               have c30b1:decide ((((t535 ++ ((rd_T54 l0_2 x34_1).f0)) ++ t536) ++ t537).size+t538.size≤9223372036854775807)=true:=decide_eq_true c30
               try have c30b2:(9223372036854775807 < (((t535 ++ ((rd_T54 l0_2 x34_1).f0)) ++ t536) ++ t537).size+t538.size)=False:=eq_false (Nat.not_lt.2 c30)
               try have c30b3:(9223372036854775807 < t535.size+((rd_T54 l0_2 x34_1).f0).size+t536.size+t537.size+t538.size)=False:=eq_false (by have h_:=c30;simp only [eq_iff_iff,iff_true,decide_eq_true_eq,ByteArray.size_append,ByteArray.size_extract] at *;omega)
               obtain ⟨t539,A31,H⟩:=bindA H
               by_cases c32:((((t535 ++ ((rd_T54 l0_2 x34_1).f0)) ++ t536) ++ t537) ++ t538).size+t539.size≤9223372036854775807
               ·rw [if_pos c32] at H
                have c32b0:=eq_true c32
                have c32b1:decide (((((t535 ++ ((rd_T54 l0_2 x34_1).f0)) ++ t536) ++ t537) ++ t538).size+t539.size≤9223372036854775807)=true:=decide_eq_true c32
                try have c32b2:(9223372036854775807 < ((((t535 ++ ((rd_T54 l0_2 x34_1).f0)) ++ t536) ++ t537) ++ t538).size+t539.size)=False:=eq_false (Nat.not_lt.2 c32)
                try have c32b3:(9223372036854775807 < t535.size+((rd_T54 l0_2 x34_1).f0).size+t536.size+t537.size+t538.size+t539.size)=False:=eq_false (by have h_:=c32;simp only [eq_iff_iff,iff_true,decide_eq_true_eq,ByteArray.size_append,ByteArray.size_extract] at *;omega)
                by_cases c33:x4_1.size+(((((t535 ++ ((rd_T54 l0_2 x34_1).f0)) ++ t536) ++ t537) ++ t538) ++ t539).size≤9223372036854775807
                ·rw [if_pos c33] at H
                 have c33b0:=eq_true c33
                 have c33b1:decide (x4_1.size+(((((t535 ++ ((rd_T54 l0_2 x34_1).f0)) ++ t536) ++ t537) ++ t538) ++ t539).size≤9223372036854775807)=true:=decide_eq_true c33
                 try have c33b2:(9223372036854775807 < x4_1.size+(((((t535 ++ ((rd_T54 l0_2 x34_1).f0)) ++ t536) ++ t537) ++ t538) ++ t539).size)=False:=eq_false (Nat.not_lt.2 c33)
                 try have c33b3:(9223372036854775807 < x4_1.size+(t535.size+((rd_T54 l0_2 x34_1).f0).size+t536.size+t537.size+t538.size+t539.size))=False:=eq_false (by have h_:=c33;simp only [eq_iff_iff,iff_true,decide_eq_true_eq,ByteArray.size_append,ByteArray.size_extract] at *;omega)
                 have H':=Aside0.mk H
                 clear H
                 have p533:0≤(x34_1:Int):=od
                 have q533:x34_1 < (l0_2.length:Int):=od
                 obtain ⟨ad533,e533,hx533_0,hx533_1,hx533_2,hx533_3,hx533_4⟩:=at_T54 HR0_2.out x34_1 p533 q533
                 cases e533
                 replace hx533_0:=cx HB.out hx533_0
                 replace hx533_1:=cx HB.out hx533_1
                 replace hx533_2:=cx HB.out hx533_2
                 replace hx533_3:=cx HB.out hx533_3
                 replace hx533_4:=cx HB.out hx533_4
                 replace p533:=eq_true p533
                 replace q533:=eq_true q533
                 try go_wp2_with (first|(refine bv 6 #[.string (⟨#[]⟩:ByteArray),.int .i64 0,.int .i64 0,.int .i64 0,.int .i64 0] 54 ?_;intro gb534 hg w34 hbox hb;obtain ⟨n1_,n3_⟩:=bx0 (hb1 GE527.out) hb hg;obtain ⟨n0_,n5_,n6_⟩:=bx3 (qx BK527.out) hb hg;have n2_:=Aside0.mk (hbox);clear BK527;clear HB;have BK527:=n0_;have HB:=n1_;have BK534:=n2_;have GW534:=n3_;have GE534:=n3_;have NB527_534:=n5_;have NB534_527:=n6_;clear n0_ n1_ n2_ n3_ n5_ n6_;clear hb hbox hg;have hnb35:=NB534_527.out;have hnc35:=NB527_534.out;obtain ⟨Z36_0,Z36_1,Z36_2,Z36_3,Z36_4,Y36_0,Y36_1,Y36_2,Y36_3,Y36_4⟩:=cel5 BK534.out))
                 have n0_:Aside0 ((((((w34.setCell ⟨gb534,0,none⟩ (.string ((rd_T54 l0_2 x34_1).f0))).setCell ⟨gb534,1,none⟩ (.int .i64 ((rd_T54 l0_2 x34_1).f1))).setCell ⟨gb534,2,none⟩ (.int .i64 ((rd_T54 l0_2 x34_1).f2))).setCell ⟨gb534,3,none⟩ (.int .i64 ((rd_T54 l0_2 x34_1).f3))).setCell ⟨gb534,4,none⟩ (.int .i64 ((rd_T54 l0_2 x34_1).f4))).heap[gb527]?=some (.cells #[.string a0_0,.string a0_1,.slice (some ad533) l0_2.length c0_2] 30 (0,0))):=⟨qg NB527_534.out BK527.out⟩
                 have n1_:Aside0 ((((((w34.setCell ⟨gb534,0,none⟩ (.string ((rd_T54 l0_2 x34_1).f0))).setCell ⟨gb534,1,none⟩ (.int .i64 ((rd_T54 l0_2 x34_1).f1))).setCell ⟨gb534,2,none⟩ (.int .i64 ((rd_T54 l0_2 x34_1).f2))).setCell ⟨gb534,3,none⟩ (.int .i64 ((rd_T54 l0_2 x34_1).f3))).setCell ⟨gb534,4,none⟩ (.int .i64 ((rd_T54 l0_2 x34_1).f4))).heap[gb534]?=some (.cells #[.string ((rd_T54 l0_2 x34_1).f0),.int .i64 ((rd_T54 l0_2 x34_1).f1),.int .i64 ((rd_T54 l0_2 x34_1).f2),.int .i64 ((rd_T54 l0_2 x34_1).f3),.int .i64 ((rd_T54 l0_2 x34_1).f4)] 54 (0,0))):=⟨by (with_reducible repeat first|apply Q1|apply Q2|apply Q3);refine blk_put (cs:=#[.string ((rd_T54 l0_2 x34_1).f0),.int .i64 ((rd_T54 l0_2 x34_1).f1),.int .i64 ((rd_T54 l0_2 x34_1).f2),.int .i64 ((rd_T54 l0_2 x34_1).f3),.int .i64 0]) ?_ 4 _ rfl;(with_reducible repeat first|apply Q1|apply Q2|apply Q3);refine blk_put (cs:=#[.string ((rd_T54 l0_2 x34_1).f0),.int .i64 ((rd_T54 l0_2 x34_1).f1),.int .i64 ((rd_T54 l0_2 x34_1).f2),.int .i64 0,.int .i64 0]) ?_ 3 _ rfl;(with_reducible repeat first|apply Q1|apply Q2|apply Q3);refine blk_put (cs:=#[.string ((rd_T54 l0_2 x34_1).f0),.int .i64 ((rd_T54 l0_2 x34_1).f1),.int .i64 0,.int .i64 0,.int .i64 0]) ?_ 2 _ rfl;(with_reducible repeat first|apply Q1|apply Q2|apply Q3);refine blk_put (cs:=#[.string ((rd_T54 l0_2 x34_1).f0),.int .i64 0,.int .i64 0,.int .i64 0,.int .i64 0]) ?_ 1 _ rfl;(with_reducible repeat first|apply Q1|apply Q2|apply Q3);refine blk_put (cs:=#[.string (⟨#[]⟩:ByteArray),.int .i64 0,.int .i64 0,.int .i64 0,.int .i64 0]) ?_ 0 _ rfl;(with_reducible repeat first|apply Q1|apply Q2|apply Q3);exact BK534.out⟩
                 have n2_:Aside0 (Below w.heap.size w (((((w34.setCell ⟨gb534,0,none⟩ (.string ((rd_T54 l0_2 x34_1).f0))).setCell ⟨gb534,1,none⟩ (.int .i64 ((rd_T54 l0_2 x34_1).f1))).setCell ⟨gb534,2,none⟩ (.int .i64 ((rd_T54 l0_2 x34_1).f2))).setCell ⟨gb534,3,none⟩ (.int .i64 ((rd_T54 l0_2 x34_1).f3))).setCell ⟨gb534,4,none⟩ (.int .i64 ((rd_T54 l0_2 x34_1).f4)))):=⟨hb2 GE527.out GE534.out⟩
                 try clear BK527
                 try clear BK534
                 try clear HB
                 generalize (((((w34.setCell ⟨gb534,0,none⟩ (.string ((rd_T54 l0_2 x34_1).f0))).setCell ⟨gb534,1,none⟩ (.int .i64 ((rd_T54 l0_2 x34_1).f1))).setCell ⟨gb534,2,none⟩ (.int .i64 ((rd_T54 l0_2 x34_1).f2))).setCell ⟨gb534,3,none⟩ (.int .i64 ((rd_T54 l0_2 x34_1).f3))).setCell ⟨gb534,4,none⟩ (.int .i64 ((rd_T54 l0_2 x34_1).f4)))=w37 at n0_ n1_ n2_ ⊢
                 have BK527:=n0_
                 have BK534:=n1_
                 have HB:=n2_
                 clear n0_ n1_ n2_
                 replace BK527:=Aside0.mk (blk_drew BK527.out);replace BK534:=Aside0.mk (blk_drew BK534.out);replace HB:=Aside0.mk (below_drew1 HB.out)
                 refine start_ (n:=26) (S:=fun w'=>w'.cell? ⟨gb534,0,none⟩=some (.string ((rd_T54 l0_2 x34_1).f0))∧w'.cell? ⟨gb534,1,none⟩=some (.int .i64 ((rd_T54 l0_2 x34_1).f1))∧w'.cell? ⟨gb534,2,none⟩=some (.int .i64 ((rd_T54 l0_2 x34_1).f2))∧w'.cell? ⟨gb534,3,none⟩=some (.int .i64 ((rd_T54 l0_2 x34_1).f3))∧w'.cell? ⟨gb534,4,none⟩=some (.int .i64 ((rd_T54 l0_2 x34_1).f4))) (ds:=[]) #[false,false,false,false,false,false,false,false,false,false,false,false,false,false,false,false,false,false,false,false,false,false,false,false,false,false] (by kernel_rfl) rfl rfl ⟨(blk_cell BK534.out 0).trans rfl,(blk_cell BK534.out 1).trans rfl,(blk_cell BK534.out 2).trans rfl,(blk_cell BK534.out 3).trans rfl,(blk_cell BK534.out 4).trans rfl⟩ (fun hHeld=>?_);refine with_tabW impl_ImageText.tab7 impl_ImageText.bits7 (fun HT_ HW_=>?_)
                 generalize w37.drew=w38 at BK527 BK534 HB hHeld ⊢
                 refine pu 0 38 #[true,false,false,false,false,false,false,false,false,false,false,false,false,false,false,false,false,false,false,false,false,false,false,false,false,false] ?_
                 refine pu 1 39 #[true,true,false,false,false,false,false,false,false,false,false,false,false,false,false,false,false,false,false,false,false,false,false,false,false,false] ?_
                 refine pu 5 43 #[true,true,false,false,false,true,false,false,false,false,false,false,false,false,false,false,false,false,false,false,false,false,false,false,false,false] ?_
                 refine pu 8 46 #[true,true,false,false,false,true,false,false,true,false,false,false,false,false,false,false,false,false,false,false,false,false,false,false,false,false] ?_
                 refine pu 12 50 #[true,true,false,false,false,true,false,false,true,false,false,false,true,false,false,false,false,false,false,false,false,false,false,false,false,false] ?_
                 refine pu 16 54 #[true,true,false,false,false,true,false,false,true,false,false,false,true,false,false,false,true,false,false,false,false,false,false,false,false,false] ?_
                 refine pu 20 58 #[true,true,false,false,false,true,false,false,true,false,false,false,true,false,false,false,true,false,false,false,true,false,false,false,false,false] ?_
                 refine tk5 2 40 #[true,true,true,false,false,true,false,false,true,false,false,false,true,false,false,false,true,false,false,false,true,false,false,false,false,false] hHeld ?_
                 refine pu 3 41 #[true,true,true,true,false,true,false,false,true,false,false,false,true,false,false,false,true,false,false,false,true,false,false,false,false,false] ?_
                 refine tk5 6 44 #[true,true,true,true,false,true,true,false,true,false,false,false,true,false,false,false,true,false,false,false,true,false,false,false,false,false] hHeld ?_
                 refine tk5 9 47 #[true,true,true,true,false,true,true,false,true,true,false,false,true,false,false,false,true,false,false,false,true,false,false,false,false,false] hHeld ?_
                 refine tk5 13 51 #[true,true,true,true,false,true,true,false,true,true,false,false,true,true,false,false,true,false,false,false,true,false,false,false,false,false] hHeld ?_
                 refine tk5 17 55 #[true,true,true,true,false,true,true,false,true,true,false,false,true,true,false,false,true,true,false,false,true,false,false,false,false,false] hHeld ?_
                 refine tk5 21 59 #[true,true,true,true,false,true,true,false,true,true,false,false,true,true,false,false,true,true,false,false,true,true,false,false,false,false] hHeld ?_
                 refine one_ (i:=4) (N:=some 42) #[true,true,true,true,true,true,true,false,true,true,false,false,true,true,false,false,true,true,false,false,true,true,false,false,false,false] rfl rfl (one_of HT_.out (by kernel_rfl)) (by decide) (fun K hK=>?_)
                 refine goes_ Try.func40 (by kernel_rfl) rfl #[.int .i64 (((rd_T54 l0_2 x34_1).f0).size:Int),.int .i64 1] (by rfl) rfl rfl (mp_ rfl) ?_
                 with_reducible refine (impl_putLittle.calls k1 (((rd_T54 l0_2 x34_1).f0).size:Int) 1 t535 _ A23.out).mono ?_
                 rintro e w39 ⟨rfl,hb⟩
                 refine ⟨_,rfl,?_⟩
                 replace BK527:=Aside0.mk (blk_below (qx BK527.out) hb);replace BK534:=Aside0.mk (blk_below (qx BK534.out) hb);replace HB:=Aside0.mk (below_step (hb2 GE527.out GE534.out) hb)
                 try clear hb
                 refine hK.out _ _ ⟨(blk_cell BK534.out 0).trans rfl,(blk_cell BK534.out 1).trans rfl,(blk_cell BK534.out 2).trans rfl,(blk_cell BK534.out 3).trans rfl,(blk_cell BK534.out 4).trans rfl⟩ (fun hHeld=>?_)
                 clear hK K
                 refine norm_ (a':=?_) ?_ ?_
                 rotate_left
                 ·show Act.put _ (some 42) _=_
                  simp only [Act.put,List.setIfInBounds_toArray,List.set_cons_zero,List.set_cons_succ,i64_w,i32_w]
                  rfl
                 refine pu 7 45 #[true,true,true,true,true,true,true,true,true,true,false,false,true,true,false,false,true,true,false,false,true,true,false,false,false,false] ?_
                 refine one_ (i:=10) (N:=some 48) #[true,true,true,true,true,true,true,true,true,true,true,false,true,true,false,false,true,true,false,false,true,true,false,false,false,false] rfl rfl (one_of HT_.out (by kernel_rfl)) (by decide) (fun K hK=>?_)
                 refine goes_ Try.func40 (by kernel_rfl) rfl #[.int .i64 ((rd_T54 l0_2 x34_1).f1),.int .i64 1] (by rfl) rfl rfl (mp_ rfl) ?_
                 with_reducible refine (impl_putLittle.calls k1 ((rd_T54 l0_2 x34_1).f1) 1 t536 _ A25.out).mono ?_
                 rintro e w40 ⟨rfl,hb⟩
                 refine ⟨_,rfl,?_⟩
                 replace BK527:=Aside0.mk (blk_below (qx BK527.out) hb);replace BK534:=Aside0.mk (blk_below (qx BK534.out) hb);replace HB:=Aside0.mk (below_step (hb2 GE527.out GE534.out) hb)
                 try clear hb
                 refine hK.out _ _ ⟨(blk_cell BK534.out 0).trans rfl,(blk_cell BK534.out 1).trans rfl,(blk_cell BK534.out 2).trans rfl,(blk_cell BK534.out 3).trans rfl,(blk_cell BK534.out 4).trans rfl⟩ (fun hHeld=>?_)
                 clear hK K
                 refine norm_ (a':=?_) ?_ ?_
                 rotate_left
                 ·show Act.put _ (some 48) _=_
                  simp only [Act.put,List.setIfInBounds_toArray,List.set_cons_zero,List.set_cons_succ,i64_w,i32_w]
                  rfl
                 refine pu 11 49 #[true,true,true,true,true,true,true,true,true,true,true,true,true,true,false,false,true,true,false,false,true,true,false,false,false,false] ?_
                 refine one_ (i:=14) (N:=some 52) #[true,true,true,true,true,true,true,true,true,true,true,true,true,true,true,false,true,true,false,false,true,true,false,false,false,false] rfl rfl (one_of HT_.out (by kernel_rfl)) (by decide) (fun K hK=>?_)
                 refine goes_ Try.func40 (by kernel_rfl) rfl #[.int .i64 ((rd_T54 l0_2 x34_1).f2),.int .i64 2] (by rfl) rfl rfl (mp_ rfl) ?_
                 with_reducible refine (impl_putLittle.calls k1 ((rd_T54 l0_2 x34_1).f2) 2 t537 _ A27.out).mono ?_
                 rintro e w41 ⟨rfl,hb⟩
                 refine ⟨_,rfl,?_⟩
                 replace BK527:=Aside0.mk (blk_below (qx BK527.out) hb);replace BK534:=Aside0.mk (blk_below (qx BK534.out) hb);replace HB:=Aside0.mk (below_step (hb2 GE527.out GE534.out) hb)
                 try clear hb
                 refine hK.out _ _ ⟨(blk_cell BK534.out 0).trans rfl,(blk_cell BK534.out 1).trans rfl,(blk_cell BK534.out 2).trans rfl,(blk_cell BK534.out 3).trans rfl,(blk_cell BK534.out 4).trans rfl⟩ (fun hHeld=>?_)
                 clear hK K
                 refine norm_ (a':=?_) ?_ ?_
                 rotate_left
                 ·show Act.put _ (some 52) _=_
                  simp only [Act.put,List.setIfInBounds_toArray,List.set_cons_zero,List.set_cons_succ,i64_w,i32_w]
                  rfl
                 refine pu 15 53 #[true,true,true,true,true,true,true,true,true,true,true,true,true,true,true,true,true,true,false,false,true,true,false,false,false,false] ?_
                 refine one_ (i:=18) (N:=some 56) #[true,true,true,true,true,true,true,true,true,true,true,true,true,true,true,true,true,true,true,false,true,true,false,false,false,false] rfl rfl (one_of HT_.out (by kernel_rfl)) (by decide) (fun K hK=>?_)
                 refine goes_ Try.func40 (by kernel_rfl) rfl #[.int .i64 ((rd_T54 l0_2 x34_1).f3),.int .i64 2] (by rfl) rfl rfl (mp_ rfl) ?_
                 with_reducible refine (impl_putLittle.calls k1 ((rd_T54 l0_2 x34_1).f3) 2 t538 _ A29.out).mono ?_
                 rintro e w42 ⟨rfl,hb⟩
                 refine ⟨_,rfl,?_⟩
                 replace BK527:=Aside0.mk (blk_below (qx BK527.out) hb);replace BK534:=Aside0.mk (blk_below (qx BK534.out) hb);replace HB:=Aside0.mk (below_step (hb2 GE527.out GE534.out) hb)
                 try clear hb
                 refine hK.out _ _ ⟨(blk_cell BK534.out 0).trans rfl,(blk_cell BK534.out 1).trans rfl,(blk_cell BK534.out 2).trans rfl,(blk_cell BK534.out 3).trans rfl,(blk_cell BK534.out 4).trans rfl⟩ (fun hHeld=>?_)
                 clear hK K
                 refine norm_ (a':=?_) ?_ ?_
                 rotate_left
                 ·show Act.put _ (some 56) _=_
                  simp only [Act.put,List.setIfInBounds_toArray,List.set_cons_zero,List.set_cons_succ,i64_w,i32_w]
                  rfl
                 refine pu 19 57 #[true,true,true,true,true,true,true,true,true,true,true,true,true,true,true,true,true,true,true,true,true,true,false,false,false,false] ?_
                 refine one_ (i:=22) (N:=some 60) #[true,true,true,true,true,true,true,true,true,true,true,true,true,true,true,true,true,true,true,true,true,true,true,false,false,false] rfl rfl (one_of HT_.out (by kernel_rfl)) (by decide) (fun K hK=>?_)
                 refine goes_ Try.func40 (by kernel_rfl) rfl #[.int .i64 ((rd_T54 l0_2 x34_1).f4),.int .i64 1] (by rfl) rfl rfl (mp_ rfl) ?_
                 with_reducible refine (impl_putLittle.calls k1 ((rd_T54 l0_2 x34_1).f4) 1 t539 _ A31.out).mono ?_
                 rintro e w43 ⟨rfl,hb⟩
                 refine ⟨_,rfl,?_⟩
                 replace BK527:=Aside0.mk (blk_below (qx BK527.out) hb);replace BK534:=Aside0.mk (blk_below (qx BK534.out) hb);replace HB:=Aside0.mk (below_step (hb2 GE527.out GE534.out) hb)
                 try clear hb
                 refine hK.out _ _ ⟨(blk_cell BK534.out 0).trans rfl,(blk_cell BK534.out 1).trans rfl,(blk_cell BK534.out 2).trans rfl,(blk_cell BK534.out 3).trans rfl,(blk_cell BK534.out 4).trans rfl⟩ (fun hHeld=>?_)
                 clear hK K
                 refine norm_ (a':=?_) ?_ ?_
                 rotate_left
                 ·show Act.put _ (some 60) _=_
                  simp only [Act.put,List.setIfInBounds_toArray,List.set_cons_zero,List.set_cons_succ,i64_w,i32_w]
                  rfl
                 refine pu 23 61 #[true,true,true,true,true,true,true,true,true,true,true,true,true,true,true,true,true,true,true,true,true,true,true,true,false,false] ?_
                 refine pu 24 62 #[true,true,true,true,true,true,true,true,true,true,true,true,true,true,true,true,true,true,true,true,true,true,true,true,true,false] ?_
                 refine pu 25 4 #[true,true,true,true,true,true,true,true,true,true,true,true,true,true,true,true,true,true,true,true,true,true,true,true,true,true] ?_
                 refine done_ (done_of HT_.out (by kernel_rfl)) ?_
                 try go_wp2
                 go_roundg k1
                 case measure=>have:=HK1.out;omega
                 case rel=>exact ⟨(x4_1 ++ (((((t535 ++ ((rd_T54 l0_2 x34_1).f0)) ++ t536) ++ t537) ++ t538) ++ t539)),(wrap64 (x34_1+1)),rs,rs,H',⟨by have:=HK1.out;omega⟩,⟨qx BK527.out⟩,⟨hb2 GE527.out GE534.out⟩⟩
                rw [if_neg c33] at H
                exact absurd H (by simp)
               rw [if_neg c32] at H
               exact absurd H (by simp)
              rw [if_neg c30] at H
              exact absurd H (by simp)
             rw [if_neg c28] at H
             exact absurd H (by simp)
            rw [if_neg c26] at H
            exact absurd H (by simp)
           rw [if_neg c24] at H
           exact absurd H (by simp)
          rw [if_neg c22] at H
          exact absurd H (by simp)
         rw [if_neg c21] at H
         exact absurd H (by simp)
        rw [if_neg c20] at H
        have c20b0:decide (x34_1 < (l0_2.length:Int))=false:=decide_eq_false c20
        clear c20
        obtain ⟨t532,A44,H⟩:=bindA H
        simp only [Option.some.injEq,Prod.mk.injEq] at H
        obtain ⟨rfl,rfl⟩:=H
        go_wp2_with (first|(refine gl 41 65 Try.func41 #[.string x4_1] ?_;(with_reducible refine (impl_withSum.calls k1 x4_1 t532 _ A44.out).mono ?_);rintro e w45 ⟨rfl,hb⟩;refine ⟨_,rfl,?_⟩;have n0_:=Aside0.mk (blk_below (qx BK527.out) hb);replace HB:=Aside0.mk (below_step (hb1 GE527.out) hb);clear BK527;have BK527:=n0_;clear n0_;(try clear hb);(try clear hb2);(try clear hk);(try clear hi)))
        go_ret2
        exact ⟨rf,hb1 GE527.out⟩
      rw [if_neg c11] at H
      exact absurd H (by simp)
     rw [if_neg c9] at H
     exact absurd H (by simp)
    rw [if_neg c8] at H
    exact absurd H (by simp)
   rw [if_neg c6] at H
   exact absurd H (by simp)
  rw [if_neg c5] at H
  exact absurd H (by simp)
 replace c3:=Bool.eq_false_iff.mpr c3
 subst c3
 rw [if_neg (show ¬ (false=true) by decide)] at H
 simp only [Option.some.injEq,Prod.mk.injEq] at H
 obtain ⟨rfl,rfl⟩:=H
 go_enter Try.func17,Try.ntmps17
 go_wp2_with (first|(refine bv 1 #[.string a0_0,.string a0_1,.slice A0_2 l0_2.length c0_2] 30 ?_;intro gb527 hg w46 hbox hb;obtain ⟨n0_,n2_⟩:=bx0 hbx hb hg;have n1_:=Aside0.mk (hbox);clear HB;have HB:=n0_;have BK527:=n1_;have GW527:=n2_;have GE527:=n2_;clear n0_ n1_ n2_;clear hb hbox hg;obtain ⟨Z47_0,Z47_1,Z47_2,Y47_0,Y47_1,Y47_2⟩:=cel3 BK527.out)|(refine gl 29 8 Try.func29 #[.agg #[.string a0_0,.string a0_1,.slice A0_2 l0_2.length c0_2]] ?_;(with_reducible refine (impl_ImageOK.calls k a0_0 a0_1 _ _ l0_2 false _ ?side1 ?side2 A2.out).mono ?_);(case side1=>exact kc HR0_2.out);(case side2=>exact HC0_2.out);rintro e w48 ⟨rfl,hb⟩;refine ⟨_,rfl,?_⟩;have n0_:=Aside0.mk (blk_below (qx BK527.out) hb);replace HB:=Aside0.mk (below_step (hb1 GE527.out) hb);clear BK527;have BK527:=n0_;clear n0_;(try clear hb);(try clear hb2);(try clear hk);(try clear hi)))
 go_ret2
 exact ⟨rf,hb1 GE527.out⟩
end Go.Proofs.Ythepmdlpjdlajaa.PFnExactLintImage
