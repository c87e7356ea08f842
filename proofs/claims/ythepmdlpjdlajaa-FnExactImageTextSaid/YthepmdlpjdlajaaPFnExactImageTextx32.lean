-- Written by a program for this claim.
import Derived.Test.YthepmdlpjdlajaaZFnExactImageTexta
import Derived.Test.YthepmdlpjdlajaaPFnExactLintImagex2
import Derived.Test.YthepmdlpjdlajaaPFnExactLintImagex3
import Derived.Test.YthepmdlpjdlajaaPFnExactLintImagex16
import Derived.Test.YthepmdlpjdlajaaPFnExactLintImagex24
import Derived.Test.YthepmdlpjdlajaaPFnExactImageTextx30
import Derived.Test.YthepmdlpjdlajaaPFnExactImageTextx31
namespace Go.Proofs.Ythepmdlpjdlajaa.PFnExactLintImage
open Go.RowKit Go.Proofs.YthepmdlpjdlajaaW.PrintWords Go.Proofs.YthepmdlpjdlajaaW.PrintLast Go.Proofs.YthepmdlpjdlajaaW.PrintMore
attribute [local go_sem] max2_int min2_int max_two min_two max_three min_three max_four min_four   -- for this text's walks alone
set_option linter.unusedVariables false
set_option linter.unusedSimpArgs false
def spec_ImageText.f (k:Nat) (a0_0:ByteArray) (a0_1:ByteArray) (l0_2:List (S54)):Option (ByteArray × Int):=(spec_ImageOK.f k a0_0 a0_1 l0_2).bind fun t359=>(if t359=true then ((spec_l07Text.f k a0_0 a0_1 l0_2).bind fun t360=>(some (t360,0))) else (some ((⟨#[]⟩:ByteArray),1)))
theorem spec_ImageText.mono : ∀ a0 a1 a2 k,LeO (spec_ImageText.f k a0 a1 a2) (spec_ImageText.f (k+1) a0 a1 a2):=by
 intro a0 a1 a2 k
 unfold spec_ImageText.f
 repeat' (with_reducible first|apply spec_ImageOK.mono|apply spec_l07Text.mono|apply LeO.refl|apply LeO.none|apply LeO.ite|refine LeO.bind ?_ (fun _=>?_))
set_option maxHeartbeats 8000000 in
set_option maxRecDepth 100000 in
theorem spec_ImageText.calls (k:Nat) (a0_0:ByteArray) (a0_1:ByteArray) (A0_2:Option Addr) (c0_2:Nat) (l0_2:List (S54)) (r1:ByteArray) (r2:Int) (w:World) (hr0_2:Kd.C k54 w A0_2 l0_2.length l0_2) (hc0_2:l0_2.length≤c0_2) (h:spec_ImageText.f k a0_0 a0_1 l0_2=some (r1,r2)) :
    Calls Try.prog 16 #[.agg #[.string a0_0,.string a0_1,.slice A0_2 l0_2.length c0_2]] w fun e w'=>e=.returned (.tuple #[.string r1,.int .i64 r2])∧Below w.heap.size w w':=by
 have hu30:=Try.underlying30
 have HR0_2:=Aside0.mk hr0_2
 have HC0_2:=Aside0.mk hc0_2
 clear hr0_2 hc0_2
 have HB:=Aside0.mk (Below.refl w.heap.size w)
 have H:((spec_ImageOK.f k a0_0 a0_1 l0_2).bind fun t359=>(if t359=true then ((spec_l07Text.f k a0_0 a0_1 l0_2).bind fun t360=>(some (t360,0))) else (some ((⟨#[]⟩:ByteArray),1))))=some (r1,r2):=h
 clear h
 obtain ⟨t359,A2,H⟩:=bindA H
 by_cases c3:t359=true
 ·subst c3
  rw [if_pos rfl] at H
  obtain ⟨t360,A4,H⟩:=bindA H
  simp only [Option.some.injEq,Prod.mk.injEq] at H
  obtain ⟨rfl,rfl⟩:=H
  go_enter Try.func16,Try.ntmps16
  go_wp2_with (first|(refine bv 1 #[.string a0_0,.string a0_1,.slice A0_2 l0_2.length c0_2] 30 ?_;intro gb358 hg w5 hbox hb;obtain ⟨n0_,n2_⟩:=bx0 hbx hb hg;have n1_:=Aside0.mk (hbox);clear HB;have HB:=n0_;have BK358:=n1_;have GW358:=n2_;have GE358:=n2_;clear n0_ n1_ n2_;clear hb hbox hg;obtain ⟨Z6_0,Z6_1,Z6_2,Y6_0,Y6_1,Y6_2⟩:=cel3 BK358.out)|(refine gl 28 5 Try.func28 #[.agg #[.string a0_0,.string a0_1,.slice A0_2 l0_2.length c0_2]] ?_;(with_reducible refine (spec_ImageOK.calls k a0_0 a0_1 _ _ l0_2 true _ ?side1 ?side2 A2.out).mono ?_);(case side1=>exact kc HR0_2.out);(case side2=>exact HC0_2.out);rintro e w7 ⟨rfl,hb⟩;refine ⟨_,rfl,?_⟩;have n0_:=Aside0.mk (blk_below (qx BK358.out) hb);replace HB:=Aside0.mk (below_step (hb1 GE358.out) hb);clear BK358;have BK358:=n0_;clear n0_;(try clear hb);(try clear hb2);(try clear hk);(try clear hi);obtain ⟨Z8_0,Z8_1,Z8_2,Y8_0,Y8_1,Y8_2⟩:=cel3 BK358.out)|(refine gl 39 8 Try.func39 #[.agg #[.string a0_0,.string a0_1,.slice A0_2 l0_2.length c0_2]] ?_;(with_reducible refine (spec_l07Text.calls k a0_0 a0_1 _ _ l0_2 t360 _ ?side1 ?side2 A4.out).mono ?_);(case side1=>exact kc HR0_2.out);(case side2=>exact HC0_2.out);rintro e w9 ⟨rfl,hb⟩;refine ⟨_,rfl,?_⟩;have n0_:=Aside0.mk (blk_below (qx BK358.out) hb);replace HB:=Aside0.mk (below_step (hb1 GE358.out) hb);clear BK358;have BK358:=n0_;clear n0_;(try clear hb);(try clear hb2);(try clear hk);(try clear hi)))
  go_ret2
  exact ⟨rf,hb1 GE358.out⟩
 replace c3:=Bool.eq_false_iff.mpr c3
 subst c3
 rw [if_neg (show ¬ (false=true) by decide)] at H
 simp only [Option.some.injEq,Prod.mk.injEq] at H
 obtain ⟨rfl,rfl⟩:=H
 go_enter Try.func16,Try.ntmps16
 go_wp2_with (first|(refine bv 1 #[.string a0_0,.string a0_1,.slice A0_2 l0_2.length c0_2] 30 ?_;intro gb358 hg w10 hbox hb;obtain ⟨n0_,n2_⟩:=bx0 hbx hb hg;have n1_:=Aside0.mk (hbox);clear HB;have HB:=n0_;have BK358:=n1_;have GW358:=n2_;have GE358:=n2_;clear n0_ n1_ n2_;clear hb hbox hg;obtain ⟨Z11_0,Z11_1,Z11_2,Y11_0,Y11_1,Y11_2⟩:=cel3 BK358.out)|(refine gl 28 5 Try.func28 #[.agg #[.string a0_0,.string a0_1,.slice A0_2 l0_2.length c0_2]] ?_;(with_reducible refine (spec_ImageOK.calls k a0_0 a0_1 _ _ l0_2 false _ ?side1 ?side2 A2.out).mono ?_);(case side1=>exact kc HR0_2.out);(case side2=>exact HC0_2.out);rintro e w12 ⟨rfl,hb⟩;refine ⟨_,rfl,?_⟩;have n0_:=Aside0.mk (blk_below (qx BK358.out) hb);replace HB:=Aside0.mk (below_step (hb1 GE358.out) hb);clear BK358;have BK358:=n0_;clear n0_;(try clear hb);(try clear hb2);(try clear hk);(try clear hi)))
 go_ret2
 exact ⟨rf,hb1 GE358.out⟩
def impl_ImageOK.f (k:Nat) (a0_0:ByteArray) (a0_1:ByteArray) (l0_2:List (S54)):Option (Bool):=(impl_LintImage.f k a0_0 a0_1 l0_2).bind fun bt519=>(some (bt519.2.2==0))
theorem impl_ImageOK.mono : ∀ a0 a1 a2 k,LeO (impl_ImageOK.f k a0 a1 a2) (impl_ImageOK.f (k+1) a0 a1 a2):=by
 intro a0 a1 a2 k
 unfold impl_ImageOK.f
 repeat' (with_reducible first|apply impl_LintImage.mono|apply LeO.refl|apply LeO.none|apply LeO.ite|refine LeO.bind ?_ (fun _=>?_))
set_option maxHeartbeats 8000000 in
set_option maxRecDepth 100000 in
theorem impl_ImageOK.calls (k:Nat) (a0_0:ByteArray) (a0_1:ByteArray) (A0_2:Option Addr) (c0_2:Nat) (l0_2:List (S54)) (r:Bool) (w:World) (hr0_2:Kd.C k54 w A0_2 l0_2.length l0_2) (hc0_2:l0_2.length≤c0_2) (h:impl_ImageOK.f k a0_0 a0_1 l0_2=some r) :
    Calls Try.prog 29 #[.agg #[.string a0_0,.string a0_1,.slice A0_2 l0_2.length c0_2]] w fun e w'=>e=.returned (.bool r)∧Below w.heap.size w w':=by
 have hu30:=Try.underlying30
 have HR0_2:=Aside0.mk hr0_2
 have HC0_2:=Aside0.mk hc0_2
 clear hr0_2 hc0_2
 have HB:=Aside0.mk (Below.refl w.heap.size w)
 have H:((impl_LintImage.f k a0_0 a0_1 l0_2).bind fun bt519=>(some (bt519.2.2==0)))=some r:=h
 clear h
 obtain ⟨⟨t519,t520,t521⟩,A2,H⟩:=bindA H
 try dsimp only at H
 obtain rfl:=Option.some.inj H
 go_enter Try.func29,Try.ntmps29
 go_wp2_with (first|(refine bv 1 #[.string a0_0,.string a0_1,.slice A0_2 l0_2.length c0_2] 30 ?_;intro gb518 hg w3 hbox hb;obtain ⟨n0_,n2_⟩:=bx0 hbx hb hg;have n1_:=Aside0.mk (hbox);clear HB;have HB:=n0_;have BK518:=n1_;have GW518:=n2_;have GE518:=n2_;clear n0_ n1_ n2_;clear hb hbox hg;obtain ⟨Z4_0,Z4_1,Z4_2,Y4_0,Y4_1,Y4_2⟩:=cel3 BK518.out)|(refine gl 27 8 Try.func27 #[.agg #[.string a0_0,.string a0_1,.slice A0_2 l0_2.length c0_2]] ?_;(with_reducible refine (impl_LintImage.calls k a0_0 a0_1 _ _ l0_2 t519 t520 t521 _ ?side1 ?side2 A2.out).mono ?_);(case side1=>exact kc HR0_2.out);(case side2=>exact HC0_2.out);rintro e w5 ⟨rfl,hb⟩;refine ⟨_,rfl,?_⟩;have n0_:=Aside0.mk (blk_below (qx BK518.out) hb);replace HB:=Aside0.mk (below_step (hb1 GE518.out) hb);clear BK518;have BK518:=n0_;clear n0_;(try clear hb);(try clear hb2);(try clear hk);(try clear hi)))
 go_ret
 exact ⟨rf,hb1 GE518.out⟩
def impl_putLittle.l0:Nat→Int→Int→List Int→Option (ByteArray)
  | 0,_,_,_=>none
  | k+1,x0,x1,x5=>if x1 > 0 then (if x5.length < 140737488355328 then (impl_putLittle.l0 k (x0 / 256) (wrap64 (x1 - 1)) (x5 ++ [(x0) % 256])) else (none)) else (some (strOfNums x5))
def impl_putLittle.f (k:Nat) (a0:Int) (a1:Int):Option (ByteArray):=impl_putLittle.l0 k a0 a1 ([]:List Int)
theorem impl_putLittle.mono_l : ∀ k,(∀ y0 y1 y2,LeO (impl_putLittle.l0 k y0 y1 y2) (impl_putLittle.l0 (k+1) y0 y1 y2))
  | 0=>fun _ _ _ r h=>by simp [impl_putLittle.l0] at h
  | k+1=>by
    have ih0:=impl_putLittle.mono_l k
    · intro y0 y1 y2
      unfold impl_putLittle.l0
      repeat' (with_reducible first|apply ih0|apply LeO.refl|apply LeO.none|apply LeO.ite|refine LeO.bind ?_ (fun _=>?_))
theorem impl_putLittle.mono : ∀ a0 a1 k,LeO (impl_putLittle.f k a0 a1) (impl_putLittle.f (k+1) a0 a1):=by
 intro a0 a1 k
 have ih0:=impl_putLittle.mono_l k
 unfold impl_putLittle.f
 repeat' (with_reducible first|apply ih0|apply LeO.refl|apply LeO.none|apply LeO.ite|refine LeO.bind ?_ (fun _=>?_))
set_option maxHeartbeats 8000000 in
set_option maxRecDepth 100000 in
theorem impl_putLittle.calls (k:Nat) (a0:Int) (a1:Int) (r:ByteArray) (w:World) (h:impl_putLittle.f k a0 a1=some r) :
    Calls Try.prog 40 #[.int .i64 a0,.int .i64 a1] w fun e w'=>e=.returned (.string r)∧Below w.heap.size w w':=by
 have HB:=Aside0.mk (Below.refl w.heap.size w)
 have H:(impl_putLittle.l0 k a0 a1 ([]:List Int))=some r:=h
 clear h
 have H':=Aside0.mk H
 clear H
 go_enter Try.func40,Try.ntmps40
 go_wp2
 go_loopg [0,1,5] k (fun kq v0 v1 v5 w'=>∃ (x0_1:Int) (x1_1:Int) (x5_1:List Int),v0=.int .i64 x0_1∧v1=.int .i64 x1_1∧Aside0 (impl_putLittle.l0 kq x0_1 x1_1 x5_1=some r)∧Aside0 (kq≤k)∧Aside0 (Kd.R (Kd.int .u8) 5 w' w.heap.size (fun _=>True) v5 x5_1)∧Aside0 (Below w.heap.size w w'))
 case atStart=>exact ⟨(a0),(a1),(([]:List Int)),rs,rs,H',⟨Nat.le_refl _⟩,⟨by first|exact Kd.R_nil _ _ _ _ _|exact Kd.N_nil _ _ _ _ _|exact Kd.V_nil _ _ _ _ _|exact Kd.Q_nil _ _ _ _ _|exact Kd.S_nil _ _ _ _ _⟩,⟨hbx⟩⟩
 clear H'
 obtain ⟨x0_1,x1_1,x5_1,rfl,rfl,HA,HK1,HO_5,HB⟩:=hrel
 cases gk with
 | zero=>exact absurd HA.out (by simp [impl_putLittle.l0])
 | succ k1 =>
  have H:=HA.out
  clear HA
  simp only [impl_putLittle.l0] at H
  by_cases c3:x1_1 > 0
  ·rw [if_pos c3] at H
   have c3b0:decide (0 < x1_1)=true:=decide_eq_true c3
   clear c3
   by_cases c4:x5_1.length < 140737488355328
   ·rw [if_pos c4] at H
    have LMc4:=Aside0.mk c4
    clear c4
    obtain ⟨y522,hy522⟩ : ∃ y_:List Int,y_=(x5_1 ++ [(x0_1) % 256]):=⟨_,rfl⟩
    replace H:(impl_putLittle.l0 k1 (x0_1 / 256) (wrap64 (x1_1 - 1)) y522)=some r:=by first|(rw [hy522];with_reducible exact H)|(have H2_:=(Option.bind_some _ _).symm.trans H;rw [hy522];with_reducible exact H2_)|(have H2_:=(Option.bind_some _ _).symm.trans H;with_reducible exact H2_)|with_reducible exact H|(rw [hy522];exact H)|exact H
    have Ny522:=Aside0.mk hy522
    clear hy522
    have H':=Aside0.mk H
    clear H
    go_wp2_with (first|((with_reducible refine gate_builtin (b:=.append) (xs:=#[.tmp 10,.tmp 13]) rfl ?_);at_builtin;refine Kd.R_append (Kd.int .u8) (w0:=w) w.heap.size rfl (.tmp 10) (.tmp 13) 83 5 (.int .u8 0) 1 rfl Try.underlying83 info5 rfl (by decide) (by omega) u5 x5_1 ((x0_1) % 256) [.int .u8 ((x0_1) % 256)] (fun _=>True) (fun _=>False) rfl rfl ?aP (fun _ hk=>hk.elim) ?aF ?aO ?aB ?aS ?aL ?_;(case aP=>exact rfl);(case aB=>exact hbx);(case aF=>exact (fun _ _=>trivial));(case aO=>exact (kr HO_5.out));(case aS=>exact (below_size hbx));(case aL=>have:=LMc4.out;omega);intro v523 w5 ho hb hg hat;rw [← Ny522.out] at ho;have n0_:=Aside0.mk (hb);have n1_:=Aside0.mk (ho);clear HB;clear HO_5;have HB:=n0_;have HO524:=n1_;clear n0_ n1_;clear ho hb hg hat))
    go_roundg k1
    case measure=>have:=HK1.out;omega
    case rel=>exact ⟨(x0_1 / 256),(wrap64 (x1_1 - 1)),(y522),rs,rs,H',⟨by have:=HK1.out;omega⟩,⟨kr HO524.out⟩,⟨hbx⟩⟩
   rw [if_neg c4] at H
   exact absurd H (by simp)
  rw [if_neg c3] at H
  have c3b0:decide (0 < x1_1)=false:=decide_eq_false c3
  clear c3
  obtain rfl:=Option.some.inj H
  have hcv6:=own_string (P:=Try.prog) Try.underlying83 Try.underlying5 Try.underlying9 (Kd.own_of_R HO_5.out)
  go_wp2
  go_ret
  exact ⟨rf,hbx⟩
def impl_sumOf.l0:Nat→ByteArray→Int→Int→Option (Int)
  | 0,_,_,_=>none
  | k+1,x0,x3,x4=>if x4 < (x0.size:Int) then (if 0≤x4 then (impl_sumOf.l0 k x0 (Int.tmod (wrap64 ((wrap64 (31*x3))+(wrap64 (bt x0 x4)))) 65521) (wrap64 (x4+1))) else (none)) else (some x3)
def impl_sumOf.f (k:Nat) (a0:ByteArray):Option (Int):=impl_sumOf.l0 k a0 1 0
theorem impl_sumOf.mono_l : ∀ k,(∀ y0 y1 y2,LeO (impl_sumOf.l0 k y0 y1 y2) (impl_sumOf.l0 (k+1) y0 y1 y2))
  | 0=>fun _ _ _ r h=>by simp [impl_sumOf.l0] at h
  | k+1=>by
    have ih0:=impl_sumOf.mono_l k
    · intro y0 y1 y2
      unfold impl_sumOf.l0
      repeat' (with_reducible first|apply ih0|apply LeO.refl|apply LeO.none|apply LeO.ite|refine LeO.bind ?_ (fun _=>?_))
theorem impl_sumOf.mono : ∀ a0 k,LeO (impl_sumOf.f k a0) (impl_sumOf.f (k+1) a0):=by
 intro a0 k
 have ih0:=impl_sumOf.mono_l k
 unfold impl_sumOf.f
 repeat' (with_reducible first|apply ih0|apply LeO.refl|apply LeO.none|apply LeO.ite|refine LeO.bind ?_ (fun _=>?_))
set_option maxHeartbeats 8000000 in
set_option maxRecDepth 100000 in
theorem impl_sumOf.calls (k:Nat) (a0:ByteArray) (r:Int) (w:World) (h:impl_sumOf.f k a0=some r) :
    Calls Try.prog 65 #[.string a0] w fun e w'=>e=.returned (.int .i64 r)∧Drawn0 w w':=by
 have H:(impl_sumOf.l0 k a0 1 0)=some r:=h
 clear h
 have H':=Aside0.mk H
 clear H
 go_enter Try.func65,Try.ntmps65
 go_wp2
 go_loopg [3,4] k (fun kq v3 v4 w'=>∃ (x3_1:Int) (x4_1:Int),v3=.int .i64 x3_1∧v4=.int .i64 x4_1∧Aside0 (impl_sumOf.l0 kq a0 x3_1 x4_1=some r)∧Aside0 (kq≤k)∧Drawn0 w w')
 case atStart=>exact ⟨(1),(0),rs,rs,H',⟨Nat.le_refl _⟩,dr⟩
 clear H'
 obtain ⟨x3_1,x4_1,rfl,rfl,HA,HK1,⟨m1,rfl⟩⟩:=hrel
 cases gk with
 | zero=>exact absurd HA.out (by simp [impl_sumOf.l0])
 | succ k1 =>
  have H:=HA.out
  clear HA
  simp only [impl_sumOf.l0] at H
  by_cases c2:x4_1 < (a0.size:Int)
  ·rw [if_pos c2] at H
   have c2b0:decide (x4_1 < (a0.size:Int))=true:=decide_eq_true c2
   clear c2
   by_cases c3:0≤x4_1
   ·rw [if_pos c3] at H
    have c3b0:decide (0≤x4_1)=true:=decide_eq_true c3
    clear c3
    have H':=Aside0.mk H
    clear H
    have p4:0≤(x4_1:Int):=od
    have q4:x4_1 < (a0.size:Int):=od
    have hx4:=bt_at a0 x4_1
    replace p4:=eq_true p4
    replace q4:=eq_true q4
    go_wp2
    go_roundg k1
    case measure=>have:=HK1.out;omega
    case rel=>exact ⟨(Int.tmod (wrap64 ((wrap64 (31*x3_1))+(wrap64 (bt a0 x4_1)))) 65521),(wrap64 (x4_1+1)),rs,rs,H',⟨by have:=HK1.out;omega⟩,dr⟩
   rw [if_neg c3] at H
   exact absurd H (by simp)
  rw [if_neg c2] at H
  have c2b0:decide (x4_1 < (a0.size:Int))=false:=decide_eq_false c2
  clear c2
  obtain rfl:=Option.some.inj H
  go_wp2
  go_ret
  exact ⟨rs,dr⟩
def impl_withSum.f (k:Nat) (a0:ByteArray):Option (ByteArray):=(impl_sumOf.f k a0).bind fun t525=>((impl_putLittle.f k t525 4).bind fun t526=>(if a0.size+t526.size≤9223372036854775807 then (some (a0 ++ t526)) else (none)))
theorem impl_withSum.mono : ∀ a0 k,LeO (impl_withSum.f k a0) (impl_withSum.f (k+1) a0):=by
 intro a0 k
 unfold impl_withSum.f
 repeat' (with_reducible first|apply impl_putLittle.mono|apply impl_sumOf.mono|apply LeO.refl|apply LeO.none|apply LeO.ite|refine LeO.bind ?_ (fun _=>?_))
set_option maxHeartbeats 8000000 in
set_option maxRecDepth 100000 in
theorem impl_withSum.calls (k:Nat) (a0:ByteArray) (r:ByteArray) (w:World) (h:impl_withSum.f k a0=some r) :
    Calls Try.prog 41 #[.string a0] w fun e w'=>e=.returned (.string r)∧Below w.heap.size w w':=by
 have HB:=Aside0.mk (Below.refl w.heap.size w)
 have H:((impl_sumOf.f k a0).bind fun t525=>((impl_putLittle.f k t525 4).bind fun t526=>(if a0.size+t526.size≤9223372036854775807 then (some (a0 ++ t526)) else (none))))=some r:=h
 clear h
 obtain ⟨t525,A2,H⟩:=bindA H
 obtain ⟨t526,A3,H⟩:=bindA H
 by_cases c4:a0.size+t526.size≤9223372036854775807
 ·rw [if_pos c4] at H
  have c4b0:=eq_true c4
  have c4b1:decide (a0.size+t526.size≤9223372036854775807)=true:=decide_eq_true c4
  try have c4b2:(9223372036854775807 < a0.size+t526.size)=False:=eq_false (Nat.not_lt.2 c4)
  obtain rfl:=Option.some.inj H
  go_enter Try.func41,Try.ntmps41
  go_wp2_with (first|(refine gd 65 5 Try.func65 #[.string a0] (impl_sumOf.calls k a0 t525 _ A2.out) ?_;intro nd)|(refine gl 40 6 Try.func40 #[.int .i64 t525,.int .i64 4] ?_;(with_reducible refine (impl_putLittle.calls k t525 4 t526 _ A3.out).mono ?_);rintro e w5 ⟨rfl,hb⟩;refine ⟨_,rfl,?_⟩;replace HB:=Aside0.mk (below_step hbx hb);(try clear hb);(try clear hb2);(try clear hk);(try clear hi)))
  go_ret
  exact ⟨rf,hbx⟩
 rw [if_neg c4] at H
 exact absurd H (by simp)
end Go.Proofs.Ythepmdlpjdlajaa.PFnExactLintImage
