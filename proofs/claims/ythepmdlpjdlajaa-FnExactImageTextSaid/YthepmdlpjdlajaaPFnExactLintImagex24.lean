-- Written by a program for this claim.
import Derived.Test.YthepmdlpjdlajaaPFnExactLintImagex0
import Derived.Test.YthepmdlpjdlajaaPFnExactLintImagex22
import Derived.Test.YthepmdlpjdlajaaPFnExactLintImagex23
namespace Go.Proofs.Ythepmdlpjdlajaa.PFnExactLintImage
open Go.RowKit Go.Proofs.YthepmdlpjdlajaaW.PrintWords Go.Proofs.YthepmdlpjdlajaaW.PrintLast Go.Proofs.YthepmdlpjdlajaaW.PrintMore
attribute [local go_sem] max2_int min2_int max_two min_two max_three min_three max_four min_four   -- for this text's walks alone
set_option linter.unusedVariables false
set_option linter.unusedSimpArgs false
mutual
def impl_LintImage.l0:Nat→Int→Int→ByteArray→ByteArray→List (S54)→Int→Int→Option (Int × Int × Int)
  | 0,_,_,_,_,_,_,_=>none
  | k+1,x31,x32,x480000,x480001,x480002,x481000,x481001=>if x32 < x31 then ((impl_Image_lintSymbol.f k x480000 x480001 x480002 x32 x481000 x481001).bind fun bt481=>(if bt481.1=0 then (impl_LintImage.l0 k x31 (wrap64 (x32+1)) x480000 x480001 x480002 bt481.2.1 bt481.2.2) else (some (x32,0,bt481.1)))) else (if (x480002.length:Int)=0 then (impl_LintImage.j1 k true x480000 x480001 x480002 x481000 x481001) else (if 0 < (x480002.length:Int) then (impl_LintImage.j1 k (((rd_T54 x480002 0).f1) != 1) x480000 x480001 x480002 x481000 x481001) else (none)))
def impl_LintImage.j1:Nat→Bool→ByteArray→ByteArray→List (S54)→Int→Int→Option (Int × Int × Int)
  | 0,_,_,_,_,_,_=>none
  | k+1,x43,x480000,x480001,x480002,x481000,x481001=>if x43=true then (some (0,0,23)) else (if x481000=(x480000.size:Int) then ((impl_Image_functions.f k x480000 x480001 x480002).bind fun t485=>(impl_LintImage.l1 k t485 x480002 (x480002.length:Int) 0 x480000 x480001 x480002)) else (some (0,0,22)))
def impl_LintImage.l1:Nat→List Int→List (S54)→Int→Int→ByteArray→ByteArray→List (S54)→Option (Int × Int × Int)
  | 0,_,_,_,_,_,_,_=>none
  | k+1,x8,x66,x67,x68,x480000,x480001,x480002=>if x68 < x67 then (if 0≤x68 then (if x68 < (x66.length:Int) then (if ((rd_T54 x66 x68).f1)=1 then (if 0≤((rd_T54 x66 x68).f2) then (if ((rd_T54 x66 x68).f2)≤(wrap64 (((rd_T54 x66 x68).f2)+((rd_T54 x66 x68).f3))) then (if (wrap64 (((rd_T54 x66 x68).f2)+((rd_T54 x66 x68).f3)))≤(x480000.size:Int) then ((impl_Symbol_address.f ((rd_T54 x66 x68).f0) ((rd_T54 x66 x68).f1) ((rd_T54 x66 x68).f2) ((rd_T54 x66 x68).f3) ((rd_T54 x66 x68).f4)).bind fun t490=>((impl_lint.f k (x480000.extract (((rd_T54 x66 x68).f2):Int).toNat ((wrap64 (((rd_T54 x66 x68).f2)+((rd_T54 x66 x68).f3))):Int).toNat) t490 ((rd_T54 x66 x68).f4) x8).bind fun bt491=>(if bt491.2=0 then (impl_LintImage.l1 k x8 x66 x67 (wrap64 (x68+1)) x480000 x480001 x480002) else (some (x68,bt491.1,bt491.2))))) else (none)) else (none)) else (none)) else (impl_LintImage.l1 k x8 x66 x67 (wrap64 (x68+1)) x480000 x480001 x480002)) else (none)) else (none)) else (some (0,0,0))
end
def impl_LintImage.f (k:Nat) (a0_0:ByteArray) (a0_1:ByteArray) (l0_2:List (S54)):Option (Int × Int × Int):=if (l0_2.length:Int) > 16 then (some (0,0,6)) else (if (a0_0.size:Int) > 1024 then (some (0,0,8)) else (if (a0_1.size:Int) > 256 then (some (0,0,8)) else (impl_LintImage.l0 k (l0_2.length:Int) 0 a0_0 a0_1 l0_2 0 0)))
theorem impl_LintImage.mono_l : ∀ k,(∀ y0 y1 y2 y3 y4 y5 y6,LeO (impl_LintImage.l0 k y0 y1 y2 y3 y4 y5 y6) (impl_LintImage.l0 (k+1) y0 y1 y2 y3 y4 y5 y6))∧(∀ y0 y1 y2 y3 y4 y5,LeO (impl_LintImage.j1 k y0 y1 y2 y3 y4 y5) (impl_LintImage.j1 (k+1) y0 y1 y2 y3 y4 y5))∧(∀ y0 y1 y2 y3 y4 y5 y6,LeO (impl_LintImage.l1 k y0 y1 y2 y3 y4 y5 y6) (impl_LintImage.l1 (k+1) y0 y1 y2 y3 y4 y5 y6))
  | 0=>⟨fun _ _ _ _ _ _ _ r h=>by simp [impl_LintImage.l0] at h,fun _ _ _ _ _ _ r h=>by simp [impl_LintImage.j1] at h,fun _ _ _ _ _ _ _ r h=>by simp [impl_LintImage.l1] at h⟩
  | k+1=>by
    obtain ⟨ih0,ih1,ih2⟩:=impl_LintImage.mono_l k
    refine ⟨?_,?_,?_⟩<;>intros<;>(first|unfold impl_LintImage.l0|unfold impl_LintImage.j1|unfold impl_LintImage.l1)<;>repeat' (with_reducible first|apply ih0|apply ih1|apply ih2|apply impl_Image_functions.mono|apply impl_Image_lintSymbol.mono|apply impl_lint.mono|apply LeO.refl|apply LeO.none|apply LeO.ite|refine LeO.bind ?_ (fun _=>?_))
theorem impl_LintImage.mono : ∀ a0 a1 a2 k,LeO (impl_LintImage.f k a0 a1 a2) (impl_LintImage.f (k+1) a0 a1 a2):=by
 intro a0 a1 a2 k
 obtain ⟨ih0,ih1,ih2⟩:=impl_LintImage.mono_l k
 unfold impl_LintImage.f
 repeat' (with_reducible first|apply ih0|apply ih1|apply ih2|apply impl_Image_functions.mono|apply impl_Image_lintSymbol.mono|apply impl_lint.mono|apply LeO.refl|apply LeO.none|apply LeO.ite|refine LeO.bind ?_ (fun _=>?_))
def impl_LintImage.T22:Bool × List (List Nat × List Nat):=(true,[([],[]),([0],[0]),([],[]),([2],[2]),([],[]),([4],[4]),([],[]),([6],[6]),([5,7],[5,7]),([1,3,8],[1,3,8]),([],[]),([10],[10]),([],[]),([12],[12]),([],[]),([9,11,13,14,11],[9,11,13,14]),([15],[15]),([16],[16]),([16],[16]),([17,15,0,1,2,3,4,5,6,7,8,9,10,11,12,13,14,15,16,17],[17]),([18,19,0,1,2,3,4,5,6,7,8,9,10,11,12,13,14,15,16,17,18,19],[18])])
def impl_LintImage.B22:List Nat:=[0,1,0,4,0,16,0,64,240,511,0,1024,0,4096,0,32767,65535,131071,131071,262143,1048575]
theorem impl_LintImage.tab22:rtab .any (opsOf Try.f27 22)=impl_LintImage.T22:=by kernel_rfl
theorem impl_LintImage.bits22:waitsOk impl_LintImage.T22.2 impl_LintImage.B22=true:=by kernel_rfl
set_option maxHeartbeats 8000000 in
set_option maxRecDepth 100000 in
theorem impl_LintImage.calls (k:Nat) (a0_0:ByteArray) (a0_1:ByteArray) (A0_2:Option Addr) (c0_2:Nat) (l0_2:List (S54)) (r1:Int) (r2:Int) (r3:Int) (w:World) (hr0_2:Kd.C k54 w A0_2 l0_2.length l0_2) (hc0_2:l0_2.length≤c0_2) (h:impl_LintImage.f k a0_0 a0_1 l0_2=some (r1,r2,r3)) :
    Calls Try.prog 27 #[.agg #[.string a0_0,.string a0_1,.slice A0_2 l0_2.length c0_2]] w fun e w'=>e=.returned (.tuple #[.int .i64 r1,.int .i64 r2,.int .i64 r3])∧Below w.heap.size w w':=by
 have hu30:=Try.underlying30
 have hu71:=Try.underlying71
 have hu54:=Try.underlying54
 have HR0_2:=Aside0.mk hr0_2
 have HC0_2:=Aside0.mk hc0_2
 clear hr0_2 hc0_2
 have HB:=Aside0.mk (Below.refl w.heap.size w)
 have H:(if (l0_2.length:Int) > 16 then (some (0,0,6)) else (if (a0_0.size:Int) > 1024 then (some (0,0,8)) else (if (a0_1.size:Int) > 256 then (some (0,0,8)) else (impl_LintImage.l0 k (l0_2.length:Int) 0 a0_0 a0_1 l0_2 0 0))))=some (r1,r2,r3):=h
 clear h
 by_cases c2:(l0_2.length:Int) > 16
 ·rw [if_pos c2] at H
  have c2b0:decide (16 < (l0_2.length:Int))=true:=decide_eq_true c2
  have c2b1:decide (16 < l0_2.length)=true:=decide_eq_true (by omega)
  clear c2
  simp only [Option.some.injEq,Prod.mk.injEq] at H
  obtain ⟨rfl,rfl,rfl⟩:=H
  go_enter Try.func27,Try.ntmps27
  go_wp2_with (first|((with_reducible refine gate_dst (N:=1) rfl ?_);(try (refine gate_guard (by rfl) ?_;dsimp only));refine box_event ?hg (N:=1) ?hd (cs:=#[.string a0_0,.string a0_1,.slice A0_2 l0_2.length c0_2]) (t:=30) ?hr ?_;(case hd=>rfl);(case hg=>rfl);(case hr=>first|(go_simp;done)|(go_simp;rfl));intro gb479 hg w3 hbox hb;obtain ⟨n0_,n2_⟩:=bx0 hbx hb hg;have n1_:=Aside0.mk (hbox);clear HB;have HB:=n0_;have BK479:=n1_;have GW479:=n2_;have GE479:=n2_;clear n0_ n1_ n2_;clear hb hbox hg;obtain ⟨Z4_0,Z4_1,Z4_2,Y4_0,Y4_1,Y4_2⟩:=cel3 BK479.out))
  go_ret3
  exact ⟨rf,hb1 GE479.out⟩
 rw [if_neg c2] at H
 have c2b0:decide (16 < (l0_2.length:Int))=false:=decide_eq_false c2
 have c2b1:decide (16 < l0_2.length)=false:=decide_eq_false (by omega)
 clear c2
 by_cases c5:(a0_0.size:Int) > 1024
 ·rw [if_pos c5] at H
  have c5b0:decide (1024 < (a0_0.size:Int))=true:=decide_eq_true c5
  have c5b1:decide (1024 < a0_0.size)=true:=decide_eq_true (by omega)
  clear c5
  simp only [Option.some.injEq,Prod.mk.injEq] at H
  obtain ⟨rfl,rfl,rfl⟩:=H
  go_enter Try.func27,Try.ntmps27
  go_wp2_with (first|((with_reducible refine gate_dst (N:=1) rfl ?_);(try (refine gate_guard (by rfl) ?_;dsimp only));refine box_event ?hg (N:=1) ?hd (cs:=#[.string a0_0,.string a0_1,.slice A0_2 l0_2.length c0_2]) (t:=30) ?hr ?_;(case hd=>rfl);(case hg=>rfl);(case hr=>first|(go_simp;done)|(go_simp;rfl));intro gb479 hg w6 hbox hb;obtain ⟨n0_,n2_⟩:=bx0 hbx hb hg;have n1_:=Aside0.mk (hbox);clear HB;have HB:=n0_;have BK479:=n1_;have GW479:=n2_;have GE479:=n2_;clear n0_ n1_ n2_;clear hb hbox hg;obtain ⟨Z7_0,Z7_1,Z7_2,Y7_0,Y7_1,Y7_2⟩:=cel3 BK479.out))
  go_ret3
  exact ⟨rf,hb1 GE479.out⟩
 rw [if_neg c5] at H
 have c5b0:decide (1024 < (a0_0.size:Int))=false:=decide_eq_false c5
 have c5b1:decide (1024 < a0_0.size)=false:=decide_eq_false (by omega)
 clear c5
 by_cases c8:(a0_1.size:Int) > 256
 ·rw [if_pos c8] at H
  have c8b0:decide (256 < (a0_1.size:Int))=true:=decide_eq_true c8
  have c8b1:decide (256 < a0_1.size)=true:=decide_eq_true (by omega)
  clear c8
  simp only [Option.some.injEq,Prod.mk.injEq] at H
  obtain ⟨rfl,rfl,rfl⟩:=H
  go_enter Try.func27,Try.ntmps27
  go_wp2_with (first|((with_reducible refine gate_dst (N:=1) rfl ?_);(try (refine gate_guard (by rfl) ?_;dsimp only));refine box_event ?hg (N:=1) ?hd (cs:=#[.string a0_0,.string a0_1,.slice A0_2 l0_2.length c0_2]) (t:=30) ?hr ?_;(case hd=>rfl);(case hg=>rfl);(case hr=>first|(go_simp;done)|(go_simp;rfl));intro gb479 hg w9 hbox hb;obtain ⟨n0_,n2_⟩:=bx0 hbx hb hg;have n1_:=Aside0.mk (hbox);clear HB;have HB:=n0_;have BK479:=n1_;have GW479:=n2_;have GE479:=n2_;clear n0_ n1_ n2_;clear hb hbox hg;obtain ⟨Z10_0,Z10_1,Z10_2,Y10_0,Y10_1,Y10_2⟩:=cel3 BK479.out))
  go_ret3
  exact ⟨rf,hb1 GE479.out⟩
 rw [if_neg c8] at H
 have c8b0:decide (256 < (a0_1.size:Int))=false:=decide_eq_false c8
 have c8b1:decide (256 < a0_1.size)=false:=decide_eq_false (by omega)
 clear c8
 have H':=Aside0.mk H
 clear H
 go_enter Try.func27,Try.ntmps27
 go_wp2_with (first|((with_reducible refine gate_dst (N:=1) rfl ?_);(try (refine gate_guard (by rfl) ?_;dsimp only));refine box_event ?hg (N:=1) ?hd (cs:=#[.string a0_0,.string a0_1,.slice A0_2 l0_2.length c0_2]) (t:=30) ?hr ?_;(case hd=>rfl);(case hg=>rfl);(case hr=>first|(go_simp;done)|(go_simp;rfl));intro gb479 hg w11 hbox hb;obtain ⟨n0_,n2_⟩:=bx0 hbx hb hg;have n1_:=Aside0.mk (hbox);clear HB;have HB:=n0_;have BK479:=n1_;have GW479:=n2_;have GE479:=n2_;clear n0_ n1_ n2_;clear hb hbox hg;obtain ⟨Z12_0,Z12_1,Z12_2,Y12_0,Y12_1,Y12_2⟩:=cel3 BK479.out)|((with_reducible refine gate_dst (N:=5) rfl ?_);(try (refine gate_guard (by rfl) ?_;dsimp only));refine box_event ?hg (N:=5) ?hd (cs:=#[.int .i64 0,.int .i64 0]) (t:=71) ?hr ?_;(case hd=>rfl);(case hg=>rfl);(case hr=>first|(go_simp;done)|(go_simp;rfl));intro gb480 hg w13 hbox hb;obtain ⟨n1_,n3_⟩:=bx0 (hb1 GE479.out) hb hg;obtain ⟨n0_,n5_,n6_⟩:=bx3 (qx BK479.out) hb hg;have n2_:=Aside0.mk (hbox);clear BK479;clear HB;have BK479:=n0_;have HB:=n1_;have BK480:=n2_;have GW480:=n3_;have GE480:=n3_;have NB479_480:=n5_;have NB480_479:=n6_;clear n0_ n1_ n2_ n3_ n5_ n6_;clear hb hbox hg;have hnb14:=NB479_480.out;have hnc14:=NB480_479.out;obtain ⟨Z15_0,Z15_1,Z15_2,Y15_0,Y15_1,Y15_2⟩:=cel3 BK479.out))
 go_loopg [32] k (fun kq v32 w'=>∃ (x32_1:Int) (x481000_1:Int) (x481001_1:Int),v32=.int .i64 x32_1∧Aside0 (impl_LintImage.l0 kq (l0_2.length:Int) x32_1 a0_0 a0_1 l0_2 x481000_1 x481001_1=some (r1,r2,r3))∧Aside0 (kq≤k)∧Aside0 (w'.heap[gb479]?=some (.cells #[.string a0_0,.string a0_1,(.slice A0_2 l0_2.length c0_2)] 30 (0,0)))∧Aside0 (w'.heap[gb480]?=some (.cells #[.int .i64 x481000_1,.int .i64 x481001_1] 71 (0,0)))∧Aside0 (Below w.heap.size w w'))
 case atStart=>exact ⟨(0),(0),(0),rs,H',⟨Nat.le_refl _⟩,⟨qx BK479.out⟩,⟨qx BK480.out⟩,⟨hb2 GE479.out GE480.out⟩⟩
 clear H'
 try clear c2b0
 try clear c2b1
 try clear c5b0
 try clear c5b1
 try clear c8b0
 try clear c8b1
 try clear Z12_0 Z12_1 Z12_2
 try clear Z15_0 Z15_1 Z15_2
 try clear Y12_0 Y12_1 Y12_2
 try clear Y15_0 Y15_1 Y15_2
 obtain ⟨x32_1,x481000_1,x481001_1,rfl,HA,HK1,BK479,BK480,HB⟩:=hrel
 cases gk with
 | zero=>exact absurd HA.out (by simp [impl_LintImage.l0])
 | succ k1 =>
  have H:=HA.out
  clear HA
  simp only [impl_LintImage.l0] at H
  by_cases c16:x32_1 < (l0_2.length:Int)
  ·rw [if_pos c16] at H
   have c16b0:decide (x32_1 < (l0_2.length:Int))=true:=decide_eq_true c16
   clear c16
   obtain ⟨⟨t481,t482,t483⟩,A17,H⟩:=bindA H
   try dsimp only at H
   by_cases c18:t481=0
   ·rw [if_pos c18] at H
    obtain ⟨c18b0,c18b1⟩:=eqP c18
    clear c18
    have H':=Aside0.mk H
    clear H
    have hnb19:=NB479_480.out
    have hnc19:=NB480_479.out
    obtain ⟨Z20_0,Z20_1,Z20_2,Y20_0,Y20_1,Y20_2⟩:=cel3 BK479.out
    go_wp2_with (first|(refine gl 52 37 Try.func52 #[.agg #[.string a0_0,.string a0_1,.slice A0_2 l0_2.length c0_2],.int .i64 x32_1,.pointer (some ⟨gb480,0,none⟩)] ?_;(with_reducible refine (impl_Image_lintSymbol.calls k1 a0_0 a0_1 _ _ l0_2 x32_1 gb480 x481000_1 x481001_1 t481 t482 t483 _ ?side1 ?side2 ?side3 A17.out).mono ?_);(case side1=>exact ⟨qx BK480.out⟩);(case side2=>exact kc HR0_2.out);(case side3=>exact HC0_2.out);rintro e w21 ⟨rfl,hs,hb,hk⟩;refine ⟨_,rfl,?_⟩;have n0_:=Aside0.mk (KeepBut.blk (g':=gb479) (o:=.cells #[.string a0_0,.string a0_1,.slice A0_2 l0_2.length c0_2] 30 (0,0)) hk (qx BK479.out) NB479_480.out (by simp));have n1_:=Aside0.mk hs;replace HB:=Aside0.mk (impl_Image_lintSymbol.under (hb2 GE479.out GE480.out) GE480.out hb);clear hs;clear BK479;clear BK480;have BK479:=n0_;have BK480:=n1_;clear n0_ n1_;(try clear hb);(try clear hb2);(try clear hk);(try clear hi)))
    go_roundg k1
    case measure=>have:=HK1.out;omega
    case rel=>exact ⟨(wrap64 (x32_1+1)),(t482),(t483),rs,H',⟨by have:=HK1.out;omega⟩,⟨qx BK479.out⟩,⟨qx BK480.out⟩,⟨hb2 GE479.out GE480.out⟩⟩
   rw [if_neg c18] at H
   obtain ⟨c18b0,c18b1⟩:=eqN c18
   simp only [Option.some.injEq,Prod.mk.injEq] at H
   obtain ⟨rfl,rfl,rfl⟩:=H
   have hnb22:=NB479_480.out
   have hnc22:=NB480_479.out
   obtain ⟨Z23_0,Z23_1,Z23_2,Y23_0,Y23_1,Y23_2⟩:=cel3 BK479.out
   go_wp2_with (first|(refine gl 52 37 Try.func52 #[.agg #[.string a0_0,.string a0_1,.slice A0_2 l0_2.length c0_2],.int .i64 x32_1,.pointer (some ⟨gb480,0,none⟩)] ?_;(with_reducible refine (impl_Image_lintSymbol.calls k1 a0_0 a0_1 _ _ l0_2 x32_1 gb480 x481000_1 x481001_1 t481 t482 t483 _ ?side1 ?side2 ?side3 A17.out).mono ?_);(case side1=>exact ⟨qx BK480.out⟩);(case side2=>exact kc HR0_2.out);(case side3=>exact HC0_2.out);rintro e w24 ⟨rfl,hs,hb,hk⟩;refine ⟨_,rfl,?_⟩;have n0_:=Aside0.mk (KeepBut.blk (g':=gb479) (o:=.cells #[.string a0_0,.string a0_1,.slice A0_2 l0_2.length c0_2] 30 (0,0)) hk (qx BK479.out) NB479_480.out (by simp));have n1_:=Aside0.mk hs;replace HB:=Aside0.mk (impl_Image_lintSymbol.under (hb2 GE479.out GE480.out) GE480.out hb);clear hs;clear BK479;clear BK480;have BK479:=n0_;have BK480:=n1_;clear n0_ n1_;(try clear hb);(try clear hb2);(try clear hk);(try clear hi)))
   go_ret3
   exact ⟨rf,hb2 GE479.out GE480.out⟩
  rw [if_neg c16] at H
  have c16b0:decide (x32_1 < (l0_2.length:Int))=false:=decide_eq_false c16
  clear c16
  have HC25:=Aside0.mk H
  clear H
  go_upto_region 13 with (fail)
  go_cut [43] (fun v43 wc=>∃ (kq:Nat) (x43_24:Bool),v43=.bool x43_24∧Aside0 (impl_LintImage.j1 kq x43_24 a0_0 a0_1 l0_2 x481000_1 x481001_1=some (r1,r2,r3))∧Aside0 (kq≤k1)∧Aside0 (wc.heap[gb479]?=some (.cells #[.string a0_0,.string a0_1,(.slice A0_2 l0_2.length c0_2)] 30 (0,0)))∧Aside0 (wc.heap[gb480]?=some (.cells #[.int .i64 x481000_1,.int .i64 x481001_1] 71 (0,0)))∧Aside0 (Below w.heap.size w wc))
  case first=>
   have H:=HC25.out
   clear HC25
   by_cases c26:(l0_2.length:Int)=0
   ·rw [if_pos c26] at H
    obtain ⟨c26b0,c26b1⟩:=eqP c26
    clear c26
    (first|rw [c26b0]|(simp only [i64_w,i32_w];rw [c26b0])|skip)
    have H':=Aside0.mk H
    clear H
    have hnb27:=NB479_480.out
    have hnc27:=NB480_479.out
    obtain ⟨Z28_0,Z28_1,Z28_2,Y28_0,Y28_1,Y28_2⟩:=cel3 BK479.out
    go_wp2
    go_meet
    case rel=>exact ⟨_,(true),rs,H',⟨om HK1.out⟩,⟨qx BK479.out⟩,⟨qx BK480.out⟩,⟨hb2 GE479.out GE480.out⟩⟩
   rw [if_neg c26] at H
   obtain ⟨c26b0,c26b1⟩:=eqN c26
   have c26b2:¬ (l0_2=[]):=fun h_=>c26 (by rw [h_];rfl)
   (first|rw [c26b0]|(simp only [i64_w,i32_w];rw [c26b0])|skip)
   by_cases c29:0 < (l0_2.length:Int)
   ·rw [if_pos c29] at H
    have c29b0:decide (0 < (l0_2.length:Int))=true:=decide_eq_true c29
    have c29b1:decide (0 < l0_2.length)=true:=decide_eq_true (by omega)
    clear c29
    have H':=Aside0.mk H
    clear H
    have hnb30:=NB479_480.out
    have hnc30:=NB480_479.out
    obtain ⟨Z31_0,Z31_1,Z31_2,Y31_0,Y31_1,Y31_2⟩:=cel3 BK479.out
    have p484:0≤(0:Int):=(by omega)
    have q484:0 < (l0_2.length:Int):=od
    obtain ⟨ad484,e484,hx484_0,hx484_1,hx484_2,hx484_3,hx484_4⟩:=at_T54 HR0_2.out 0 p484 q484
    cases e484
    have qi484:(0 < l0_2.length)=True:=eq_true (by omega)
    (try rw [show ((0:Int)).toNat=0 from rfl] at hx484_0)
    (try rw [show 0*5=0 from rfl] at hx484_0)
    (try rw [Addr.add_zero'] at hx484_0)
    (try rw [show ((0:Int)).toNat=0 from rfl] at hx484_1)
    (try rw [show 0*5=0 from rfl] at hx484_1)
    (try rw [Addr.add_zero'] at hx484_1)
    (try rw [show ((0:Int)).toNat=0 from rfl] at hx484_2)
    (try rw [show 0*5=0 from rfl] at hx484_2)
    (try rw [Addr.add_zero'] at hx484_2)
    (try rw [show ((0:Int)).toNat=0 from rfl] at hx484_3)
    (try rw [show 0*5=0 from rfl] at hx484_3)
    (try rw [Addr.add_zero'] at hx484_3)
    (try rw [show ((0:Int)).toNat=0 from rfl] at hx484_4)
    (try rw [show 0*5=0 from rfl] at hx484_4)
    (try rw [Addr.add_zero'] at hx484_4)
    replace hx484_0:=cx HB.out hx484_0
    replace hx484_1:=cx HB.out hx484_1
    replace hx484_2:=cx HB.out hx484_2
    replace hx484_3:=cx HB.out hx484_3
    replace hx484_4:=cx HB.out hx484_4
    replace p484:=eq_true p484
    replace q484:=eq_true q484
    go_wp2
    go_meet
    case rel=>exact ⟨_,((((rd_T54 l0_2 0).f1) != 1)),rs,H',⟨om HK1.out⟩,⟨qx BK479.out⟩,⟨qx BK480.out⟩,⟨hb2 GE479.out GE480.out⟩⟩
   rw [if_neg c29] at H
   exact absurd H (by simp)
  clear HC25
  try clear c16b0
  obtain ⟨kq,x43_24,rfl,HA,HJ24,BK479,BK480,HB⟩:=hcut
  cases kq with
  | zero=>exact absurd HA.out (by simp [impl_LintImage.j1])
  | succ kj24 =>
   have H:=HA.out
   clear HA
   simp only [impl_LintImage.j1] at H
   by_cases c32:x43_24=true
   ·subst c32
    rw [if_pos rfl] at H
    simp only [Option.some.injEq,Prod.mk.injEq] at H
    obtain ⟨rfl,rfl,rfl⟩:=H
    go_wp2
    go_ret3
    exact ⟨rf,hb2 GE479.out GE480.out⟩
   replace c32:=Bool.eq_false_iff.mpr c32
   subst c32
   rw [if_neg (show ¬ (false=true) by decide)] at H
   by_cases c33:x481000_1=(a0_0.size:Int)
   ·rw [if_pos c33] at H
    obtain ⟨c33b0,c33b1⟩:=eqP c33
    clear c33
    obtain ⟨t485,A34,H⟩:=bindA H
    have H':=Aside0.mk H
    clear H
    have hnb35:=NB480_479.out
    have hnc35:=NB479_480.out
    obtain ⟨Z36_0,Z36_1,Y36_0,Y36_1⟩:=cel2 BK480.out;obtain ⟨Z37_0,Z37_1,Z37_2,Y37_0,Y37_1,Y37_2⟩:=cel3 BK479.out
    go_wp2_with (first|(refine gl 53 64 Try.func53 #[.agg #[.string a0_0,.string a0_1,.slice A0_2 l0_2.length c0_2]] ?_;(with_reducible refine (impl_Image_functions.calls kj24 a0_0 a0_1 _ _ l0_2 t485 _ ?side1 ?side2 A34.out).mono ?_);(case side1=>exact kc HR0_2.out);(case side2=>exact HC0_2.out);rintro e w38 ⟨v486,rfl,ho0,hb⟩;refine ⟨_,rfl,?_⟩;have n0_:=Aside0.mk (Kd.R_lower ho0 (below_size (hb2 GE479.out GE480.out)));have n1_:=Aside0.mk (blk_below (qx BK479.out) hb);have n2_:=Aside0.mk (blk_below (qx BK480.out) hb);replace HB:=Aside0.mk (below_step (hb2 GE479.out GE480.out) hb);clear BK479;clear BK480;have HO487:=n0_;have BK479:=n1_;have BK480:=n2_;clear n0_ n1_ n2_;(try clear hb);(try clear hb2);(try clear hk);(try clear hi);(try clear ho0);obtain ⟨Z39_0,Z39_1,Z39_2,Y39_0,Y39_1,Y39_2⟩:=cel3 BK479.out))
    go_loopg [68] kj24 (fun kq v68 w'=>∃ (x68_3:Int),v68=.int .i64 x68_3∧Aside0 (impl_LintImage.l1 kq t485 l0_2 (l0_2.length:Int) x68_3 a0_0 a0_1 l0_2=some (r1,r2,r3))∧Aside0 (kq≤kj24)∧Aside0 (Kd.R (Kd.int .i64) 3 w' w.heap.size (fun _=>True) v486 t485)∧Aside0 (w'.heap[gb479]?=some (.cells #[.string a0_0,.string a0_1,(.slice A0_2 l0_2.length c0_2)] 30 (0,0)))∧Aside0 (w'.heap[gb480]?=some (.cells #[.int .i64 x481000_1,.int .i64 x481001_1] 71 (0,0)))∧Aside0 (Below w.heap.size w w'))
    case atStart=>exact ⟨(0),rs,H',⟨Nat.le_refl _⟩,⟨kr HO487.out⟩,⟨qx BK479.out⟩,⟨qx BK480.out⟩,⟨hb2 GE479.out GE480.out⟩⟩
    clear H'
    try clear c32
    try clear c33b0 c33b1
    try clear Z36_0
    try clear Z36_1
    try clear Z37_0
    try clear Z37_1
    try clear Z37_2
    try clear Z39_0 Z39_1 Z39_2
    try clear Y36_0
    try clear Y36_1
    try clear Y37_0
    try clear Y37_1
    try clear Y37_2
    try clear Y39_0 Y39_1 Y39_2
    obtain ⟨x68_3,rfl,HA,HK3,HO_8,BK479,BK480,HB⟩:=hrel
    cases gk with
    | zero=>exact absurd HA.out (by simp [impl_LintImage.l1])
    | succ k3 =>
     have H:=HA.out
     clear HA
     simp only [impl_LintImage.l1] at H
     by_cases c40:x68_3 < (l0_2.length:Int)
     ·rw [if_pos c40] at H
      have c40b0:decide (x68_3 < (l0_2.length:Int))=true:=decide_eq_true c40
      clear c40
      by_cases c41:0≤x68_3
      ·rw [if_pos c41] at H
       have c41b0:decide (0≤x68_3)=true:=decide_eq_true c41
       clear c41
       by_cases c42:x68_3 < (l0_2.length:Int)
       ·rw [if_pos c42] at H
        have c42b0:decide (x68_3 < (l0_2.length:Int))=true:=decide_eq_true c42
        clear c42
        by_cases c43:((rd_T54 l0_2 x68_3).f1)=1
        ·rw [if_pos c43] at H
         obtain ⟨c43b0,c43b1⟩:=eqP c43
         clear c43
         by_cases c44:0≤((rd_T54 l0_2 x68_3).f2)
         ·rw [if_pos c44] at H
          have c44b0:=eq_true c44
          have c44b1:decide (0≤((rd_T54 l0_2 x68_3).f2))=true:=decide_eq_true c44
          clear c44
          by_cases c45:((rd_T54 l0_2 x68_3).f2)≤(wrap64 (((rd_T54 l0_2 x68_3).f2)+((rd_T54 l0_2 x68_3).f3)))
          ·rw [if_pos c45] at H
           have c45b0:=eq_true c45
           have c45b1:decide (((rd_T54 l0_2 x68_3).f2)≤(wrap64 (((rd_T54 l0_2 x68_3).f2)+((rd_T54 l0_2 x68_3).f3))))=true:=decide_eq_true c45
           by_cases c46:(wrap64 (((rd_T54 l0_2 x68_3).f2)+((rd_T54 l0_2 x68_3).f3)))≤(a0_0.size:Int)
           ·rw [if_pos c46] at H
            have c46b0:=eq_true c46
            have c46b1:decide ((wrap64 (((rd_T54 l0_2 x68_3).f2)+((rd_T54 l0_2 x68_3).f3)))≤(a0_0.size:Int))=true:=decide_eq_true c46
            obtain ⟨t490,A47,H⟩:=bindA H
            obtain ⟨⟨t491,t492⟩,A48,H⟩:=bindA H
            try dsimp only at H
            by_cases c49:t492=0
            ·rw [if_pos c49] at H
             obtain ⟨c49b0,c49b1⟩:=eqP c49
             clear c49
             have H':=Aside0.mk H
             clear H
             have p488:0≤(x68_3:Int):=od
             have q488:x68_3 < (l0_2.length:Int):=od
             obtain ⟨ad488,e488,hx488_0,hx488_1,hx488_2,hx488_3,hx488_4⟩:=at_T54 HR0_2.out x68_3 p488 q488
             cases e488
             replace hx488_0:=cx HB.out hx488_0
             replace hx488_1:=cx HB.out hx488_1
             replace hx488_2:=cx HB.out hx488_2
             replace hx488_3:=cx HB.out hx488_3
             replace hx488_4:=cx HB.out hx488_4
             replace p488:=eq_true p488
             replace q488:=eq_true q488
             try go_wp2_with (first|((with_reducible refine gate_dst (N:=10) rfl ?_);(try (refine gate_guard (by rfl) ?_;dsimp only));refine box_event ?hg (N:=10) ?hd (cs:=#[.string (⟨#[]⟩:ByteArray),.int .i64 0,.int .i64 0,.int .i64 0,.int .i64 0]) (t:=54) ?hr ?_;(case hd=>rfl);(case hg=>rfl);(case hr=>first|(go_simp;done)|(go_simp;rfl));intro gb489 hg w50 hbox hb;obtain ⟨n3_,n5_⟩:=bx0 (hb2 GE479.out GE480.out) hb hg;have n0_:=Aside0.mk (Kd.R_below (kr HO_8.out) hb);obtain ⟨n1_,n7_,n8_⟩:=bx3 (qx BK479.out) hb hg;obtain ⟨n2_,n9_,n10_⟩:=bx3 (qx BK480.out) hb hg;have n4_:=Aside0.mk (hbox);clear HO_8;clear BK479;clear BK480;clear HB;have HO_8:=n0_;have BK479:=n1_;have BK480:=n2_;have HB:=n3_;have BK489:=n4_;have GW489:=n5_;have GE489:=n5_;have NB479_489:=n7_;have NB489_479:=n8_;have NB480_489:=n9_;have NB489_480:=n10_;clear n0_ n1_ n2_ n3_ n4_ n5_ n7_ n8_ n9_ n10_;clear hb hbox hg;have hnb51:=NB489_479.out;have hnc51:=NB479_489.out;have hnb52:=NB489_480.out;have hnc52:=NB480_489.out;obtain ⟨Z53_0,Z53_1,Z53_2,Z53_3,Z53_4,Y53_0,Y53_1,Y53_2,Y53_3,Y53_4⟩:=cel5 BK489.out))
             have n0_:Aside0 (Kd.R (Kd.int .i64) 3 (((((w50.setCell ⟨gb489,0,none⟩ (.string ((rd_T54 l0_2 x68_3).f0))).setCell ⟨gb489,1,none⟩ (.int .i64 ((rd_T54 l0_2 x68_3).f1))).setCell ⟨gb489,2,none⟩ (.int .i64 ((rd_T54 l0_2 x68_3).f2))).setCell ⟨gb489,3,none⟩ (.int .i64 ((rd_T54 l0_2 x68_3).f3))).setCell ⟨gb489,4,none⟩ (.int .i64 ((rd_T54 l0_2 x68_3).f4))) w.heap.size (fun _=>True) v486 t485):=⟨by (with_reducible repeat (first|apply Kd.R_alloc|apply Kd.R_drewN|apply Kd.R_drew));exact Kd.R_mono (Kd.R_far (p:=⟨gb489,4,none⟩) (Kd.R_far (p:=⟨gb489,3,none⟩) (Kd.R_far (p:=⟨gb489,2,none⟩) (Kd.R_far (p:=⟨gb489,1,none⟩) (Kd.R_far (p:=⟨gb489,0,none⟩) (Kd.R_types HO_8.out BK489.out (by decide)) (fun _ hk=>hk.2) (.string ((rd_T54 l0_2 x68_3).f0))) (fun _ hk=>hk.2) (.int .i64 ((rd_T54 l0_2 x68_3).f1))) (fun _ hk=>hk.2) (.int .i64 ((rd_T54 l0_2 x68_3).f2))) (fun _ hk=>hk.2) (.int .i64 ((rd_T54 l0_2 x68_3).f3))) (fun _ hk=>hk.2) (.int .i64 ((rd_T54 l0_2 x68_3).f4))) (fun _ hk=>trivial)⟩
             have n1_:Aside0 ((((((w50.setCell ⟨gb489,0,none⟩ (.string ((rd_T54 l0_2 x68_3).f0))).setCell ⟨gb489,1,none⟩ (.int .i64 ((rd_T54 l0_2 x68_3).f1))).setCell ⟨gb489,2,none⟩ (.int .i64 ((rd_T54 l0_2 x68_3).f2))).setCell ⟨gb489,3,none⟩ (.int .i64 ((rd_T54 l0_2 x68_3).f3))).setCell ⟨gb489,4,none⟩ (.int .i64 ((rd_T54 l0_2 x68_3).f4))).heap[gb479]?=some (.cells #[.string a0_0,.string a0_1,.slice (some ad488) l0_2.length c0_2] 30 (0,0))):=⟨qg NB479_489.out BK479.out⟩
             have n2_:Aside0 ((((((w50.setCell ⟨gb489,0,none⟩ (.string ((rd_T54 l0_2 x68_3).f0))).setCell ⟨gb489,1,none⟩ (.int .i64 ((rd_T54 l0_2 x68_3).f1))).setCell ⟨gb489,2,none⟩ (.int .i64 ((rd_T54 l0_2 x68_3).f2))).setCell ⟨gb489,3,none⟩ (.int .i64 ((rd_T54 l0_2 x68_3).f3))).setCell ⟨gb489,4,none⟩ (.int .i64 ((rd_T54 l0_2 x68_3).f4))).heap[gb480]?=some (.cells #[.int .i64 x481000_1,.int .i64 x481001_1] 71 (0,0))):=⟨qg NB480_489.out BK480.out⟩
             have n3_:Aside0 ((((((w50.setCell ⟨gb489,0,none⟩ (.string ((rd_T54 l0_2 x68_3).f0))).setCell ⟨gb489,1,none⟩ (.int .i64 ((rd_T54 l0_2 x68_3).f1))).setCell ⟨gb489,2,none⟩ (.int .i64 ((rd_T54 l0_2 x68_3).f2))).setCell ⟨gb489,3,none⟩ (.int .i64 ((rd_T54 l0_2 x68_3).f3))).setCell ⟨gb489,4,none⟩ (.int .i64 ((rd_T54 l0_2 x68_3).f4))).heap[gb489]?=some (.cells #[.string ((rd_T54 l0_2 x68_3).f0),.int .i64 ((rd_T54 l0_2 x68_3).f1),.int .i64 ((rd_T54 l0_2 x68_3).f2),.int .i64 ((rd_T54 l0_2 x68_3).f3),.int .i64 ((rd_T54 l0_2 x68_3).f4)] 54 (0,0))):=⟨by (with_reducible repeat first|apply Q1|apply Q2|apply Q3);refine blk_put (cs:=#[.string ((rd_T54 l0_2 x68_3).f0),.int .i64 ((rd_T54 l0_2 x68_3).f1),.int .i64 ((rd_T54 l0_2 x68_3).f2),.int .i64 ((rd_T54 l0_2 x68_3).f3),.int .i64 0]) ?_ 4 _ rfl;(with_reducible repeat first|apply Q1|apply Q2|apply Q3);refine blk_put (cs:=#[.string ((rd_T54 l0_2 x68_3).f0),.int .i64 ((rd_T54 l0_2 x68_3).f1),.int .i64 ((rd_T54 l0_2 x68_3).f2),.int .i64 0,.int .i64 0]) ?_ 3 _ rfl;(with_reducible repeat first|apply Q1|apply Q2|apply Q3);refine blk_put (cs:=#[.string ((rd_T54 l0_2 x68_3).f0),.int .i64 ((rd_T54 l0_2 x68_3).f1),.int .i64 0,.int .i64 0,.int .i64 0]) ?_ 2 _ rfl;(with_reducible repeat first|apply Q1|apply Q2|apply Q3);refine blk_put (cs:=#[.string ((rd_T54 l0_2 x68_3).f0),.int .i64 0,.int .i64 0,.int .i64 0,.int .i64 0]) ?_ 1 _ rfl;(with_reducible repeat first|apply Q1|apply Q2|apply Q3);refine blk_put (cs:=#[.string (⟨#[]⟩:ByteArray),.int .i64 0,.int .i64 0,.int .i64 0,.int .i64 0]) ?_ 0 _ rfl;(with_reducible repeat first|apply Q1|apply Q2|apply Q3);exact BK489.out⟩
             have n4_:Aside0 (Below w.heap.size w (((((w50.setCell ⟨gb489,0,none⟩ (.string ((rd_T54 l0_2 x68_3).f0))).setCell ⟨gb489,1,none⟩ (.int .i64 ((rd_T54 l0_2 x68_3).f1))).setCell ⟨gb489,2,none⟩ (.int .i64 ((rd_T54 l0_2 x68_3).f2))).setCell ⟨gb489,3,none⟩ (.int .i64 ((rd_T54 l0_2 x68_3).f3))).setCell ⟨gb489,4,none⟩ (.int .i64 ((rd_T54 l0_2 x68_3).f4)))):=⟨hb3 GE479.out GE480.out GE489.out⟩
             try clear HO_8
             try clear BK479 BK480
             try clear BK489
             try clear HB
             generalize (((((w50.setCell ⟨gb489,0,none⟩ (.string ((rd_T54 l0_2 x68_3).f0))).setCell ⟨gb489,1,none⟩ (.int .i64 ((rd_T54 l0_2 x68_3).f1))).setCell ⟨gb489,2,none⟩ (.int .i64 ((rd_T54 l0_2 x68_3).f2))).setCell ⟨gb489,3,none⟩ (.int .i64 ((rd_T54 l0_2 x68_3).f3))).setCell ⟨gb489,4,none⟩ (.int .i64 ((rd_T54 l0_2 x68_3).f4)))=w54 at n0_ n1_ n2_ n3_ n4_ ⊢
             have HO_8:=n0_
             have BK479:=n1_
             have BK480:=n2_
             have BK489:=n3_
             have HB:=n4_
             clear n0_ n1_ n2_ n3_ n4_
             replace HO_8:=Aside0.mk (Kd.R_drew HO_8.out);replace BK479:=Aside0.mk (blk_drew BK479.out);replace BK480:=Aside0.mk (blk_drew BK480.out);replace BK489:=Aside0.mk (blk_drew BK489.out);replace HB:=Aside0.mk (below_drew1 HB.out)
             refine start_ (n:=21) (S:=fun w'=>w'.cell? ⟨gb479,0,none⟩=some (.string a0_0)∧w'.cell? ⟨gb479,1,none⟩=some (.string a0_1)∧w'.cell? ⟨gb479,2,none⟩=some (.slice (some ad488) l0_2.length c0_2)∧w'.cell? ⟨gb489,0,none⟩=some (.string ((rd_T54 l0_2 x68_3).f0))∧w'.cell? ⟨gb489,1,none⟩=some (.int .i64 ((rd_T54 l0_2 x68_3).f1))∧w'.cell? ⟨gb489,2,none⟩=some (.int .i64 ((rd_T54 l0_2 x68_3).f2))∧w'.cell? ⟨gb489,3,none⟩=some (.int .i64 ((rd_T54 l0_2 x68_3).f3))∧w'.cell? ⟨gb489,4,none⟩=some (.int .i64 ((rd_T54 l0_2 x68_3).f4))) (ds:=[]) #[false,false,false,false,false,false,false,false,false,false,false,false,false,false,false,false,false,false,false,false,false] (by kernel_rfl) rfl rfl ⟨(blk_cell BK479.out 0).trans rfl,(blk_cell BK479.out 1).trans rfl,(blk_cell BK479.out 2).trans rfl,(blk_cell BK489.out 0).trans rfl,(blk_cell BK489.out 1).trans rfl,(blk_cell BK489.out 2).trans rfl,(blk_cell BK489.out 3).trans rfl,(blk_cell BK489.out 4).trans rfl⟩ (fun hHeld=>?_);refine with_tabW impl_LintImage.tab22 impl_LintImage.bits22 (fun HT_ HW_=>?_)
             generalize w54.drew=w55 at HO_8 BK479 BK480 BK489 HB hHeld ⊢
             refine pu 0 77 #[true,false,false,false,false,false,false,false,false,false,false,false,false,false,false,false,false,false,false,false,false] ?_
             refine pu 2 79 #[true,false,true,false,false,false,false,false,false,false,false,false,false,false,false,false,false,false,false,false,false] ?_
             refine pu 4 81 #[true,false,true,false,true,false,false,false,false,false,false,false,false,false,false,false,false,false,false,false,false] ?_
             refine pu 6 83 #[true,false,true,false,true,false,true,false,false,false,false,false,false,false,false,false,false,false,false,false,false] ?_
             refine pu 12 89 #[true,false,true,false,true,false,true,false,false,false,false,false,true,false,false,false,false,false,false,false,false] ?_
             refine pu 14 91 #[true,false,true,false,true,false,true,false,false,false,false,false,true,false,true,false,false,false,false,false,false] ?_
             refine tk8 1 78 #[true,true,true,false,true,false,true,false,false,false,false,false,true,false,true,false,false,false,false,false,false] hHeld ?_
             refine tk8 3 80 #[true,true,true,true,true,false,true,false,false,false,false,false,true,false,true,false,false,false,false,false,false] hHeld ?_
             refine tk8 5 82 #[true,true,true,true,true,true,true,false,false,false,false,false,true,false,true,false,false,false,false,false,false] hHeld ?_
             refine tk8 7 84 #[true,true,true,true,true,true,true,true,false,false,false,false,true,false,true,false,false,false,false,false,false] hHeld ?_
             refine pu 8 85 #[true,true,true,true,true,true,true,true,true,false,false,false,true,false,true,false,false,false,false,false,false] ?_
             refine pu 9 86 #[true,true,true,true,true,true,true,true,true,true,false,false,true,false,true,false,false,false,false,false,false] ?_
             refine tk8 10 87 #[true,true,true,true,true,true,true,true,true,true,true,false,true,false,true,false,false,false,false,false,false] hHeld ?_
             refine tk8 13 90 #[true,true,true,true,true,true,true,true,true,true,true,false,true,true,true,false,false,false,false,false,false] hHeld ?_
             refine one_ (i:=11) (N:=some 88) #[true,true,true,true,true,true,true,true,true,true,true,true,true,true,true,false,false,false,false,false,false] rfl rfl (one_of HT_.out (by kernel_rfl)) (by decide) (fun K hK=>?_)
             refine goes_ Try.func54 (by kernel_rfl) rfl #[.agg #[.string ((rd_T54 l0_2 x68_3).f0),.int .i64 ((rd_T54 l0_2 x68_3).f1),.int .i64 ((rd_T54 l0_2 x68_3).f2),.int .i64 ((rd_T54 l0_2 x68_3).f3),.int .i64 ((rd_T54 l0_2 x68_3).f4)]] (by rfl) rfl rfl (mp_ rfl) ?_
             with_reducible refine (impl_Symbol_address.calls ((rd_T54 l0_2 x68_3).f0) ((rd_T54 l0_2 x68_3).f1) ((rd_T54 l0_2 x68_3).f2) ((rd_T54 l0_2 x68_3).f3) ((rd_T54 l0_2 x68_3).f4) t490 _ A47.out).mono ?_
             rintro e w56 ⟨rfl,hb⟩
             refine ⟨_,rfl,?_⟩
             replace HO_8:=Aside0.mk (Kd.R_below (kr HO_8.out) hb);replace BK479:=Aside0.mk (blk_below (qx BK479.out) hb);replace BK480:=Aside0.mk (blk_below (qx BK480.out) hb);replace BK489:=Aside0.mk (blk_below (qx BK489.out) hb);replace HB:=Aside0.mk (below_step (hb3 GE479.out GE480.out GE489.out) hb)
             try clear hb
             try clear hb2
             try clear hk
             try clear hi
             obtain ⟨Ao57,co57,eo57⟩:=Kd.R_slice HO_8.out
             (first|subst eo57|(injection eo57 with f1_ f2_ f3_;have f4_:=f1_.symm;have f5_:=f3_.symm;clear f1_ f2_ f3_;subst f4_;subst f5_))
             refine hK.out _ _ ⟨(blk_cell BK479.out 0).trans rfl,(blk_cell BK479.out 1).trans rfl,(blk_cell BK479.out 2).trans rfl,(blk_cell BK489.out 0).trans rfl,(blk_cell BK489.out 1).trans rfl,(blk_cell BK489.out 2).trans rfl,(blk_cell BK489.out 3).trans rfl,(blk_cell BK489.out 4).trans rfl⟩ (fun hHeld=>?_)
             clear hK K
             refine norm_ (a':=?_) ?_ ?_
             rotate_left
             ·show Act.put _ (some 88) _=_
              simp only [Act.put,List.setIfInBounds_toArray,List.set_cons_zero,List.set_cons_succ,i64_w,i32_w]
              rfl
             refine one_ (i:=15) (N:=some 92) #[true,true,true,true,true,true,true,true,true,true,true,true,true,true,true,true,false,false,false,false,false] rfl rfl (one_of HT_.out (by kernel_rfl)) (by decide) (fun K hK=>?_)
             refine goes_ Try.func43 (by kernel_rfl) rfl #[.string (a0_0.extract (((rd_T54 l0_2 x68_3).f2):Int).toNat ((wrap64 (((rd_T54 l0_2 x68_3).f2)+((rd_T54 l0_2 x68_3).f3))):Int).toNat),.int .i64 t490,.int .i64 ((rd_T54 l0_2 x68_3).f4),.slice Ao57 t485.length co57] (by rfl) rfl rfl (mp_ rfl) ?_
             with_reducible refine (impl_lint.calls k3 (a0_0.extract (((rd_T54 l0_2 x68_3).f2):Int).toNat ((wrap64 (((rd_T54 l0_2 x68_3).f2)+((rd_T54 l0_2 x68_3).f3))):Int).toNat) t490 ((rd_T54 l0_2 x68_3).f4) _ _ t485 t491 t492 _ ?side1 ?side2 A48.out).mono ?_
             (case side1=>repeat (first|exact (Kd.R_reads' HO_8.out).2.2|(with_reducible refine Kd.C_alloc ?_ _)|(with_reducible refine Kd.C_drewN ?_ _)|(with_reducible refine Kd.C_drew ?_)))
             (case side2=>exact (Kd.R_reads' HO_8.out).2.1)
             rintro e w58 ⟨rfl,hb⟩
             refine ⟨_,rfl,?_⟩
             replace HO_8:=Aside0.mk (Kd.R_below (kr HO_8.out) hb);replace BK479:=Aside0.mk (blk_below (qx BK479.out) hb);replace BK480:=Aside0.mk (blk_below (qx BK480.out) hb);replace BK489:=Aside0.mk (blk_below (qx BK489.out) hb);replace HB:=Aside0.mk (below_step (hb3 GE479.out GE480.out GE489.out) hb)
             try clear hb
             refine hK.out _ _ ⟨(blk_cell BK479.out 0).trans rfl,(blk_cell BK479.out 1).trans rfl,(blk_cell BK479.out 2).trans rfl,(blk_cell BK489.out 0).trans rfl,(blk_cell BK489.out 1).trans rfl,(blk_cell BK489.out 2).trans rfl,(blk_cell BK489.out 3).trans rfl,(blk_cell BK489.out 4).trans rfl⟩ (fun hHeld=>?_)
             clear hK K
             refine norm_ (a':=?_) ?_ ?_
             rotate_left
             ·show Act.put _ (some 92) _=_
              simp only [Act.put,List.setIfInBounds_toArray,List.set_cons_zero,List.set_cons_succ,i64_w,i32_w]
              rfl
             refine pu 16 76 #[true,true,true,true,true,true,true,true,true,true,true,true,true,true,true,true,true,false,false,false,false] ?_
             refine pu 17 93 #[true,true,true,true,true,true,true,true,true,true,true,true,true,true,true,true,true,true,false,false,false] ?_
             refine pu 18 94 #[true,true,true,true,true,true,true,true,true,true,true,true,true,true,true,true,true,true,true,false,false] ?_
             refine pu 19 11 #[true,true,true,true,true,true,true,true,true,true,true,true,true,true,true,true,true,true,true,true,false] ?_
             refine pu 20 12 #[true,true,true,true,true,true,true,true,true,true,true,true,true,true,true,true,true,true,true,true,true] ?_
             refine done_ (done_of HT_.out (by kernel_rfl)) ?_
             try go_wp2
             go_roundg k3
             case measure=>have:=HK1.out;have:=HJ24.out;have:=HK3.out;omega
             case rel=>exact ⟨(wrap64 (x68_3+1)),rs,H',⟨by have:=HK1.out;have:=HJ24.out;have:=HK3.out;omega⟩,⟨kr HO_8.out⟩,⟨qx BK479.out⟩,⟨qx BK480.out⟩,⟨hb3 GE479.out GE480.out GE489.out⟩⟩
            rw [if_neg c49] at H
            obtain ⟨c49b0,c49b1⟩:=eqN c49
            simp only [Option.some.injEq,Prod.mk.injEq] at H
            obtain ⟨rfl,rfl,rfl⟩:=H
            have p488:0≤(x68_3:Int):=od
            have q488:x68_3 < (l0_2.length:Int):=od
            obtain ⟨ad488,e488,hx488_0,hx488_1,hx488_2,hx488_3,hx488_4⟩:=at_T54 HR0_2.out x68_3 p488 q488
            cases e488
            replace hx488_0:=cx HB.out hx488_0
            replace hx488_1:=cx HB.out hx488_1
            replace hx488_2:=cx HB.out hx488_2
            replace hx488_3:=cx HB.out hx488_3
            replace hx488_4:=cx HB.out hx488_4
            replace p488:=eq_true p488
            replace q488:=eq_true q488
            try go_wp2_with (first|((with_reducible refine gate_dst (N:=10) rfl ?_);(try (refine gate_guard (by rfl) ?_;dsimp only));refine box_event ?hg (N:=10) ?hd (cs:=#[.string (⟨#[]⟩:ByteArray),.int .i64 0,.int .i64 0,.int .i64 0,.int .i64 0]) (t:=54) ?hr ?_;(case hd=>rfl);(case hg=>rfl);(case hr=>first|(go_simp;done)|(go_simp;rfl));intro gb489 hg w59 hbox hb;obtain ⟨n3_,n5_⟩:=bx0 (hb2 GE479.out GE480.out) hb hg;have n0_:=Aside0.mk (Kd.R_below (kr HO_8.out) hb);obtain ⟨n1_,n7_,n8_⟩:=bx3 (qx BK479.out) hb hg;obtain ⟨n2_,n9_,n10_⟩:=bx3 (qx BK480.out) hb hg;have n4_:=Aside0.mk (hbox);clear HO_8;clear BK479;clear BK480;clear HB;have HO_8:=n0_;have BK479:=n1_;have BK480:=n2_;have HB:=n3_;have BK489:=n4_;have GW489:=n5_;have GE489:=n5_;have NB479_489:=n7_;have NB489_479:=n8_;have NB480_489:=n9_;have NB489_480:=n10_;clear n0_ n1_ n2_ n3_ n4_ n5_ n7_ n8_ n9_ n10_;clear hb hbox hg;have hnb60:=NB489_479.out;have hnc60:=NB479_489.out;have hnb61:=NB489_480.out;have hnc61:=NB480_489.out;obtain ⟨Z62_0,Z62_1,Z62_2,Z62_3,Z62_4,Y62_0,Y62_1,Y62_2,Y62_3,Y62_4⟩:=cel5 BK489.out))
            have n0_:Aside0 (Kd.R (Kd.int .i64) 3 (((((w59.setCell ⟨gb489,0,none⟩ (.string ((rd_T54 l0_2 x68_3).f0))).setCell ⟨gb489,1,none⟩ (.int .i64 ((rd_T54 l0_2 x68_3).f1))).setCell ⟨gb489,2,none⟩ (.int .i64 ((rd_T54 l0_2 x68_3).f2))).setCell ⟨gb489,3,none⟩ (.int .i64 ((rd_T54 l0_2 x68_3).f3))).setCell ⟨gb489,4,none⟩ (.int .i64 ((rd_T54 l0_2 x68_3).f4))) w.heap.size (fun _=>True) v486 t485):=⟨by (with_reducible repeat (first|apply Kd.R_alloc|apply Kd.R_drewN|apply Kd.R_drew));exact Kd.R_mono (Kd.R_far (p:=⟨gb489,4,none⟩) (Kd.R_far (p:=⟨gb489,3,none⟩) (Kd.R_far (p:=⟨gb489,2,none⟩) (Kd.R_far (p:=⟨gb489,1,none⟩) (Kd.R_far (p:=⟨gb489,0,none⟩) (Kd.R_types HO_8.out BK489.out (by decide)) (fun _ hk=>hk.2) (.string ((rd_T54 l0_2 x68_3).f0))) (fun _ hk=>hk.2) (.int .i64 ((rd_T54 l0_2 x68_3).f1))) (fun _ hk=>hk.2) (.int .i64 ((rd_T54 l0_2 x68_3).f2))) (fun _ hk=>hk.2) (.int .i64 ((rd_T54 l0_2 x68_3).f3))) (fun _ hk=>hk.2) (.int .i64 ((rd_T54 l0_2 x68_3).f4))) (fun _ hk=>trivial)⟩
            have n1_:Aside0 ((((((w59.setCell ⟨gb489,0,none⟩ (.string ((rd_T54 l0_2 x68_3).f0))).setCell ⟨gb489,1,none⟩ (.int .i64 ((rd_T54 l0_2 x68_3).f1))).setCell ⟨gb489,2,none⟩ (.int .i64 ((rd_T54 l0_2 x68_3).f2))).setCell ⟨gb489,3,none⟩ (.int .i64 ((rd_T54 l0_2 x68_3).f3))).setCell ⟨gb489,4,none⟩ (.int .i64 ((rd_T54 l0_2 x68_3).f4))).heap[gb479]?=some (.cells #[.string a0_0,.string a0_1,.slice (some ad488) l0_2.length c0_2] 30 (0,0))):=⟨qg NB479_489.out BK479.out⟩
            have n2_:Aside0 ((((((w59.setCell ⟨gb489,0,none⟩ (.string ((rd_T54 l0_2 x68_3).f0))).setCell ⟨gb489,1,none⟩ (.int .i64 ((rd_T54 l0_2 x68_3).f1))).setCell ⟨gb489,2,none⟩ (.int .i64 ((rd_T54 l0_2 x68_3).f2))).setCell ⟨gb489,3,none⟩ (.int .i64 ((rd_T54 l0_2 x68_3).f3))).setCell ⟨gb489,4,none⟩ (.int .i64 ((rd_T54 l0_2 x68_3).f4))).heap[gb480]?=some (.cells #[.int .i64 x481000_1,.int .i64 x481001_1] 71 (0,0))):=⟨qg NB480_489.out BK480.out⟩
            have n3_:Aside0 ((((((w59.setCell ⟨gb489,0,none⟩ (.string ((rd_T54 l0_2 x68_3).f0))).setCell ⟨gb489,1,none⟩ (.int .i64 ((rd_T54 l0_2 x68_3).f1))).setCell ⟨gb489,2,none⟩ (.int .i64 ((rd_T54 l0_2 x68_3).f2))).setCell ⟨gb489,3,none⟩ (.int .i64 ((rd_T54 l0_2 x68_3).f3))).setCell ⟨gb489,4,none⟩ (.int .i64 ((rd_T54 l0_2 x68_3).f4))).heap[gb489]?=some (.cells #[.string ((rd_T54 l0_2 x68_3).f0),.int .i64 ((rd_T54 l0_2 x68_3).f1),.int .i64 ((rd_T54 l0_2 x68_3).f2),.int .i64 ((rd_T54 l0_2 x68_3).f3),.int .i64 ((rd_T54 l0_2 x68_3).f4)] 54 (0,0))):=⟨by (with_reducible repeat first|apply Q1|apply Q2|apply Q3);refine blk_put (cs:=#[.string ((rd_T54 l0_2 x68_3).f0),.int .i64 ((rd_T54 l0_2 x68_3).f1),.int .i64 ((rd_T54 l0_2 x68_3).f2),.int .i64 ((rd_T54 l0_2 x68_3).f3),.int .i64 0]) ?_ 4 _ rfl;(with_reducible repeat first|apply Q1|apply Q2|apply Q3);refine blk_put (cs:=#[.string ((rd_T54 l0_2 x68_3).f0),.int .i64 ((rd_T54 l0_2 x68_3).f1),.int .i64 ((rd_T54 l0_2 x68_3).f2),.int .i64 0,.int .i64 0]) ?_ 3 _ rfl;(with_reducible repeat first|apply Q1|apply Q2|apply Q3);refine blk_put (cs:=#[.string ((rd_T54 l0_2 x68_3).f0),.int .i64 ((rd_T54 l0_2 x68_3).f1),.int .i64 0,.int .i64 0,.int .i64 0]) ?_ 2 _ rfl;(with_reducible repeat first|apply Q1|apply Q2|apply Q3);refine blk_put (cs:=#[.string ((rd_T54 l0_2 x68_3).f0),.int .i64 0,.int .i64 0,.int .i64 0,.int .i64 0]) ?_ 1 _ rfl;(with_reducible repeat first|apply Q1|apply Q2|apply Q3);refine blk_put (cs:=#[.string (⟨#[]⟩:ByteArray),.int .i64 0,.int .i64 0,.int .i64 0,.int .i64 0]) ?_ 0 _ rfl;(with_reducible repeat first|apply Q1|apply Q2|apply Q3);exact BK489.out⟩
            have n4_:Aside0 (Below w.heap.size w (((((w59.setCell ⟨gb489,0,none⟩ (.string ((rd_T54 l0_2 x68_3).f0))).setCell ⟨gb489,1,none⟩ (.int .i64 ((rd_T54 l0_2 x68_3).f1))).setCell ⟨gb489,2,none⟩ (.int .i64 ((rd_T54 l0_2 x68_3).f2))).setCell ⟨gb489,3,none⟩ (.int .i64 ((rd_T54 l0_2 x68_3).f3))).setCell ⟨gb489,4,none⟩ (.int .i64 ((rd_T54 l0_2 x68_3).f4)))):=⟨hb3 GE479.out GE480.out GE489.out⟩
            try clear HO_8
            try clear BK479 BK480
            try clear BK489
            try clear HB
            generalize (((((w59.setCell ⟨gb489,0,none⟩ (.string ((rd_T54 l0_2 x68_3).f0))).setCell ⟨gb489,1,none⟩ (.int .i64 ((rd_T54 l0_2 x68_3).f1))).setCell ⟨gb489,2,none⟩ (.int .i64 ((rd_T54 l0_2 x68_3).f2))).setCell ⟨gb489,3,none⟩ (.int .i64 ((rd_T54 l0_2 x68_3).f3))).setCell ⟨gb489,4,none⟩ (.int .i64 ((rd_T54 l0_2 x68_3).f4)))=w63 at n0_ n1_ n2_ n3_ n4_ ⊢
            have HO_8:=n0_
            have BK479:=n1_
            have BK480:=n2_
            have BK489:=n3_
            have HB:=n4_
            clear n0_ n1_ n2_ n3_ n4_
            replace HO_8:=Aside0.mk (Kd.R_drew HO_8.out);replace BK479:=Aside0.mk (blk_drew BK479.out);replace BK480:=Aside0.mk (blk_drew BK480.out);replace BK489:=Aside0.mk (blk_drew BK489.out);replace HB:=Aside0.mk (below_drew1 HB.out)
            refine start_ (n:=21) (S:=fun w'=>w'.cell? ⟨gb479,0,none⟩=some (.string a0_0)∧w'.cell? ⟨gb479,1,none⟩=some (.string a0_1)∧w'.cell? ⟨gb479,2,none⟩=some (.slice (some ad488) l0_2.length c0_2)∧w'.cell? ⟨gb489,0,none⟩=some (.string ((rd_T54 l0_2 x68_3).f0))∧w'.cell? ⟨gb489,1,none⟩=some (.int .i64 ((rd_T54 l0_2 x68_3).f1))∧w'.cell? ⟨gb489,2,none⟩=some (.int .i64 ((rd_T54 l0_2 x68_3).f2))∧w'.cell? ⟨gb489,3,none⟩=some (.int .i64 ((rd_T54 l0_2 x68_3).f3))∧w'.cell? ⟨gb489,4,none⟩=some (.int .i64 ((rd_T54 l0_2 x68_3).f4))) (ds:=[]) #[false,false,false,false,false,false,false,false,false,false,false,false,false,false,false,false,false,false,false,false,false] (by kernel_rfl) rfl rfl ⟨(blk_cell BK479.out 0).trans rfl,(blk_cell BK479.out 1).trans rfl,(blk_cell BK479.out 2).trans rfl,(blk_cell BK489.out 0).trans rfl,(blk_cell BK489.out 1).trans rfl,(blk_cell BK489.out 2).trans rfl,(blk_cell BK489.out 3).trans rfl,(blk_cell BK489.out 4).trans rfl⟩ (fun hHeld=>?_);refine with_tabW impl_LintImage.tab22 impl_LintImage.bits22 (fun HT_ HW_=>?_)
            generalize w63.drew=w64 at HO_8 BK479 BK480 BK489 HB hHeld ⊢
            refine pu 0 77 #[true,false,false,false,false,false,false,false,false,false,false,false,false,false,false,false,false,false,false,false,false] ?_
            refine pu 2 79 #[true,false,true,false,false,false,false,false,false,false,false,false,false,false,false,false,false,false,false,false,false] ?_
            refine pu 4 81 #[true,false,true,false,true,false,false,false,false,false,false,false,false,false,false,false,false,false,false,false,false] ?_
            refine pu 6 83 #[true,false,true,false,true,false,true,false,false,false,false,false,false,false,false,false,false,false,false,false,false] ?_
            refine pu 12 89 #[true,false,true,false,true,false,true,false,false,false,false,false,true,false,false,false,false,false,false,false,false] ?_
            refine pu 14 91 #[true,false,true,false,true,false,true,false,false,false,false,false,true,false,true,false,false,false,false,false,false] ?_
            refine tk8 1 78 #[true,true,true,false,true,false,true,false,false,false,false,false,true,false,true,false,false,false,false,false,false] hHeld ?_
            refine tk8 3 80 #[true,true,true,true,true,false,true,false,false,false,false,false,true,false,true,false,false,false,false,false,false] hHeld ?_
            refine tk8 5 82 #[true,true,true,true,true,true,true,false,false,false,false,false,true,false,true,false,false,false,false,false,false] hHeld ?_
            refine tk8 7 84 #[true,true,true,true,true,true,true,true,false,false,false,false,true,false,true,false,false,false,false,false,false] hHeld ?_
            refine pu 8 85 #[true,true,true,true,true,true,true,true,true,false,false,false,true,false,true,false,false,false,false,false,false] ?_
            refine pu 9 86 #[true,true,true,true,true,true,true,true,true,true,false,false,true,false,true,false,false,false,false,false,false] ?_
            refine tk8 10 87 #[true,true,true,true,true,true,true,true,true,true,true,false,true,false,true,false,false,false,false,false,false] hHeld ?_
            refine tk8 13 90 #[true,true,true,true,true,true,true,true,true,true,true,false,true,true,true,false,false,false,false,false,false] hHeld ?_
            refine one_ (i:=11) (N:=some 88) #[true,true,true,true,true,true,true,true,true,true,true,true,true,true,true,false,false,false,false,false,false] rfl rfl (one_of HT_.out (by kernel_rfl)) (by decide) (fun K hK=>?_)
            refine goes_ Try.func54 (by kernel_rfl) rfl #[.agg #[.string ((rd_T54 l0_2 x68_3).f0),.int .i64 ((rd_T54 l0_2 x68_3).f1),.int .i64 ((rd_T54 l0_2 x68_3).f2),.int .i64 ((rd_T54 l0_2 x68_3).f3),.int .i64 ((rd_T54 l0_2 x68_3).f4)]] (by rfl) rfl rfl (mp_ rfl) ?_
            with_reducible refine (impl_Symbol_address.calls ((rd_T54 l0_2 x68_3).f0) ((rd_T54 l0_2 x68_3).f1) ((rd_T54 l0_2 x68_3).f2) ((rd_T54 l0_2 x68_3).f3) ((rd_T54 l0_2 x68_3).f4) t490 _ A47.out).mono ?_
            rintro e w65 ⟨rfl,hb⟩
            refine ⟨_,rfl,?_⟩
            replace HO_8:=Aside0.mk (Kd.R_below (kr HO_8.out) hb);replace BK479:=Aside0.mk (blk_below (qx BK479.out) hb);replace BK480:=Aside0.mk (blk_below (qx BK480.out) hb);replace BK489:=Aside0.mk (blk_below (qx BK489.out) hb);replace HB:=Aside0.mk (below_step (hb3 GE479.out GE480.out GE489.out) hb)
            try clear hb
            try clear hb2
            try clear hk
            try clear hi
            obtain ⟨Ao66,co66,eo66⟩:=Kd.R_slice HO_8.out
            (first|subst eo66|(injection eo66 with f1_ f2_ f3_;have f4_:=f1_.symm;have f5_:=f3_.symm;clear f1_ f2_ f3_;subst f4_;subst f5_))
            refine hK.out _ _ ⟨(blk_cell BK479.out 0).trans rfl,(blk_cell BK479.out 1).trans rfl,(blk_cell BK479.out 2).trans rfl,(blk_cell BK489.out 0).trans rfl,(blk_cell BK489.out 1).trans rfl,(blk_cell BK489.out 2).trans rfl,(blk_cell BK489.out 3).trans rfl,(blk_cell BK489.out 4).trans rfl⟩ (fun hHeld=>?_)
            clear hK K
            refine norm_ (a':=?_) ?_ ?_
            rotate_left
            ·show Act.put _ (some 88) _=_
             simp only [Act.put,List.setIfInBounds_toArray,List.set_cons_zero,List.set_cons_succ,i64_w,i32_w]
             rfl
            refine one_ (i:=15) (N:=some 92) #[true,true,true,true,true,true,true,true,true,true,true,true,true,true,true,true,false,false,false,false,false] rfl rfl (one_of HT_.out (by kernel_rfl)) (by decide) (fun K hK=>?_)
            refine goes_ Try.func43 (by kernel_rfl) rfl #[.string (a0_0.extract (((rd_T54 l0_2 x68_3).f2):Int).toNat ((wrap64 (((rd_T54 l0_2 x68_3).f2)+((rd_T54 l0_2 x68_3).f3))):Int).toNat),.int .i64 t490,.int .i64 ((rd_T54 l0_2 x68_3).f4),.slice Ao66 t485.length co66] (by rfl) rfl rfl (mp_ rfl) ?_
            with_reducible refine (impl_lint.calls k3 (a0_0.extract (((rd_T54 l0_2 x68_3).f2):Int).toNat ((wrap64 (((rd_T54 l0_2 x68_3).f2)+((rd_T54 l0_2 x68_3).f3))):Int).toNat) t490 ((rd_T54 l0_2 x68_3).f4) _ _ t485 t491 t492 _ ?side1 ?side2 A48.out).mono ?_
            (case side1=>repeat (first|exact (Kd.R_reads' HO_8.out).2.2|(with_reducible refine Kd.C_alloc ?_ _)|(with_reducible refine Kd.C_drewN ?_ _)|(with_reducible refine Kd.C_drew ?_)))
            (case side2=>exact (Kd.R_reads' HO_8.out).2.1)
            rintro e w67 ⟨rfl,hb⟩
            refine ⟨_,rfl,?_⟩
            replace HO_8:=Aside0.mk (Kd.R_below (kr HO_8.out) hb);replace BK479:=Aside0.mk (blk_below (qx BK479.out) hb);replace BK480:=Aside0.mk (blk_below (qx BK480.out) hb);replace BK489:=Aside0.mk (blk_below (qx BK489.out) hb);replace HB:=Aside0.mk (below_step (hb3 GE479.out GE480.out GE489.out) hb)
            try clear hb
            refine hK.out _ _ ⟨(blk_cell BK479.out 0).trans rfl,(blk_cell BK479.out 1).trans rfl,(blk_cell BK479.out 2).trans rfl,(blk_cell BK489.out 0).trans rfl,(blk_cell BK489.out 1).trans rfl,(blk_cell BK489.out 2).trans rfl,(blk_cell BK489.out 3).trans rfl,(blk_cell BK489.out 4).trans rfl⟩ (fun hHeld=>?_)
            clear hK K
            refine norm_ (a':=?_) ?_ ?_
            rotate_left
            ·show Act.put _ (some 92) _=_
             simp only [Act.put,List.setIfInBounds_toArray,List.set_cons_zero,List.set_cons_succ,i64_w,i32_w]
             rfl
            refine pu 16 76 #[true,true,true,true,true,true,true,true,true,true,true,true,true,true,true,true,true,false,false,false,false] ?_
            refine pu 17 93 #[true,true,true,true,true,true,true,true,true,true,true,true,true,true,true,true,true,true,false,false,false] ?_
            refine pu 18 94 #[true,true,true,true,true,true,true,true,true,true,true,true,true,true,true,true,true,true,true,false,false] ?_
            refine pu 19 11 #[true,true,true,true,true,true,true,true,true,true,true,true,true,true,true,true,true,true,true,true,false] ?_
            refine pu 20 12 #[true,true,true,true,true,true,true,true,true,true,true,true,true,true,true,true,true,true,true,true,true] ?_
            refine done_ (done_of HT_.out (by kernel_rfl)) ?_
            try go_wp2
            go_ret3
            exact ⟨rf,hb3 GE479.out GE480.out GE489.out⟩
           rw [if_neg c46] at H
           exact absurd H (by simp)
          rw [if_neg c45] at H
          exact absurd H (by simp)
         rw [if_neg c44] at H
         exact absurd H (by simp)
        rw [if_neg c43] at H
        obtain ⟨c43b0,c43b1⟩:=eqN c43
        have H':=Aside0.mk H
        clear H
        have p488:0≤(x68_3:Int):=od
        have q488:x68_3 < (l0_2.length:Int):=od
        obtain ⟨ad488,e488,hx488_0,hx488_1,hx488_2,hx488_3,hx488_4⟩:=at_T54 HR0_2.out x68_3 p488 q488
        cases e488
        replace hx488_0:=cx HB.out hx488_0
        replace hx488_1:=cx HB.out hx488_1
        replace hx488_2:=cx HB.out hx488_2
        replace hx488_3:=cx HB.out hx488_3
        replace hx488_4:=cx HB.out hx488_4
        replace p488:=eq_true p488
        replace q488:=eq_true q488
        go_wp2_with (first|((with_reducible refine gate_dst (N:=10) rfl ?_);(try (refine gate_guard (by rfl) ?_;dsimp only));refine box_event ?hg (N:=10) ?hd (cs:=#[.string (⟨#[]⟩:ByteArray),.int .i64 0,.int .i64 0,.int .i64 0,.int .i64 0]) (t:=54) ?hr ?_;(case hd=>rfl);(case hg=>rfl);(case hr=>first|(go_simp;done)|(go_simp;rfl));intro gb489 hg w68 hbox hb;obtain ⟨n3_,n5_⟩:=bx0 (hb2 GE479.out GE480.out) hb hg;have n0_:=Aside0.mk (Kd.R_below (kr HO_8.out) hb);obtain ⟨n1_,n7_,n8_⟩:=bx3 (qx BK479.out) hb hg;obtain ⟨n2_,n9_,n10_⟩:=bx3 (qx BK480.out) hb hg;have n4_:=Aside0.mk (hbox);clear HO_8;clear BK479;clear BK480;clear HB;have HO_8:=n0_;have BK479:=n1_;have BK480:=n2_;have HB:=n3_;have BK489:=n4_;have GW489:=n5_;have GE489:=n5_;have NB479_489:=n7_;have NB489_479:=n8_;have NB480_489:=n9_;have NB489_480:=n10_;clear n0_ n1_ n2_ n3_ n4_ n5_ n7_ n8_ n9_ n10_;clear hb hbox hg;have hnb69:=NB489_479.out;have hnc69:=NB479_489.out;have hnb70:=NB489_480.out;have hnc70:=NB480_489.out;obtain ⟨Z71_0,Z71_1,Z71_2,Z71_3,Z71_4,Y71_0,Y71_1,Y71_2,Y71_3,Y71_4⟩:=cel5 BK489.out))
        go_roundg k3
        case measure=>have:=HK1.out;have:=HJ24.out;have:=HK3.out;omega
        case rel=>exact ⟨(wrap64 (x68_3+1)),rs,H',⟨by have:=HK1.out;have:=HJ24.out;have:=HK3.out;omega⟩,⟨by (with_reducible repeat (first|apply Kd.R_alloc|apply Kd.R_drewN|apply Kd.R_drew));exact Kd.R_mono (Kd.R_far (p:=⟨gb489,4,none⟩) (Kd.R_far (p:=⟨gb489,3,none⟩) (Kd.R_far (p:=⟨gb489,2,none⟩) (Kd.R_far (p:=⟨gb489,1,none⟩) (Kd.R_far (p:=⟨gb489,0,none⟩) (Kd.R_types HO_8.out BK489.out (by decide)) (fun _ hk=>hk.2) (.string ((rd_T54 l0_2 x68_3).f0))) (fun _ hk=>hk.2) (.int .i64 ((rd_T54 l0_2 x68_3).f1))) (fun _ hk=>hk.2) (.int .i64 ((rd_T54 l0_2 x68_3).f2))) (fun _ hk=>hk.2) (.int .i64 ((rd_T54 l0_2 x68_3).f3))) (fun _ hk=>hk.2) (.int .i64 ((rd_T54 l0_2 x68_3).f4))) (fun _ hk=>trivial)⟩,⟨qg NB479_489.out BK479.out⟩,⟨qg NB480_489.out BK480.out⟩,⟨hb3 GE479.out GE480.out GE489.out⟩⟩
       rw [if_neg c42] at H
       exact absurd H (by simp)
      rw [if_neg c41] at H
      exact absurd H (by simp)
     rw [if_neg c40] at H
     have c40b0:decide (x68_3 < (l0_2.length:Int))=false:=decide_eq_false c40
     clear c40
     simp only [Option.some.injEq,Prod.mk.injEq] at H
     obtain ⟨rfl,rfl,rfl⟩:=H
     go_wp2
     go_ret3
     exact ⟨rf,hb2 GE479.out GE480.out⟩
   rw [if_neg c33] at H
   obtain ⟨c33b0,c33b1⟩:=eqN c33
   simp only [Option.some.injEq,Prod.mk.injEq] at H
   obtain ⟨rfl,rfl,rfl⟩:=H
   have hnb72:=NB480_479.out
   have hnc72:=NB479_480.out
   obtain ⟨Z73_0,Z73_1,Y73_0,Y73_1⟩:=cel2 BK480.out;obtain ⟨Z74_0,Z74_1,Z74_2,Y74_0,Y74_1,Y74_2⟩:=cel3 BK479.out
   go_wp2
   go_ret3
   exact ⟨rf,hb2 GE479.out GE480.out⟩
end Go.Proofs.Ythepmdlpjdlajaa.PFnExactLintImage
