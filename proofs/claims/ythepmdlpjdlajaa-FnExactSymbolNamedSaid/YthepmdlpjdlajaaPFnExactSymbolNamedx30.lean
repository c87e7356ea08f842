-- Written by a program for this claim.
import Derived.Test.YthepmdlpjdlajaaZFnExactLintImagea
import Derived.Test.YthepmdlpjdlajaaProg
import Derived.Below
import Derived.Deep.Draws
import Derived.Deep.AppendLies
import Derived.Maps.AppendAt
import Derived.OwnWalk
import Derived.Laws.BytesArg
import Derived.Laws.MakeOwn
import Derived.Laws.OwnMore
import Derived.Deep.OwnRows
import Derived.Tactics
import Derived.Lib.ConvBytes
import Derived.Laws.Slices
import Derived.WalkKit
import Derived.KernelRfl
import Derived.RowKit3
import Derived.Deep.LoopGhost
import Derived.Deep.QuietTactic
import Derived.BigQuiet
import Derived.WideLaws
import Derived.Deep.DeepCutAuto
import Derived.Deep.CutBlock
import Derived.Deep.RegionHeld3
import Derived.Laws.Rows
import Derived.Lib.AppendStr
import Derived.ArgAppend
import Derived.Laws.IdiomCopy
import Derived.OrdersHeld
import Derived.Laws.BitsLemmas
import Derived.StillTailTactics
import Derived.RowKit
import Derived.Test.YthepmdlpjdlajaaPFnExactLintImagex25
namespace Go.Proofs.Ythepmdlpjdlajaa.PFnExactLintImage
open Go.RowKit Go.Proofs.YthepmdlpjdlajaaW.PrintWords Go.Proofs.YthepmdlpjdlajaaW.PrintLast Go.Proofs.YthepmdlpjdlajaaW.PrintMore
attribute [local go_sem] max2_int min2_int max_two min_two max_three min_three max_four min_four   -- for this text's walks alone
set_option linter.unusedVariables false
set_option linter.unusedSimpArgs false
def spec_ImageOK.f (k:Nat) (a0_0:ByteArray) (a0_1:ByteArray) (l0_2:List (S54)):Option (Bool):=(spec_l07Lint.f k a0_0 a0_1 l0_2).bind fun bt306=>(some (bt306.2.2==0))
theorem spec_ImageOK.mono : ∀ a0 a1 a2 k,LeO (spec_ImageOK.f k a0 a1 a2) (spec_ImageOK.f (k+1) a0 a1 a2):=by
 intro a0 a1 a2 k
 unfold spec_ImageOK.f
 repeat' (with_reducible first|apply spec_l07Lint.mono|apply LeO.refl|apply LeO.none|apply LeO.ite|refine LeO.bind ?_ (fun _=>?_))
set_option maxHeartbeats 8000000 in
set_option maxRecDepth 100000 in
theorem spec_ImageOK.calls (k:Nat) (a0_0:ByteArray) (a0_1:ByteArray) (A0_2:Option Addr) (c0_2:Nat) (l0_2:List (S54)) (r:Bool) (w:World) (hr0_2:Kd.C k54 w A0_2 l0_2.length l0_2) (hc0_2:l0_2.length≤c0_2) (h:spec_ImageOK.f k a0_0 a0_1 l0_2=some r) :
    Calls Try.prog 28 #[.agg #[.string a0_0,.string a0_1,.slice A0_2 l0_2.length c0_2]] w fun e w'=>e=.returned (.bool r)∧Below w.heap.size w w':=by
 have hu30:=Try.underlying30
 have HR0_2:=Aside0.mk hr0_2
 have HC0_2:=Aside0.mk hc0_2
 clear hr0_2 hc0_2
 have HB:=Aside0.mk (Below.refl w.heap.size w)
 have H:((spec_l07Lint.f k a0_0 a0_1 l0_2).bind fun bt306=>(some (bt306.2.2==0)))=some r:=h
 clear h
 obtain ⟨⟨t306,t307,t308⟩,A2,H⟩:=bindA H
 try dsimp only at H
 obtain rfl:=Option.some.inj H
 go_enter Try.func28,Try.ntmps28
 go_wp2_with (first|(refine bv 1 #[.string a0_0,.string a0_1,.slice A0_2 l0_2.length c0_2] 30 ?_;intro gb305 hg w3 hbox hb;obtain ⟨n0_,n2_⟩:=bx0 hbx hb hg;have n1_:=Aside0.mk (hbox);clear HB;have HB:=n0_;have BK305:=n1_;have GW305:=n2_;have GE305:=n2_;clear n0_ n1_ n2_;clear hb hbox hg;obtain ⟨Z4_0,Z4_1,Z4_2,Y4_0,Y4_1,Y4_2⟩:=cel3 BK305.out)|(refine gl 51 8 Try.func51 #[.agg #[.string a0_0,.string a0_1,.slice A0_2 l0_2.length c0_2]] ?_;(with_reducible refine (spec_l07Lint.calls k a0_0 a0_1 _ _ l0_2 t306 t307 t308 _ ?side1 ?side2 A2.out).mono ?_);(case side1=>exact kc HR0_2.out);(case side2=>exact HC0_2.out);rintro e w5 ⟨rfl,hb⟩;refine ⟨_,rfl,?_⟩;have n0_:=Aside0.mk (blk_below (qx BK305.out) hb);replace HB:=Aside0.mk (below_step (hb1 GE305.out) hb);clear BK305;have BK305:=n0_;clear n0_;(try clear hb);(try clear hb2);(try clear hk);(try clear hi)))
 go_ret
 exact ⟨rf,hb1 GE305.out⟩
def spec_SymbolNamed.l0:Nat→ByteArray→Int→ByteArray→ByteArray→List (S54)→Option (Int × Int)
  | 0,_,_,_,_,_=>none
  | k+1,x1,x6,x310000,x310001,x310002=>if x6 < (x310002.length:Int) then (if 0≤x6 then (if ((rd_T54 x310002 x6).f0).toList=x1.toList then (some (x6,0)) else (spec_SymbolNamed.l0 k x1 (wrap64 (x6+1)) x310000 x310001 x310002)) else (none)) else (some (0,23))
def spec_SymbolNamed.f (k:Nat) (a0_0:ByteArray) (a0_1:ByteArray) (l0_2:List (S54)) (a1:ByteArray):Option (Int × Int):=if (a1.size:Int) > 65536 then (some (0,2)) else ((spec_ImageOK.f k a0_0 a0_1 l0_2).bind fun t310=>(if t310=true then (spec_SymbolNamed.l0 k a1 0 a0_0 a0_1 l0_2) else (some (0,1))))
theorem spec_SymbolNamed.mono_l : ∀ k,(∀ y0 y1 y2 y3 y4,LeO (spec_SymbolNamed.l0 k y0 y1 y2 y3 y4) (spec_SymbolNamed.l0 (k+1) y0 y1 y2 y3 y4))
  | 0=>fun _ _ _ _ _ r h=>by simp [spec_SymbolNamed.l0] at h
  | k+1=>by
    have ih0:=spec_SymbolNamed.mono_l k
    · intro y0 y1 y2 y3 y4
      unfold spec_SymbolNamed.l0
      repeat' (with_reducible first|apply ih0|apply spec_ImageOK.mono|apply LeO.refl|apply LeO.none|apply LeO.ite|refine LeO.bind ?_ (fun _=>?_))
theorem spec_SymbolNamed.mono : ∀ a0 a1 a2 a3 k,LeO (spec_SymbolNamed.f k a0 a1 a2 a3) (spec_SymbolNamed.f (k+1) a0 a1 a2 a3):=by
 intro a0 a1 a2 a3 k
 have ih0:=spec_SymbolNamed.mono_l k
 unfold spec_SymbolNamed.f
 repeat' (with_reducible first|apply ih0|apply spec_ImageOK.mono|apply LeO.refl|apply LeO.none|apply LeO.ite|refine LeO.bind ?_ (fun _=>?_))
set_option maxHeartbeats 8000000 in
set_option maxRecDepth 100000 in
theorem spec_SymbolNamed.calls (k:Nat) (a0_0:ByteArray) (a0_1:ByteArray) (A0_2:Option Addr) (c0_2:Nat) (l0_2:List (S54)) (a1:ByteArray) (r1:Int) (r2:Int) (w:World) (hr0_2:Kd.C k54 w A0_2 l0_2.length l0_2) (hc0_2:l0_2.length≤c0_2) (h:spec_SymbolNamed.f k a0_0 a0_1 l0_2 a1=some (r1,r2)) :
    Calls Try.prog 12 #[.agg #[.string a0_0,.string a0_1,.slice A0_2 l0_2.length c0_2],.string a1] w fun e w'=>e=.returned (.tuple #[.int .i64 r1,.int .i64 r2])∧Below w.heap.size w w':=by
 have hu30:=Try.underlying30
 have HR0_2:=Aside0.mk hr0_2
 have HC0_2:=Aside0.mk hc0_2
 clear hr0_2 hc0_2
 have HB:=Aside0.mk (Below.refl w.heap.size w)
 have H:(if (a1.size:Int) > 65536 then (some (0,2)) else ((spec_ImageOK.f k a0_0 a0_1 l0_2).bind fun t310=>(if t310=true then (spec_SymbolNamed.l0 k a1 0 a0_0 a0_1 l0_2) else (some (0,1)))))=some (r1,r2):=h
 clear h
 by_cases c3:(a1.size:Int) > 65536
 ·rw [if_pos c3] at H
  have c3b0:decide (65536 < (a1.size:Int))=true:=decide_eq_true c3
  have c3b1:decide (65536 < a1.size)=true:=decide_eq_true (by omega)
  clear c3
  simp only [Option.some.injEq,Prod.mk.injEq] at H
  obtain ⟨rfl,rfl⟩:=H
  go_enter Try.func12,Try.ntmps12
  go_wp2_with (first|(refine bv 2 #[.string a0_0,.string a0_1,.slice A0_2 l0_2.length c0_2] 30 ?_;intro gb309 hg w4 hbox hb;obtain ⟨n0_,n2_⟩:=bx0 hbx hb hg;have n1_:=Aside0.mk (hbox);clear HB;have HB:=n0_;have BK309:=n1_;have GW309:=n2_;have GE309:=n2_;clear n0_ n1_ n2_;clear hb hbox hg))
  go_ret2
  exact ⟨rf,hb1 GE309.out⟩
 rw [if_neg c3] at H
 have c3b0:decide (65536 < (a1.size:Int))=false:=decide_eq_false c3
 have c3b1:decide (65536 < a1.size)=false:=decide_eq_false (by omega)
 clear c3
 obtain ⟨t310,A5,H⟩:=bindA H
 by_cases c6:t310=true
 ·subst c6
  rw [if_pos rfl] at H
  have H':=Aside0.mk H
  clear H
  go_enter Try.func12,Try.ntmps12
  go_wp2_with (first|(refine bv 2 #[.string a0_0,.string a0_1,.slice A0_2 l0_2.length c0_2] 30 ?_;intro gb309 hg w7 hbox hb;obtain ⟨n0_,n2_⟩:=bx0 hbx hb hg;have n1_:=Aside0.mk (hbox);clear HB;have HB:=n0_;have BK309:=n1_;have GW309:=n2_;have GE309:=n2_;clear n0_ n1_ n2_;clear hb hbox hg;obtain ⟨Z8_0,Z8_1,Z8_2,Y8_0,Y8_1,Y8_2⟩:=cel3 BK309.out)|(refine gl 28 11 Try.func28 #[.agg #[.string a0_0,.string a0_1,.slice A0_2 l0_2.length c0_2]] ?_;(with_reducible refine (spec_ImageOK.calls k a0_0 a0_1 _ _ l0_2 true _ ?side1 ?side2 A5.out).mono ?_);(case side1=>exact kc HR0_2.out);(case side2=>exact HC0_2.out);rintro e w9 ⟨rfl,hb⟩;refine ⟨_,rfl,?_⟩;have n0_:=Aside0.mk (blk_below (qx BK309.out) hb);replace HB:=Aside0.mk (below_step (hb1 GE309.out) hb);clear BK309;have BK309:=n0_;clear n0_;(try clear hb);(try clear hb2);(try clear hk);(try clear hi)))
  go_loopg [6] k (fun kq v6 w'=>∃ (x6_1:Int),v6=.int .i64 x6_1∧Aside0 (spec_SymbolNamed.l0 kq a1 x6_1 a0_0 a0_1 l0_2=some (r1,r2))∧Aside0 (kq≤k)∧Aside0 (w'.heap[gb309]?=some (.cells #[.string a0_0,.string a0_1,(.slice A0_2 l0_2.length c0_2)] 30 (0,0)))∧Aside0 (Below w.heap.size w w'))
  case atStart=>exact ⟨(0),rs,H',⟨Nat.le_refl _⟩,⟨qx BK309.out⟩,⟨hb1 GE309.out⟩⟩
  clear H'
  try clear c3b0
  try clear c3b1
  try clear c6
  try clear Z8_0 Z8_1 Z8_2 Y8_0 Y8_1 Y8_2
  obtain ⟨x6_1,rfl,HA,HK1,BK309,HB⟩:=hrel
  cases gk with
  | zero=>exact absurd HA.out (by simp [spec_SymbolNamed.l0])
  | succ k1 =>
   have H:=HA.out
   clear HA
   simp only [spec_SymbolNamed.l0] at H
   by_cases c10:x6_1 < (l0_2.length:Int)
   ·rw [if_pos c10] at H
    have c10b0:decide (x6_1 < (l0_2.length:Int))=true:=decide_eq_true c10
    clear c10
    by_cases c11:0≤x6_1
    ·rw [if_pos c11] at H
     have c11b0:decide (0≤x6_1)=true:=decide_eq_true c11
     clear c11
     by_cases c12:((rd_T54 l0_2 x6_1).f0).toList=a1.toList
     ·rw [if_pos c12] at H
      obtain ⟨c12b0,c12b1⟩:=eqP c12
      clear c12
      simp only [Option.some.injEq,Prod.mk.injEq] at H
      obtain ⟨rfl,rfl⟩:=H
      obtain ⟨Z13_0,Z13_1,Z13_2,Y13_0,Y13_1,Y13_2⟩:=cel3 BK309.out
      have p311:0≤(x6_1:Int):=od
      have q311:x6_1 < (l0_2.length:Int):=od
      obtain ⟨ad311,e311,hx311_0,hx311_1,hx311_2,hx311_3,hx311_4⟩:=at_T54 HR0_2.out x6_1 p311 q311
      cases e311
      replace hx311_0:=cx HB.out hx311_0
      replace hx311_1:=cx HB.out hx311_1
      replace hx311_2:=cx HB.out hx311_2
      replace hx311_3:=cx HB.out hx311_3
      replace hx311_4:=cx HB.out hx311_4
      replace p311:=eq_true p311
      replace q311:=eq_true q311
      go_wp2
      go_ret2
      exact ⟨rf,hb1 GE309.out⟩
     rw [if_neg c12] at H
     obtain ⟨c12b0,c12b1⟩:=eqN c12
     have H':=Aside0.mk H
     clear H
     obtain ⟨Z14_0,Z14_1,Z14_2,Y14_0,Y14_1,Y14_2⟩:=cel3 BK309.out
     have p311:0≤(x6_1:Int):=od
     have q311:x6_1 < (l0_2.length:Int):=od
     obtain ⟨ad311,e311,hx311_0,hx311_1,hx311_2,hx311_3,hx311_4⟩:=at_T54 HR0_2.out x6_1 p311 q311
     cases e311
     replace hx311_0:=cx HB.out hx311_0
     replace hx311_1:=cx HB.out hx311_1
     replace hx311_2:=cx HB.out hx311_2
     replace hx311_3:=cx HB.out hx311_3
     replace hx311_4:=cx HB.out hx311_4
     replace p311:=eq_true p311
     replace q311:=eq_true q311
     go_wp2
     go_roundg k1
     case measure=>have:=HK1.out;omega
     case rel=>exact ⟨(wrap64 (x6_1+1)),rs,H',⟨by have:=HK1.out;omega⟩,⟨qx BK309.out⟩,⟨hb1 GE309.out⟩⟩
    rw [if_neg c11] at H
    exact absurd H (by simp)
   rw [if_neg c10] at H
   have c10b0:decide (x6_1 < (l0_2.length:Int))=false:=decide_eq_false c10
   clear c10
   simp only [Option.some.injEq,Prod.mk.injEq] at H
   obtain ⟨rfl,rfl⟩:=H
   obtain ⟨Z15_0,Z15_1,Z15_2,Y15_0,Y15_1,Y15_2⟩:=cel3 BK309.out
   go_wp2
   go_ret2
   exact ⟨rf,hb1 GE309.out⟩
 replace c6:=Bool.eq_false_iff.mpr c6
 subst c6
 rw [if_neg (show ¬ (false=true) by decide)] at H
 simp only [Option.some.injEq,Prod.mk.injEq] at H
 obtain ⟨rfl,rfl⟩:=H
 go_enter Try.func12,Try.ntmps12
 go_wp2_with (first|(refine bv 2 #[.string a0_0,.string a0_1,.slice A0_2 l0_2.length c0_2] 30 ?_;intro gb309 hg w16 hbox hb;obtain ⟨n0_,n2_⟩:=bx0 hbx hb hg;have n1_:=Aside0.mk (hbox);clear HB;have HB:=n0_;have BK309:=n1_;have GW309:=n2_;have GE309:=n2_;clear n0_ n1_ n2_;clear hb hbox hg;obtain ⟨Z17_0,Z17_1,Z17_2,Y17_0,Y17_1,Y17_2⟩:=cel3 BK309.out)|(refine gl 28 11 Try.func28 #[.agg #[.string a0_0,.string a0_1,.slice A0_2 l0_2.length c0_2]] ?_;(with_reducible refine (spec_ImageOK.calls k a0_0 a0_1 _ _ l0_2 false _ ?side1 ?side2 A5.out).mono ?_);(case side1=>exact kc HR0_2.out);(case side2=>exact HC0_2.out);rintro e w18 ⟨rfl,hb⟩;refine ⟨_,rfl,?_⟩;have n0_:=Aside0.mk (blk_below (qx BK309.out) hb);replace HB:=Aside0.mk (below_step (hb1 GE309.out) hb);clear BK309;have BK309:=n0_;clear n0_;(try clear hb);(try clear hb2);(try clear hk);(try clear hi)))
 go_ret2
 exact ⟨rf,hb1 GE309.out⟩
def impl_ImageOK.f (k:Nat) (a0_0:ByteArray) (a0_1:ByteArray) (l0_2:List (S54)):Option (Bool):=(impl_LintImage.f k a0_0 a0_1 l0_2).bind fun bt489=>(some (bt489.2.2==0))
theorem impl_ImageOK.mono : ∀ a0 a1 a2 k,LeO (impl_ImageOK.f k a0 a1 a2) (impl_ImageOK.f (k+1) a0 a1 a2):=by
 intro a0 a1 a2 k
 unfold impl_ImageOK.f
 repeat' (with_reducible first|apply impl_LintImage.mono|apply LeO.refl|apply LeO.none|apply LeO.ite|refine LeO.bind ?_ (fun _=>?_))
set_option maxHeartbeats 8000000 in
set_option maxRecDepth 100000 in
theorem impl_ImageOK.calls (k:Nat) (a0_0:ByteArray) (a0_1:ByteArray) (A0_2:Option Addr) (c0_2:Nat) (l0_2:List (S54)) (r:Bool) (w:World) (hr0_2:Kd.C k54 w A0_2 l0_2.length l0_2) (hc0_2:l0_2.length≤c0_2) (h:impl_ImageOK.f k a0_0 a0_1 l0_2=some r) :
    Calls Try.prog 29 #[.agg #[.string a0_0,.string a0_1,.slice A0_2 l0_2.length c0_2]] w fun e w'=>e=.returned (.bool r)∧Below w.heap.size w w':=by
 have hu30:=Try.underlying30
 have HR0_2:=Aside0.mk hr0_2
 have HC0_2:=Aside0.mk hc0_2
 clear hr0_2 hc0_2
 have HB:=Aside0.mk (Below.refl w.heap.size w)
 have H:((impl_LintImage.f k a0_0 a0_1 l0_2).bind fun bt489=>(some (bt489.2.2==0)))=some r:=h
 clear h
 obtain ⟨⟨t489,t490,t491⟩,A2,H⟩:=bindA H
 try dsimp only at H
 obtain rfl:=Option.some.inj H
 go_enter Try.func29,Try.ntmps29
 go_wp2_with (first|(refine bv 1 #[.string a0_0,.string a0_1,.slice A0_2 l0_2.length c0_2] 30 ?_;intro gb488 hg w3 hbox hb;obtain ⟨n0_,n2_⟩:=bx0 hbx hb hg;have n1_:=Aside0.mk (hbox);clear HB;have HB:=n0_;have BK488:=n1_;have GW488:=n2_;have GE488:=n2_;clear n0_ n1_ n2_;clear hb hbox hg;obtain ⟨Z4_0,Z4_1,Z4_2,Y4_0,Y4_1,Y4_2⟩:=cel3 BK488.out)|(refine gl 27 8 Try.func27 #[.agg #[.string a0_0,.string a0_1,.slice A0_2 l0_2.length c0_2]] ?_;(with_reducible refine (impl_LintImage.calls k a0_0 a0_1 _ _ l0_2 t489 t490 t491 _ ?side1 ?side2 A2.out).mono ?_);(case side1=>exact kc HR0_2.out);(case side2=>exact HC0_2.out);rintro e w5 ⟨rfl,hb⟩;refine ⟨_,rfl,?_⟩;have n0_:=Aside0.mk (blk_below (qx BK488.out) hb);replace HB:=Aside0.mk (below_step (hb1 GE488.out) hb);clear BK488;have BK488:=n0_;clear n0_;(try clear hb);(try clear hb2);(try clear hk);(try clear hi)))
 go_ret
 exact ⟨rf,hb1 GE488.out⟩
def impl_isLong.f (a0:ByteArray):Option (Bool):=some (decide ((a0.size:Int) > 65536))
set_option maxHeartbeats 8000000 in
set_option maxRecDepth 100000 in
theorem impl_isLong.calls (a0:ByteArray) (r:Bool) (w:World) (h:impl_isLong.f a0=some r) :
    Calls Try.prog 36 #[.string a0] w fun e w'=>e=.returned (.bool r)∧Drawn0 w w':=by
 have H:(some (decide ((a0.size:Int) > 65536)))=some r:=h
 clear h
 obtain rfl:=Option.some.inj H
 go_enter Try.func36,Try.ntmps36
 go_wp2
 go_ret
 exact ⟨rs,dr⟩
-- NOT PRINTED: function 59 (impl_Symbol)
def impl_Image_named.has (a:ByteArray) (x:S54):Bool:=decide (x.f0.toList=a.toList)
def impl_Image_named.at_ (a:ByteArray):List S54→Nat→Int
  | [],_=>-1
  | x :: r,i=>if impl_Image_named.has a x=true then (i:Int) else impl_Image_named.at_ a r (i+1)
def impl_Image_named.f (a0_0:ByteArray) (a0_1:ByteArray) (l0_2:List S54) (a1:ByteArray):Option Int:=some (impl_Image_named.at_ a1 l0_2 0)
theorem impl_Image_named.at_step (a:ByteArray) : ∀ (l:List S54) (i j:Nat) (h:j < l.length),(∀ q (hq:q < l.length),q < j→impl_Image_named.has a l[q]=false)→impl_Image_named.has a l[j]=true→impl_Image_named.at_ a l i=((i+j:Nat):Int)
  | [],_,_,h,_,_=>absurd h (Nat.not_lt_zero _)
  | x :: r,i,0,_,_,h=>by unfold impl_Image_named.at_;rw [if_pos (by simpa using h)];rfl
  | x :: r,i,j+1,hj,hn,h=>by
    have hx:impl_Image_named.has a x=false:=hn 0 (by simp) (by omega)
    unfold impl_Image_named.at_
    rw [if_neg (by simp [hx]),impl_Image_named.at_step a r (i+1) j (by simpa using hj) (fun q hq hqj=>hn (q+1) (by simpa using hq) (by omega)) (by simpa using h)]
    congr 1
    omega
theorem impl_Image_named.at_none (a:ByteArray) : ∀ (l:List S54) (i:Nat),(∀ q (hq:q < l.length),impl_Image_named.has a l[q]=false)→impl_Image_named.at_ a l i = -1
  | [],_,_=>rfl
  | x :: r,i,hn=>by
    have hx:impl_Image_named.has a x=false:=hn 0 (by simp)
    unfold impl_Image_named.at_
    rw [if_neg (by simp [hx])]
    exact impl_Image_named.at_none a r (i+1) (fun q hq=>hn (q+1) (by simpa using hq))
set_option maxHeartbeats 2000000 in
set_option maxRecDepth 100000 in
theorem impl_Image_named.closure (a:ByteArray) (B:Nat) (x:S54) (w0 W:World) (hb:Below w0.heap.size w0 W) (hB:B < w0.heap.size) (hcell:w0.cell? ⟨B,0,none⟩=some (.string a)) :
    Calls Try.prog 60 #[.agg #[.string x.f0,.int .i64 x.f1,.int .i64 x.f2,.int .i64 x.f3,.int .i64 x.f4],.pointer (some ⟨B,0,none⟩)] W fun e w'=>e=.returned (.bool (impl_Image_named.has a x))∧Below w0.heap.size w0 w':=by
 have hc:W.cell? ⟨B,0,none⟩=some (.string a):=(hb.cell (p:=⟨B,0,none⟩) hB).trans hcell
 have hBW:B < W.heap.size:=Nat.lt_of_lt_of_le hB hb.size
 have hne:B≠W.heap.size:=by omega
 have hu:=Try.underlying54
 have HB:=Aside0.mk hb
 clear hb
 unfold impl_Image_named.has
 go_enter Try.func60,Try.ntmps60
 go_wp2
 go_ret
 exact ⟨by
  simp
  rw [Bool.eq_iff_iff]
  exact ⟨fun h=>decide_eq_true (eq_of_beq h),fun h=>beq_iff_eq.mpr (of_decide_eq_true h)⟩,HB.out.alloc HB.out.size _⟩
set_option maxHeartbeats 2000000 in
set_option maxRecDepth 100000 in
theorem impl_Image_named.index (A:Option Addr) (c:Nat) (l:List S54) (a:ByteArray) (B:Nat) (w:World) (hr:Kd.C k54 w A l.length l) (hB:B < w.heap.size) (hcell:w.cell? ⟨B,0,none⟩=some (.string a)) :
    Calls Try.prog 59 #[.slice A l.length c,.func (.func 60) #[] #[.pointer (some ⟨B,0,none⟩)]] w fun e w'=>e=.returned (.int .i64 (impl_Image_named.at_ a l 0))∧Below w.heap.size w w':=by
 have hbig:l.length≤9223372036854775807:=hr.2.1
 have HR:=Aside0.mk hr
 have HC:=Aside0.mk hcell
 have HBB:=Aside0.mk hB
 clear hr hcell hB
 go_enter Try.func59,Try.ntmps59
 go_wp2
 go_loopg [5,8] l.length (fun gg _ s8 wr=>∃ kk:Nat,kk≤l.length∧l.length - kk≤gg∧s8=.int .i64 kk∧Aside0 (Below w.heap.size w wr)∧Aside0 (∀ j (hj:j < l.length),j < kk→impl_Image_named.has a l[j]=false))
 case atStart=>exact ⟨0,Nat.zero_le _,by omega,rfl,⟨Below.refl _ w⟩,⟨fun j _ hj=>absurd hj (Nat.not_lt_zero _)⟩⟩
 obtain ⟨kk,hkk,hg,rfl,BW,AA⟩:=hrel
 by_cases hlt:kk < l.length
 ·have hltz:(kk:Int) < (l.length:Int):=by omega
  obtain ⟨ad,rfl,q0,q1,q2,q3,q4⟩:=at_T54 (Kd.C_below HR.out BW.out) (kk:Int) (by omega) hltz
  have hx:rd_T54 l (kk:Int)=l[kk]:=by
   unfold rd_T54
   simp [List.getD_eq_getElem?_getD,List.getElem?_eq_getElem hlt]
  rw [hx] at q0 q1 q2 q3 q4
  simp only [Int.toNat_natCast] at q0 q1 q2 q3 q4
  have hcall:=impl_Image_named.closure a B l[kk] w wr BW.out HBB.out HC.out
  clear hx HR HC HBB
  cases hq:impl_Image_named.has a l[kk] with
  | true =>
   rw [hq] at hcall
   have HQ:=Aside0.mk hq
   clear hq
   have HX:Aside0 (impl_Image_named.at_ a l 0=((kk:Nat):Int)):=⟨by rw [impl_Image_named.at_step a l 0 kk hlt AA.out HQ.out,Nat.zero_add]⟩
   clear HQ AA
   generalize l[kk].f0=x0 at q0 hcall
   generalize l[kk].f1=x1 at q1 hcall
   generalize l[kk].f2=x2 at q2 hcall
   generalize l[kk].f3=x3 at q3 hcall
   generalize l[kk].f4=x4 at q4 hcall
   go_wp2_with (fail)
   refine hcall.mono ?_
   rintro e w' ⟨rfl,hb'⟩
   go_wp2
   go_ret
   exact ⟨by rw [HX.out];rfl,hb'⟩
  | false =>
   rw [hq] at hcall
   have HQ:=Aside0.mk hq
   clear hq
   have HX:Aside0 (∀ j (hj:j < l.length),j < kk+1→impl_Image_named.has a l[j]=false):=⟨fun j hj hjk=>by
    by_cases e:j=kk
    ·subst e
     exact HQ.out
    exact AA.out j hj (by omega)⟩
   clear HQ AA
   generalize l[kk].f0=x0 at q0 hcall
   generalize l[kk].f1=x1 at q1 hcall
   generalize l[kk].f2=x2 at q2 hcall
   generalize l[kk].f3=x3 at q3 hcall
   generalize l[kk].f4=x4 at q4 hcall
   go_wp2_with (fail)
   refine hcall.mono ?_
   rintro e w' ⟨rfl,hb'⟩
   go_wp2
   go_roundg (l.length - (kk+1))
   case measure=>omega
   case rel=>exact ⟨kk+1,by omega,by omega,by go_num,⟨hb'⟩,HX⟩
 obtain rfl:kk=l.length:=by omega
 go_wp2
 go_ret
 refine ⟨?_,BW.out⟩
 rw [impl_Image_named.at_none a l 0 (fun q hq=>AA.out q hq (by omega))]
 rfl
set_option maxHeartbeats 2000000 in
set_option maxRecDepth 100000 in
theorem impl_Image_named.calls (a0_0:ByteArray) (a0_1:ByteArray) (A0_2:Option Addr) (c0_2:Nat) (l0_2:List S54) (a1:ByteArray) (r:Int) (w:World) (hr0_2:Kd.C k54 w A0_2 l0_2.length l0_2) (hc0_2:l0_2.length≤c0_2) (h:impl_Image_named.f a0_0 a0_1 l0_2 a1=some r) :
    Calls Try.prog 37 #[.agg #[.string a0_0,.string a0_1,.slice A0_2 l0_2.length c0_2],.string a1] w fun e w'=>e=.returned (.int .i64 r)∧Below w.heap.size w w':=by
 obtain rfl:=Option.some.inj h
 have hu:=Try.underlying30
 have HR:=Aside0.mk hr0_2
 clear h hr0_2 hc0_2
 have hmf : ∀ (fn:Fn) (first cap:Array Value) (w:World),(Instr.makeFunc fn first cap).run Try.prog w=.ok (.func fn first cap) w:=fun _ _ _ _=>rfl
 go_enter Try.func37,Try.ntmps37
 go_wp2_with (go_at_call 59;refine (impl_Image_named.index _ _ l0_2 a1 _ _ (Kd.C_alloc (Kd.C_alloc HR.out _) _) (by simp) (by simp)).mono ?_;rintro e w' ⟨rfl,hb'⟩)
 go_ret
 exact ⟨rfl,(((Below.refl _ w).alloc (Nat.le_refl _) _).alloc (by simp) _).trans (hb'.mono (by simp;omega))⟩
def impl_SymbolNamed.f (k:Nat) (a0_0:ByteArray) (a0_1:ByteArray) (l0_2:List (S54)) (a1:ByteArray):Option (Int × Int):=(impl_isLong.f a1).bind fun t493=>(if t493=true then (some (0,2)) else ((impl_ImageOK.f k a0_0 a0_1 l0_2).bind fun t494=>(if t494=true then ((impl_Image_named.f a0_0 a0_1 l0_2 a1).bind fun t495=>(if t495 < 0 then (some (0,23)) else (some (t495,0)))) else (some (0,1)))))
theorem impl_SymbolNamed.mono : ∀ a0 a1 a2 a3 k,LeO (impl_SymbolNamed.f k a0 a1 a2 a3) (impl_SymbolNamed.f (k+1) a0 a1 a2 a3):=by
 intro a0 a1 a2 a3 k
 unfold impl_SymbolNamed.f
 repeat' (with_reducible first|apply impl_ImageOK.mono|apply LeO.refl|apply LeO.none|apply LeO.ite|refine LeO.bind ?_ (fun _=>?_))
set_option maxHeartbeats 8000000 in
set_option maxRecDepth 100000 in
theorem impl_SymbolNamed.calls (k:Nat) (a0_0:ByteArray) (a0_1:ByteArray) (A0_2:Option Addr) (c0_2:Nat) (l0_2:List (S54)) (a1:ByteArray) (r1:Int) (r2:Int) (w:World) (hr0_2:Kd.C k54 w A0_2 l0_2.length l0_2) (hc0_2:l0_2.length≤c0_2) (h:impl_SymbolNamed.f k a0_0 a0_1 l0_2 a1=some (r1,r2)) :
    Calls Try.prog 14 #[.agg #[.string a0_0,.string a0_1,.slice A0_2 l0_2.length c0_2],.string a1] w fun e w'=>e=.returned (.tuple #[.int .i64 r1,.int .i64 r2])∧Below w.heap.size w w':=by
 have hu30:=Try.underlying30
 have HR0_2:=Aside0.mk hr0_2
 have HC0_2:=Aside0.mk hc0_2
 clear hr0_2 hc0_2
 have HB:=Aside0.mk (Below.refl w.heap.size w)
 have H:((impl_isLong.f a1).bind fun t493=>(if t493=true then (some (0,2)) else ((impl_ImageOK.f k a0_0 a0_1 l0_2).bind fun t494=>(if t494=true then ((impl_Image_named.f a0_0 a0_1 l0_2 a1).bind fun t495=>(if t495 < 0 then (some (0,23)) else (some (t495,0)))) else (some (0,1))))))=some (r1,r2):=h
 clear h
 obtain ⟨t493,A3,H⟩:=bindA H
 by_cases c4:t493=true
 ·subst c4
  rw [if_pos rfl] at H
  simp only [Option.some.injEq,Prod.mk.injEq] at H
  obtain ⟨rfl,rfl⟩:=H
  go_enter Try.func14,Try.ntmps14
  go_wp2_with (first|(refine bv 2 #[.string a0_0,.string a0_1,.slice A0_2 l0_2.length c0_2] 30 ?_;intro gb492 hg w5 hbox hb;obtain ⟨n0_,n2_⟩:=bx0 hbx hb hg;have n1_:=Aside0.mk (hbox);clear HB;have HB:=n0_;have BK492:=n1_;have GW492:=n2_;have GE492:=n2_;clear n0_ n1_ n2_;clear hb hbox hg)|(refine gd 36 8 Try.func36 #[.string a1] (impl_isLong.calls a1 true _ A3.out) ?_;intro nd))
  go_ret2
  exact ⟨rf,hb1 GE492.out⟩
 replace c4:=Bool.eq_false_iff.mpr c4
 subst c4
 rw [if_neg (show ¬ (false=true) by decide)] at H
 obtain ⟨t494,A6,H⟩:=bindA H
 by_cases c7:t494=true
 ·subst c7
  rw [if_pos rfl] at H
  obtain ⟨t495,A8,H⟩:=bindA H
  by_cases c9:t495 < 0
  ·rw [if_pos c9] at H
   have c9b0:decide (t495 < 0)=true:=decide_eq_true c9
   clear c9
   simp only [Option.some.injEq,Prod.mk.injEq] at H
   obtain ⟨rfl,rfl⟩:=H
   go_enter Try.func14,Try.ntmps14
   go_wp2_with (first|(refine bv 2 #[.string a0_0,.string a0_1,.slice A0_2 l0_2.length c0_2] 30 ?_;intro gb492 hg w10 hbox hb;obtain ⟨n0_,n2_⟩:=bx0 hbx hb hg;have n1_:=Aside0.mk (hbox);clear HB;have HB:=n0_;have BK492:=n1_;have GW492:=n2_;have GE492:=n2_;clear n0_ n1_ n2_;clear hb hbox hg)|(refine gd 36 8 Try.func36 #[.string a1] (impl_isLong.calls a1 false _ A3.out) ?_;intro nd;obtain ⟨Z11_0,Z11_1,Z11_2,Y11_0,Y11_1,Y11_2⟩:=cel3 BK492.out)|(refine gl 29 10 Try.func29 #[.agg #[.string a0_0,.string a0_1,.slice A0_2 l0_2.length c0_2]] ?_;(with_reducible refine (impl_ImageOK.calls k a0_0 a0_1 _ _ l0_2 true _ ?side1 ?side2 A6.out).mono ?_);(case side1=>repeat (first|exact (Kd.C_below HR0_2.out (hb1 GE492.out))|(with_reducible refine Kd.C_alloc ?_ _)|(with_reducible refine Kd.C_drewN ?_ _)|(with_reducible refine Kd.C_drew ?_)));(case side2=>exact HC0_2.out);rintro e w12 ⟨rfl,hb⟩;refine ⟨_,rfl,?_⟩;have n0_:=Aside0.mk (blk_below (qx BK492.out) hb);replace HB:=Aside0.mk (below_step (hb1 GE492.out) hb);clear BK492;have BK492:=n0_;clear n0_;(try clear hb);(try clear hb2);(try clear hk);(try clear hi);obtain ⟨Z13_0,Z13_1,Z13_2,Y13_0,Y13_1,Y13_2⟩:=cel3 BK492.out)|(refine gl 37 14 Try.func37 #[.agg #[.string a0_0,.string a0_1,.slice A0_2 l0_2.length c0_2],.string a1] ?_;(with_reducible refine (impl_Image_named.calls a0_0 a0_1 _ _ l0_2 a1 t495 _ ?side1 ?side2 A8.out).mono ?_);(case side1=>exact kc HR0_2.out);(case side2=>exact HC0_2.out);rintro e w14 ⟨rfl,hb⟩;refine ⟨_,rfl,?_⟩;have n0_:=Aside0.mk (blk_below (qx BK492.out) hb);replace HB:=Aside0.mk (below_step (hb1 GE492.out) hb);clear BK492;have BK492:=n0_;clear n0_;(try clear hb);(try clear hb2);(try clear hk);(try clear hi)))
   go_ret2
   exact ⟨rf,hb1 GE492.out⟩
  rw [if_neg c9] at H
  have c9b0:decide (t495 < 0)=false:=decide_eq_false c9
  clear c9
  simp only [Option.some.injEq,Prod.mk.injEq] at H
  obtain ⟨rfl,rfl⟩:=H
  go_enter Try.func14,Try.ntmps14
  go_wp2_with (first|(refine bv 2 #[.string a0_0,.string a0_1,.slice A0_2 l0_2.length c0_2] 30 ?_;intro gb492 hg w15 hbox hb;obtain ⟨n0_,n2_⟩:=bx0 hbx hb hg;have n1_:=Aside0.mk (hbox);clear HB;have HB:=n0_;have BK492:=n1_;have GW492:=n2_;have GE492:=n2_;clear n0_ n1_ n2_;clear hb hbox hg)|(refine gd 36 8 Try.func36 #[.string a1] (impl_isLong.calls a1 false _ A3.out) ?_;intro nd;obtain ⟨Z16_0,Z16_1,Z16_2,Y16_0,Y16_1,Y16_2⟩:=cel3 BK492.out)|(refine gl 29 10 Try.func29 #[.agg #[.string a0_0,.string a0_1,.slice A0_2 l0_2.length c0_2]] ?_;(with_reducible refine (impl_ImageOK.calls k a0_0 a0_1 _ _ l0_2 true _ ?side1 ?side2 A6.out).mono ?_);(case side1=>repeat (first|exact (Kd.C_below HR0_2.out (hb1 GE492.out))|(with_reducible refine Kd.C_alloc ?_ _)|(with_reducible refine Kd.C_drewN ?_ _)|(with_reducible refine Kd.C_drew ?_)));(case side2=>exact HC0_2.out);rintro e w17 ⟨rfl,hb⟩;refine ⟨_,rfl,?_⟩;have n0_:=Aside0.mk (blk_below (qx BK492.out) hb);replace HB:=Aside0.mk (below_step (hb1 GE492.out) hb);clear BK492;have BK492:=n0_;clear n0_;(try clear hb);(try clear hb2);(try clear hk);(try clear hi);obtain ⟨Z18_0,Z18_1,Z18_2,Y18_0,Y18_1,Y18_2⟩:=cel3 BK492.out)|(refine gl 37 14 Try.func37 #[.agg #[.string a0_0,.string a0_1,.slice A0_2 l0_2.length c0_2],.string a1] ?_;(with_reducible refine (impl_Image_named.calls a0_0 a0_1 _ _ l0_2 a1 t495 _ ?side1 ?side2 A8.out).mono ?_);(case side1=>exact kc HR0_2.out);(case side2=>exact HC0_2.out);rintro e w19 ⟨rfl,hb⟩;refine ⟨_,rfl,?_⟩;have n0_:=Aside0.mk (blk_below (qx BK492.out) hb);replace HB:=Aside0.mk (below_step (hb1 GE492.out) hb);clear BK492;have BK492:=n0_;clear n0_;(try clear hb);(try clear hb2);(try clear hk);(try clear hi)))
  go_ret2
  exact ⟨rf,hb1 GE492.out⟩
 replace c7:=Bool.eq_false_iff.mpr c7
 subst c7
 rw [if_neg (show ¬ (false=true) by decide)] at H
 simp only [Option.some.injEq,Prod.mk.injEq] at H
 obtain ⟨rfl,rfl⟩:=H
 go_enter Try.func14,Try.ntmps14
 go_wp2_with (first|(refine bv 2 #[.string a0_0,.string a0_1,.slice A0_2 l0_2.length c0_2] 30 ?_;intro gb492 hg w20 hbox hb;obtain ⟨n0_,n2_⟩:=bx0 hbx hb hg;have n1_:=Aside0.mk (hbox);clear HB;have HB:=n0_;have BK492:=n1_;have GW492:=n2_;have GE492:=n2_;clear n0_ n1_ n2_;clear hb hbox hg)|(refine gd 36 8 Try.func36 #[.string a1] (impl_isLong.calls a1 false _ A3.out) ?_;intro nd;obtain ⟨Z21_0,Z21_1,Z21_2,Y21_0,Y21_1,Y21_2⟩:=cel3 BK492.out)|(refine gl 29 10 Try.func29 #[.agg #[.string a0_0,.string a0_1,.slice A0_2 l0_2.length c0_2]] ?_;(with_reducible refine (impl_ImageOK.calls k a0_0 a0_1 _ _ l0_2 false _ ?side1 ?side2 A6.out).mono ?_);(case side1=>repeat (first|exact (Kd.C_below HR0_2.out (hb1 GE492.out))|(with_reducible refine Kd.C_alloc ?_ _)|(with_reducible refine Kd.C_drewN ?_ _)|(with_reducible refine Kd.C_drew ?_)));(case side2=>exact HC0_2.out);rintro e w22 ⟨rfl,hb⟩;refine ⟨_,rfl,?_⟩;have n0_:=Aside0.mk (blk_below (qx BK492.out) hb);replace HB:=Aside0.mk (below_step (hb1 GE492.out) hb);clear BK492;have BK492:=n0_;clear n0_;(try clear hb);(try clear hb2);(try clear hk);(try clear hi)))
 go_ret2
 exact ⟨rf,hb1 GE492.out⟩
end Go.Proofs.Ythepmdlpjdlajaa.PFnExactLintImage
