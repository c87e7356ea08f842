-- Written by a program for this claim.
import Derived.Test.YthepmdlpjdlajaaPFnExactLintImagex0
namespace Go.Proofs.Ythepmdlpjdlajaa.PFnExactLintImage
open Go.RowKit Go.Proofs.YthepmdlpjdlajaaW.PrintWords Go.Proofs.YthepmdlpjdlajaaW.PrintLast Go.Proofs.YthepmdlpjdlajaaW.PrintMore
attribute [local go_sem] max2_int min2_int max_two min_two max_three min_three max_four min_four   -- for this text's walks alone
set_option linter.unusedVariables false
set_option linter.unusedSimpArgs false
def laws_szSymbol.f (a0_0:ByteArray) (a0_1:Int) (a0_2:Int) (a0_3:Int) (a0_4:Int) (a1:Int):Option (Int):=if (wrap64 (a1 - (a0_0.size:Int))) < 0 then (some (-1)) else (some (wrap64 (a1 - (a0_0.size:Int))))
set_option maxHeartbeats 8000000 in
set_option maxRecDepth 100000 in
theorem laws_szSymbol.calls (a0_0:ByteArray) (a0_1:Int) (a0_2:Int) (a0_3:Int) (a0_4:Int) (a1:Int) (r:Int) (w:World) (h:laws_szSymbol.f a0_0 a0_1 a0_2 a0_3 a0_4 a1=some r) :
    Calls Try.prog 57 #[.agg #[.string a0_0,.int .i64 a0_1,.int .i64 a0_2,.int .i64 a0_3,.int .i64 a0_4],.int .i64 a1] w fun e w'=>e=.returned (.int .i64 r)∧Below w.heap.size w w':=by
 have hu78:=Try.underlying78
 have HB:=Aside0.mk (Below.refl w.heap.size w)
 have H:(if (wrap64 (a1 - (a0_0.size:Int))) < 0 then (some (-1)) else (some (wrap64 (a1 - (a0_0.size:Int)))))=some r:=h
 clear h
 by_cases c3:(wrap64 (a1 - (a0_0.size:Int))) < 0
 ·rw [if_pos c3] at H
  have c3b0:decide ((wrap64 (a1 - (a0_0.size:Int))) < 0)=true:=decide_eq_true c3
  clear c3
  obtain rfl:=Option.some.inj H
  go_enter Try.func57,Try.ntmps57
  go_wp2_with (first|(refine bv 2 #[.string a0_0,.int .i64 a0_1,.int .i64 a0_2,.int .i64 a0_3,.int .i64 a0_4] 78 ?_;intro gb101 hg w4 hbox hb;obtain ⟨n0_,n2_⟩:=bx0 hbx hb hg;have n1_:=Aside0.mk (hbox);clear HB;have HB:=n0_;have BK101:=n1_;have GW101:=n2_;have GE101:=n2_;clear n0_ n1_ n2_;clear hb hbox hg;obtain ⟨Z5_0,Z5_1,Z5_2,Z5_3,Z5_4,Y5_0,Y5_1,Y5_2,Y5_3,Y5_4⟩:=cel5 BK101.out))
  go_ret
  exact ⟨rf,hb1 GE101.out⟩
 rw [if_neg c3] at H
 have c3b0:decide ((wrap64 (a1 - (a0_0.size:Int))) < 0)=false:=decide_eq_false c3
 clear c3
 obtain rfl:=Option.some.inj H
 go_enter Try.func57,Try.ntmps57
 go_wp2_with (first|(refine bv 2 #[.string a0_0,.int .i64 a0_1,.int .i64 a0_2,.int .i64 a0_3,.int .i64 a0_4] 78 ?_;intro gb101 hg w6 hbox hb;obtain ⟨n0_,n2_⟩:=bx0 hbx hb hg;have n1_:=Aside0.mk (hbox);clear HB;have HB:=n0_;have BK101:=n1_;have GW101:=n2_;have GE101:=n2_;clear n0_ n1_ n2_;clear hb hbox hg;obtain ⟨Z7_0,Z7_1,Z7_2,Z7_3,Z7_4,Y7_0,Y7_1,Y7_2,Y7_3,Y7_4⟩:=cel5 BK101.out))
 go_ret
 exact ⟨rf,hb1 GE101.out⟩
def laws_szSymbolS.l0:Nat→List (S78)→Int→Int→Option (Int)
  | 0,_,_,_=>none
  | k+1,x0,x1,x5=>if x5 < (x0.length:Int) then (if 0≤x5 then ((laws_szSymbol.f ((rd_T78 x0 x5).f0) ((rd_T78 x0 x5).f1) ((rd_T78 x0 x5).f2) ((rd_T78 x0 x5).f3) ((rd_T78 x0 x5).f4) x1).bind fun t103=>(if t103 < 0 then (some (-1)) else (laws_szSymbolS.l0 k x0 t103 (wrap64 (x5+1))))) else (none)) else (some x1)
def laws_szSymbolS.f (k:Nat) (l0:List (S78)) (a1:Int):Option (Int):=if (wrap64 (a1 - (l0.length:Int))) < 0 then (some (-1)) else (laws_szSymbolS.l0 k l0 (wrap64 (a1 - (l0.length:Int))) 0)
theorem laws_szSymbolS.mono_l : ∀ k,(∀ y0 y1 y2,LeO (laws_szSymbolS.l0 k y0 y1 y2) (laws_szSymbolS.l0 (k+1) y0 y1 y2))
  | 0=>fun _ _ _ r h=>by simp [laws_szSymbolS.l0] at h
  | k+1=>by
    have ih0:=laws_szSymbolS.mono_l k
    · intro y0 y1 y2
      unfold laws_szSymbolS.l0
      repeat' (with_reducible first|apply ih0|apply LeO.refl|apply LeO.none|apply LeO.ite|refine LeO.bind ?_ (fun _=>?_))
theorem laws_szSymbolS.mono : ∀ a0 a1 k,LeO (laws_szSymbolS.f k a0 a1) (laws_szSymbolS.f (k+1) a0 a1):=by
 intro a0 a1 k
 have ih0:=laws_szSymbolS.mono_l k
 unfold laws_szSymbolS.f
 repeat' (with_reducible first|apply ih0|apply LeO.refl|apply LeO.none|apply LeO.ite|refine LeO.bind ?_ (fun _=>?_))
set_option maxHeartbeats 8000000 in
set_option maxRecDepth 100000 in
theorem laws_szSymbolS.calls (k:Nat) (A0:Option Addr) (c0:Nat) (l0:List (S78)) (a1:Int) (r:Int) (w:World) (hr0:Kd.C k78 w A0 l0.length l0) (hc0:l0.length≤c0) (h:laws_szSymbolS.f k l0 a1=some r) :
    Calls Try.prog 34 #[.slice A0 l0.length c0,.int .i64 a1] w fun e w'=>e=.returned (.int .i64 r)∧Below w.heap.size w w':=by
 have hu78:=Try.underlying78
 have HR0:=Aside0.mk hr0
 have HC0:=Aside0.mk hc0
 clear hr0 hc0
 have HB:=Aside0.mk (Below.refl w.heap.size w)
 have H:(if (wrap64 (a1 - (l0.length:Int))) < 0 then (some (-1)) else (laws_szSymbolS.l0 k l0 (wrap64 (a1 - (l0.length:Int))) 0))=some r:=h
 clear h
 by_cases c3:(wrap64 (a1 - (l0.length:Int))) < 0
 ·rw [if_pos c3] at H
  have c3b0:decide ((wrap64 (a1 - (l0.length:Int))) < 0)=true:=decide_eq_true c3
  clear c3
  obtain rfl:=Option.some.inj H
  go_enter Try.func34,Try.ntmps34
  go_wp2
  go_ret
  exact ⟨rf,hbx⟩
 rw [if_neg c3] at H
 have c3b0:decide ((wrap64 (a1 - (l0.length:Int))) < 0)=false:=decide_eq_false c3
 clear c3
 have H':=Aside0.mk H
 clear H
 go_enter Try.func34,Try.ntmps34
 go_wp2
 go_loopg [1,5] k (fun kq v1 v5 w'=>∃ (x1_1:Int) (x5_1:Int),v1=.int .i64 x1_1∧v5=.int .i64 x5_1∧Aside0 (laws_szSymbolS.l0 kq l0 x1_1 x5_1=some r)∧Aside0 (kq≤k)∧Aside0 (Below w.heap.size w w'))
 case atStart=>exact ⟨(wrap64 (a1 - (l0.length:Int))),(0),rs,rs,H',⟨Nat.le_refl _⟩,⟨hbx⟩⟩
 clear H'
 try clear c3b0
 obtain ⟨x1_1,x5_1,rfl,rfl,HA,HK1,HB⟩:=hrel
 cases gk with
 | zero=>exact absurd HA.out (by simp [laws_szSymbolS.l0])
 | succ k1 =>
  have H:=HA.out
  clear HA
  simp only [laws_szSymbolS.l0] at H
  by_cases c4:x5_1 < (l0.length:Int)
  ·rw [if_pos c4] at H
   have c4b0:decide (x5_1 < (l0.length:Int))=true:=decide_eq_true c4
   clear c4
   by_cases c5:0≤x5_1
   ·rw [if_pos c5] at H
    have c5b0:decide (0≤x5_1)=true:=decide_eq_true c5
    clear c5
    obtain ⟨t103,A6,H⟩:=bindA H
    by_cases c7:t103 < 0
    ·rw [if_pos c7] at H
     have c7b0:decide (t103 < 0)=true:=decide_eq_true c7
     clear c7
     obtain rfl:=Option.some.inj H
     have p102:0≤(x5_1:Int):=od
     have q102:x5_1 < (l0.length:Int):=od
     obtain ⟨ad102,e102,hx102_0,hx102_1,hx102_2,hx102_3,hx102_4⟩:=at_T78 HR0.out x5_1 p102 q102
     cases e102
     replace hx102_0:=cx HB.out hx102_0
     replace hx102_1:=cx HB.out hx102_1
     replace hx102_2:=cx HB.out hx102_2
     replace hx102_3:=cx HB.out hx102_3
     replace hx102_4:=cx HB.out hx102_4
     replace p102:=eq_true p102
     replace q102:=eq_true q102
     go_wp2_with (first|(refine gl 57 23 Try.func57 #[.agg #[.string ((rd_T78 l0 x5_1).f0),.int .i64 ((rd_T78 l0 x5_1).f1),.int .i64 ((rd_T78 l0 x5_1).f2),.int .i64 ((rd_T78 l0 x5_1).f3),.int .i64 ((rd_T78 l0 x5_1).f4)],.int .i64 x1_1] ?_;(with_reducible refine (laws_szSymbol.calls ((rd_T78 l0 x5_1).f0) ((rd_T78 l0 x5_1).f1) ((rd_T78 l0 x5_1).f2) ((rd_T78 l0 x5_1).f3) ((rd_T78 l0 x5_1).f4) x1_1 t103 _ A6.out).mono ?_);rintro e w8 ⟨rfl,hb⟩;refine ⟨_,rfl,?_⟩;replace HB:=Aside0.mk (below_step hbx hb);(try clear hb);(try clear hb2);(try clear hk);(try clear hi)))
     go_ret
     exact ⟨rf,hbx⟩
    rw [if_neg c7] at H
    have c7b0:decide (t103 < 0)=false:=decide_eq_false c7
    clear c7
    have H':=Aside0.mk H
    clear H
    have p102:0≤(x5_1:Int):=od
    have q102:x5_1 < (l0.length:Int):=od
    obtain ⟨ad102,e102,hx102_0,hx102_1,hx102_2,hx102_3,hx102_4⟩:=at_T78 HR0.out x5_1 p102 q102
    cases e102
    replace hx102_0:=cx HB.out hx102_0
    replace hx102_1:=cx HB.out hx102_1
    replace hx102_2:=cx HB.out hx102_2
    replace hx102_3:=cx HB.out hx102_3
    replace hx102_4:=cx HB.out hx102_4
    replace p102:=eq_true p102
    replace q102:=eq_true q102
    go_wp2_with (first|(refine gl 57 23 Try.func57 #[.agg #[.string ((rd_T78 l0 x5_1).f0),.int .i64 ((rd_T78 l0 x5_1).f1),.int .i64 ((rd_T78 l0 x5_1).f2),.int .i64 ((rd_T78 l0 x5_1).f3),.int .i64 ((rd_T78 l0 x5_1).f4)],.int .i64 x1_1] ?_;(with_reducible refine (laws_szSymbol.calls ((rd_T78 l0 x5_1).f0) ((rd_T78 l0 x5_1).f1) ((rd_T78 l0 x5_1).f2) ((rd_T78 l0 x5_1).f3) ((rd_T78 l0 x5_1).f4) x1_1 t103 _ A6.out).mono ?_);rintro e w9 ⟨rfl,hb⟩;refine ⟨_,rfl,?_⟩;replace HB:=Aside0.mk (below_step hbx hb);(try clear hb);(try clear hb2);(try clear hk);(try clear hi)))
    go_roundg k1
    case measure=>have:=HK1.out;omega
    case rel=>exact ⟨(t103),(wrap64 (x5_1+1)),rs,rs,H',⟨by have:=HK1.out;omega⟩,⟨hbx⟩⟩
   rw [if_neg c5] at H
   exact absurd H (by simp)
  rw [if_neg c4] at H
  have c4b0:decide (x5_1 < (l0.length:Int))=false:=decide_eq_false c4
  clear c4
  obtain rfl:=Option.some.inj H
  go_wp2
  go_ret
  exact ⟨rf,hbx⟩
def laws_szImage.f (k:Nat) (a0_0:ByteArray) (a0_1:ByteArray) (l0_2:List (S78)) (a1:Int):Option (Int):=if (wrap64 (a1 - (a0_0.size:Int))) < 0 then (some (-1)) else (if (wrap64 ((wrap64 (a1 - (a0_0.size:Int))) - (a0_1.size:Int))) < 0 then (some (-1)) else ((laws_szSymbolS.f k l0_2 (wrap64 ((wrap64 (a1 - (a0_0.size:Int))) - (a0_1.size:Int)))).bind fun t105=>(if t105 < 0 then (some (-1)) else (some t105))))
theorem laws_szImage.mono : ∀ a0 a1 a2 a3 k,LeO (laws_szImage.f k a0 a1 a2 a3) (laws_szImage.f (k+1) a0 a1 a2 a3):=by
 intro a0 a1 a2 a3 k
 unfold laws_szImage.f
 repeat' (with_reducible first|apply laws_szSymbolS.mono|apply LeO.refl|apply LeO.none|apply LeO.ite|refine LeO.bind ?_ (fun _=>?_))
set_option maxHeartbeats 8000000 in
set_option maxRecDepth 100000 in
theorem laws_szImage.calls (k:Nat) (a0_0:ByteArray) (a0_1:ByteArray) (A0_2:Option Addr) (c0_2:Nat) (l0_2:List (S78)) (a1:Int) (r:Int) (w:World) (hr0_2:Kd.C k78 w A0_2 l0_2.length l0_2) (hc0_2:l0_2.length≤c0_2) (h:laws_szImage.f k a0_0 a0_1 l0_2 a1=some r) :
    Calls Try.prog 11 #[.agg #[.string a0_0,.string a0_1,.slice A0_2 l0_2.length c0_2],.int .i64 a1] w fun e w'=>e=.returned (.int .i64 r)∧Below w.heap.size w w':=by
 have hu24:=Try.underlying24
 have HR0_2:=Aside0.mk hr0_2
 have HC0_2:=Aside0.mk hc0_2
 clear hr0_2 hc0_2
 have HB:=Aside0.mk (Below.refl w.heap.size w)
 have H:(if (wrap64 (a1 - (a0_0.size:Int))) < 0 then (some (-1)) else (if (wrap64 ((wrap64 (a1 - (a0_0.size:Int))) - (a0_1.size:Int))) < 0 then (some (-1)) else ((laws_szSymbolS.f k l0_2 (wrap64 ((wrap64 (a1 - (a0_0.size:Int))) - (a0_1.size:Int)))).bind fun t105=>(if t105 < 0 then (some (-1)) else (some t105)))))=some r:=h
 clear h
 by_cases c3:(wrap64 (a1 - (a0_0.size:Int))) < 0
 ·rw [if_pos c3] at H
  have c3b0:decide ((wrap64 (a1 - (a0_0.size:Int))) < 0)=true:=decide_eq_true c3
  clear c3
  obtain rfl:=Option.some.inj H
  go_enter Try.func11,Try.ntmps11
  go_wp2_with (first|(refine bv 2 #[.string a0_0,.string a0_1,.slice A0_2 l0_2.length c0_2] 24 ?_;intro gb104 hg w4 hbox hb;obtain ⟨n0_,n2_⟩:=bx0 hbx hb hg;have n1_:=Aside0.mk (hbox);clear HB;have HB:=n0_;have BK104:=n1_;have GW104:=n2_;have GE104:=n2_;clear n0_ n1_ n2_;clear hb hbox hg;obtain ⟨Z5_0,Z5_1,Z5_2,Y5_0,Y5_1,Y5_2⟩:=cel3 BK104.out))
  go_ret
  exact ⟨rf,hb1 GE104.out⟩
 rw [if_neg c3] at H
 have c3b0:decide ((wrap64 (a1 - (a0_0.size:Int))) < 0)=false:=decide_eq_false c3
 clear c3
 by_cases c6:(wrap64 ((wrap64 (a1 - (a0_0.size:Int))) - (a0_1.size:Int))) < 0
 ·rw [if_pos c6] at H
  have c6b0:decide ((wrap64 ((wrap64 (a1 - (a0_0.size:Int))) - (a0_1.size:Int))) < 0)=true:=decide_eq_true c6
  clear c6
  obtain rfl:=Option.some.inj H
  go_enter Try.func11,Try.ntmps11
  go_wp2_with (first|(refine bv 2 #[.string a0_0,.string a0_1,.slice A0_2 l0_2.length c0_2] 24 ?_;intro gb104 hg w7 hbox hb;obtain ⟨n0_,n2_⟩:=bx0 hbx hb hg;have n1_:=Aside0.mk (hbox);clear HB;have HB:=n0_;have BK104:=n1_;have GW104:=n2_;have GE104:=n2_;clear n0_ n1_ n2_;clear hb hbox hg;obtain ⟨Z8_0,Z8_1,Z8_2,Y8_0,Y8_1,Y8_2⟩:=cel3 BK104.out))
  go_ret
  exact ⟨rf,hb1 GE104.out⟩
 rw [if_neg c6] at H
 have c6b0:decide ((wrap64 ((wrap64 (a1 - (a0_0.size:Int))) - (a0_1.size:Int))) < 0)=false:=decide_eq_false c6
 clear c6
 obtain ⟨t105,A9,H⟩:=bindA H
 by_cases c10:t105 < 0
 ·rw [if_pos c10] at H
  have c10b0:decide (t105 < 0)=true:=decide_eq_true c10
  clear c10
  obtain rfl:=Option.some.inj H
  go_enter Try.func11,Try.ntmps11
  go_wp2_with (first|(refine bv 2 #[.string a0_0,.string a0_1,.slice A0_2 l0_2.length c0_2] 24 ?_;intro gb104 hg w11 hbox hb;obtain ⟨n0_,n2_⟩:=bx0 hbx hb hg;have n1_:=Aside0.mk (hbox);clear HB;have HB:=n0_;have BK104:=n1_;have GW104:=n2_;have GE104:=n2_;clear n0_ n1_ n2_;clear hb hbox hg;obtain ⟨Z12_0,Z12_1,Z12_2,Y12_0,Y12_1,Y12_2⟩:=cel3 BK104.out)|(refine gl 34 22 Try.func34 #[.slice A0_2 l0_2.length c0_2,.int .i64 (wrap64 ((wrap64 (a1 - (a0_0.size:Int))) - (a0_1.size:Int)))] ?_;(with_reducible refine (laws_szSymbolS.calls k _ _ l0_2 (wrap64 ((wrap64 (a1 - (a0_0.size:Int))) - (a0_1.size:Int))) t105 _ ?side1 ?side2 A9.out).mono ?_);(case side1=>exact kc HR0_2.out);(case side2=>exact HC0_2.out);rintro e w13 ⟨rfl,hb⟩;refine ⟨_,rfl,?_⟩;have n0_:=Aside0.mk (blk_below (qx BK104.out) hb);replace HB:=Aside0.mk (below_step (hb1 GE104.out) hb);clear BK104;have BK104:=n0_;clear n0_;(try clear hb);(try clear hb2);(try clear hk);(try clear hi)))
  go_ret
  exact ⟨rf,hb1 GE104.out⟩
 rw [if_neg c10] at H
 have c10b0:decide (t105 < 0)=false:=decide_eq_false c10
 clear c10
 obtain rfl:=Option.some.inj H
 go_enter Try.func11,Try.ntmps11
 go_wp2_with (first|(refine bv 2 #[.string a0_0,.string a0_1,.slice A0_2 l0_2.length c0_2] 24 ?_;intro gb104 hg w14 hbox hb;obtain ⟨n0_,n2_⟩:=bx0 hbx hb hg;have n1_:=Aside0.mk (hbox);clear HB;have HB:=n0_;have BK104:=n1_;have GW104:=n2_;have GE104:=n2_;clear n0_ n1_ n2_;clear hb hbox hg;obtain ⟨Z15_0,Z15_1,Z15_2,Y15_0,Y15_1,Y15_2⟩:=cel3 BK104.out)|(refine gl 34 22 Try.func34 #[.slice A0_2 l0_2.length c0_2,.int .i64 (wrap64 ((wrap64 (a1 - (a0_0.size:Int))) - (a0_1.size:Int)))] ?_;(with_reducible refine (laws_szSymbolS.calls k _ _ l0_2 (wrap64 ((wrap64 (a1 - (a0_0.size:Int))) - (a0_1.size:Int))) t105 _ ?side1 ?side2 A9.out).mono ?_);(case side1=>exact kc HR0_2.out);(case side2=>exact HC0_2.out);rintro e w16 ⟨rfl,hb⟩;refine ⟨_,rfl,?_⟩;have n0_:=Aside0.mk (blk_below (qx BK104.out) hb);replace HB:=Aside0.mk (below_step (hb1 GE104.out) hb);clear BK104;have BK104:=n0_;clear n0_;(try clear hb);(try clear hb2);(try clear hk);(try clear hi)))
 go_ret
 exact ⟨rf,hb1 GE104.out⟩
def laws_toSymbol.f (a0_0:ByteArray) (a0_1:Int) (a0_2:Int) (a0_3:Int) (a0_4:Int):Option (ByteArray × Int × Int × Int × Int):=some (a0_0,a0_1,a0_2,a0_3,a0_4)
set_option maxHeartbeats 8000000 in
set_option maxRecDepth 100000 in
theorem laws_toSymbol.calls (a0_0:ByteArray) (a0_1:Int) (a0_2:Int) (a0_3:Int) (a0_4:Int) (r1:ByteArray) (r2:Int) (r3:Int) (r4:Int) (r5:Int) (w:World) (h:laws_toSymbol.f a0_0 a0_1 a0_2 a0_3 a0_4=some (r1,r2,r3,r4,r5)) :
    Calls Try.prog 58 #[.agg #[.string a0_0,.int .i64 a0_1,.int .i64 a0_2,.int .i64 a0_3,.int .i64 a0_4]] w fun e w'=>e=.returned (.agg #[.string r1,.int .i64 r2,.int .i64 r3,.int .i64 r4,.int .i64 r5])∧Below w.heap.size w w':=by
 have hu78:=Try.underlying78
 have hu54:=Try.underlying54
 have HB:=Aside0.mk (Below.refl w.heap.size w)
 have H:(some (a0_0,a0_1,a0_2,a0_3,a0_4))=some (r1,r2,r3,r4,r5):=h
 clear h
 simp only [Option.some.injEq,Prod.mk.injEq] at H
 obtain ⟨rfl,rfl,rfl,rfl,rfl⟩:=H
 go_enter Try.func58,Try.ntmps58
 go_wp2_with (first|(refine bv 1 #[.string a0_0,.int .i64 a0_1,.int .i64 a0_2,.int .i64 a0_3,.int .i64 a0_4] 78 ?_;intro gb106 hg w2 hbox hb;obtain ⟨n0_,n2_⟩:=bx0 hbx hb hg;have n1_:=Aside0.mk (hbox);clear HB;have HB:=n0_;have BK106:=n1_;have GW106:=n2_;have GE106:=n2_;clear n0_ n1_ n2_;clear hb hbox hg)|(refine bv 2 #[.string (⟨#[]⟩:ByteArray),.int .i64 0,.int .i64 0,.int .i64 0,.int .i64 0] 54 ?_;intro gb107 hg w3 hbox hb;obtain ⟨n1_,n3_⟩:=bx0 (hb1 GE106.out) hb hg;obtain ⟨n0_,n5_,n6_⟩:=bx3 (qx BK106.out) hb hg;have n2_:=Aside0.mk (hbox);clear BK106;clear HB;have BK106:=n0_;have HB:=n1_;have BK107:=n2_;have GW107:=n3_;have GE107:=n3_;have NB106_107:=n5_;have NB107_106:=n6_;clear n0_ n1_ n2_ n3_ n5_ n6_;clear hb hbox hg)|(refine bv 3 #[.string (⟨#[]⟩:ByteArray),.int .i64 0,.int .i64 0,.int .i64 0,.int .i64 0] 54 ?_;intro gb108 hg w4 hbox hb;obtain ⟨n2_,n4_⟩:=bx0 (hb2 GE106.out GE107.out) hb hg;obtain ⟨n0_,n6_,n7_⟩:=bx3 (qx BK106.out) hb hg;obtain ⟨n1_,n8_,n9_⟩:=bx3 (qx BK107.out) hb hg;have n3_:=Aside0.mk (hbox);clear BK106;clear BK107;clear HB;have BK106:=n0_;have BK107:=n1_;have HB:=n2_;have BK108:=n3_;have GW108:=n4_;have GE108:=n4_;have NB106_108:=n6_;have NB108_106:=n7_;have NB107_108:=n8_;have NB108_107:=n9_;clear n0_ n1_ n2_ n3_ n4_ n6_ n7_ n8_ n9_;clear hb hbox hg;have hnb5:=NB106_107.out;have hnc5:=NB107_106.out;have hnb6:=NB106_108.out;have hnc6:=NB108_106.out;obtain ⟨Z7_0,Z7_1,Z7_2,Z7_3,Z7_4,Y7_0,Y7_1,Y7_2,Y7_3,Y7_4⟩:=cel5 BK106.out;have hnb8:=NB108_107.out;have hnc8:=NB107_108.out;obtain ⟨Z9_0,Z9_1,Z9_2,Z9_3,Z9_4,Y9_0,Y9_1,Y9_2,Y9_3,Y9_4⟩:=cel5 BK108.out;obtain ⟨Z10_0,Z10_1,Z10_2,Z10_3,Z10_4,Y10_0,Y10_1,Y10_2,Y10_3,Y10_4⟩:=cel5 BK107.out))
 refine bodyPost_ret (results_cell_row rfl _ _ gb107 54 #[.string a0_0,.int .i64 a0_1,.int .i64 a0_2,.int .i64 a0_3,.int .i64 a0_4] (0,0) _ rfl (by (with_reducible repeat first|apply Q1|apply Q2|apply Q3);refine blk_put (cs:=#[.string a0_0,.int .i64 a0_1,.int .i64 a0_2,.int .i64 a0_3,.int .i64 0]) ?_ 4 _ rfl;(with_reducible repeat first|apply Q1|apply Q2|apply Q3);refine blk_put (cs:=#[.string a0_0,.int .i64 a0_1,.int .i64 a0_2,.int .i64 0,.int .i64 0]) ?_ 3 _ rfl;(with_reducible repeat first|apply Q1|apply Q2|apply Q3);refine blk_put (cs:=#[.string a0_0,.int .i64 a0_1,.int .i64 0,.int .i64 0,.int .i64 0]) ?_ 2 _ rfl;(with_reducible repeat first|apply Q1|apply Q2|apply Q3);refine blk_put (cs:=#[.string a0_0,.int .i64 0,.int .i64 0,.int .i64 0,.int .i64 0]) ?_ 1 _ rfl;(with_reducible repeat first|apply Q1|apply Q2|apply Q3);refine blk_put (cs:=#[.string (⟨#[]⟩:ByteArray),.int .i64 0,.int .i64 0,.int .i64 0,.int .i64 0]) ?_ 0 _ rfl;(with_reducible repeat first|apply Q1|apply Q2|apply Q3);apply far5 NB107_108.out;(with_reducible repeat first|apply Q1|apply Q2|apply Q3);exact BK107.out) Try.underlying54 rfl (by kernel_rfl)) rfl ?_
 exact ⟨rf,hb3 GE106.out GE107.out GE108.out⟩
def laws_toSymbolS.l0:Nat→List (S78)→List (S54)→Int→Option ((List (S54)))
  | 0,_,_,_=>none
  | k+1,x0,x3,x4=>if x4 < (x0.length:Int) then (if 0≤x4 then ((laws_toSymbol.f ((rd_T78 x0 x4).f0) ((rd_T78 x0 x4).f1) ((rd_T78 x0 x4).f2) ((rd_T78 x0 x4).f3) ((rd_T78 x0 x4).f4)).bind fun bt113=>(if x4 < (x3.length:Int) then (laws_toSymbolS.l0 k x0 (x3.set (x4:Int).toNat (⟨bt113.1,bt113.2.1,bt113.2.2.1,bt113.2.2.2.1,bt113.2.2.2.2⟩:S54)) (wrap64 (x4+1))) else (none))) else (none)) else (some x3)
def laws_toSymbolS.f (k:Nat) (l0:List (S78)):Option ((List (S54))):=if 0≤(l0.length:Int) then (if ((l0.length:Int):Int).toNat≤5864062014805 then (laws_toSymbolS.l0 k l0 (List.replicate ((l0.length:Int):Int).toNat z54) 0) else (none)) else (none)
theorem laws_toSymbolS.mono_l : ∀ k,(∀ y0 y1 y2,LeO (laws_toSymbolS.l0 k y0 y1 y2) (laws_toSymbolS.l0 (k+1) y0 y1 y2))
  | 0=>fun _ _ _ r h=>by simp [laws_toSymbolS.l0] at h
  | k+1=>by
    have ih0:=laws_toSymbolS.mono_l k
    · intro y0 y1 y2
      unfold laws_toSymbolS.l0
      repeat' (with_reducible first|apply ih0|apply LeO.refl|apply LeO.none|apply LeO.ite|refine LeO.bind ?_ (fun _=>?_))
theorem laws_toSymbolS.mono : ∀ a0 k,LeO (laws_toSymbolS.f k a0) (laws_toSymbolS.f (k+1) a0):=by
 intro a0 k
 have ih0:=laws_toSymbolS.mono_l k
 unfold laws_toSymbolS.f
 repeat' (with_reducible first|apply ih0|apply LeO.refl|apply LeO.none|apply LeO.ite|refine LeO.bind ?_ (fun _=>?_))
set_option maxHeartbeats 8000000 in
set_option maxRecDepth 100000 in
theorem laws_toSymbolS.calls (k:Nat) (A0:Option Addr) (c0:Nat) (l0:List (S78)) (r:List (S54)) (w:World) (hr0:Kd.C k78 w A0 l0.length l0) (hc0:l0.length≤c0) (h:laws_toSymbolS.f k l0=some r) :
    Calls Try.prog 35 #[.slice A0 l0.length c0] w fun e w'=>∃ v0_:Value,e=.returned (v0_)∧Kd.R k54 54 w' w.heap.size (fun _=>True) v0_ r∧Below w.heap.size w w':=by
 have hu78:=Try.underlying78
 have hu54:=Try.underlying54
 have HR0:=Aside0.mk hr0
 have HC0:=Aside0.mk hc0
 clear hr0 hc0
 have HB:=Aside0.mk (Below.refl w.heap.size w)
 have H:(if 0≤(l0.length:Int) then (if ((l0.length:Int):Int).toNat≤5864062014805 then (laws_toSymbolS.l0 k l0 (List.replicate ((l0.length:Int):Int).toNat z54) 0) else (none)) else (none))=some r:=h
 clear h
 by_cases c2:0≤(l0.length:Int)
 ·rw [if_pos c2] at H
  have c2b0:=eq_true c2
  have c2b1:decide (0≤(l0.length:Int))=true:=decide_eq_true c2
  clear c2
  by_cases c3:((l0.length:Int):Int).toNat≤5864062014805
  ·rw [if_pos c3] at H
   have c3b0:=eq_true c3
   have c3b1:decide (((l0.length:Int):Int).toNat≤5864062014805)=true:=decide_eq_true c3
   clear c3
   obtain ⟨y109,hy109⟩ : ∃ y_:List (S54),y_=(List.replicate ((l0.length:Int):Int).toNat z54):=⟨_,rfl⟩
   replace H:(laws_toSymbolS.l0 k l0 y109 0)=some r:=by first|(rw [hy109];with_reducible exact H)|(have H2_:=(Option.bind_some _ _).symm.trans H;rw [hy109];with_reducible exact H2_)|(have H2_:=(Option.bind_some _ _).symm.trans H;with_reducible exact H2_)|with_reducible exact H|(rw [hy109];exact H)|exact H
   have Ny109:=Aside0.mk hy109
   clear hy109
   have H':=Aside0.mk H
   clear H
   go_enter Try.func35,Try.ntmps35
   go_wp2_with (first|((with_reducible refine gate_dst (N:=7) rfl ?_);refine Kd.R_make k54 _ 54 rfl (N:=7) rfl 28 _ _ rfl (l0.length:Int) rfl rfl Try.underlying28 (.agg #[(.string ⟨#[]⟩),(.int .i64 0),(.int .i64 0),(.int .i64 0),(.int .i64 0)]) 48 info54 rfl (by decide) (by omega) z54 (ok:=fun _=>True) (okp:=fun _=>True) (k54_mkM _ _ _ z54 ) (fun _ hk=>hk) trivial (od) (Nat.le_trans (Nat.mul_le_mul_right _ (od:(l0.length:Int).toNat≤5864062014805)) (by omega)) (Below.refl _ _) (Nat.le_refl _) ?_;intro v110 w4 ho5 hb hg_ hnew_;clear hg_ hnew_;(first|rw [← Ny109.out] at ho5|(simp only [Int.reduceToNat] at ho5;rw [← Ny109.out] at ho5));have n0_:=Aside0.mk (Kd.R_lower ho5 (below_size hbx));have n1_:=Aside0.mk (below_step hbx hb);clear HB;have HO111:=n0_;have HB:=n1_;clear n0_ n1_;clear hb ho5))
   go_loopg [4] k (fun kq v4 w'=>∃ (x3_1:List (S54)) (x4_1:Int),v4=.int .i64 x4_1∧Aside0 (laws_toSymbolS.l0 kq l0 x3_1 x4_1=some r)∧Aside0 (kq≤k)∧Aside0 (Kd.R k54 54 w' w.heap.size (fun _=>True) v110 x3_1)∧Aside0 (Below w.heap.size w w'))
   case atStart=>exact ⟨(y109),(0),rs,H',⟨Nat.le_refl _⟩,⟨kr HO111.out⟩,⟨hbx⟩⟩
   clear H'
   try clear c2b0
   try clear c2b1
   try clear c3b0
   try clear c3b1
   obtain ⟨x3_1,x4_1,rfl,HA,HK1,HO_3,HB⟩:=hrel
   cases gk with
   | zero=>exact absurd HA.out (by simp [laws_toSymbolS.l0])
   | succ k1 =>
    have H:=HA.out
    clear HA
    simp only [laws_toSymbolS.l0] at H
    by_cases c6:x4_1 < (l0.length:Int)
    ·rw [if_pos c6] at H
     have c6b0:decide (x4_1 < (l0.length:Int))=true:=decide_eq_true c6
     clear c6
     by_cases c7:0≤x4_1
     ·rw [if_pos c7] at H
      have c7b0:decide (0≤x4_1)=true:=decide_eq_true c7
      clear c7
      obtain ⟨⟨t113,t114,t115,t116,t117⟩,A8,H⟩:=bindA H
      try dsimp only at H
      by_cases c9:x4_1 < (x3_1.length:Int)
      ·rw [if_pos c9] at H
       have c9b0:decide (x4_1 < (x3_1.length:Int))=true:=decide_eq_true c9
       clear c9
       obtain ⟨y118,hy118⟩ : ∃ y_:List (S54),y_=(x3_1.set (x4_1:Int).toNat (⟨t113,t114,t115,t116,t117⟩:S54)):=⟨_,rfl⟩
       replace H:(laws_toSymbolS.l0 k1 l0 y118 (wrap64 (x4_1+1)))=some r:=by first|(rw [hy118];with_reducible exact H)|(have H2_:=(Option.bind_some _ _).symm.trans H;rw [hy118];with_reducible exact H2_)|(have H2_:=(Option.bind_some _ _).symm.trans H;with_reducible exact H2_)|with_reducible exact H|(rw [hy118];exact H)|exact H
       have Ny118:=Aside0.mk hy118
       clear hy118
       have H':=Aside0.mk H
       clear H
       have p112:0≤(x4_1:Int):=od
       have q112:x4_1 < (l0.length:Int):=od
       obtain ⟨ad112,e112,hx112_0,hx112_1,hx112_2,hx112_3,hx112_4⟩:=at_T78 HR0.out x4_1 p112 q112
       cases e112
       replace hx112_0:=cx HB.out hx112_0
       replace hx112_1:=cx HB.out hx112_1
       replace hx112_2:=cx HB.out hx112_2
       replace hx112_3:=cx HB.out hx112_3
       replace hx112_4:=cx HB.out hx112_4
       replace p112:=eq_true p112
       replace q112:=eq_true q112
       go_wp2_with (first|(refine gl 58 20 Try.func58 #[.agg #[.string ((rd_T78 l0 x4_1).f0),.int .i64 ((rd_T78 l0 x4_1).f1),.int .i64 ((rd_T78 l0 x4_1).f2),.int .i64 ((rd_T78 l0 x4_1).f3),.int .i64 ((rd_T78 l0 x4_1).f4)]] ?_;(with_reducible refine (laws_toSymbol.calls ((rd_T78 l0 x4_1).f0) ((rd_T78 l0 x4_1).f1) ((rd_T78 l0 x4_1).f2) ((rd_T78 l0 x4_1).f3) ((rd_T78 l0 x4_1).f4) t113 t114 t115 t116 t117 _ A8.out).mono ?_);rintro e w11 ⟨rfl,hb⟩;refine ⟨_,rfl,?_⟩;have n0_:=Aside0.mk (Kd.R_below (kr HO_3.out) hb);replace HB:=Aside0.mk (below_step hbx hb);clear HO_3;have HO_3:=n0_;clear n0_;(try clear hb);(try clear hb2);(try clear hk);(try clear hi);have p10:0≤(x4_1:Int):=od;have q10:(x4_1:Int) < ((x3_1.length:Int):Int):=od;obtain ⟨go10,co10,eo10,gb10,gl10,cl10,HG10⟩:=Kd.R_form HO_3.out (by omega);(first|cases eo10|(injection eo10 with ea_ en_ ec_;(first|subst ea_|(injection ea_ with ea_;subst ea_));subst ec_;clear en_));have GB10:=Aside0.mk gb10;have GG10:=Aside0.mk HG10;clear gb10 gl10 HG10;obtain ⟨ce10,hcl10,hM10,hcc10,hfr10⟩:=Kd.R_elem HO_3.out z54 (x4_1:Int) p10 q10;obtain rfl:=k54_openM hM10;have hx10_0:w11.cell? ⟨go10,(x4_1:Int).toNat*5,none⟩=some (.string ((rd_T54 x3_1 x4_1).f0)):=hcc10 0 _ rfl;have hx10_1:w11.cell? ⟨go10,(x4_1:Int).toNat*5+1,none⟩=some (.int .i64 ((rd_T54 x3_1 x4_1).f1)):=hcc10 1 _ rfl;have hx10_2:w11.cell? ⟨go10,(x4_1:Int).toNat*5+2,none⟩=some (.int .i64 ((rd_T54 x3_1 x4_1).f2)):=hcc10 2 _ rfl;have hx10_3:w11.cell? ⟨go10,(x4_1:Int).toNat*5+3,none⟩=some (.int .i64 ((rd_T54 x3_1 x4_1).f3)):=hcc10 3 _ rfl;have hx10_4:w11.cell? ⟨go10,(x4_1:Int).toNat*5+4,none⟩=some (.int .i64 ((rd_T54 x3_1 x4_1).f4)):=hcc10 4 _ rfl;have hf10_0:w11.frozen? ⟨go10,(x4_1:Int).toNat*5,none⟩=false:=hfr10 0;have hf10_1:w11.frozen? ⟨go10,(x4_1:Int).toNat*5+1,none⟩=false:=hfr10 1;have hf10_2:w11.frozen? ⟨go10,(x4_1:Int).toNat*5+2,none⟩=false:=hfr10 2;have hf10_3:w11.frozen? ⟨go10,(x4_1:Int).toNat*5+3,none⟩=false:=hfr10 3;have hf10_4:w11.frozen? ⟨go10,(x4_1:Int).toNat*5+4,none⟩=false:=hfr10 4;clear hcl10 hcc10 hfr10 hM10;replace p10:=eq_true p10;replace q10:=eq_true q10;have HX12:=Aside0.mk (show Kd.R k54 54 w11 w.heap.size (fun _=>True) (.slice (some ⟨go10,0,none⟩) x3_1.length co10) x3_1 from (kr HO_3.out));obtain ⟨ce12,hcl12,hM12,hcc12,hfr12⟩:=Kd.R_elem HX12.out z54 (x4_1:Int) (od) (by have h_:(x4_1:Int) < ((x3_1.length:Int):Int):=od;first|exact h_|(have e_:=(Kd.R_reads' HO_3.out).1;omega)|simpa using h_);obtain rfl:=k54_openM hM12;have HP12:=Kd.R_seg HX12.out (x4_1:Int) (od) (by have h_:(x4_1:Int) < ((x3_1.length:Int):Int):=od;first|exact h_|(have e_:=(Kd.R_reads' HO_3.out).1;omega)|simpa using h_) (seg:=[.string t113,.int .i64 t114,.int .i64 t115,.int .i64 t116,.int .i64 t117]) (j:=0) hcl12 hcc12 (show 5≤5 from by decide) (x':=(⟨t113,t114,t115,t116,t117⟩:S54)) (k54_mkM _ _ _ (⟨t113,t114,t115,t116,t117⟩:S54) ) (fun _ hk=>hk);have hx12_0:=hcc12 0 _ rfl;(try simp only [show (k54).sz=5 from rfl,Nat.mul_one,Nat.add_zero] at hx12_0);have hf12_0:=hfr12 0;(try simp only [show (k54).sz=5 from rfl,Nat.mul_one,Nat.add_zero] at hf12_0);have hx12_1:=hcc12 1 _ rfl;(try simp only [show (k54).sz=5 from rfl,Nat.mul_one,Nat.add_zero] at hx12_1);have hf12_1:=hfr12 1;(try simp only [show (k54).sz=5 from rfl,Nat.mul_one,Nat.add_zero] at hf12_1);have hx12_2:=hcc12 2 _ rfl;(try simp only [show (k54).sz=5 from rfl,Nat.mul_one,Nat.add_zero] at hx12_2);have hf12_2:=hfr12 2;(try simp only [show (k54).sz=5 from rfl,Nat.mul_one,Nat.add_zero] at hf12_2);have hx12_3:=hcc12 3 _ rfl;(try simp only [show (k54).sz=5 from rfl,Nat.mul_one,Nat.add_zero] at hx12_3);have hf12_3:=hfr12 3;(try simp only [show (k54).sz=5 from rfl,Nat.mul_one,Nat.add_zero] at hf12_3);have hx12_4:=hcc12 4 _ rfl;(try simp only [show (k54).sz=5 from rfl,Nat.mul_one,Nat.add_zero] at hx12_4);have hf12_4:=hfr12 4;(try simp only [show (k54).sz=5 from rfl,Nat.mul_one,Nat.add_zero] at hf12_4);clear hcl12 hcc12 hfr12 hM12)|((with_reducible refine gate_store (t:=54) (p:=21) rfl ?_);refine store_event (t:=54) (p:=21) (v:=?vo_w13) (w1:=(((((w11.setCell ⟨go10,(x4_1:Int).toNat*5,none⟩ (.string t113)).setCell ⟨go10,(x4_1:Int).toNat*5+1,none⟩ (.int .i64 t114)).setCell ⟨go10,(x4_1:Int).toNat*5+2,none⟩ (.int .i64 t115)).setCell ⟨go10,(x4_1:Int).toNat*5+3,none⟩ (.int .i64 t116)).setCell ⟨go10,(x4_1:Int).toNat*5+4,none⟩ (.int .i64 t117))) ?hg ?ho ?hn ?hr ?_;(case ho=>rfl);(case hg=>rfl);(case hn=>rfl);(case hr=>first|(go_simp;done)|(go_simp;rfl));intro w13 hw;have hg:w11.grownBy w13 (some go10):=(by rw [hw];exact HP12.2);have hp_:Kd.R k54 54 w13 w.heap.size (fun _=>True) (.slice (some ⟨go10,0,none⟩) x3_1.length co10) y118:=(by rw [hw,Ny118.out];exact HP12.1);clear HP12;have n0_:=Aside0.mk (hp_);have n1_:=Aside0.mk ((by rw [hw];exact below_set (below_set (below_set (below_set (below_set (HB.out) GB10.out) GB10.out) GB10.out) GB10.out) GB10.out:Below w.heap.size w w13));clear HO_3;clear HB;have HO_3:=n0_;have HB:=n1_;clear n0_ n1_;clear hg hw hp_))
       go_roundg k1
       case measure=>have:=HK1.out;omega
       case rel=>exact ⟨(y118),(wrap64 (x4_1+1)),rs,H',⟨by have:=HK1.out;omega⟩,⟨kr HO_3.out⟩,⟨hbx⟩⟩
      rw [if_neg c9] at H
      exact absurd H (by simp)
     rw [if_neg c7] at H
     exact absurd H (by simp)
    rw [if_neg c6] at H
    have c6b0:decide (x4_1 < (l0.length:Int))=false:=decide_eq_false c6
    clear c6
    obtain rfl:=Option.some.inj H
    go_wp2
    go_ret
    exact ⟨_,rf,by (with_reducible repeat (first|apply Kd.R_alloc|apply Kd.R_drewN|apply Kd.R_drew));exact HO_3.out,hbx⟩
  rw [if_neg c3] at H
  exact absurd H (by simp)
 rw [if_neg c2] at H
 exact absurd H (by simp)
def laws_toImage.f (k:Nat) (a0_0:ByteArray) (a0_1:ByteArray) (l0_2:List (S78)):Option (ByteArray × ByteArray × (List (S54))):=(laws_toSymbolS.f k l0_2).bind fun t122=>(some (a0_0,a0_1,t122))
theorem laws_toImage.mono : ∀ a0 a1 a2 k,LeO (laws_toImage.f k a0 a1 a2) (laws_toImage.f (k+1) a0 a1 a2):=by
 intro a0 a1 a2 k
 unfold laws_toImage.f
 repeat' (with_reducible first|apply laws_toSymbolS.mono|apply LeO.refl|apply LeO.none|apply LeO.ite|refine LeO.bind ?_ (fun _=>?_))
set_option maxHeartbeats 8000000 in
set_option maxRecDepth 100000 in
theorem laws_toImage.calls (k:Nat) (a0_0:ByteArray) (a0_1:ByteArray) (A0_2:Option Addr) (c0_2:Nat) (l0_2:List (S78)) (r1:ByteArray) (r2:ByteArray) (r3:List (S54)) (w:World) (hr0_2:Kd.C k78 w A0_2 l0_2.length l0_2) (hc0_2:l0_2.length≤c0_2) (h:laws_toImage.f k a0_0 a0_1 l0_2=some (r1,r2,r3)) :
    Calls Try.prog 13 #[.agg #[.string a0_0,.string a0_1,.slice A0_2 l0_2.length c0_2]] w fun e w'=>∃ v2_:Value,e=.returned (.agg #[.string r1,.string r2,v2_])∧Kd.R k54 54 w' w.heap.size (fun _=>True) v2_ r3∧Below w.heap.size w w':=by
 have hu24:=Try.underlying24
 have hu30:=Try.underlying30
 have HR0_2:=Aside0.mk hr0_2
 have HC0_2:=Aside0.mk hc0_2
 clear hr0_2 hc0_2
 have HB:=Aside0.mk (Below.refl w.heap.size w)
 have H:((laws_toSymbolS.f k l0_2).bind fun t122=>(some (a0_0,a0_1,t122)))=some (r1,r2,r3):=h
 clear h
 obtain ⟨t122,A2,H⟩:=bindA H
 simp only [Option.some.injEq,Prod.mk.injEq] at H
 obtain ⟨rfl,rfl,rfl⟩:=H
 go_enter Try.func13,Try.ntmps13
 go_wp2_with (first|(refine bv 1 #[.string a0_0,.string a0_1,.slice A0_2 l0_2.length c0_2] 24 ?_;intro gb119 hg w3 hbox hb;obtain ⟨n0_,n2_⟩:=bx0 hbx hb hg;have n1_:=Aside0.mk (hbox);clear HB;have HB:=n0_;have BK119:=n1_;have GW119:=n2_;have GE119:=n2_;clear n0_ n1_ n2_;clear hb hbox hg)|(refine bv 2 #[.string (⟨#[]⟩:ByteArray),.string (⟨#[]⟩:ByteArray),.slice none 0 0] 30 ?_;intro gb120 hg w4 hbox hb;obtain ⟨n1_,n3_⟩:=bx0 (hb1 GE119.out) hb hg;obtain ⟨n0_,n5_,n6_⟩:=bx3 (qx BK119.out) hb hg;have n2_:=Aside0.mk (hbox);clear BK119;clear HB;have BK119:=n0_;have HB:=n1_;have BK120:=n2_;have GW120:=n3_;have GE120:=n3_;have NB119_120:=n5_;have NB120_119:=n6_;clear n0_ n1_ n2_ n3_ n5_ n6_;clear hb hbox hg)|(refine bv 3 #[.string (⟨#[]⟩:ByteArray),.string (⟨#[]⟩:ByteArray),.slice none 0 0] 30 ?_;intro gb121 hg w5 hbox hb;obtain ⟨n2_,n4_⟩:=bx0 (hb2 GE119.out GE120.out) hb hg;obtain ⟨n0_,n6_,n7_⟩:=bx3 (qx BK119.out) hb hg;obtain ⟨n1_,n8_,n9_⟩:=bx3 (qx BK120.out) hb hg;have n3_:=Aside0.mk (hbox);clear BK119;clear BK120;clear HB;have BK119:=n0_;have BK120:=n1_;have HB:=n2_;have BK121:=n3_;have GW121:=n4_;have GE121:=n4_;have NB119_121:=n6_;have NB121_119:=n7_;have NB120_121:=n8_;have NB121_120:=n9_;clear n0_ n1_ n2_ n3_ n4_ n6_ n7_ n8_ n9_;clear hb hbox hg;have hnb6:=NB119_120.out;have hnc6:=NB120_119.out;have hnb7:=NB119_121.out;have hnc7:=NB121_119.out;obtain ⟨Z8_0,Z8_1,Z8_2,Y8_0,Y8_1,Y8_2⟩:=cel3 BK119.out;have hnb9:=NB121_120.out;have hnc9:=NB120_121.out;obtain ⟨Z10_0,Z10_1,Z10_2,Y10_0,Y10_1,Y10_2⟩:=cel3 BK121.out)|(refine gl 35 12 Try.func35 #[.slice A0_2 l0_2.length c0_2] ?_;(with_reducible refine (laws_toSymbolS.calls k _ _ l0_2 t122 _ ?side1 ?side2 A2.out).mono ?_);(case side1=>exact Kd.C_below HR0_2.out (hb3 GE119.out GE120.out GE121.out));(case side2=>exact HC0_2.out);rintro e w11 ⟨v123,rfl,ho0,hb⟩;refine ⟨_,rfl,?_⟩;have n0_:=Aside0.mk (Kd.R_lower ho0 (below_size (hb3 GE119.out GE120.out GE121.out)));have n1_:=Aside0.mk (blk_below (g:=gb119) (o:=.cells #[.string a0_0,.string a0_1,.slice A0_2 l0_2.length c0_2] 24 (0,0)) (by (with_reducible repeat first|apply Q1|apply Q2|apply Q3);refine blk_far ?_ NB119_121.out _;(with_reducible repeat first|apply Q1|apply Q2|apply Q3);refine blk_far ?_ NB119_121.out _;(with_reducible repeat first|apply Q1|apply Q2|apply Q3);exact BK119.out) hb);have n2_:=Aside0.mk (blk_below (g:=gb120) (o:=.cells #[.string (⟨#[]⟩:ByteArray),.string (⟨#[]⟩:ByteArray),.slice none 0 0] 30 (0,0)) (by (with_reducible repeat first|apply Q1|apply Q2|apply Q3);refine blk_far ?_ NB120_121.out _;(with_reducible repeat first|apply Q1|apply Q2|apply Q3);refine blk_far ?_ NB120_121.out _;(with_reducible repeat first|apply Q1|apply Q2|apply Q3);exact BK120.out) hb);have n3_:=Aside0.mk (blk_below (g:=gb121) (o:=.cells #[.string a0_0,.string a0_1,.slice none 0 0] 30 (0,0)) (by (with_reducible repeat first|apply Q1|apply Q2|apply Q3);refine blk_put (cs:=#[.string a0_0,.string (⟨#[]⟩:ByteArray),.slice none 0 0]) ?_ 1 _ rfl;(with_reducible repeat first|apply Q1|apply Q2|apply Q3);refine blk_put (cs:=#[.string (⟨#[]⟩:ByteArray),.string (⟨#[]⟩:ByteArray),.slice none 0 0]) ?_ 0 _ rfl;(with_reducible repeat first|apply Q1|apply Q2|apply Q3);exact BK121.out) hb);replace HB:=Aside0.mk (below_step (hb3 GE119.out GE120.out GE121.out) hb);clear BK119;clear BK120;clear BK121;have HO124:=n0_;have BK119:=n1_;have BK120:=n2_;have BK121:=n3_;clear n0_ n1_ n2_ n3_;(try clear hb);(try clear hb2);(try clear hk);(try clear hi);(try clear ho0);obtain ⟨Ao12,co12,eo12⟩:=Kd.R_slice HO124.out;subst eo12;obtain ⟨Z13_0,Z13_1,Z13_2,Y13_0,Y13_1,Y13_2⟩:=cel3 BK121.out;obtain ⟨Z14_0,Z14_1,Z14_2,Y14_0,Y14_1,Y14_2⟩:=cel3 BK120.out))
 refine bodyPost_ret (results_cell_row rfl _ _ gb120 30 #[.string a0_0,.string a0_1,.slice Ao12 t122.length co12] (0,0) _ rfl (by (with_reducible repeat first|apply Q1|apply Q2|apply Q3);refine blk_put (cs:=#[.string a0_0,.string a0_1,.slice none 0 0]) ?_ 2 _ rfl;(with_reducible repeat first|apply Q1|apply Q2|apply Q3);refine blk_put (cs:=#[.string a0_0,.string (⟨#[]⟩:ByteArray),.slice none 0 0]) ?_ 1 _ rfl;(with_reducible repeat first|apply Q1|apply Q2|apply Q3);refine blk_put (cs:=#[.string (⟨#[]⟩:ByteArray),.string (⟨#[]⟩:ByteArray),.slice none 0 0]) ?_ 0 _ rfl;(with_reducible repeat first|apply Q1|apply Q2|apply Q3);refine blk_far ?_ NB120_121.out _;(with_reducible repeat first|apply Q1|apply Q2|apply Q3);exact BK120.out) Try.underlying30 rfl (by kernel_rfl)) rfl ?_
 exact ⟨_,rf,by (with_reducible repeat (first|apply Kd.R_alloc|apply Kd.R_drewN|apply Kd.R_drew));exact Kd.R_mono (Kd.R_far (p:=⟨gb120,2,none⟩) (Kd.R_far (p:=⟨gb120,1,none⟩) (Kd.R_far (p:=⟨gb120,0,none⟩) (Kd.R_far (p:=⟨gb121,2,none⟩) (Kd.R_types (Kd.R_types HO124.out BK121.out (by decide)) BK120.out (by decide)) (fun _ hk=>hk.1.2) (.slice Ao12 t122.length co12)) (fun _ hk=>hk.2) (.string a0_0)) (fun _ hk=>hk.2) (.string a0_1)) (fun _ hk=>hk.2) (.slice Ao12 t122.length co12)) (fun _ hk=>trivial),hb3 GE119.out GE120.out GE121.out⟩
def laws_eqSymbol.f (a0_0:ByteArray) (a0_1:Int) (a0_2:Int) (a0_3:Int) (a0_4:Int) (a1_0:ByteArray) (a1_1:Int) (a1_2:Int) (a1_3:Int) (a1_4:Int):Option (Bool):=if a0_0.toList=a1_0.toList then (if a0_1=a1_1 then (if a0_2=a1_2 then (if a0_3=a1_3 then (if a0_4=a1_4 then (some true) else (some false)) else (some false)) else (some false)) else (some false)) else (some false)
set_option maxHeartbeats 8000000 in
set_option maxRecDepth 100000 in
theorem laws_eqSymbol.calls (a0_0:ByteArray) (a0_1:Int) (a0_2:Int) (a0_3:Int) (a0_4:Int) (a1_0:ByteArray) (a1_1:Int) (a1_2:Int) (a1_3:Int) (a1_4:Int) (r:Bool) (w:World) (h:laws_eqSymbol.f a0_0 a0_1 a0_2 a0_3 a0_4 a1_0 a1_1 a1_2 a1_3 a1_4=some r) :
    Calls Try.prog 61 #[.agg #[.string a0_0,.int .i64 a0_1,.int .i64 a0_2,.int .i64 a0_3,.int .i64 a0_4],.agg #[.string a1_0,.int .i64 a1_1,.int .i64 a1_2,.int .i64 a1_3,.int .i64 a1_4]] w fun e w'=>e=.returned (.bool r)∧Below w.heap.size w w':=by
 have hu54:=Try.underlying54
 have HB:=Aside0.mk (Below.refl w.heap.size w)
 have H:(if a0_0.toList=a1_0.toList then (if a0_1=a1_1 then (if a0_2=a1_2 then (if a0_3=a1_3 then (if a0_4=a1_4 then (some true) else (some false)) else (some false)) else (some false)) else (some false)) else (some false))=some r:=h
 clear h
 by_cases c3:a0_0.toList=a1_0.toList
 ·rw [if_pos c3] at H
  obtain ⟨c3b0,c3b1⟩:=eqP c3
  clear c3
  by_cases c4:a0_1=a1_1
  ·rw [if_pos c4] at H
   obtain ⟨c4b0,c4b1⟩:=eqP c4
   clear c4
   by_cases c5:a0_2=a1_2
   ·rw [if_pos c5] at H
    obtain ⟨c5b0,c5b1⟩:=eqP c5
    clear c5
    by_cases c6:a0_3=a1_3
    ·rw [if_pos c6] at H
     obtain ⟨c6b0,c6b1⟩:=eqP c6
     clear c6
     by_cases c7:a0_4=a1_4
     ·rw [if_pos c7] at H
      obtain ⟨c7b0,c7b1⟩:=eqP c7
      clear c7
      obtain rfl:=Option.some.inj H
      go_enter Try.func61,Try.ntmps61
      go_wp2_with (first|(refine bv 2 #[.string a0_0,.int .i64 a0_1,.int .i64 a0_2,.int .i64 a0_3,.int .i64 a0_4] 54 ?_;intro gb125 hg w8 hbox hb;obtain ⟨n0_,n2_⟩:=bx0 hbx hb hg;have n1_:=Aside0.mk (hbox);clear HB;have HB:=n0_;have BK125:=n1_;have GW125:=n2_;have GE125:=n2_;clear n0_ n1_ n2_;clear hb hbox hg)|(refine bv 3 #[.string a1_0,.int .i64 a1_1,.int .i64 a1_2,.int .i64 a1_3,.int .i64 a1_4] 54 ?_;intro gb126 hg w9 hbox hb;obtain ⟨n1_,n3_⟩:=bx0 (hb1 GE125.out) hb hg;obtain ⟨n0_,n5_,n6_⟩:=bx3 (qx BK125.out) hb hg;have n2_:=Aside0.mk (hbox);clear BK125;clear HB;have BK125:=n0_;have HB:=n1_;have BK126:=n2_;have GW126:=n3_;have GE126:=n3_;have NB125_126:=n5_;have NB126_125:=n6_;clear n0_ n1_ n2_ n3_ n5_ n6_;clear hb hbox hg;have hnb10:=NB125_126.out;have hnc10:=NB126_125.out;obtain ⟨Z11_0,Z11_1,Z11_2,Z11_3,Z11_4,Y11_0,Y11_1,Y11_2,Y11_3,Y11_4⟩:=cel5 BK125.out;obtain ⟨Z12_0,Z12_1,Z12_2,Z12_3,Z12_4,Y12_0,Y12_1,Y12_2,Y12_3,Y12_4⟩:=cel5 BK126.out))
      go_ret
      exact ⟨rf,hb2 GE125.out GE126.out⟩
     rw [if_neg c7] at H
     obtain ⟨c7b0,c7b1⟩:=eqN c7
     obtain rfl:=Option.some.inj H
     go_enter Try.func61,Try.ntmps61
     go_wp2_with (first|(refine bv 2 #[.string a0_0,.int .i64 a0_1,.int .i64 a0_2,.int .i64 a0_3,.int .i64 a0_4] 54 ?_;intro gb125 hg w13 hbox hb;obtain ⟨n0_,n2_⟩:=bx0 hbx hb hg;have n1_:=Aside0.mk (hbox);clear HB;have HB:=n0_;have BK125:=n1_;have GW125:=n2_;have GE125:=n2_;clear n0_ n1_ n2_;clear hb hbox hg)|(refine bv 3 #[.string a1_0,.int .i64 a1_1,.int .i64 a1_2,.int .i64 a1_3,.int .i64 a1_4] 54 ?_;intro gb126 hg w14 hbox hb;obtain ⟨n1_,n3_⟩:=bx0 (hb1 GE125.out) hb hg;obtain ⟨n0_,n5_,n6_⟩:=bx3 (qx BK125.out) hb hg;have n2_:=Aside0.mk (hbox);clear BK125;clear HB;have BK125:=n0_;have HB:=n1_;have BK126:=n2_;have GW126:=n3_;have GE126:=n3_;have NB125_126:=n5_;have NB126_125:=n6_;clear n0_ n1_ n2_ n3_ n5_ n6_;clear hb hbox hg;have hnb15:=NB125_126.out;have hnc15:=NB126_125.out;obtain ⟨Z16_0,Z16_1,Z16_2,Z16_3,Z16_4,Y16_0,Y16_1,Y16_2,Y16_3,Y16_4⟩:=cel5 BK125.out;obtain ⟨Z17_0,Z17_1,Z17_2,Z17_3,Z17_4,Y17_0,Y17_1,Y17_2,Y17_3,Y17_4⟩:=cel5 BK126.out))
     go_ret
     exact ⟨rf,hb2 GE125.out GE126.out⟩
    rw [if_neg c6] at H
    obtain ⟨c6b0,c6b1⟩:=eqN c6
    obtain rfl:=Option.some.inj H
    go_enter Try.func61,Try.ntmps61
    go_wp2_with (first|(refine bv 2 #[.string a0_0,.int .i64 a0_1,.int .i64 a0_2,.int .i64 a0_3,.int .i64 a0_4] 54 ?_;intro gb125 hg w18 hbox hb;obtain ⟨n0_,n2_⟩:=bx0 hbx hb hg;have n1_:=Aside0.mk (hbox);clear HB;have HB:=n0_;have BK125:=n1_;have GW125:=n2_;have GE125:=n2_;clear n0_ n1_ n2_;clear hb hbox hg)|(refine bv 3 #[.string a1_0,.int .i64 a1_1,.int .i64 a1_2,.int .i64 a1_3,.int .i64 a1_4] 54 ?_;intro gb126 hg w19 hbox hb;obtain ⟨n1_,n3_⟩:=bx0 (hb1 GE125.out) hb hg;obtain ⟨n0_,n5_,n6_⟩:=bx3 (qx BK125.out) hb hg;have n2_:=Aside0.mk (hbox);clear BK125;clear HB;have BK125:=n0_;have HB:=n1_;have BK126:=n2_;have GW126:=n3_;have GE126:=n3_;have NB125_126:=n5_;have NB126_125:=n6_;clear n0_ n1_ n2_ n3_ n5_ n6_;clear hb hbox hg;have hnb20:=NB125_126.out;have hnc20:=NB126_125.out;obtain ⟨Z21_0,Z21_1,Z21_2,Z21_3,Z21_4,Y21_0,Y21_1,Y21_2,Y21_3,Y21_4⟩:=cel5 BK125.out;obtain ⟨Z22_0,Z22_1,Z22_2,Z22_3,Z22_4,Y22_0,Y22_1,Y22_2,Y22_3,Y22_4⟩:=cel5 BK126.out))
    go_ret
    exact ⟨rf,hb2 GE125.out GE126.out⟩
   rw [if_neg c5] at H
   obtain ⟨c5b0,c5b1⟩:=eqN c5
   obtain rfl:=Option.some.inj H
   go_enter Try.func61,Try.ntmps61
   go_wp2_with (first|(refine bv 2 #[.string a0_0,.int .i64 a0_1,.int .i64 a0_2,.int .i64 a0_3,.int .i64 a0_4] 54 ?_;intro gb125 hg w23 hbox hb;obtain ⟨n0_,n2_⟩:=bx0 hbx hb hg;have n1_:=Aside0.mk (hbox);clear HB;have HB:=n0_;have BK125:=n1_;have GW125:=n2_;have GE125:=n2_;clear n0_ n1_ n2_;clear hb hbox hg)|(refine bv 3 #[.string a1_0,.int .i64 a1_1,.int .i64 a1_2,.int .i64 a1_3,.int .i64 a1_4] 54 ?_;intro gb126 hg w24 hbox hb;obtain ⟨n1_,n3_⟩:=bx0 (hb1 GE125.out) hb hg;obtain ⟨n0_,n5_,n6_⟩:=bx3 (qx BK125.out) hb hg;have n2_:=Aside0.mk (hbox);clear BK125;clear HB;have BK125:=n0_;have HB:=n1_;have BK126:=n2_;have GW126:=n3_;have GE126:=n3_;have NB125_126:=n5_;have NB126_125:=n6_;clear n0_ n1_ n2_ n3_ n5_ n6_;clear hb hbox hg;have hnb25:=NB125_126.out;have hnc25:=NB126_125.out;obtain ⟨Z26_0,Z26_1,Z26_2,Z26_3,Z26_4,Y26_0,Y26_1,Y26_2,Y26_3,Y26_4⟩:=cel5 BK125.out;obtain ⟨Z27_0,Z27_1,Z27_2,Z27_3,Z27_4,Y27_0,Y27_1,Y27_2,Y27_3,Y27_4⟩:=cel5 BK126.out))
   go_ret
   exact ⟨rf,hb2 GE125.out GE126.out⟩
  rw [if_neg c4] at H
  obtain ⟨c4b0,c4b1⟩:=eqN c4
  obtain rfl:=Option.some.inj H
  go_enter Try.func61,Try.ntmps61
  go_wp2_with (first|(refine bv 2 #[.string a0_0,.int .i64 a0_1,.int .i64 a0_2,.int .i64 a0_3,.int .i64 a0_4] 54 ?_;intro gb125 hg w28 hbox hb;obtain ⟨n0_,n2_⟩:=bx0 hbx hb hg;have n1_:=Aside0.mk (hbox);clear HB;have HB:=n0_;have BK125:=n1_;have GW125:=n2_;have GE125:=n2_;clear n0_ n1_ n2_;clear hb hbox hg)|(refine bv 3 #[.string a1_0,.int .i64 a1_1,.int .i64 a1_2,.int .i64 a1_3,.int .i64 a1_4] 54 ?_;intro gb126 hg w29 hbox hb;obtain ⟨n1_,n3_⟩:=bx0 (hb1 GE125.out) hb hg;obtain ⟨n0_,n5_,n6_⟩:=bx3 (qx BK125.out) hb hg;have n2_:=Aside0.mk (hbox);clear BK125;clear HB;have BK125:=n0_;have HB:=n1_;have BK126:=n2_;have GW126:=n3_;have GE126:=n3_;have NB125_126:=n5_;have NB126_125:=n6_;clear n0_ n1_ n2_ n3_ n5_ n6_;clear hb hbox hg;have hnb30:=NB125_126.out;have hnc30:=NB126_125.out;obtain ⟨Z31_0,Z31_1,Z31_2,Z31_3,Z31_4,Y31_0,Y31_1,Y31_2,Y31_3,Y31_4⟩:=cel5 BK125.out;obtain ⟨Z32_0,Z32_1,Z32_2,Z32_3,Z32_4,Y32_0,Y32_1,Y32_2,Y32_3,Y32_4⟩:=cel5 BK126.out))
  go_ret
  exact ⟨rf,hb2 GE125.out GE126.out⟩
 rw [if_neg c3] at H
 obtain ⟨c3b0,c3b1⟩:=eqN c3
 obtain rfl:=Option.some.inj H
 go_enter Try.func61,Try.ntmps61
 go_wp2_with (first|(refine bv 2 #[.string a0_0,.int .i64 a0_1,.int .i64 a0_2,.int .i64 a0_3,.int .i64 a0_4] 54 ?_;intro gb125 hg w33 hbox hb;obtain ⟨n0_,n2_⟩:=bx0 hbx hb hg;have n1_:=Aside0.mk (hbox);clear HB;have HB:=n0_;have BK125:=n1_;have GW125:=n2_;have GE125:=n2_;clear n0_ n1_ n2_;clear hb hbox hg)|(refine bv 3 #[.string a1_0,.int .i64 a1_1,.int .i64 a1_2,.int .i64 a1_3,.int .i64 a1_4] 54 ?_;intro gb126 hg w34 hbox hb;obtain ⟨n1_,n3_⟩:=bx0 (hb1 GE125.out) hb hg;obtain ⟨n0_,n5_,n6_⟩:=bx3 (qx BK125.out) hb hg;have n2_:=Aside0.mk (hbox);clear BK125;clear HB;have BK125:=n0_;have HB:=n1_;have BK126:=n2_;have GW126:=n3_;have GE126:=n3_;have NB125_126:=n5_;have NB126_125:=n6_;clear n0_ n1_ n2_ n3_ n5_ n6_;clear hb hbox hg;have hnb35:=NB125_126.out;have hnc35:=NB126_125.out;obtain ⟨Z36_0,Z36_1,Z36_2,Z36_3,Z36_4,Y36_0,Y36_1,Y36_2,Y36_3,Y36_4⟩:=cel5 BK125.out;obtain ⟨Z37_0,Z37_1,Z37_2,Z37_3,Z37_4,Y37_0,Y37_1,Y37_2,Y37_3,Y37_4⟩:=cel5 BK126.out))
 go_ret
 exact ⟨rf,hb2 GE125.out GE126.out⟩
end Go.Proofs.Ythepmdlpjdlajaa.PFnExactLintImage
