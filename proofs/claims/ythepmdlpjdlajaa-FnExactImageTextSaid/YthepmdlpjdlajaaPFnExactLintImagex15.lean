-- Written by a program for this claim.
import Derived.Test.YthepmdlpjdlajaaPFnExactLintImagex0
import Derived.Test.YthepmdlpjdlajaaPFnExactLintImagex11
import Derived.Test.YthepmdlpjdlajaaPFnExactLintImagex12
import Derived.Test.YthepmdlpjdlajaaPFnExactLintImagex13
import Derived.Test.YthepmdlpjdlajaaPFnExactLintImagex14
namespace Go.Proofs.Ythepmdlpjdlajaa.PFnExactLintImage
open Go.RowKit Go.Proofs.YthepmdlpjdlajaaW.PrintWords Go.Proofs.YthepmdlpjdlajaaW.PrintLast Go.Proofs.YthepmdlpjdlajaaW.PrintMore
attribute [local go_sem] max2_int min2_int max_two min_two max_three min_three max_four min_four   -- for this text's walks alone
set_option linter.unusedVariables false
set_option linter.unusedSimpArgs false
mutual
def spec_l07Lint.j0:Nat→Bool→ByteArray→ByteArray→List (S54)→Option (Int × Int × Int)
  | 0,_,_,_,_=>none
  | k+1,x25,x322000,x322001,x322002=>if x25=true then (some (0,0,8)) else ((spec_l07Symbols.f k x322000 x322001 x322002).bind fun bt322=>(if bt322.2=0 then ((spec_l07Entries.f k x322002).bind fun t324=>(spec_l07Lint.l0 k t324 0 x322000 x322001 x322002)) else (some (bt322.1,0,bt322.2))))
def spec_l07Lint.l0:Nat→List Int→Int→ByteArray→ByteArray→List (S54)→Option (Int × Int × Int)
  | 0,_,_,_,_,_=>none
  | k+1,x7,x8,x322000,x322001,x322002=>if x8 < (x322002.length:Int) then (if 0≤x8 then (if ((rd_T54 x322002 x8).f1)=1 then (if 0≤((rd_T54 x322002 x8).f2) then (if ((rd_T54 x322002 x8).f2)≤(wrap64 (((rd_T54 x322002 x8).f2)+((rd_T54 x322002 x8).f3))) then (if (wrap64 (((rd_T54 x322002 x8).f2)+((rd_T54 x322002 x8).f3)))≤(x322000.size:Int) then ((spec_l07Place.f ((rd_T54 x322002 x8).f0) ((rd_T54 x322002 x8).f1) ((rd_T54 x322002 x8).f2) ((rd_T54 x322002 x8).f3) ((rd_T54 x322002 x8).f4)).bind fun t329=>((spec_l06Lint.f k (x322000.extract (((rd_T54 x322002 x8).f2):Int).toNat ((wrap64 (((rd_T54 x322002 x8).f2)+((rd_T54 x322002 x8).f3))):Int).toNat) t329 ((rd_T54 x322002 x8).f4) x7).bind fun bt330=>(if bt330.2=0 then (spec_l07Lint.l0 k x7 (wrap64 (x8+1)) x322000 x322001 x322002) else (some (x8,bt330.1,bt330.2))))) else (none)) else (none)) else (none)) else (spec_l07Lint.l0 k x7 (wrap64 (x8+1)) x322000 x322001 x322002)) else (none)) else (some (0,0,0))
end
def spec_l07Lint.f (k:Nat) (a0_0:ByteArray) (a0_1:ByteArray) (l0_2:List (S54)):Option (Int × Int × Int):=if (l0_2.length:Int) > 16 then (some (0,0,6)) else (if (a0_0.size:Int) > 1024 then (spec_l07Lint.j0 k true a0_0 a0_1 l0_2) else (spec_l07Lint.j0 k (decide ((a0_1.size:Int) > 256)) a0_0 a0_1 l0_2))
theorem spec_l07Lint.mono_l : ∀ k,(∀ y0 y1 y2 y3,LeO (spec_l07Lint.j0 k y0 y1 y2 y3) (spec_l07Lint.j0 (k+1) y0 y1 y2 y3))∧(∀ y0 y1 y2 y3 y4,LeO (spec_l07Lint.l0 k y0 y1 y2 y3 y4) (spec_l07Lint.l0 (k+1) y0 y1 y2 y3 y4))
  | 0=>⟨fun _ _ _ _ r h=>by simp [spec_l07Lint.j0] at h,fun _ _ _ _ _ r h=>by simp [spec_l07Lint.l0] at h⟩
  | k+1=>by
    obtain ⟨ih0,ih1⟩:=spec_l07Lint.mono_l k
    refine ⟨?_,?_⟩<;>intros<;>(first|unfold spec_l07Lint.j0|unfold spec_l07Lint.l0)<;>repeat' (with_reducible first|apply ih0|apply ih1|apply spec_l06Lint.mono|apply spec_l07Entries.mono|apply spec_l07Symbols.mono|apply LeO.refl|apply LeO.none|apply LeO.ite|refine LeO.bind ?_ (fun _=>?_))
theorem spec_l07Lint.mono : ∀ a0 a1 a2 k,LeO (spec_l07Lint.f k a0 a1 a2) (spec_l07Lint.f (k+1) a0 a1 a2):=by
 intro a0 a1 a2 k
 obtain ⟨ih0,ih1⟩:=spec_l07Lint.mono_l k
 unfold spec_l07Lint.f
 repeat' (with_reducible first|apply ih0|apply ih1|apply spec_l06Lint.mono|apply spec_l07Entries.mono|apply spec_l07Symbols.mono|apply LeO.refl|apply LeO.none|apply LeO.ite|refine LeO.bind ?_ (fun _=>?_))
def spec_l07Lint.T14:Bool × List (List Nat × List Nat):=(true,[([],[]),([0],[0]),([],[]),([2],[2]),([],[]),([4],[4]),([],[]),([6],[6]),([5,7],[5,7]),([1,3,8],[1,3,8]),([],[]),([10],[10]),([],[]),([12],[12]),([],[]),([9,11,13,14,11],[9,11,13,14]),([15],[15]),([16],[16]),([16],[16]),([17,15,0,1,2,3,4,5,6,7,8,9,10,11,12,13,14,15,16,17],[17]),([18,19,0,1,2,3,4,5,6,7,8,9,10,11,12,13,14,15,16,17,18,19],[18])])
def spec_l07Lint.B14:List Nat:=[0,1,0,4,0,16,0,64,240,511,0,1024,0,4096,0,32767,65535,131071,131071,262143,1048575]
theorem spec_l07Lint.tab14:rtab .any (opsOf Try.f51 14)=spec_l07Lint.T14:=by kernel_rfl
theorem spec_l07Lint.bits14:waitsOk spec_l07Lint.T14.2 spec_l07Lint.B14=true:=by kernel_rfl
set_option maxHeartbeats 8000000 in
set_option maxRecDepth 100000 in
theorem spec_l07Lint.calls (k:Nat) (a0_0:ByteArray) (a0_1:ByteArray) (A0_2:Option Addr) (c0_2:Nat) (l0_2:List (S54)) (r1:Int) (r2:Int) (r3:Int) (w:World) (hr0_2:Kd.C k54 w A0_2 l0_2.length l0_2) (hc0_2:l0_2.length≤c0_2) (h:spec_l07Lint.f k a0_0 a0_1 l0_2=some (r1,r2,r3)) :
    Calls Try.prog 51 #[.agg #[.string a0_0,.string a0_1,.slice A0_2 l0_2.length c0_2]] w fun e w'=>e=.returned (.tuple #[.int .i64 r1,.int .i64 r2,.int .i64 r3])∧Below w.heap.size w w':=by
 have hu30:=Try.underlying30
 have hu54:=Try.underlying54
 have HR0_2:=Aside0.mk hr0_2
 have HC0_2:=Aside0.mk hc0_2
 clear hr0_2 hc0_2
 have HB:=Aside0.mk (Below.refl w.heap.size w)
 have H:(if (l0_2.length:Int) > 16 then (some (0,0,6)) else (if (a0_0.size:Int) > 1024 then (spec_l07Lint.j0 k true a0_0 a0_1 l0_2) else (spec_l07Lint.j0 k (decide ((a0_1.size:Int) > 256)) a0_0 a0_1 l0_2)))=some (r1,r2,r3):=h
 clear h
 by_cases c2:(l0_2.length:Int) > 16
 ·rw [if_pos c2] at H
  have c2b0:decide (16 < (l0_2.length:Int))=true:=decide_eq_true c2
  have c2b1:decide (16 < l0_2.length)=true:=decide_eq_true (by omega)
  clear c2
  simp only [Option.some.injEq,Prod.mk.injEq] at H
  obtain ⟨rfl,rfl,rfl⟩:=H
  go_enter Try.func51,Try.ntmps51
  go_wp2_with (first|((with_reducible refine gate_dst (N:=1) rfl ?_);(try (refine gate_guard (by rfl) ?_;dsimp only));refine box_event ?hg (N:=1) ?hd (cs:=#[.string a0_0,.string a0_1,.slice A0_2 l0_2.length c0_2]) (t:=30) ?hr ?_;(case hd=>rfl);(case hg=>rfl);(case hr=>first|(go_simp;done)|(go_simp;rfl));intro gb321 hg w3 hbox hb;obtain ⟨n0_,n2_⟩:=bx0 hbx hb hg;have n1_:=Aside0.mk (hbox);clear HB;have HB:=n0_;have BK321:=n1_;have GW321:=n2_;have GE321:=n2_;clear n0_ n1_ n2_;clear hb hbox hg;obtain ⟨Z4_0,Z4_1,Z4_2,Y4_0,Y4_1,Y4_2⟩:=cel3 BK321.out))
  go_ret3
  exact ⟨rf,hb1 GE321.out⟩
 rw [if_neg c2] at H
 have c2b0:decide (16 < (l0_2.length:Int))=false:=decide_eq_false c2
 have c2b1:decide (16 < l0_2.length)=false:=decide_eq_false (by omega)
 clear c2
 have HC5:=Aside0.mk H
 clear H
 go_enter Try.func51,Try.ntmps51
 go_upto_region 3 with (first|((with_reducible refine gate_dst (N:=1) rfl ?_);(try (refine gate_guard (by rfl) ?_;dsimp only));refine box_event ?hg (N:=1) ?hd (cs:=#[.string a0_0,.string a0_1,.slice A0_2 l0_2.length c0_2]) (t:=30) ?hr ?_;(case hd=>rfl);(case hg=>rfl);(case hr=>first|(go_simp;done)|(go_simp;rfl));intro gb321 hg w6 hbox hb;obtain ⟨n0_,n2_⟩:=bx0 hbx hb hg;have n1_:=Aside0.mk (hbox);clear HB;have HB:=n0_;have BK321:=n1_;have GW321:=n2_;have GE321:=n2_;clear n0_ n1_ n2_;clear hb hbox hg;obtain ⟨Z7_0,Z7_1,Z7_2,Y7_0,Y7_1,Y7_2⟩:=cel3 BK321.out))
 (try simp only [Act.put,List.setIfInBounds_toArray,List.set_cons_zero,List.set_cons_succ])
 go_cut [25] (fun v25 wc=>∃ (kq:Nat) (x25_4:Bool),v25=.bool x25_4∧Aside0 (spec_l07Lint.j0 kq x25_4 a0_0 a0_1 l0_2=some (r1,r2,r3))∧Aside0 (kq≤k)∧Aside0 (wc.heap[gb321]?=some (.cells #[.string a0_0,.string a0_1,(.slice A0_2 l0_2.length c0_2)] 30 (0,0)))∧Aside0 (Below w.heap.size w wc))
 case first=>
  have H:=HC5.out
  clear HC5
  by_cases c8:(a0_0.size:Int) > 1024
  ·rw [if_pos c8] at H
   have c8b0:decide (1024 < (a0_0.size:Int))=true:=decide_eq_true c8
   have c8b1:decide (1024 < a0_0.size)=true:=decide_eq_true (by omega)
   clear c8
   (first|rw [c8b0]|(simp only [i64_w,i32_w];rw [c8b0])|skip)
   have H':=Aside0.mk H
   clear H
   obtain ⟨Z9_0,Z9_1,Z9_2,Y9_0,Y9_1,Y9_2⟩:=cel3 BK321.out
   go_wp2
   go_meet
   case rel=>exact ⟨_,(true),rs,H',⟨by first|omega|exact Nat.le_refl _⟩,⟨qx BK321.out⟩,⟨hb1 GE321.out⟩⟩
  rw [if_neg c8] at H
  have c8b0:decide (1024 < (a0_0.size:Int))=false:=decide_eq_false c8
  have c8b1:decide (1024 < a0_0.size)=false:=decide_eq_false (by omega)
  clear c8
  (first|rw [c8b0]|(simp only [i64_w,i32_w];rw [c8b0])|skip)
  have H':=Aside0.mk H
  clear H
  obtain ⟨Z10_0,Z10_1,Z10_2,Y10_0,Y10_1,Y10_2⟩:=cel3 BK321.out
  go_wp2
  go_meet
  case rel=>exact ⟨_,(decide ((a0_1.size:Int) > 256)),rs,H',⟨by first|omega|exact Nat.le_refl _⟩,⟨qx BK321.out⟩,⟨hb1 GE321.out⟩⟩
 clear HC5
 try clear c2b0
 try clear c2b1
 try clear Z7_0 Z7_1 Z7_2 Y7_0 Y7_1 Y7_2
 obtain ⟨kq,x25_4,rfl,HA,HJ4,BK321,HB⟩:=hcut
 cases kq with
 | zero=>exact absurd HA.out (by simp [spec_l07Lint.j0])
 | succ kj4 =>
  have H:=HA.out
  clear HA
  simp only [spec_l07Lint.j0] at H
  by_cases c11:x25_4=true
  ·subst c11
   rw [if_pos rfl] at H
   simp only [Option.some.injEq,Prod.mk.injEq] at H
   obtain ⟨rfl,rfl,rfl⟩:=H
   go_wp2
   go_ret3
   exact ⟨rf,hb1 GE321.out⟩
  replace c11:=Bool.eq_false_iff.mpr c11
  subst c11
  rw [if_neg (show ¬ (false=true) by decide)] at H
  obtain ⟨⟨t322,t323⟩,A12,H⟩:=bindA H
  try dsimp only at H
  by_cases c13:t323=0
  ·rw [if_pos c13] at H
   obtain ⟨c13b0,c13b1⟩:=eqP c13
   clear c13
   obtain ⟨t324,A14,H⟩:=bindA H
   have H':=Aside0.mk H
   clear H
   obtain ⟨Z15_0,Z15_1,Z15_2,Y15_0,Y15_1,Y15_2⟩:=cel3 BK321.out
   go_wp2_with (first|(refine gl 82 28 Try.func82 #[.agg #[.string a0_0,.string a0_1,.slice A0_2 l0_2.length c0_2]] ?_;(with_reducible refine (spec_l07Symbols.calls kj4 a0_0 a0_1 _ _ l0_2 t322 t323 _ ?side1 ?side2 A12.out).mono ?_);(case side1=>exact kc HR0_2.out);(case side2=>exact HC0_2.out);rintro e w16 ⟨rfl,hb⟩;refine ⟨_,rfl,?_⟩;have n0_:=Aside0.mk (blk_below (qx BK321.out) hb);replace HB:=Aside0.mk (below_step (hb1 GE321.out) hb);clear BK321;have BK321:=n0_;clear n0_;(try clear hb);(try clear hb2);(try clear hk);(try clear hi);obtain ⟨Z17_0,Z17_1,Z17_2,Y17_0,Y17_1,Y17_2⟩:=cel3 BK321.out)|(refine gl 83 37 Try.func83 #[.slice A0_2 l0_2.length c0_2] ?_;(with_reducible refine (spec_l07Entries.calls kj4 _ _ l0_2 t324 _ ?side1 ?side2 A14.out).mono ?_);(case side1=>exact kc HR0_2.out);(case side2=>exact HC0_2.out);rintro e w18 ⟨v325,rfl,ho0,hb⟩;refine ⟨_,rfl,?_⟩;have n0_:=Aside0.mk (Kd.R_lower ho0 (below_size (hb1 GE321.out)));have n1_:=Aside0.mk (blk_below (qx BK321.out) hb);replace HB:=Aside0.mk (below_step (hb1 GE321.out) hb);clear BK321;have HO326:=n0_;have BK321:=n1_;clear n0_ n1_;(try clear hb);(try clear hb2);(try clear hk);(try clear hi);(try clear ho0)))
   go_loopg [8] kj4 (fun kq v8 w'=>∃ (x8_2:Int),v8=.int .i64 x8_2∧Aside0 (spec_l07Lint.l0 kq t324 x8_2 a0_0 a0_1 l0_2=some (r1,r2,r3))∧Aside0 (kq≤kj4)∧Aside0 (Kd.R (Kd.int .i64) 3 w' w.heap.size (fun _=>True) v325 t324)∧Aside0 (w'.heap[gb321]?=some (.cells #[.string a0_0,.string a0_1,(.slice A0_2 l0_2.length c0_2)] 30 (0,0)))∧Aside0 (Below w.heap.size w w'))
   case atStart=>exact ⟨(0),rs,H',⟨Nat.le_refl _⟩,⟨kr HO326.out⟩,⟨qx BK321.out⟩,⟨hb1 GE321.out⟩⟩
   clear H'
   try clear c11
   try clear c13b0 c13b1
   try clear Z15_0
   try clear Z15_1
   try clear Z15_2
   try clear Z17_0 Z17_1 Z17_2
   try clear Y15_0
   try clear Y15_1
   try clear Y15_2
   try clear Y17_0 Y17_1 Y17_2
   obtain ⟨x8_2,rfl,HA,HK2,HO_7,BK321,HB⟩:=hrel
   cases gk with
   | zero=>exact absurd HA.out (by simp [spec_l07Lint.l0])
   | succ k2 =>
    have H:=HA.out
    clear HA
    simp only [spec_l07Lint.l0] at H
    by_cases c19:x8_2 < (l0_2.length:Int)
    ·rw [if_pos c19] at H
     have c19b0:decide (x8_2 < (l0_2.length:Int))=true:=decide_eq_true c19
     clear c19
     by_cases c20:0≤x8_2
     ·rw [if_pos c20] at H
      have c20b0:decide (0≤x8_2)=true:=decide_eq_true c20
      clear c20
      by_cases c21:((rd_T54 l0_2 x8_2).f1)=1
      ·rw [if_pos c21] at H
       obtain ⟨c21b0,c21b1⟩:=eqP c21
       clear c21
       by_cases c22:0≤((rd_T54 l0_2 x8_2).f2)
       ·rw [if_pos c22] at H
        have c22b0:=eq_true c22
        have c22b1:decide (0≤((rd_T54 l0_2 x8_2).f2))=true:=decide_eq_true c22
        clear c22
        by_cases c23:((rd_T54 l0_2 x8_2).f2)≤(wrap64 (((rd_T54 l0_2 x8_2).f2)+((rd_T54 l0_2 x8_2).f3)))
        ·rw [if_pos c23] at H
         have c23b0:=eq_true c23
         have c23b1:decide (((rd_T54 l0_2 x8_2).f2)≤(wrap64 (((rd_T54 l0_2 x8_2).f2)+((rd_T54 l0_2 x8_2).f3))))=true:=decide_eq_true c23
         by_cases c24:(wrap64 (((rd_T54 l0_2 x8_2).f2)+((rd_T54 l0_2 x8_2).f3)))≤(a0_0.size:Int)
         ·rw [if_pos c24] at H
          have c24b0:=eq_true c24
          have c24b1:decide ((wrap64 (((rd_T54 l0_2 x8_2).f2)+((rd_T54 l0_2 x8_2).f3)))≤(a0_0.size:Int))=true:=decide_eq_true c24
          obtain ⟨t329,A25,H⟩:=bindA H
          obtain ⟨⟨t330,t331⟩,A26,H⟩:=bindA H
          try dsimp only at H
          by_cases c27:t331=0
          ·rw [if_pos c27] at H
           obtain ⟨c27b0,c27b1⟩:=eqP c27
           clear c27
           have H':=Aside0.mk H
           clear H
           obtain ⟨Z28_0,Z28_1,Z28_2,Y28_0,Y28_1,Y28_2⟩:=cel3 BK321.out
           have p327:0≤(x8_2:Int):=od
           have q327:x8_2 < (l0_2.length:Int):=od
           obtain ⟨ad327,e327,hx327_0,hx327_1,hx327_2,hx327_3,hx327_4⟩:=at_T54 HR0_2.out x8_2 p327 q327
           cases e327
           replace hx327_0:=cx HB.out hx327_0
           replace hx327_1:=cx HB.out hx327_1
           replace hx327_2:=cx HB.out hx327_2
           replace hx327_3:=cx HB.out hx327_3
           replace hx327_4:=cx HB.out hx327_4
           replace p327:=eq_true p327
           replace q327:=eq_true q327
           try go_wp2_with (first|((with_reducible refine gate_dst (N:=9) rfl ?_);(try (refine gate_guard (by rfl) ?_;dsimp only));refine box_event ?hg (N:=9) ?hd (cs:=#[.string (⟨#[]⟩:ByteArray),.int .i64 0,.int .i64 0,.int .i64 0,.int .i64 0]) (t:=54) ?hr ?_;(case hd=>rfl);(case hg=>rfl);(case hr=>first|(go_simp;done)|(go_simp;rfl));intro gb328 hg w29 hbox hb;obtain ⟨n2_,n4_⟩:=bx0 (hb1 GE321.out) hb hg;have n0_:=Aside0.mk (Kd.R_below (kr HO_7.out) hb);obtain ⟨n1_,n6_,n7_⟩:=bx3 (qx BK321.out) hb hg;have n3_:=Aside0.mk (hbox);clear HO_7;clear BK321;clear HB;have HO_7:=n0_;have BK321:=n1_;have HB:=n2_;have BK328:=n3_;have GW328:=n4_;have GE328:=n4_;have NB321_328:=n6_;have NB328_321:=n7_;clear n0_ n1_ n2_ n3_ n4_ n6_ n7_;clear hb hbox hg;have hnb30:=NB328_321.out;have hnc30:=NB321_328.out;obtain ⟨Z31_0,Z31_1,Z31_2,Z31_3,Z31_4,Y31_0,Y31_1,Y31_2,Y31_3,Y31_4⟩:=cel5 BK328.out))
           have n0_:Aside0 (Kd.R (Kd.int .i64) 3 (((((w29.setCell ⟨gb328,0,none⟩ (.string ((rd_T54 l0_2 x8_2).f0))).setCell ⟨gb328,1,none⟩ (.int .i64 ((rd_T54 l0_2 x8_2).f1))).setCell ⟨gb328,2,none⟩ (.int .i64 ((rd_T54 l0_2 x8_2).f2))).setCell ⟨gb328,3,none⟩ (.int .i64 ((rd_T54 l0_2 x8_2).f3))).setCell ⟨gb328,4,none⟩ (.int .i64 ((rd_T54 l0_2 x8_2).f4))) w.heap.size (fun _=>True) v325 t324):=⟨by (with_reducible repeat (first|apply Kd.R_alloc|apply Kd.R_drewN|apply Kd.R_drew));exact Kd.R_mono (Kd.R_far (p:=⟨gb328,4,none⟩) (Kd.R_far (p:=⟨gb328,3,none⟩) (Kd.R_far (p:=⟨gb328,2,none⟩) (Kd.R_far (p:=⟨gb328,1,none⟩) (Kd.R_far (p:=⟨gb328,0,none⟩) (Kd.R_types HO_7.out BK328.out (by decide)) (fun _ hk=>hk.2) (.string ((rd_T54 l0_2 x8_2).f0))) (fun _ hk=>hk.2) (.int .i64 ((rd_T54 l0_2 x8_2).f1))) (fun _ hk=>hk.2) (.int .i64 ((rd_T54 l0_2 x8_2).f2))) (fun _ hk=>hk.2) (.int .i64 ((rd_T54 l0_2 x8_2).f3))) (fun _ hk=>hk.2) (.int .i64 ((rd_T54 l0_2 x8_2).f4))) (fun _ hk=>trivial)⟩
           have n1_:Aside0 ((((((w29.setCell ⟨gb328,0,none⟩ (.string ((rd_T54 l0_2 x8_2).f0))).setCell ⟨gb328,1,none⟩ (.int .i64 ((rd_T54 l0_2 x8_2).f1))).setCell ⟨gb328,2,none⟩ (.int .i64 ((rd_T54 l0_2 x8_2).f2))).setCell ⟨gb328,3,none⟩ (.int .i64 ((rd_T54 l0_2 x8_2).f3))).setCell ⟨gb328,4,none⟩ (.int .i64 ((rd_T54 l0_2 x8_2).f4))).heap[gb321]?=some (.cells #[.string a0_0,.string a0_1,.slice (some ad327) l0_2.length c0_2] 30 (0,0))):=⟨qg NB321_328.out BK321.out⟩
           have n2_:Aside0 ((((((w29.setCell ⟨gb328,0,none⟩ (.string ((rd_T54 l0_2 x8_2).f0))).setCell ⟨gb328,1,none⟩ (.int .i64 ((rd_T54 l0_2 x8_2).f1))).setCell ⟨gb328,2,none⟩ (.int .i64 ((rd_T54 l0_2 x8_2).f2))).setCell ⟨gb328,3,none⟩ (.int .i64 ((rd_T54 l0_2 x8_2).f3))).setCell ⟨gb328,4,none⟩ (.int .i64 ((rd_T54 l0_2 x8_2).f4))).heap[gb328]?=some (.cells #[.string ((rd_T54 l0_2 x8_2).f0),.int .i64 ((rd_T54 l0_2 x8_2).f1),.int .i64 ((rd_T54 l0_2 x8_2).f2),.int .i64 ((rd_T54 l0_2 x8_2).f3),.int .i64 ((rd_T54 l0_2 x8_2).f4)] 54 (0,0))):=⟨by (with_reducible repeat first|apply Q1|apply Q2|apply Q3);refine blk_put (cs:=#[.string ((rd_T54 l0_2 x8_2).f0),.int .i64 ((rd_T54 l0_2 x8_2).f1),.int .i64 ((rd_T54 l0_2 x8_2).f2),.int .i64 ((rd_T54 l0_2 x8_2).f3),.int .i64 0]) ?_ 4 _ rfl;(with_reducible repeat first|apply Q1|apply Q2|apply Q3);refine blk_put (cs:=#[.string ((rd_T54 l0_2 x8_2).f0),.int .i64 ((rd_T54 l0_2 x8_2).f1),.int .i64 ((rd_T54 l0_2 x8_2).f2),.int .i64 0,.int .i64 0]) ?_ 3 _ rfl;(with_reducible repeat first|apply Q1|apply Q2|apply Q3);refine blk_put (cs:=#[.string ((rd_T54 l0_2 x8_2).f0),.int .i64 ((rd_T54 l0_2 x8_2).f1),.int .i64 0,.int .i64 0,.int .i64 0]) ?_ 2 _ rfl;(with_reducible repeat first|apply Q1|apply Q2|apply Q3);refine blk_put (cs:=#[.string ((rd_T54 l0_2 x8_2).f0),.int .i64 0,.int .i64 0,.int .i64 0,.int .i64 0]) ?_ 1 _ rfl;(with_reducible repeat first|apply Q1|apply Q2|apply Q3);refine blk_put (cs:=#[.string (⟨#[]⟩:ByteArray),.int .i64 0,.int .i64 0,.int .i64 0,.int .i64 0]) ?_ 0 _ rfl;(with_reducible repeat first|apply Q1|apply Q2|apply Q3);exact BK328.out⟩
           have n3_:Aside0 (Below w.heap.size w (((((w29.setCell ⟨gb328,0,none⟩ (.string ((rd_T54 l0_2 x8_2).f0))).setCell ⟨gb328,1,none⟩ (.int .i64 ((rd_T54 l0_2 x8_2).f1))).setCell ⟨gb328,2,none⟩ (.int .i64 ((rd_T54 l0_2 x8_2).f2))).setCell ⟨gb328,3,none⟩ (.int .i64 ((rd_T54 l0_2 x8_2).f3))).setCell ⟨gb328,4,none⟩ (.int .i64 ((rd_T54 l0_2 x8_2).f4)))):=⟨hb2 GE321.out GE328.out⟩
           try clear HO_7
           try clear BK321
           try clear BK328
           try clear HB
           generalize (((((w29.setCell ⟨gb328,0,none⟩ (.string ((rd_T54 l0_2 x8_2).f0))).setCell ⟨gb328,1,none⟩ (.int .i64 ((rd_T54 l0_2 x8_2).f1))).setCell ⟨gb328,2,none⟩ (.int .i64 ((rd_T54 l0_2 x8_2).f2))).setCell ⟨gb328,3,none⟩ (.int .i64 ((rd_T54 l0_2 x8_2).f3))).setCell ⟨gb328,4,none⟩ (.int .i64 ((rd_T54 l0_2 x8_2).f4)))=w32 at n0_ n1_ n2_ n3_ ⊢
           have HO_7:=n0_
           have BK321:=n1_
           have BK328:=n2_
           have HB:=n3_
           clear n0_ n1_ n2_ n3_
           replace HO_7:=Aside0.mk (Kd.R_drew HO_7.out);replace BK321:=Aside0.mk (blk_drew BK321.out);replace BK328:=Aside0.mk (blk_drew BK328.out);replace HB:=Aside0.mk (below_drew1 HB.out)
           refine start_ (n:=21) (S:=fun w'=>w'.cell? ⟨gb321,0,none⟩=some (.string a0_0)∧w'.cell? ⟨gb321,1,none⟩=some (.string a0_1)∧w'.cell? ⟨gb321,2,none⟩=some (.slice (some ad327) l0_2.length c0_2)∧w'.cell? ⟨gb328,0,none⟩=some (.string ((rd_T54 l0_2 x8_2).f0))∧w'.cell? ⟨gb328,1,none⟩=some (.int .i64 ((rd_T54 l0_2 x8_2).f1))∧w'.cell? ⟨gb328,2,none⟩=some (.int .i64 ((rd_T54 l0_2 x8_2).f2))∧w'.cell? ⟨gb328,3,none⟩=some (.int .i64 ((rd_T54 l0_2 x8_2).f3))∧w'.cell? ⟨gb328,4,none⟩=some (.int .i64 ((rd_T54 l0_2 x8_2).f4))) (ds:=[]) #[false,false,false,false,false,false,false,false,false,false,false,false,false,false,false,false,false,false,false,false,false] (by kernel_rfl) rfl rfl ⟨(blk_cell BK321.out 0).trans rfl,(blk_cell BK321.out 1).trans rfl,(blk_cell BK321.out 2).trans rfl,(blk_cell BK328.out 0).trans rfl,(blk_cell BK328.out 1).trans rfl,(blk_cell BK328.out 2).trans rfl,(blk_cell BK328.out 3).trans rfl,(blk_cell BK328.out 4).trans rfl⟩ (fun hHeld=>?_);refine with_tabW spec_l07Lint.tab14 spec_l07Lint.bits14 (fun HT_ HW_=>?_)
           generalize w32.drew=w33 at HO_7 BK321 BK328 HB hHeld ⊢
           refine pu 0 54 #[true,false,false,false,false,false,false,false,false,false,false,false,false,false,false,false,false,false,false,false,false] ?_
           refine pu 2 56 #[true,false,true,false,false,false,false,false,false,false,false,false,false,false,false,false,false,false,false,false,false] ?_
           refine pu 4 58 #[true,false,true,false,true,false,false,false,false,false,false,false,false,false,false,false,false,false,false,false,false] ?_
           refine pu 6 60 #[true,false,true,false,true,false,true,false,false,false,false,false,false,false,false,false,false,false,false,false,false] ?_
           refine pu 12 66 #[true,false,true,false,true,false,true,false,false,false,false,false,true,false,false,false,false,false,false,false,false] ?_
           refine pu 14 68 #[true,false,true,false,true,false,true,false,false,false,false,false,true,false,true,false,false,false,false,false,false] ?_
           refine tk8 1 55 #[true,true,true,false,true,false,true,false,false,false,false,false,true,false,true,false,false,false,false,false,false] hHeld ?_
           refine tk8 3 57 #[true,true,true,true,true,false,true,false,false,false,false,false,true,false,true,false,false,false,false,false,false] hHeld ?_
           refine tk8 5 59 #[true,true,true,true,true,true,true,false,false,false,false,false,true,false,true,false,false,false,false,false,false] hHeld ?_
           refine tk8 7 61 #[true,true,true,true,true,true,true,true,false,false,false,false,true,false,true,false,false,false,false,false,false] hHeld ?_
           refine pu 8 62 #[true,true,true,true,true,true,true,true,true,false,false,false,true,false,true,false,false,false,false,false,false] ?_
           refine pu 9 63 #[true,true,true,true,true,true,true,true,true,true,false,false,true,false,true,false,false,false,false,false,false] ?_
           refine tk8 10 64 #[true,true,true,true,true,true,true,true,true,true,true,false,true,false,true,false,false,false,false,false,false] hHeld ?_
           refine tk8 13 67 #[true,true,true,true,true,true,true,true,true,true,true,false,true,true,true,false,false,false,false,false,false] hHeld ?_
           refine one_ (i:=11) (N:=some 65) #[true,true,true,true,true,true,true,true,true,true,true,true,true,true,true,false,false,false,false,false,false] rfl rfl (one_of HT_.out (by kernel_rfl)) (by decide) (fun K hK=>?_)
           refine goes_ Try.func55 (by kernel_rfl) rfl #[.agg #[.string ((rd_T54 l0_2 x8_2).f0),.int .i64 ((rd_T54 l0_2 x8_2).f1),.int .i64 ((rd_T54 l0_2 x8_2).f2),.int .i64 ((rd_T54 l0_2 x8_2).f3),.int .i64 ((rd_T54 l0_2 x8_2).f4)]] (by rfl) rfl rfl (mp_ rfl) ?_
           with_reducible refine (spec_l07Place.calls ((rd_T54 l0_2 x8_2).f0) ((rd_T54 l0_2 x8_2).f1) ((rd_T54 l0_2 x8_2).f2) ((rd_T54 l0_2 x8_2).f3) ((rd_T54 l0_2 x8_2).f4) t329 _ A25.out).mono ?_
           rintro e w34 ⟨rfl,hb⟩
           refine ⟨_,rfl,?_⟩
           replace HO_7:=Aside0.mk (Kd.R_below (kr HO_7.out) hb);replace BK321:=Aside0.mk (blk_below (qx BK321.out) hb);replace BK328:=Aside0.mk (blk_below (qx BK328.out) hb);replace HB:=Aside0.mk (below_step (hb2 GE321.out GE328.out) hb)
           try clear hb
           try clear hb2
           try clear hk
           try clear hi
           obtain ⟨Ao35,co35,eo35⟩:=Kd.R_slice HO_7.out
           (first|subst eo35|(injection eo35 with f1_ f2_ f3_;have f4_:=f1_.symm;have f5_:=f3_.symm;clear f1_ f2_ f3_;subst f4_;subst f5_))
           refine hK.out _ _ ⟨(blk_cell BK321.out 0).trans rfl,(blk_cell BK321.out 1).trans rfl,(blk_cell BK321.out 2).trans rfl,(blk_cell BK328.out 0).trans rfl,(blk_cell BK328.out 1).trans rfl,(blk_cell BK328.out 2).trans rfl,(blk_cell BK328.out 3).trans rfl,(blk_cell BK328.out 4).trans rfl⟩ (fun hHeld=>?_)
           clear hK K
           refine norm_ (a':=?_) ?_ ?_
           rotate_left
           ·show Act.put _ (some 65) _=_
            simp only [Act.put,List.setIfInBounds_toArray,List.set_cons_zero,List.set_cons_succ,i64_w,i32_w]
            rfl
           refine one_ (i:=15) (N:=some 69) #[true,true,true,true,true,true,true,true,true,true,true,true,true,true,true,true,false,false,false,false,false] rfl rfl (one_of HT_.out (by kernel_rfl)) (by decide) (fun K hK=>?_)
           refine goes_ Try.func42 (by kernel_rfl) rfl #[.string (a0_0.extract (((rd_T54 l0_2 x8_2).f2):Int).toNat ((wrap64 (((rd_T54 l0_2 x8_2).f2)+((rd_T54 l0_2 x8_2).f3))):Int).toNat),.int .i64 t329,.int .i64 ((rd_T54 l0_2 x8_2).f4),.slice Ao35 t324.length co35] (by rfl) rfl rfl (mp_ rfl) ?_
           with_reducible refine (spec_l06Lint.calls k2 (a0_0.extract (((rd_T54 l0_2 x8_2).f2):Int).toNat ((wrap64 (((rd_T54 l0_2 x8_2).f2)+((rd_T54 l0_2 x8_2).f3))):Int).toNat) t329 ((rd_T54 l0_2 x8_2).f4) _ _ t324 t330 t331 _ ?side1 ?side2 A26.out).mono ?_
           (case side1=>repeat (first|exact (Kd.R_reads' HO_7.out).2.2|(with_reducible refine Kd.C_alloc ?_ _)|(with_reducible refine Kd.C_drewN ?_ _)|(with_reducible refine Kd.C_drew ?_)))
           (case side2=>exact (Kd.R_reads' HO_7.out).2.1)
           rintro e w36 ⟨rfl,hb⟩
           refine ⟨_,rfl,?_⟩
           replace HO_7:=Aside0.mk (Kd.R_below (kr HO_7.out) hb);replace BK321:=Aside0.mk (blk_below (qx BK321.out) hb);replace BK328:=Aside0.mk (blk_below (qx BK328.out) hb);replace HB:=Aside0.mk (below_step (hb2 GE321.out GE328.out) hb)
           try clear hb
           refine hK.out _ _ ⟨(blk_cell BK321.out 0).trans rfl,(blk_cell BK321.out 1).trans rfl,(blk_cell BK321.out 2).trans rfl,(blk_cell BK328.out 0).trans rfl,(blk_cell BK328.out 1).trans rfl,(blk_cell BK328.out 2).trans rfl,(blk_cell BK328.out 3).trans rfl,(blk_cell BK328.out 4).trans rfl⟩ (fun hHeld=>?_)
           clear hK K
           refine norm_ (a':=?_) ?_ ?_
           rotate_left
           ·show Act.put _ (some 69) _=_
            simp only [Act.put,List.setIfInBounds_toArray,List.set_cons_zero,List.set_cons_succ,i64_w,i32_w]
            rfl
           refine pu 16 53 #[true,true,true,true,true,true,true,true,true,true,true,true,true,true,true,true,true,false,false,false,false] ?_
           refine pu 17 70 #[true,true,true,true,true,true,true,true,true,true,true,true,true,true,true,true,true,true,false,false,false] ?_
           refine pu 18 71 #[true,true,true,true,true,true,true,true,true,true,true,true,true,true,true,true,true,true,true,false,false] ?_
           refine pu 19 10 #[true,true,true,true,true,true,true,true,true,true,true,true,true,true,true,true,true,true,true,true,false] ?_
           refine pu 20 11 #[true,true,true,true,true,true,true,true,true,true,true,true,true,true,true,true,true,true,true,true,true] ?_
           refine done_ (done_of HT_.out (by kernel_rfl)) ?_
           try go_wp2
           go_roundg k2
           case measure=>have:=HJ4.out;have:=HK2.out;omega
           case rel=>exact ⟨(wrap64 (x8_2+1)),rs,H',⟨by have:=HJ4.out;have:=HK2.out;omega⟩,⟨kr HO_7.out⟩,⟨qx BK321.out⟩,⟨hb2 GE321.out GE328.out⟩⟩
          rw [if_neg c27] at H
          obtain ⟨c27b0,c27b1⟩:=eqN c27
          simp only [Option.some.injEq,Prod.mk.injEq] at H
          obtain ⟨rfl,rfl,rfl⟩:=H
          obtain ⟨Z37_0,Z37_1,Z37_2,Y37_0,Y37_1,Y37_2⟩:=cel3 BK321.out
          have p327:0≤(x8_2:Int):=od
          have q327:x8_2 < (l0_2.length:Int):=od
          obtain ⟨ad327,e327,hx327_0,hx327_1,hx327_2,hx327_3,hx327_4⟩:=at_T54 HR0_2.out x8_2 p327 q327
          cases e327
          replace hx327_0:=cx HB.out hx327_0
          replace hx327_1:=cx HB.out hx327_1
          replace hx327_2:=cx HB.out hx327_2
          replace hx327_3:=cx HB.out hx327_3
          replace hx327_4:=cx HB.out hx327_4
          replace p327:=eq_true p327
          replace q327:=eq_true q327
          try go_wp2_with (first|((with_reducible refine gate_dst (N:=9) rfl ?_);(try (refine gate_guard (by rfl) ?_;dsimp only));refine box_event ?hg (N:=9) ?hd (cs:=#[.string (⟨#[]⟩:ByteArray),.int .i64 0,.int .i64 0,.int .i64 0,.int .i64 0]) (t:=54) ?hr ?_;(case hd=>rfl);(case hg=>rfl);(case hr=>first|(go_simp;done)|(go_simp;rfl));intro gb328 hg w38 hbox hb;obtain ⟨n2_,n4_⟩:=bx0 (hb1 GE321.out) hb hg;have n0_:=Aside0.mk (Kd.R_below (kr HO_7.out) hb);obtain ⟨n1_,n6_,n7_⟩:=bx3 (qx BK321.out) hb hg;have n3_:=Aside0.mk (hbox);clear HO_7;clear BK321;clear HB;have HO_7:=n0_;have BK321:=n1_;have HB:=n2_;have BK328:=n3_;have GW328:=n4_;have GE328:=n4_;have NB321_328:=n6_;have NB328_321:=n7_;clear n0_ n1_ n2_ n3_ n4_ n6_ n7_;clear hb hbox hg;have hnb39:=NB328_321.out;have hnc39:=NB321_328.out;obtain ⟨Z40_0,Z40_1,Z40_2,Z40_3,Z40_4,Y40_0,Y40_1,Y40_2,Y40_3,Y40_4⟩:=cel5 BK328.out))
          have n0_:Aside0 (Kd.R (Kd.int .i64) 3 (((((w38.setCell ⟨gb328,0,none⟩ (.string ((rd_T54 l0_2 x8_2).f0))).setCell ⟨gb328,1,none⟩ (.int .i64 ((rd_T54 l0_2 x8_2).f1))).setCell ⟨gb328,2,none⟩ (.int .i64 ((rd_T54 l0_2 x8_2).f2))).setCell ⟨gb328,3,none⟩ (.int .i64 ((rd_T54 l0_2 x8_2).f3))).setCell ⟨gb328,4,none⟩ (.int .i64 ((rd_T54 l0_2 x8_2).f4))) w.heap.size (fun _=>True) v325 t324):=⟨by (with_reducible repeat (first|apply Kd.R_alloc|apply Kd.R_drewN|apply Kd.R_drew));exact Kd.R_mono (Kd.R_far (p:=⟨gb328,4,none⟩) (Kd.R_far (p:=⟨gb328,3,none⟩) (Kd.R_far (p:=⟨gb328,2,none⟩) (Kd.R_far (p:=⟨gb328,1,none⟩) (Kd.R_far (p:=⟨gb328,0,none⟩) (Kd.R_types HO_7.out BK328.out (by decide)) (fun _ hk=>hk.2) (.string ((rd_T54 l0_2 x8_2).f0))) (fun _ hk=>hk.2) (.int .i64 ((rd_T54 l0_2 x8_2).f1))) (fun _ hk=>hk.2) (.int .i64 ((rd_T54 l0_2 x8_2).f2))) (fun _ hk=>hk.2) (.int .i64 ((rd_T54 l0_2 x8_2).f3))) (fun _ hk=>hk.2) (.int .i64 ((rd_T54 l0_2 x8_2).f4))) (fun _ hk=>trivial)⟩
          have n1_:Aside0 ((((((w38.setCell ⟨gb328,0,none⟩ (.string ((rd_T54 l0_2 x8_2).f0))).setCell ⟨gb328,1,none⟩ (.int .i64 ((rd_T54 l0_2 x8_2).f1))).setCell ⟨gb328,2,none⟩ (.int .i64 ((rd_T54 l0_2 x8_2).f2))).setCell ⟨gb328,3,none⟩ (.int .i64 ((rd_T54 l0_2 x8_2).f3))).setCell ⟨gb328,4,none⟩ (.int .i64 ((rd_T54 l0_2 x8_2).f4))).heap[gb321]?=some (.cells #[.string a0_0,.string a0_1,.slice (some ad327) l0_2.length c0_2] 30 (0,0))):=⟨qg NB321_328.out BK321.out⟩
          have n2_:Aside0 ((((((w38.setCell ⟨gb328,0,none⟩ (.string ((rd_T54 l0_2 x8_2).f0))).setCell ⟨gb328,1,none⟩ (.int .i64 ((rd_T54 l0_2 x8_2).f1))).setCell ⟨gb328,2,none⟩ (.int .i64 ((rd_T54 l0_2 x8_2).f2))).setCell ⟨gb328,3,none⟩ (.int .i64 ((rd_T54 l0_2 x8_2).f3))).setCell ⟨gb328,4,none⟩ (.int .i64 ((rd_T54 l0_2 x8_2).f4))).heap[gb328]?=some (.cells #[.string ((rd_T54 l0_2 x8_2).f0),.int .i64 ((rd_T54 l0_2 x8_2).f1),.int .i64 ((rd_T54 l0_2 x8_2).f2),.int .i64 ((rd_T54 l0_2 x8_2).f3),.int .i64 ((rd_T54 l0_2 x8_2).f4)] 54 (0,0))):=⟨by (with_reducible repeat first|apply Q1|apply Q2|apply Q3);refine blk_put (cs:=#[.string ((rd_T54 l0_2 x8_2).f0),.int .i64 ((rd_T54 l0_2 x8_2).f1),.int .i64 ((rd_T54 l0_2 x8_2).f2),.int .i64 ((rd_T54 l0_2 x8_2).f3),.int .i64 0]) ?_ 4 _ rfl;(with_reducible repeat first|apply Q1|apply Q2|apply Q3);refine blk_put (cs:=#[.string ((rd_T54 l0_2 x8_2).f0),.int .i64 ((rd_T54 l0_2 x8_2).f1),.int .i64 ((rd_T54 l0_2 x8_2).f2),.int .i64 0,.int .i64 0]) ?_ 3 _ rfl;(with_reducible repeat first|apply Q1|apply Q2|apply Q3);refine blk_put (cs:=#[.string ((rd_T54 l0_2 x8_2).f0),.int .i64 ((rd_T54 l0_2 x8_2).f1),.int .i64 0,.int .i64 0,.int .i64 0]) ?_ 2 _ rfl;(with_reducible repeat first|apply Q1|apply Q2|apply Q3);refine blk_put (cs:=#[.string ((rd_T54 l0_2 x8_2).f0),.int .i64 0,.int .i64 0,.int .i64 0,.int .i64 0]) ?_ 1 _ rfl;(with_reducible repeat first|apply Q1|apply Q2|apply Q3);refine blk_put (cs:=#[.string (⟨#[]⟩:ByteArray),.int .i64 0,.int .i64 0,.int .i64 0,.int .i64 0]) ?_ 0 _ rfl;(with_reducible repeat first|apply Q1|apply Q2|apply Q3);exact BK328.out⟩
          have n3_:Aside0 (Below w.heap.size w (((((w38.setCell ⟨gb328,0,none⟩ (.string ((rd_T54 l0_2 x8_2).f0))).setCell ⟨gb328,1,none⟩ (.int .i64 ((rd_T54 l0_2 x8_2).f1))).setCell ⟨gb328,2,none⟩ (.int .i64 ((rd_T54 l0_2 x8_2).f2))).setCell ⟨gb328,3,none⟩ (.int .i64 ((rd_T54 l0_2 x8_2).f3))).setCell ⟨gb328,4,none⟩ (.int .i64 ((rd_T54 l0_2 x8_2).f4)))):=⟨hb2 GE321.out GE328.out⟩
          try clear HO_7
          try clear BK321
          try clear BK328
          try clear HB
          generalize (((((w38.setCell ⟨gb328,0,none⟩ (.string ((rd_T54 l0_2 x8_2).f0))).setCell ⟨gb328,1,none⟩ (.int .i64 ((rd_T54 l0_2 x8_2).f1))).setCell ⟨gb328,2,none⟩ (.int .i64 ((rd_T54 l0_2 x8_2).f2))).setCell ⟨gb328,3,none⟩ (.int .i64 ((rd_T54 l0_2 x8_2).f3))).setCell ⟨gb328,4,none⟩ (.int .i64 ((rd_T54 l0_2 x8_2).f4)))=w41 at n0_ n1_ n2_ n3_ ⊢
          have HO_7:=n0_
          have BK321:=n1_
          have BK328:=n2_
          have HB:=n3_
          clear n0_ n1_ n2_ n3_
          replace HO_7:=Aside0.mk (Kd.R_drew HO_7.out);replace BK321:=Aside0.mk (blk_drew BK321.out);replace BK328:=Aside0.mk (blk_drew BK328.out);replace HB:=Aside0.mk (below_drew1 HB.out)
          refine start_ (n:=21) (S:=fun w'=>w'.cell? ⟨gb321,0,none⟩=some (.string a0_0)∧w'.cell? ⟨gb321,1,none⟩=some (.string a0_1)∧w'.cell? ⟨gb321,2,none⟩=some (.slice (some ad327) l0_2.length c0_2)∧w'.cell? ⟨gb328,0,none⟩=some (.string ((rd_T54 l0_2 x8_2).f0))∧w'.cell? ⟨gb328,1,none⟩=some (.int .i64 ((rd_T54 l0_2 x8_2).f1))∧w'.cell? ⟨gb328,2,none⟩=some (.int .i64 ((rd_T54 l0_2 x8_2).f2))∧w'.cell? ⟨gb328,3,none⟩=some (.int .i64 ((rd_T54 l0_2 x8_2).f3))∧w'.cell? ⟨gb328,4,none⟩=some (.int .i64 ((rd_T54 l0_2 x8_2).f4))) (ds:=[]) #[false,false,false,false,false,false,false,false,false,false,false,false,false,false,false,false,false,false,false,false,false] (by kernel_rfl) rfl rfl ⟨(blk_cell BK321.out 0).trans rfl,(blk_cell BK321.out 1).trans rfl,(blk_cell BK321.out 2).trans rfl,(blk_cell BK328.out 0).trans rfl,(blk_cell BK328.out 1).trans rfl,(blk_cell BK328.out 2).trans rfl,(blk_cell BK328.out 3).trans rfl,(blk_cell BK328.out 4).trans rfl⟩ (fun hHeld=>?_);refine with_tabW spec_l07Lint.tab14 spec_l07Lint.bits14 (fun HT_ HW_=>?_)
          generalize w41.drew=w42 at HO_7 BK321 BK328 HB hHeld ⊢
          refine pu 0 54 #[true,false,false,false,false,false,false,false,false,false,false,false,false,false,false,false,false,false,false,false,false] ?_
          refine pu 2 56 #[true,false,true,false,false,false,false,false,false,false,false,false,false,false,false,false,false,false,false,false,false] ?_
          refine pu 4 58 #[true,false,true,false,true,false,false,false,false,false,false,false,false,false,false,false,false,false,false,false,false] ?_
          refine pu 6 60 #[true,false,true,false,true,false,true,false,false,false,false,false,false,false,false,false,false,false,false,false,false] ?_
          refine pu 12 66 #[true,false,true,false,true,false,true,false,false,false,false,false,true,false,false,false,false,false,false,false,false] ?_
          refine pu 14 68 #[true,false,true,false,true,false,true,false,false,false,false,false,true,false,true,false,false,false,false,false,false] ?_
          refine tk8 1 55 #[true,true,true,false,true,false,true,false,false,false,false,false,true,false,true,false,false,false,false,false,false] hHeld ?_
          refine tk8 3 57 #[true,true,true,true,true,false,true,false,false,false,false,false,true,false,true,false,false,false,false,false,false] hHeld ?_
          refine tk8 5 59 #[true,true,true,true,true,true,true,false,false,false,false,false,true,false,true,false,false,false,false,false,false] hHeld ?_
          refine tk8 7 61 #[true,true,true,true,true,true,true,true,false,false,false,false,true,false,true,false,false,false,false,false,false] hHeld ?_
          refine pu 8 62 #[true,true,true,true,true,true,true,true,true,false,false,false,true,false,true,false,false,false,false,false,false] ?_
          refine pu 9 63 #[true,true,true,true,true,true,true,true,true,true,false,false,true,false,true,false,false,false,false,false,false] ?_
          refine tk8 10 64 #[true,true,true,true,true,true,true,true,true,true,true,false,true,false,true,false,false,false,false,false,false] hHeld ?_
          refine tk8 13 67 #[true,true,true,true,true,true,true,true,true,true,true,false,true,true,true,false,false,false,false,false,false] hHeld ?_
          refine one_ (i:=11) (N:=some 65) #[true,true,true,true,true,true,true,true,true,true,true,true,true,true,true,false,false,false,false,false,false] rfl rfl (one_of HT_.out (by kernel_rfl)) (by decide) (fun K hK=>?_)
          refine goes_ Try.func55 (by kernel_rfl) rfl #[.agg #[.string ((rd_T54 l0_2 x8_2).f0),.int .i64 ((rd_T54 l0_2 x8_2).f1),.int .i64 ((rd_T54 l0_2 x8_2).f2),.int .i64 ((rd_T54 l0_2 x8_2).f3),.int .i64 ((rd_T54 l0_2 x8_2).f4)]] (by rfl) rfl rfl (mp_ rfl) ?_
          with_reducible refine (spec_l07Place.calls ((rd_T54 l0_2 x8_2).f0) ((rd_T54 l0_2 x8_2).f1) ((rd_T54 l0_2 x8_2).f2) ((rd_T54 l0_2 x8_2).f3) ((rd_T54 l0_2 x8_2).f4) t329 _ A25.out).mono ?_
          rintro e w43 ⟨rfl,hb⟩
          refine ⟨_,rfl,?_⟩
          replace HO_7:=Aside0.mk (Kd.R_below (kr HO_7.out) hb);replace BK321:=Aside0.mk (blk_below (qx BK321.out) hb);replace BK328:=Aside0.mk (blk_below (qx BK328.out) hb);replace HB:=Aside0.mk (below_step (hb2 GE321.out GE328.out) hb)
          try clear hb
          try clear hb2
          try clear hk
          try clear hi
          obtain ⟨Ao44,co44,eo44⟩:=Kd.R_slice HO_7.out
          (first|subst eo44|(injection eo44 with f1_ f2_ f3_;have f4_:=f1_.symm;have f5_:=f3_.symm;clear f1_ f2_ f3_;subst f4_;subst f5_))
          refine hK.out _ _ ⟨(blk_cell BK321.out 0).trans rfl,(blk_cell BK321.out 1).trans rfl,(blk_cell BK321.out 2).trans rfl,(blk_cell BK328.out 0).trans rfl,(blk_cell BK328.out 1).trans rfl,(blk_cell BK328.out 2).trans rfl,(blk_cell BK328.out 3).trans rfl,(blk_cell BK328.out 4).trans rfl⟩ (fun hHeld=>?_)
          clear hK K
          refine norm_ (a':=?_) ?_ ?_
          rotate_left
          ·show Act.put _ (some 65) _=_
           simp only [Act.put,List.setIfInBounds_toArray,List.set_cons_zero,List.set_cons_succ,i64_w,i32_w]
           rfl
          refine one_ (i:=15) (N:=some 69) #[true,true,true,true,true,true,true,true,true,true,true,true,true,true,true,true,false,false,false,false,false] rfl rfl (one_of HT_.out (by kernel_rfl)) (by decide) (fun K hK=>?_)
          refine goes_ Try.func42 (by kernel_rfl) rfl #[.string (a0_0.extract (((rd_T54 l0_2 x8_2).f2):Int).toNat ((wrap64 (((rd_T54 l0_2 x8_2).f2)+((rd_T54 l0_2 x8_2).f3))):Int).toNat),.int .i64 t329,.int .i64 ((rd_T54 l0_2 x8_2).f4),.slice Ao44 t324.length co44] (by rfl) rfl rfl (mp_ rfl) ?_
          with_reducible refine (spec_l06Lint.calls k2 (a0_0.extract (((rd_T54 l0_2 x8_2).f2):Int).toNat ((wrap64 (((rd_T54 l0_2 x8_2).f2)+((rd_T54 l0_2 x8_2).f3))):Int).toNat) t329 ((rd_T54 l0_2 x8_2).f4) _ _ t324 t330 t331 _ ?side1 ?side2 A26.out).mono ?_
          (case side1=>repeat (first|exact (Kd.R_reads' HO_7.out).2.2|(with_reducible refine Kd.C_alloc ?_ _)|(with_reducible refine Kd.C_drewN ?_ _)|(with_reducible refine Kd.C_drew ?_)))
          (case side2=>exact (Kd.R_reads' HO_7.out).2.1)
          rintro e w45 ⟨rfl,hb⟩
          refine ⟨_,rfl,?_⟩
          replace HO_7:=Aside0.mk (Kd.R_below (kr HO_7.out) hb);replace BK321:=Aside0.mk (blk_below (qx BK321.out) hb);replace BK328:=Aside0.mk (blk_below (qx BK328.out) hb);replace HB:=Aside0.mk (below_step (hb2 GE321.out GE328.out) hb)
          try clear hb
          refine hK.out _ _ ⟨(blk_cell BK321.out 0).trans rfl,(blk_cell BK321.out 1).trans rfl,(blk_cell BK321.out 2).trans rfl,(blk_cell BK328.out 0).trans rfl,(blk_cell BK328.out 1).trans rfl,(blk_cell BK328.out 2).trans rfl,(blk_cell BK328.out 3).trans rfl,(blk_cell BK328.out 4).trans rfl⟩ (fun hHeld=>?_)
          clear hK K
          refine norm_ (a':=?_) ?_ ?_
          rotate_left
          ·show Act.put _ (some 69) _=_
           simp only [Act.put,List.setIfInBounds_toArray,List.set_cons_zero,List.set_cons_succ,i64_w,i32_w]
           rfl
          refine pu 16 53 #[true,true,true,true,true,true,true,true,true,true,true,true,true,true,true,true,true,false,false,false,false] ?_
          refine pu 17 70 #[true,true,true,true,true,true,true,true,true,true,true,true,true,true,true,true,true,true,false,false,false] ?_
          refine pu 18 71 #[true,true,true,true,true,true,true,true,true,true,true,true,true,true,true,true,true,true,true,false,false] ?_
          refine pu 19 10 #[true,true,true,true,true,true,true,true,true,true,true,true,true,true,true,true,true,true,true,true,false] ?_
          refine pu 20 11 #[true,true,true,true,true,true,true,true,true,true,true,true,true,true,true,true,true,true,true,true,true] ?_
          refine done_ (done_of HT_.out (by kernel_rfl)) ?_
          try go_wp2
          go_ret3
          exact ⟨rf,hb2 GE321.out GE328.out⟩
         rw [if_neg c24] at H
         exact absurd H (by simp)
        rw [if_neg c23] at H
        exact absurd H (by simp)
       rw [if_neg c22] at H
       exact absurd H (by simp)
      rw [if_neg c21] at H
      obtain ⟨c21b0,c21b1⟩:=eqN c21
      have H':=Aside0.mk H
      clear H
      obtain ⟨Z46_0,Z46_1,Z46_2,Y46_0,Y46_1,Y46_2⟩:=cel3 BK321.out
      have p327:0≤(x8_2:Int):=od
      have q327:x8_2 < (l0_2.length:Int):=od
      obtain ⟨ad327,e327,hx327_0,hx327_1,hx327_2,hx327_3,hx327_4⟩:=at_T54 HR0_2.out x8_2 p327 q327
      cases e327
      replace hx327_0:=cx HB.out hx327_0
      replace hx327_1:=cx HB.out hx327_1
      replace hx327_2:=cx HB.out hx327_2
      replace hx327_3:=cx HB.out hx327_3
      replace hx327_4:=cx HB.out hx327_4
      replace p327:=eq_true p327
      replace q327:=eq_true q327
      go_wp2_with (first|((with_reducible refine gate_dst (N:=9) rfl ?_);(try (refine gate_guard (by rfl) ?_;dsimp only));refine box_event ?hg (N:=9) ?hd (cs:=#[.string (⟨#[]⟩:ByteArray),.int .i64 0,.int .i64 0,.int .i64 0,.int .i64 0]) (t:=54) ?hr ?_;(case hd=>rfl);(case hg=>rfl);(case hr=>first|(go_simp;done)|(go_simp;rfl));intro gb328 hg w47 hbox hb;obtain ⟨n2_,n4_⟩:=bx0 (hb1 GE321.out) hb hg;have n0_:=Aside0.mk (Kd.R_below (kr HO_7.out) hb);obtain ⟨n1_,n6_,n7_⟩:=bx3 (qx BK321.out) hb hg;have n3_:=Aside0.mk (hbox);clear HO_7;clear BK321;clear HB;have HO_7:=n0_;have BK321:=n1_;have HB:=n2_;have BK328:=n3_;have GW328:=n4_;have GE328:=n4_;have NB321_328:=n6_;have NB328_321:=n7_;clear n0_ n1_ n2_ n3_ n4_ n6_ n7_;clear hb hbox hg;have hnb48:=NB328_321.out;have hnc48:=NB321_328.out;obtain ⟨Z49_0,Z49_1,Z49_2,Z49_3,Z49_4,Y49_0,Y49_1,Y49_2,Y49_3,Y49_4⟩:=cel5 BK328.out))
      go_roundg k2
      case measure=>have:=HJ4.out;have:=HK2.out;omega
      case rel=>exact ⟨(wrap64 (x8_2+1)),rs,H',⟨by have:=HJ4.out;have:=HK2.out;omega⟩,⟨by (with_reducible repeat (first|apply Kd.R_alloc|apply Kd.R_drewN|apply Kd.R_drew));exact Kd.R_mono (Kd.R_far (p:=⟨gb328,4,none⟩) (Kd.R_far (p:=⟨gb328,3,none⟩) (Kd.R_far (p:=⟨gb328,2,none⟩) (Kd.R_far (p:=⟨gb328,1,none⟩) (Kd.R_far (p:=⟨gb328,0,none⟩) (Kd.R_types HO_7.out BK328.out (by decide)) (fun _ hk=>hk.2) (.string ((rd_T54 l0_2 x8_2).f0))) (fun _ hk=>hk.2) (.int .i64 ((rd_T54 l0_2 x8_2).f1))) (fun _ hk=>hk.2) (.int .i64 ((rd_T54 l0_2 x8_2).f2))) (fun _ hk=>hk.2) (.int .i64 ((rd_T54 l0_2 x8_2).f3))) (fun _ hk=>hk.2) (.int .i64 ((rd_T54 l0_2 x8_2).f4))) (fun _ hk=>trivial)⟩,⟨qg NB321_328.out BK321.out⟩,⟨hb2 GE321.out GE328.out⟩⟩
     rw [if_neg c20] at H
     exact absurd H (by simp)
    rw [if_neg c19] at H
    have c19b0:decide (x8_2 < (l0_2.length:Int))=false:=decide_eq_false c19
    clear c19
    simp only [Option.some.injEq,Prod.mk.injEq] at H
    obtain ⟨rfl,rfl,rfl⟩:=H
    obtain ⟨Z50_0,Z50_1,Z50_2,Y50_0,Y50_1,Y50_2⟩:=cel3 BK321.out
    go_wp2
    go_ret3
    exact ⟨rf,hb1 GE321.out⟩
  rw [if_neg c13] at H
  obtain ⟨c13b0,c13b1⟩:=eqN c13
  simp only [Option.some.injEq,Prod.mk.injEq] at H
  obtain ⟨rfl,rfl,rfl⟩:=H
  obtain ⟨Z51_0,Z51_1,Z51_2,Y51_0,Y51_1,Y51_2⟩:=cel3 BK321.out
  go_wp2_with (first|(refine gl 82 28 Try.func82 #[.agg #[.string a0_0,.string a0_1,.slice A0_2 l0_2.length c0_2]] ?_;(with_reducible refine (spec_l07Symbols.calls kj4 a0_0 a0_1 _ _ l0_2 t322 t323 _ ?side1 ?side2 A12.out).mono ?_);(case side1=>exact kc HR0_2.out);(case side2=>exact HC0_2.out);rintro e w52 ⟨rfl,hb⟩;refine ⟨_,rfl,?_⟩;have n0_:=Aside0.mk (blk_below (qx BK321.out) hb);replace HB:=Aside0.mk (below_step (hb1 GE321.out) hb);clear BK321;have BK321:=n0_;clear n0_;(try clear hb);(try clear hb2);(try clear hk);(try clear hi)))
  go_ret3
  exact ⟨rf,hb1 GE321.out⟩
end Go.Proofs.Ythepmdlpjdlajaa.PFnExactLintImage
