-- Written by a program for this claim.
import Derived.Test.YthepmdlpjdlajaaPFnExactLintImagex0
import Derived.Test.YthepmdlpjdlajaaPFnExactLintImagex12
namespace Go.Proofs.Ythepmdlpjdlajaa.PFnExactLintImage
open Go.RowKit Go.Proofs.YthepmdlpjdlajaaW.PrintWords Go.Proofs.YthepmdlpjdlajaaW.PrintLast Go.Proofs.YthepmdlpjdlajaaW.PrintMore
attribute [local go_sem] max2_int min2_int max_two min_two max_three min_three max_four min_four   -- for this text's walks alone
set_option linter.unusedVariables false
set_option linter.unusedSimpArgs false
mutual
def spec_l07Symbols.l0:Nat→Int→Int→Int→ByteArray→ByteArray→List (S54)→Option (Int × Int)
  | 0,_,_,_,_,_,_=>none
  | k+1,x4,x5,x6,x307000,x307001,x307002=>if x6 < (x307002.length:Int) then (if 0≤x6 then ((spec_l00Word.f k ((rd_T54 x307002 x6).f0)).bind fun t309=>(if t309=true then (spec_l07Symbols.l1 k x4 x5 x6 0 x307000 x307001 x307002 ((rd_T54 x307002 x6).f0) ((rd_T54 x307002 x6).f1) ((rd_T54 x307002 x6).f2) ((rd_T54 x307002 x6).f3) ((rd_T54 x307002 x6).f4)) else (some (x6,3)))) else (none)) else (if (x307002.length:Int)=0 then (spec_l07Symbols.j3 k x4 true x307000 x307001 x307002) else (if 0 < (x307002.length:Int) then (spec_l07Symbols.j3 k x4 (((rd_T54 x307002 0).f1) != 1) x307000 x307001 x307002) else (none)))
def spec_l07Symbols.l1:Nat→Int→Int→Int→Int→ByteArray→ByteArray→List (S54)→ByteArray→Int→Int→Int→Int→Option (Int × Int)
  | 0,_,_,_,_,_,_,_,_,_,_,_,_=>none
  | k+1,x4,x5,x6,x8,x307000,x307001,x307002,x309000,x309001,x309002,x309003,x309004=>if x8 < x6 then (if 0≤x8 then (if x8 < (x307002.length:Int) then (if ((rd_T54 x307002 x8).f0).toList=x309000.toList then (some (x6,24)) else (spec_l07Symbols.l1 k x4 x5 x6 (wrap64 (x8+1)) x307000 x307001 x307002 x309000 x309001 x309002 x309003 x309004)) else (none)) else (none)) else (if x309001=1 then (if x309002=x4 then (if x309003 < 1 then (some (x6,4)) else (if x309003 > (wrap64 ((x307000.size:Int) - x4)) then (some (x6,4)) else (spec_l07Symbols.l0 k (wrap64 (x4+x309003)) x5 (wrap64 (x6+1)) x307000 x307001 x307002))) else (some (x6,4))) else (if x309001=2 then (if x309002 < x5 then (spec_l07Symbols.j2 k x4 x6 true x307000 x307001 x307002 x309000 x309001 x309002 x309003 x309004) else (if x309002 > (x307001.size:Int) then (spec_l07Symbols.j2 k x4 x6 true x307000 x307001 x307002 x309000 x309001 x309002 x309003 x309004) else (if x309003 < 1 then (spec_l07Symbols.j2 k x4 x6 true x307000 x307001 x307002 x309000 x309001 x309002 x309003 x309004) else (if x309003 > (wrap64 ((x307001.size:Int) - x309002)) then (spec_l07Symbols.j2 k x4 x6 true x307000 x307001 x307002 x309000 x309001 x309002 x309003 x309004) else (if (Int.tmod x309002 8)=0 then (spec_l07Symbols.j2 k x4 x6 ((Int.tmod x309003 8) != 0) x307000 x307001 x307002 x309000 x309001 x309002 x309003 x309004) else (spec_l07Symbols.j2 k x4 x6 true x307000 x307001 x307002 x309000 x309001 x309002 x309003 x309004)))))) else (some (x6,26))))
def spec_l07Symbols.j2:Nat→Int→Int→Bool→ByteArray→ByteArray→List (S54)→ByteArray→Int→Int→Int→Int→Option (Int × Int)
  | 0,_,_,_,_,_,_,_,_,_,_,_=>none
  | k+1,x4,x6,x111,x307000,x307001,x307002,x309000,x309001,x309002,x309003,x309004=>if x111=true then (some (x6,4)) else (if x309004=0 then (spec_l07Symbols.l0 k x4 (wrap64 (x309002+x309003)) (wrap64 (x6+1)) x307000 x307001 x307002) else (some (x6,17)))
def spec_l07Symbols.j3:Nat→Int→Bool→ByteArray→ByteArray→List (S54)→Option (Int × Int)
  | 0,_,_,_,_,_=>none
  | k+1,x4,x133,x307000,x307001,x307002=>if x133=true then (some (0,23)) else (if x4=(x307000.size:Int) then (some (0,0)) else (some (0,22)))
end
def spec_l07Symbols.f (k:Nat) (a0_0:ByteArray) (a0_1:ByteArray) (l0_2:List (S54)):Option (Int × Int):=spec_l07Symbols.l0 k 0 0 0 a0_0 a0_1 l0_2
theorem spec_l07Symbols.mono_l : ∀ k,(∀ y0 y1 y2 y3 y4 y5,LeO (spec_l07Symbols.l0 k y0 y1 y2 y3 y4 y5) (spec_l07Symbols.l0 (k+1) y0 y1 y2 y3 y4 y5))∧(∀ y0 y1 y2 y3 y4 y5 y6 y7 y8 y9 y10 y11,LeO (spec_l07Symbols.l1 k y0 y1 y2 y3 y4 y5 y6 y7 y8 y9 y10 y11) (spec_l07Symbols.l1 (k+1) y0 y1 y2 y3 y4 y5 y6 y7 y8 y9 y10 y11))∧(∀ y0 y1 y2 y3 y4 y5 y6 y7 y8 y9 y10,LeO (spec_l07Symbols.j2 k y0 y1 y2 y3 y4 y5 y6 y7 y8 y9 y10) (spec_l07Symbols.j2 (k+1) y0 y1 y2 y3 y4 y5 y6 y7 y8 y9 y10))∧(∀ y0 y1 y2 y3 y4,LeO (spec_l07Symbols.j3 k y0 y1 y2 y3 y4) (spec_l07Symbols.j3 (k+1) y0 y1 y2 y3 y4))
  | 0=>⟨fun _ _ _ _ _ _ r h=>by simp [spec_l07Symbols.l0] at h,fun _ _ _ _ _ _ _ _ _ _ _ _ r h=>by simp [spec_l07Symbols.l1] at h,fun _ _ _ _ _ _ _ _ _ _ _ r h=>by simp [spec_l07Symbols.j2] at h,fun _ _ _ _ _ r h=>by simp [spec_l07Symbols.j3] at h⟩
  | k+1=>by
    obtain ⟨ih0,ih1,ih2,ih3⟩:=spec_l07Symbols.mono_l k
    refine ⟨?_,?_,?_,?_⟩<;>intros<;>(first|unfold spec_l07Symbols.l0|unfold spec_l07Symbols.l1|unfold spec_l07Symbols.j2|unfold spec_l07Symbols.j3)<;>repeat' (with_reducible first|apply ih0|apply ih1|apply ih2|apply ih3|apply spec_l00Word.mono|apply LeO.refl|apply LeO.none|apply LeO.ite|refine LeO.bind ?_ (fun _=>?_))
theorem spec_l07Symbols.mono : ∀ a0 a1 a2 k,LeO (spec_l07Symbols.f k a0 a1 a2) (spec_l07Symbols.f (k+1) a0 a1 a2):=by
 intro a0 a1 a2 k
 obtain ⟨ih0,ih1,ih2,ih3⟩:=spec_l07Symbols.mono_l k
 unfold spec_l07Symbols.f
 repeat' (with_reducible first|apply ih0|apply ih1|apply ih2|apply ih3|apply spec_l00Word.mono|apply LeO.refl|apply LeO.none|apply LeO.ite|refine LeO.bind ?_ (fun _=>?_))
set_option maxHeartbeats 8000000 in
set_option maxRecDepth 100000 in
theorem spec_l07Symbols.calls (k:Nat) (a0_0:ByteArray) (a0_1:ByteArray) (A0_2:Option Addr) (c0_2:Nat) (l0_2:List (S54)) (r1:Int) (r2:Int) (w:World) (hr0_2:Kd.C k54 w A0_2 l0_2.length l0_2) (hc0_2:l0_2.length≤c0_2) (h:spec_l07Symbols.f k a0_0 a0_1 l0_2=some (r1,r2)) :
    Calls Try.prog 82 #[.agg #[.string a0_0,.string a0_1,.slice A0_2 l0_2.length c0_2]] w fun e w'=>e=.returned (.tuple #[.int .i64 r1,.int .i64 r2])∧Below w.heap.size w w':=by
 have hu30:=Try.underlying30
 have hu54:=Try.underlying54
 have HR0_2:=Aside0.mk hr0_2
 have HC0_2:=Aside0.mk hc0_2
 clear hr0_2 hc0_2
 have HB:=Aside0.mk (Below.refl w.heap.size w)
 have H:(spec_l07Symbols.l0 k 0 0 0 a0_0 a0_1 l0_2)=some (r1,r2):=h
 clear h
 have H':=Aside0.mk H
 clear H
 go_enter Try.func82,Try.ntmps82
 go_wp2_with (first|((with_reducible refine gate_dst (N:=1) rfl ?_);(try (refine gate_guard (by rfl) ?_;dsimp only));refine box_event ?hg (N:=1) ?hd (cs:=#[.string a0_0,.string a0_1,.slice A0_2 l0_2.length c0_2]) (t:=30) ?hr ?_;(case hd=>rfl);(case hg=>rfl);(case hr=>first|(go_simp;done)|(go_simp;rfl));intro gb306 hg w2 hbox hb;obtain ⟨n0_,n2_⟩:=bx0 hbx hb hg;have n1_:=Aside0.mk (hbox);clear HB;have HB:=n0_;have BK306:=n1_;have GW306:=n2_;have GE306:=n2_;clear n0_ n1_ n2_;clear hb hbox hg))
 repeat (go_quiet (first|((with_reducible refine gate_dst (N:=1) rfl ?_);(try (refine gate_guard (by rfl) ?_;dsimp only));refine box_event ?hg (N:=1) ?hd (cs:=#[.string a0_0,.string a0_1,.slice A0_2 l0_2.length c0_2]) (t:=30) ?hr ?_;(case hd=>rfl);(case hg=>rfl);(case hr=>first|(go_simp;done)|(go_simp;rfl));intro gb306 hg w2 hbox hb;obtain ⟨n0_,n2_⟩:=bx0 hbx hb hg;have n1_:=Aside0.mk (hbox);clear HB;have HB:=n0_;have BK306:=n1_;have GW306:=n2_;have GE306:=n2_;clear n0_ n1_ n2_;clear hb hbox hg));try go_wp2_with (first|((with_reducible refine gate_dst (N:=1) rfl ?_);(try (refine gate_guard (by rfl) ?_;dsimp only));refine box_event ?hg (N:=1) ?hd (cs:=#[.string a0_0,.string a0_1,.slice A0_2 l0_2.length c0_2]) (t:=30) ?hr ?_;(case hd=>rfl);(case hg=>rfl);(case hr=>first|(go_simp;done)|(go_simp;rfl));intro gb306 hg w2 hbox hb;obtain ⟨n0_,n2_⟩:=bx0 hbx hb hg;have n1_:=Aside0.mk (hbox);clear HB;have HB:=n0_;have BK306:=n1_;have GW306:=n2_;have GE306:=n2_;clear n0_ n1_ n2_;clear hb hbox hg)))
 go_loopg [4,5,6] k (fun kq v4 v5 v6 w'=>∃ (x4_1:Int) (x5_1:Int) (x6_1:Int),v4=.int .i64 x4_1∧v5=.int .i64 x5_1∧v6=.int .i64 x6_1∧Aside0 (spec_l07Symbols.l0 kq x4_1 x5_1 x6_1 a0_0 a0_1 l0_2=some (r1,r2))∧Aside0 (kq≤k)∧Aside0 (w'.heap[gb306]?=some (.cells #[.string a0_0,.string a0_1,(.slice A0_2 l0_2.length c0_2)] 30 (0,0)))∧Aside0 (Below w.heap.size w w'))
 case atStart=>exact ⟨(0),(0),(0),rs,rs,rs,H',⟨Nat.le_refl _⟩,⟨qx BK306.out⟩,⟨hb1 GE306.out⟩⟩
 clear H'
 obtain ⟨x4_1,x5_1,x6_1,rfl,rfl,rfl,HA,HK1,BK306,HB⟩:=hrel
 cases gk with
 | zero=>exact absurd HA.out (by simp [spec_l07Symbols.l0])
 | succ k1 =>
  have H:=HA.out
  clear HA
  simp only [spec_l07Symbols.l0] at H
  by_cases c3:x6_1 < (l0_2.length:Int)
  ·rw [if_pos c3] at H
   have c3b0:decide (x6_1 < (l0_2.length:Int))=true:=decide_eq_true c3
   clear c3
   by_cases c4:0≤x6_1
   ·rw [if_pos c4] at H
    have c4b0:decide (0≤x6_1)=true:=decide_eq_true c4
    clear c4
    obtain ⟨t309,A5,H⟩:=bindA H
    by_cases c6:t309=true
    ·subst c6
     rw [if_pos rfl] at H
     have H':=Aside0.mk H
     clear H
     obtain ⟨Z7_0,Z7_1,Z7_2,Y7_0,Y7_1,Y7_2⟩:=cel3 BK306.out
     have p307:0≤(x6_1:Int):=od
     have q307:x6_1 < (l0_2.length:Int):=od
     obtain ⟨ad307,e307,hx307_0,hx307_1,hx307_2,hx307_3,hx307_4⟩:=at_T54 HR0_2.out x6_1 p307 q307
     cases e307
     replace hx307_0:=cx HB.out hx307_0
     replace hx307_1:=cx HB.out hx307_1
     replace hx307_2:=cx HB.out hx307_2
     replace hx307_3:=cx HB.out hx307_3
     replace hx307_4:=cx HB.out hx307_4
     replace p307:=eq_true p307
     replace q307:=eq_true q307
     go_wp2_with (first|((with_reducible refine gate_dst (N:=7) rfl ?_);(try (refine gate_guard (by rfl) ?_;dsimp only));refine box_event ?hg (N:=7) ?hd (cs:=#[.string (⟨#[]⟩:ByteArray),.int .i64 0,.int .i64 0,.int .i64 0,.int .i64 0]) (t:=54) ?hr ?_;(case hd=>rfl);(case hg=>rfl);(case hr=>first|(go_simp;done)|(go_simp;rfl));intro gb308 hg w8 hbox hb;obtain ⟨n1_,n3_⟩:=bx0 (hb1 GE306.out) hb hg;obtain ⟨n0_,n5_,n6_⟩:=bx3 (qx BK306.out) hb hg;have n2_:=Aside0.mk (hbox);clear BK306;clear HB;have BK306:=n0_;have HB:=n1_;have BK308:=n2_;have GW308:=n3_;have GE308:=n3_;have NB306_308:=n5_;have NB308_306:=n6_;clear n0_ n1_ n2_ n3_ n5_ n6_;clear hb hbox hg;have hnb9:=NB308_306.out;have hnc9:=NB306_308.out;obtain ⟨Z10_0,Z10_1,Z10_2,Z10_3,Z10_4,Y10_0,Y10_1,Y10_2,Y10_3,Y10_4⟩:=cel5 BK308.out)|(go_at_call 102;(with_reducible refine (spec_l00Word.calls k1 ((rd_T54 l0_2 x6_1).f0) true _ A5.out).mono ?_);rintro e w' ⟨rfl,⟨nd,rfl⟩⟩;(try first|exact ⟨rfl,_,World.drewN_drewN _ _ _⟩|exact ⟨rfl,_,Eq.trans (World.drewN_drewN _ _ _) (congrArg (World.drewN _) (Nat.add_assoc _ _ _))⟩)))
     repeat (go_quiet (first|((with_reducible refine gate_dst (N:=7) rfl ?_);(try (refine gate_guard (by rfl) ?_;dsimp only));refine box_event ?hg (N:=7) ?hd (cs:=#[.string (⟨#[]⟩:ByteArray),.int .i64 0,.int .i64 0,.int .i64 0,.int .i64 0]) (t:=54) ?hr ?_;(case hd=>rfl);(case hg=>rfl);(case hr=>first|(go_simp;done)|(go_simp;rfl));intro gb308 hg w8 hbox hb;obtain ⟨n1_,n3_⟩:=bx0 (hb1 GE306.out) hb hg;obtain ⟨n0_,n5_,n6_⟩:=bx3 (qx BK306.out) hb hg;have n2_:=Aside0.mk (hbox);clear BK306;clear HB;have BK306:=n0_;have HB:=n1_;have BK308:=n2_;have GW308:=n3_;have GE308:=n3_;have NB306_308:=n5_;have NB308_306:=n6_;clear n0_ n1_ n2_ n3_ n5_ n6_;clear hb hbox hg;have hnb9:=NB308_306.out;have hnc9:=NB306_308.out;obtain ⟨Z10_0,Z10_1,Z10_2,Z10_3,Z10_4,Y10_0,Y10_1,Y10_2,Y10_3,Y10_4⟩:=cel5 BK308.out)|(go_at_call 102;(with_reducible refine (spec_l00Word.calls k1 ((rd_T54 l0_2 x6_1).f0) true _ A5.out).mono ?_);rintro e w' ⟨rfl,⟨nd,rfl⟩⟩;(try first|exact ⟨rfl,_,World.drewN_drewN _ _ _⟩|exact ⟨rfl,_,Eq.trans (World.drewN_drewN _ _ _) (congrArg (World.drewN _) (Nat.add_assoc _ _ _))⟩)));try go_wp2_with (first|((with_reducible refine gate_dst (N:=7) rfl ?_);(try (refine gate_guard (by rfl) ?_;dsimp only));refine box_event ?hg (N:=7) ?hd (cs:=#[.string (⟨#[]⟩:ByteArray),.int .i64 0,.int .i64 0,.int .i64 0,.int .i64 0]) (t:=54) ?hr ?_;(case hd=>rfl);(case hg=>rfl);(case hr=>first|(go_simp;done)|(go_simp;rfl));intro gb308 hg w8 hbox hb;obtain ⟨n1_,n3_⟩:=bx0 (hb1 GE306.out) hb hg;obtain ⟨n0_,n5_,n6_⟩:=bx3 (qx BK306.out) hb hg;have n2_:=Aside0.mk (hbox);clear BK306;clear HB;have BK306:=n0_;have HB:=n1_;have BK308:=n2_;have GW308:=n3_;have GE308:=n3_;have NB306_308:=n5_;have NB308_306:=n6_;clear n0_ n1_ n2_ n3_ n5_ n6_;clear hb hbox hg;have hnb9:=NB308_306.out;have hnc9:=NB306_308.out;obtain ⟨Z10_0,Z10_1,Z10_2,Z10_3,Z10_4,Y10_0,Y10_1,Y10_2,Y10_3,Y10_4⟩:=cel5 BK308.out)|(go_at_call 102;(with_reducible refine (spec_l00Word.calls k1 ((rd_T54 l0_2 x6_1).f0) true _ A5.out).mono ?_);rintro e w' ⟨rfl,⟨nd,rfl⟩⟩;(try first|exact ⟨rfl,_,World.drewN_drewN _ _ _⟩|exact ⟨rfl,_,Eq.trans (World.drewN_drewN _ _ _) (congrArg (World.drewN _) (Nat.add_assoc _ _ _))⟩))))
     go_loopg [8] k1 (fun kq v8 w'=>∃ (x8_2:Int),v8=.int .i64 x8_2∧Aside0 (spec_l07Symbols.l1 kq x4_1 x5_1 x6_1 x8_2 a0_0 a0_1 l0_2 ((rd_T54 l0_2 x6_1).f0) ((rd_T54 l0_2 x6_1).f1) ((rd_T54 l0_2 x6_1).f2) ((rd_T54 l0_2 x6_1).f3) ((rd_T54 l0_2 x6_1).f4)=some (r1,r2))∧Aside0 (kq≤k1)∧Aside0 (w'.heap[gb306]?=some (.cells #[.string a0_0,.string a0_1,(.slice (some ad307) l0_2.length c0_2)] 30 (0,0)))∧Aside0 (w'.heap[gb308]?=some (.cells #[.string ((rd_T54 l0_2 x6_1).f0),.int .i64 ((rd_T54 l0_2 x6_1).f1),.int .i64 ((rd_T54 l0_2 x6_1).f2),.int .i64 ((rd_T54 l0_2 x6_1).f3),.int .i64 ((rd_T54 l0_2 x6_1).f4)] 54 (0,0)))∧Aside0 (Below w.heap.size w w'))
     case atStart=>exact ⟨(0),rs,H',⟨Nat.le_refl _⟩,⟨qg NB306_308.out BK306.out⟩,⟨by (with_reducible repeat first|apply Q1|apply Q2|apply Q3);refine blk_put (cs:=#[.string ((rd_T54 l0_2 x6_1).f0),.int .i64 ((rd_T54 l0_2 x6_1).f1),.int .i64 ((rd_T54 l0_2 x6_1).f2),.int .i64 ((rd_T54 l0_2 x6_1).f3),.int .i64 0]) ?_ 4 _ rfl;(with_reducible repeat first|apply Q1|apply Q2|apply Q3);refine blk_put (cs:=#[.string ((rd_T54 l0_2 x6_1).f0),.int .i64 ((rd_T54 l0_2 x6_1).f1),.int .i64 ((rd_T54 l0_2 x6_1).f2),.int .i64 0,.int .i64 0]) ?_ 3 _ rfl;(with_reducible repeat first|apply Q1|apply Q2|apply Q3);refine blk_put (cs:=#[.string ((rd_T54 l0_2 x6_1).f0),.int .i64 ((rd_T54 l0_2 x6_1).f1),.int .i64 0,.int .i64 0,.int .i64 0]) ?_ 2 _ rfl;(with_reducible repeat first|apply Q1|apply Q2|apply Q3);refine blk_put (cs:=#[.string ((rd_T54 l0_2 x6_1).f0),.int .i64 0,.int .i64 0,.int .i64 0,.int .i64 0]) ?_ 1 _ rfl;(with_reducible repeat first|apply Q1|apply Q2|apply Q3);refine blk_put (cs:=#[.string (⟨#[]⟩:ByteArray),.int .i64 0,.int .i64 0,.int .i64 0,.int .i64 0]) ?_ 0 _ rfl;(with_reducible repeat first|apply Q1|apply Q2|apply Q3);exact BK308.out⟩,⟨hb2 GE306.out GE308.out⟩⟩
     clear H'
     try clear c3b0
     try clear c4b0
     try clear c6
     try clear Z10_0 Z10_1 Z10_2 Z10_3 Z10_4
     try clear Z7_0
     try clear Z7_1
     try clear Z7_2
     try clear Y10_0 Y10_1 Y10_2 Y10_3 Y10_4
     try clear Y7_0
     try clear Y7_1
     try clear Y7_2
     try clear hx307_0 hx307_1 hx307_2 hx307_3 hx307_4
     try clear p307
     try clear q307
     obtain ⟨x8_2,rfl,HA,HK2,BK306,BK308,HB⟩:=hrel
     cases gk with
     | zero=>exact absurd HA.out (by simp [spec_l07Symbols.l1])
     | succ k2 =>
      have H:=HA.out
      clear HA
      simp only [spec_l07Symbols.l1] at H
      by_cases c11:x8_2 < x6_1
      ·rw [if_pos c11] at H
       have c11b0:decide (x8_2 < x6_1)=true:=decide_eq_true c11
       clear c11
       by_cases c12:0≤x8_2
       ·rw [if_pos c12] at H
        have c12b0:decide (0≤x8_2)=true:=decide_eq_true c12
        clear c12
        by_cases c13:x8_2 < (l0_2.length:Int)
        ·rw [if_pos c13] at H
         have c13b0:decide (x8_2 < (l0_2.length:Int))=true:=decide_eq_true c13
         clear c13
         by_cases c14:((rd_T54 l0_2 x8_2).f0).toList=((rd_T54 l0_2 x6_1).f0).toList
         ·rw [if_pos c14] at H
          obtain ⟨c14b0,c14b1⟩:=eqP c14
          clear c14
          simp only [Option.some.injEq,Prod.mk.injEq] at H
          obtain ⟨rfl,rfl⟩:=H
          have hnb15:=NB306_308.out
          have hnc15:=NB308_306.out
          obtain ⟨Z16_0,Z16_1,Z16_2,Y16_0,Y16_1,Y16_2⟩:=cel3 BK306.out
          have p310:0≤(x8_2:Int):=od
          have q310:x8_2 < (l0_2.length:Int):=od
          obtain ⟨ad310,e310,hx310_0,hx310_1,hx310_2,hx310_3,hx310_4⟩:=at_T54 HR0_2.out x8_2 p310 q310
          obtain rfl:ad307=ad310:=(by injection e310)
          replace hx310_0:=cx HB.out hx310_0
          replace hx310_1:=cx HB.out hx310_1
          replace hx310_2:=cx HB.out hx310_2
          replace hx310_3:=cx HB.out hx310_3
          replace hx310_4:=cx HB.out hx310_4
          replace p310:=eq_true p310
          replace q310:=eq_true q310
          obtain ⟨Z17_0,Z17_1,Z17_2,Z17_3,Z17_4,Y17_0,Y17_1,Y17_2,Y17_3,Y17_4⟩:=cel5 BK308.out
          go_wp2
          repeat (go_quiet (fail);try go_wp2)
          go_ret2
          exact ⟨rf,hb2 GE306.out GE308.out⟩
         rw [if_neg c14] at H
         obtain ⟨c14b0,c14b1⟩:=eqN c14
         have H':=Aside0.mk H
         clear H
         have hnb18:=NB306_308.out
         have hnc18:=NB308_306.out
         obtain ⟨Z19_0,Z19_1,Z19_2,Y19_0,Y19_1,Y19_2⟩:=cel3 BK306.out
         have p310:0≤(x8_2:Int):=od
         have q310:x8_2 < (l0_2.length:Int):=od
         obtain ⟨ad310,e310,hx310_0,hx310_1,hx310_2,hx310_3,hx310_4⟩:=at_T54 HR0_2.out x8_2 p310 q310
         obtain rfl:ad307=ad310:=(by injection e310)
         replace hx310_0:=cx HB.out hx310_0
         replace hx310_1:=cx HB.out hx310_1
         replace hx310_2:=cx HB.out hx310_2
         replace hx310_3:=cx HB.out hx310_3
         replace hx310_4:=cx HB.out hx310_4
         replace p310:=eq_true p310
         replace q310:=eq_true q310
         obtain ⟨Z20_0,Z20_1,Z20_2,Z20_3,Z20_4,Y20_0,Y20_1,Y20_2,Y20_3,Y20_4⟩:=cel5 BK308.out
         go_wp2
         repeat (go_quiet (fail);try go_wp2)
         go_roundg k2
         case measure=>have:=HK1.out;have:=HK2.out;omega
         case rel=>exact ⟨(wrap64 (x8_2+1)),rs,H',⟨by have:=HK1.out;have:=HK2.out;omega⟩,⟨qx BK306.out⟩,⟨qx BK308.out⟩,⟨hb2 GE306.out GE308.out⟩⟩
        rw [if_neg c13] at H
        exact absurd H (by simp)
       rw [if_neg c12] at H
       exact absurd H (by simp)
      rw [if_neg c11] at H
      have c11b0:decide (x8_2 < x6_1)=false:=decide_eq_false c11
      clear c11
      by_cases c21:((rd_T54 l0_2 x6_1).f1)=1
      ·rw [if_pos c21] at H
       obtain ⟨c21b0,c21b1⟩:=eqP c21
       clear c21
       by_cases c22:((rd_T54 l0_2 x6_1).f2)=x4_1
       ·rw [if_pos c22] at H
        obtain ⟨c22b0,c22b1⟩:=eqP c22
        clear c22
        by_cases c23:((rd_T54 l0_2 x6_1).f3) < 1
        ·rw [if_pos c23] at H
         have c23b0:decide (((rd_T54 l0_2 x6_1).f3) < 1)=true:=decide_eq_true c23
         clear c23
         simp only [Option.some.injEq,Prod.mk.injEq] at H
         obtain ⟨rfl,rfl⟩:=H
         have hnb24:=NB308_306.out
         have hnc24:=NB306_308.out
         obtain ⟨Z25_0,Z25_1,Z25_2,Z25_3,Z25_4,Y25_0,Y25_1,Y25_2,Y25_3,Y25_4⟩:=cel5 BK308.out
         go_wp2
         repeat (go_quiet (fail);try go_wp2)
         go_ret2
         exact ⟨rf,hb2 GE306.out GE308.out⟩
        rw [if_neg c23] at H
        have c23b0:decide (((rd_T54 l0_2 x6_1).f3) < 1)=false:=decide_eq_false c23
        clear c23
        by_cases c26:((rd_T54 l0_2 x6_1).f3) > (wrap64 ((a0_0.size:Int) - x4_1))
        ·rw [if_pos c26] at H
         have c26b0:decide ((wrap64 ((a0_0.size:Int) - x4_1)) < ((rd_T54 l0_2 x6_1).f3))=true:=decide_eq_true c26
         clear c26
         simp only [Option.some.injEq,Prod.mk.injEq] at H
         obtain ⟨rfl,rfl⟩:=H
         have hnb27:=NB308_306.out
         have hnc27:=NB306_308.out
         obtain ⟨Z28_0,Z28_1,Z28_2,Z28_3,Z28_4,Y28_0,Y28_1,Y28_2,Y28_3,Y28_4⟩:=cel5 BK308.out
         obtain ⟨Z29_0,Z29_1,Z29_2,Y29_0,Y29_1,Y29_2⟩:=cel3 BK306.out
         go_wp2
         repeat (go_quiet (fail);try go_wp2)
         go_ret2
         exact ⟨rf,hb2 GE306.out GE308.out⟩
        rw [if_neg c26] at H
        have c26b0:decide ((wrap64 ((a0_0.size:Int) - x4_1)) < ((rd_T54 l0_2 x6_1).f3))=false:=decide_eq_false c26
        clear c26
        have H':=Aside0.mk H
        clear H
        have hnb30:=NB308_306.out
        have hnc30:=NB306_308.out
        obtain ⟨Z31_0,Z31_1,Z31_2,Z31_3,Z31_4,Y31_0,Y31_1,Y31_2,Y31_3,Y31_4⟩:=cel5 BK308.out
        obtain ⟨Z32_0,Z32_1,Z32_2,Y32_0,Y32_1,Y32_2⟩:=cel3 BK306.out
        go_wp2
        repeat (go_quiet (fail);try go_wp2)
        go_roundg k2
        case measure=>have:=HK1.out;have:=HK2.out;omega
        case rel=>exact ⟨(wrap64 (x4_1+((rd_T54 l0_2 x6_1).f3))),(x5_1),(wrap64 (x6_1+1)),rs,rs,rs,H',⟨by have:=HK1.out;have:=HK2.out;omega⟩,⟨qx BK306.out⟩,⟨hb2 GE306.out GE308.out⟩⟩
       rw [if_neg c22] at H
       obtain ⟨c22b0,c22b1⟩:=eqN c22
       simp only [Option.some.injEq,Prod.mk.injEq] at H
       obtain ⟨rfl,rfl⟩:=H
       have hnb33:=NB308_306.out
       have hnc33:=NB306_308.out
       obtain ⟨Z34_0,Z34_1,Z34_2,Z34_3,Z34_4,Y34_0,Y34_1,Y34_2,Y34_3,Y34_4⟩:=cel5 BK308.out
       go_wp2
       repeat (go_quiet (fail);try go_wp2)
       go_ret2
       exact ⟨rf,hb2 GE306.out GE308.out⟩
      rw [if_neg c21] at H
      obtain ⟨c21b0,c21b1⟩:=eqN c21
      by_cases c35:((rd_T54 l0_2 x6_1).f1)=2
      ·rw [if_pos c35] at H
       obtain ⟨c35b0,c35b1⟩:=eqP c35
       clear c35
       have HC36:=Aside0.mk H
       clear H
       have hnb37:=NB308_306.out
       have hnc37:=NB306_308.out
       obtain ⟨Z38_0,Z38_1,Z38_2,Z38_3,Z38_4,Y38_0,Y38_1,Y38_2,Y38_3,Y38_4⟩:=cel5 BK308.out
       go_upto_region 21 with (fail)
       repeat (go_quiet (fail);go_upto_region 21 with (fail))
       go_cut [111] (fun v111 wc=>∃ (kq:Nat) (x111_35:Bool),v111=.bool x111_35∧Aside0 (spec_l07Symbols.j2 kq x4_1 x6_1 x111_35 a0_0 a0_1 l0_2 ((rd_T54 l0_2 x6_1).f0) ((rd_T54 l0_2 x6_1).f1) ((rd_T54 l0_2 x6_1).f2) ((rd_T54 l0_2 x6_1).f3) ((rd_T54 l0_2 x6_1).f4)=some (r1,r2))∧Aside0 (kq≤k2)∧Aside0 (wc.heap[gb306]?=some (.cells #[.string a0_0,.string a0_1,(.slice (some ad307) l0_2.length c0_2)] 30 (0,0)))∧Aside0 (wc.heap[gb308]?=some (.cells #[.string ((rd_T54 l0_2 x6_1).f0),.int .i64 ((rd_T54 l0_2 x6_1).f1),.int .i64 ((rd_T54 l0_2 x6_1).f2),.int .i64 ((rd_T54 l0_2 x6_1).f3),.int .i64 ((rd_T54 l0_2 x6_1).f4)] 54 (0,0)))∧Aside0 (Below w.heap.size w wc))
       case first=>
        have H:=HC36.out
        clear HC36
        by_cases c39:((rd_T54 l0_2 x6_1).f2) < x5_1
        ·rw [if_pos c39] at H
         have c39b0:decide (((rd_T54 l0_2 x6_1).f2) < x5_1)=true:=decide_eq_true c39
         clear c39
         (first|rw [c39b0]|(simp only [i64_w,i32_w];rw [c39b0])|skip)
         have H':=Aside0.mk H
         clear H
         have hnb40:=NB308_306.out
         have hnc40:=NB306_308.out
         obtain ⟨Z41_0,Z41_1,Z41_2,Z41_3,Z41_4,Y41_0,Y41_1,Y41_2,Y41_3,Y41_4⟩:=cel5 BK308.out
         go_wp2
         repeat (go_quiet (fail);try go_wp2)
         go_meet
         case rel=>exact ⟨_,(true),rs,H',⟨by have:=HK1.out;have:=HK2.out;first|omega|exact Nat.le_refl _⟩,⟨qx BK306.out⟩,⟨qx BK308.out⟩,⟨hb2 GE306.out GE308.out⟩⟩
        rw [if_neg c39] at H
        have c39b0:decide (((rd_T54 l0_2 x6_1).f2) < x5_1)=false:=decide_eq_false c39
        clear c39
        (first|rw [c39b0]|(simp only [i64_w,i32_w];rw [c39b0])|skip)
        by_cases c42:((rd_T54 l0_2 x6_1).f2) > (a0_1.size:Int)
        ·rw [if_pos c42] at H
         have c42b0:decide ((a0_1.size:Int) < ((rd_T54 l0_2 x6_1).f2))=true:=decide_eq_true c42
         clear c42
         have H':=Aside0.mk H
         clear H
         have hnb43:=NB308_306.out
         have hnc43:=NB306_308.out
         obtain ⟨Z44_0,Z44_1,Z44_2,Z44_3,Z44_4,Y44_0,Y44_1,Y44_2,Y44_3,Y44_4⟩:=cel5 BK308.out
         obtain ⟨Z45_0,Z45_1,Z45_2,Y45_0,Y45_1,Y45_2⟩:=cel3 BK306.out
         go_wp2
         repeat (go_quiet (fail);try go_wp2)
         go_meet
         case rel=>exact ⟨_,(true),rs,H',⟨by have:=HK1.out;have:=HK2.out;first|omega|exact Nat.le_refl _⟩,⟨qx BK306.out⟩,⟨qx BK308.out⟩,⟨hb2 GE306.out GE308.out⟩⟩
        rw [if_neg c42] at H
        have c42b0:decide ((a0_1.size:Int) < ((rd_T54 l0_2 x6_1).f2))=false:=decide_eq_false c42
        clear c42
        by_cases c46:((rd_T54 l0_2 x6_1).f3) < 1
        ·rw [if_pos c46] at H
         have c46b0:decide (((rd_T54 l0_2 x6_1).f3) < 1)=true:=decide_eq_true c46
         clear c46
         have H':=Aside0.mk H
         clear H
         have hnb47:=NB308_306.out
         have hnc47:=NB306_308.out
         obtain ⟨Z48_0,Z48_1,Z48_2,Z48_3,Z48_4,Y48_0,Y48_1,Y48_2,Y48_3,Y48_4⟩:=cel5 BK308.out
         obtain ⟨Z49_0,Z49_1,Z49_2,Y49_0,Y49_1,Y49_2⟩:=cel3 BK306.out
         go_wp2
         repeat (go_quiet (fail);try go_wp2)
         go_meet
         case rel=>exact ⟨_,(true),rs,H',⟨by have:=HK1.out;have:=HK2.out;first|omega|exact Nat.le_refl _⟩,⟨qx BK306.out⟩,⟨qx BK308.out⟩,⟨hb2 GE306.out GE308.out⟩⟩
        rw [if_neg c46] at H
        have c46b0:decide (((rd_T54 l0_2 x6_1).f3) < 1)=false:=decide_eq_false c46
        clear c46
        by_cases c50:((rd_T54 l0_2 x6_1).f3) > (wrap64 ((a0_1.size:Int) - ((rd_T54 l0_2 x6_1).f2)))
        ·rw [if_pos c50] at H
         have c50b0:decide ((wrap64 ((a0_1.size:Int) - ((rd_T54 l0_2 x6_1).f2))) < ((rd_T54 l0_2 x6_1).f3))=true:=decide_eq_true c50
         clear c50
         have H':=Aside0.mk H
         clear H
         have hnb51:=NB308_306.out
         have hnc51:=NB306_308.out
         obtain ⟨Z52_0,Z52_1,Z52_2,Z52_3,Z52_4,Y52_0,Y52_1,Y52_2,Y52_3,Y52_4⟩:=cel5 BK308.out
         obtain ⟨Z53_0,Z53_1,Z53_2,Y53_0,Y53_1,Y53_2⟩:=cel3 BK306.out
         go_wp2
         repeat (go_quiet (fail);try go_wp2)
         go_meet
         case rel=>exact ⟨_,(true),rs,H',⟨by have:=HK1.out;have:=HK2.out;first|omega|exact Nat.le_refl _⟩,⟨qx BK306.out⟩,⟨qx BK308.out⟩,⟨hb2 GE306.out GE308.out⟩⟩
        rw [if_neg c50] at H
        have c50b0:decide ((wrap64 ((a0_1.size:Int) - ((rd_T54 l0_2 x6_1).f2))) < ((rd_T54 l0_2 x6_1).f3))=false:=decide_eq_false c50
        clear c50
        by_cases c54:(Int.tmod ((rd_T54 l0_2 x6_1).f2) 8)=0
        ·rw [if_pos c54] at H
         obtain ⟨c54b0,c54b1⟩:=eqP c54
         clear c54
         have H':=Aside0.mk H
         clear H
         have hnb55:=NB308_306.out
         have hnc55:=NB306_308.out
         obtain ⟨Z56_0,Z56_1,Z56_2,Z56_3,Z56_4,Y56_0,Y56_1,Y56_2,Y56_3,Y56_4⟩:=cel5 BK308.out
         obtain ⟨Z57_0,Z57_1,Z57_2,Y57_0,Y57_1,Y57_2⟩:=cel3 BK306.out
         go_wp2
         repeat (go_quiet (fail);try go_wp2)
         go_meet
         case rel=>exact ⟨_,(((Int.tmod ((rd_T54 l0_2 x6_1).f3) 8) != 0)),rs,H',⟨by have:=HK1.out;have:=HK2.out;first|omega|exact Nat.le_refl _⟩,⟨qx BK306.out⟩,⟨qx BK308.out⟩,⟨hb2 GE306.out GE308.out⟩⟩
        rw [if_neg c54] at H
        obtain ⟨c54b0,c54b1⟩:=eqN c54
        have H':=Aside0.mk H
        clear H
        have hnb58:=NB308_306.out
        have hnc58:=NB306_308.out
        obtain ⟨Z59_0,Z59_1,Z59_2,Z59_3,Z59_4,Y59_0,Y59_1,Y59_2,Y59_3,Y59_4⟩:=cel5 BK308.out
        obtain ⟨Z60_0,Z60_1,Z60_2,Y60_0,Y60_1,Y60_2⟩:=cel3 BK306.out
        go_wp2
        repeat (go_quiet (fail);try go_wp2)
        go_meet
        case rel=>exact ⟨_,(true),rs,H',⟨by have:=HK1.out;have:=HK2.out;first|omega|exact Nat.le_refl _⟩,⟨qx BK306.out⟩,⟨qx BK308.out⟩,⟨hb2 GE306.out GE308.out⟩⟩
       clear HC36
       try clear c11b0
       try clear c21
       try clear c21b0 c21b1
       try clear c35b0 c35b1
       try clear Z38_0 Z38_1 Z38_2 Z38_3 Z38_4 Y38_0 Y38_1 Y38_2 Y38_3 Y38_4
       obtain ⟨kq,x111_35,rfl,HA,HJ35,BK306,BK308,HB⟩:=hcut
       cases kq with
       | zero=>exact absurd HA.out (by simp [spec_l07Symbols.j2])
       | succ kj35 =>
        have H:=HA.out
        clear HA
        simp only [spec_l07Symbols.j2] at H
        by_cases c61:x111_35=true
        ·subst c61
         rw [if_pos rfl] at H
         simp only [Option.some.injEq,Prod.mk.injEq] at H
         obtain ⟨rfl,rfl⟩:=H
         go_wp2
         repeat (go_quiet (fail);try go_wp2)
         go_ret2
         exact ⟨rf,hb2 GE306.out GE308.out⟩
        replace c61:=Bool.eq_false_iff.mpr c61
        subst c61
        rw [if_neg (show ¬ (false=true) by decide)] at H
        by_cases c62:((rd_T54 l0_2 x6_1).f4)=0
        ·rw [if_pos c62] at H
         obtain ⟨c62b0,c62b1⟩:=eqP c62
         clear c62
         have H':=Aside0.mk H
         clear H
         have hnb63:=NB308_306.out
         have hnc63:=NB306_308.out
         obtain ⟨Z64_0,Z64_1,Z64_2,Z64_3,Z64_4,Y64_0,Y64_1,Y64_2,Y64_3,Y64_4⟩:=cel5 BK308.out
         go_wp2
         repeat (go_quiet (fail);try go_wp2)
         go_roundg kj35
         case measure=>have:=HK1.out;have:=HK2.out;have:=HJ35.out;omega
         case rel=>exact ⟨(x4_1),(wrap64 (((rd_T54 l0_2 x6_1).f2)+((rd_T54 l0_2 x6_1).f3))),(wrap64 (x6_1+1)),rs,rs,rs,H',⟨by have:=HK1.out;have:=HK2.out;have:=HJ35.out;omega⟩,⟨qx BK306.out⟩,⟨hb2 GE306.out GE308.out⟩⟩
        rw [if_neg c62] at H
        obtain ⟨c62b0,c62b1⟩:=eqN c62
        simp only [Option.some.injEq,Prod.mk.injEq] at H
        obtain ⟨rfl,rfl⟩:=H
        have hnb65:=NB308_306.out
        have hnc65:=NB306_308.out
        obtain ⟨Z66_0,Z66_1,Z66_2,Z66_3,Z66_4,Y66_0,Y66_1,Y66_2,Y66_3,Y66_4⟩:=cel5 BK308.out
        go_wp2
        repeat (go_quiet (fail);try go_wp2)
        go_ret2
        exact ⟨rf,hb2 GE306.out GE308.out⟩
      rw [if_neg c35] at H
      obtain ⟨c35b0,c35b1⟩:=eqN c35
      simp only [Option.some.injEq,Prod.mk.injEq] at H
      obtain ⟨rfl,rfl⟩:=H
      have hnb67:=NB308_306.out
      have hnc67:=NB306_308.out
      obtain ⟨Z68_0,Z68_1,Z68_2,Z68_3,Z68_4,Y68_0,Y68_1,Y68_2,Y68_3,Y68_4⟩:=cel5 BK308.out
      go_wp2
      repeat (go_quiet (fail);try go_wp2)
      go_ret2
      exact ⟨rf,hb2 GE306.out GE308.out⟩
    replace c6:=Bool.eq_false_iff.mpr c6
    subst c6
    rw [if_neg (show ¬ (false=true) by decide)] at H
    simp only [Option.some.injEq,Prod.mk.injEq] at H
    obtain ⟨rfl,rfl⟩:=H
    obtain ⟨Z69_0,Z69_1,Z69_2,Y69_0,Y69_1,Y69_2⟩:=cel3 BK306.out
    have p307:0≤(x6_1:Int):=od
    have q307:x6_1 < (l0_2.length:Int):=od
    obtain ⟨ad307,e307,hx307_0,hx307_1,hx307_2,hx307_3,hx307_4⟩:=at_T54 HR0_2.out x6_1 p307 q307
    cases e307
    replace hx307_0:=cx HB.out hx307_0
    replace hx307_1:=cx HB.out hx307_1
    replace hx307_2:=cx HB.out hx307_2
    replace hx307_3:=cx HB.out hx307_3
    replace hx307_4:=cx HB.out hx307_4
    replace p307:=eq_true p307
    replace q307:=eq_true q307
    go_wp2_with (first|((with_reducible refine gate_dst (N:=7) rfl ?_);(try (refine gate_guard (by rfl) ?_;dsimp only));refine box_event ?hg (N:=7) ?hd (cs:=#[.string (⟨#[]⟩:ByteArray),.int .i64 0,.int .i64 0,.int .i64 0,.int .i64 0]) (t:=54) ?hr ?_;(case hd=>rfl);(case hg=>rfl);(case hr=>first|(go_simp;done)|(go_simp;rfl));intro gb308 hg w70 hbox hb;obtain ⟨n1_,n3_⟩:=bx0 (hb1 GE306.out) hb hg;obtain ⟨n0_,n5_,n6_⟩:=bx3 (qx BK306.out) hb hg;have n2_:=Aside0.mk (hbox);clear BK306;clear HB;have BK306:=n0_;have HB:=n1_;have BK308:=n2_;have GW308:=n3_;have GE308:=n3_;have NB306_308:=n5_;have NB308_306:=n6_;clear n0_ n1_ n2_ n3_ n5_ n6_;clear hb hbox hg;have hnb71:=NB308_306.out;have hnc71:=NB306_308.out;obtain ⟨Z72_0,Z72_1,Z72_2,Z72_3,Z72_4,Y72_0,Y72_1,Y72_2,Y72_3,Y72_4⟩:=cel5 BK308.out)|(go_at_call 102;(with_reducible refine (spec_l00Word.calls k1 ((rd_T54 l0_2 x6_1).f0) false _ A5.out).mono ?_);rintro e w' ⟨rfl,⟨nd,rfl⟩⟩;(try first|exact ⟨rfl,_,World.drewN_drewN _ _ _⟩|exact ⟨rfl,_,Eq.trans (World.drewN_drewN _ _ _) (congrArg (World.drewN _) (Nat.add_assoc _ _ _))⟩)))
    repeat (go_quiet (first|((with_reducible refine gate_dst (N:=7) rfl ?_);(try (refine gate_guard (by rfl) ?_;dsimp only));refine box_event ?hg (N:=7) ?hd (cs:=#[.string (⟨#[]⟩:ByteArray),.int .i64 0,.int .i64 0,.int .i64 0,.int .i64 0]) (t:=54) ?hr ?_;(case hd=>rfl);(case hg=>rfl);(case hr=>first|(go_simp;done)|(go_simp;rfl));intro gb308 hg w70 hbox hb;obtain ⟨n1_,n3_⟩:=bx0 (hb1 GE306.out) hb hg;obtain ⟨n0_,n5_,n6_⟩:=bx3 (qx BK306.out) hb hg;have n2_:=Aside0.mk (hbox);clear BK306;clear HB;have BK306:=n0_;have HB:=n1_;have BK308:=n2_;have GW308:=n3_;have GE308:=n3_;have NB306_308:=n5_;have NB308_306:=n6_;clear n0_ n1_ n2_ n3_ n5_ n6_;clear hb hbox hg;have hnb71:=NB308_306.out;have hnc71:=NB306_308.out;obtain ⟨Z72_0,Z72_1,Z72_2,Z72_3,Z72_4,Y72_0,Y72_1,Y72_2,Y72_3,Y72_4⟩:=cel5 BK308.out)|(go_at_call 102;(with_reducible refine (spec_l00Word.calls k1 ((rd_T54 l0_2 x6_1).f0) false _ A5.out).mono ?_);rintro e w' ⟨rfl,⟨nd,rfl⟩⟩;(try first|exact ⟨rfl,_,World.drewN_drewN _ _ _⟩|exact ⟨rfl,_,Eq.trans (World.drewN_drewN _ _ _) (congrArg (World.drewN _) (Nat.add_assoc _ _ _))⟩)));try go_wp2_with (first|((with_reducible refine gate_dst (N:=7) rfl ?_);(try (refine gate_guard (by rfl) ?_;dsimp only));refine box_event ?hg (N:=7) ?hd (cs:=#[.string (⟨#[]⟩:ByteArray),.int .i64 0,.int .i64 0,.int .i64 0,.int .i64 0]) (t:=54) ?hr ?_;(case hd=>rfl);(case hg=>rfl);(case hr=>first|(go_simp;done)|(go_simp;rfl));intro gb308 hg w70 hbox hb;obtain ⟨n1_,n3_⟩:=bx0 (hb1 GE306.out) hb hg;obtain ⟨n0_,n5_,n6_⟩:=bx3 (qx BK306.out) hb hg;have n2_:=Aside0.mk (hbox);clear BK306;clear HB;have BK306:=n0_;have HB:=n1_;have BK308:=n2_;have GW308:=n3_;have GE308:=n3_;have NB306_308:=n5_;have NB308_306:=n6_;clear n0_ n1_ n2_ n3_ n5_ n6_;clear hb hbox hg;have hnb71:=NB308_306.out;have hnc71:=NB306_308.out;obtain ⟨Z72_0,Z72_1,Z72_2,Z72_3,Z72_4,Y72_0,Y72_1,Y72_2,Y72_3,Y72_4⟩:=cel5 BK308.out)|(go_at_call 102;(with_reducible refine (spec_l00Word.calls k1 ((rd_T54 l0_2 x6_1).f0) false _ A5.out).mono ?_);rintro e w' ⟨rfl,⟨nd,rfl⟩⟩;(try first|exact ⟨rfl,_,World.drewN_drewN _ _ _⟩|exact ⟨rfl,_,Eq.trans (World.drewN_drewN _ _ _) (congrArg (World.drewN _) (Nat.add_assoc _ _ _))⟩))))
    go_ret2
    exact ⟨rf,hb2 GE306.out GE308.out⟩
   rw [if_neg c4] at H
   exact absurd H (by simp)
  rw [if_neg c3] at H
  have c3b0:decide (x6_1 < (l0_2.length:Int))=false:=decide_eq_false c3
  clear c3
  have HC73:=Aside0.mk H
  clear H
  obtain ⟨Z74_0,Z74_1,Z74_2,Y74_0,Y74_1,Y74_2⟩:=cel3 BK306.out
  go_upto_region 26 with (fail)
  repeat (go_quiet (fail);go_upto_region 26 with (fail))
  go_cut [133] (fun v133 wc=>∃ (kq:Nat) (x133_72:Bool),v133=.bool x133_72∧Aside0 (spec_l07Symbols.j3 kq x4_1 x133_72 a0_0 a0_1 l0_2=some (r1,r2))∧Aside0 (kq≤k1)∧Aside0 (wc.heap[gb306]?=some (.cells #[.string a0_0,.string a0_1,(.slice A0_2 l0_2.length c0_2)] 30 (0,0)))∧Aside0 (Below w.heap.size w wc))
  case first=>
   have H:=HC73.out
   clear HC73
   by_cases c75:(l0_2.length:Int)=0
   ·rw [if_pos c75] at H
    obtain ⟨c75b0,c75b1⟩:=eqP c75
    clear c75
    (first|rw [c75b0]|(simp only [i64_w,i32_w];rw [c75b0])|skip)
    have H':=Aside0.mk H
    clear H
    obtain ⟨Z76_0,Z76_1,Z76_2,Y76_0,Y76_1,Y76_2⟩:=cel3 BK306.out
    go_wp2
    repeat (go_quiet (fail);try go_wp2)
    go_meet
    case rel=>exact ⟨_,(true),rs,H',⟨om HK1.out⟩,⟨qx BK306.out⟩,⟨hb1 GE306.out⟩⟩
   rw [if_neg c75] at H
   obtain ⟨c75b0,c75b1⟩:=eqN c75
   have c75b2:¬ (l0_2=[]):=fun h_=>c75 (by rw [h_];rfl)
   (first|rw [c75b0]|(simp only [i64_w,i32_w];rw [c75b0])|skip)
   by_cases c77:0 < (l0_2.length:Int)
   ·rw [if_pos c77] at H
    have c77b0:decide (0 < (l0_2.length:Int))=true:=decide_eq_true c77
    have c77b1:decide (0 < l0_2.length)=true:=decide_eq_true (by omega)
    clear c77
    have H':=Aside0.mk H
    clear H
    obtain ⟨Z78_0,Z78_1,Z78_2,Y78_0,Y78_1,Y78_2⟩:=cel3 BK306.out
    have p311:0≤(0:Int):=(by omega)
    have q311:0 < (l0_2.length:Int):=od
    obtain ⟨ad311,e311,hx311_0,hx311_1,hx311_2,hx311_3,hx311_4⟩:=at_T54 HR0_2.out 0 p311 q311
    cases e311
    have qi311:(0 < l0_2.length)=True:=eq_true (by omega)
    (try rw [show ((0:Int)).toNat=0 from rfl] at hx311_0)
    (try rw [show 0*5=0 from rfl] at hx311_0)
    (try rw [Addr.add_zero'] at hx311_0)
    (try rw [show ((0:Int)).toNat=0 from rfl] at hx311_1)
    (try rw [show 0*5=0 from rfl] at hx311_1)
    (try rw [Addr.add_zero'] at hx311_1)
    (try rw [show ((0:Int)).toNat=0 from rfl] at hx311_2)
    (try rw [show 0*5=0 from rfl] at hx311_2)
    (try rw [Addr.add_zero'] at hx311_2)
    (try rw [show ((0:Int)).toNat=0 from rfl] at hx311_3)
    (try rw [show 0*5=0 from rfl] at hx311_3)
    (try rw [Addr.add_zero'] at hx311_3)
    (try rw [show ((0:Int)).toNat=0 from rfl] at hx311_4)
    (try rw [show 0*5=0 from rfl] at hx311_4)
    (try rw [Addr.add_zero'] at hx311_4)
    replace hx311_0:=cx HB.out hx311_0
    replace hx311_1:=cx HB.out hx311_1
    replace hx311_2:=cx HB.out hx311_2
    replace hx311_3:=cx HB.out hx311_3
    replace hx311_4:=cx HB.out hx311_4
    replace p311:=eq_true p311
    replace q311:=eq_true q311
    go_wp2
    repeat (go_quiet (fail);try go_wp2)
    go_meet
    case rel=>exact ⟨_,((((rd_T54 l0_2 0).f1) != 1)),rs,H',⟨om HK1.out⟩,⟨qx BK306.out⟩,⟨hb1 GE306.out⟩⟩
   rw [if_neg c77] at H
   exact absurd H (by simp)
  clear HC73
  try clear c3b0
  try clear Z74_0
  try clear Z74_1
  try clear Z74_2
  try clear Y74_0
  try clear Y74_1
  try clear Y74_2
  obtain ⟨kq,x133_72,rfl,HA,HJ72,BK306,HB⟩:=hcut
  cases kq with
  | zero=>exact absurd HA.out (by simp [spec_l07Symbols.j3])
  | succ kj72 =>
   have H:=HA.out
   clear HA
   simp only [spec_l07Symbols.j3] at H
   by_cases c79:x133_72=true
   ·subst c79
    rw [if_pos rfl] at H
    simp only [Option.some.injEq,Prod.mk.injEq] at H
    obtain ⟨rfl,rfl⟩:=H
    go_wp2
    repeat (go_quiet (fail);try go_wp2)
    go_ret2
    exact ⟨rf,hb1 GE306.out⟩
   replace c79:=Bool.eq_false_iff.mpr c79
   subst c79
   rw [if_neg (show ¬ (false=true) by decide)] at H
   by_cases c80:x4_1=(a0_0.size:Int)
   ·rw [if_pos c80] at H
    obtain ⟨c80b0,c80b1⟩:=eqP c80
    clear c80
    simp only [Option.some.injEq,Prod.mk.injEq] at H
    obtain ⟨rfl,rfl⟩:=H
    obtain ⟨Z81_0,Z81_1,Z81_2,Y81_0,Y81_1,Y81_2⟩:=cel3 BK306.out
    go_wp2
    repeat (go_quiet (fail);try go_wp2)
    go_ret2
    exact ⟨rf,hb1 GE306.out⟩
   rw [if_neg c80] at H
   obtain ⟨c80b0,c80b1⟩:=eqN c80
   simp only [Option.some.injEq,Prod.mk.injEq] at H
   obtain ⟨rfl,rfl⟩:=H
   obtain ⟨Z82_0,Z82_1,Z82_2,Y82_0,Y82_1,Y82_2⟩:=cel3 BK306.out
   go_wp2
   repeat (go_quiet (fail);try go_wp2)
   go_ret2
   exact ⟨rf,hb1 GE306.out⟩
end Go.Proofs.Ythepmdlpjdlajaa.PFnExactLintImage
