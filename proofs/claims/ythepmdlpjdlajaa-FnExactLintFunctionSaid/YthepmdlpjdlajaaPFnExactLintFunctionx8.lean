/- The walk of FnExactLintFunction: each Go function that the law reaches as a plain Lean function, with the proof that a call does what it says; no conditions. Written by a program for this claim. -/
import Derived.Test.YthepmdlpjdlajaaPFnExactLintFunctionx0
import Derived.Test.YthepmdlpjdlajaaPFnExactLintFunctionx2
import Derived.Test.YthepmdlpjdlajaaPFnExactLintFunctionx6
import Derived.Test.YthepmdlpjdlajaaPFnExactLintFunctionx7
namespace Go.Proofs.Ythepmdlpjdlajaa.PFnExactLintFunction
open Go.RowKit Go.Proofs.YthepmdlpjdlajaaW.PrintWords Go.Proofs.YthepmdlpjdlajaaW.PrintLast Go.Proofs.YthepmdlpjdlajaaW.PrintMore
attribute [local go_sem] max2_int min2_int max_two min_two max_three min_three max_four min_four   -- for this text's walks alone
set_option linter.unusedVariables false
set_option linter.unusedSimpArgs false
mutual
def spec_l06Rule.j0:Nat→List (S86)→Int→Int→Int→List Int→Int→Bool→Int→Int→Int→Int→Int→Option (Int)
  | 0,_,_,_,_,_,_,_,_,_,_,_,_=>none
  | k+1,x0,x1,x2,x3,x4,x12,x34,x240000,x240001,x240002,x240003,x240004=>if x34=true then ((spec_l06HasInt.f k x4 (wrap64 ((wrap64 (x2+(wrap64 (4*x1))))+x240004))).bind fun t243=>(if t243=true then (some 0) else (some 20))) else (if x240000=3 then (if x240001=0 then ((spec_l06Goes.f x0 x1 x240004 x3).bind fun t244=>(if t244=true then (some 0) else (some 19))) else (some 19)) else ((spec_l02Shape.f x240000).bind fun bt245=>(if bt245.1=4 then ((spec_l06Goes.f x0 x1 x240004 x3).bind fun t249=>(if t249=true then (some 0) else (some 19))) else (if x240001=1 then ((spec_l06Ends.f x0 x1 x3).bind fun t250=>(if t250=true then (if x240001=2 then ((spec_l06Ends.f x0 (wrap64 (x1 - 1)) x3).bind fun t251=>(spec_l06Rule.j1 k x0 x1 x3 x12 (!t251) x240000 x240001 x240002 x240003 x240004)) else (spec_l06Rule.j1 k x0 x1 x3 x12 false x240000 x240001 x240002 x240003 x240004)) else (spec_l06Rule.j1 k x0 x1 x3 x12 true x240000 x240001 x240002 x240003 x240004))) else (if x240001=2 then ((spec_l06Ends.f x0 (wrap64 (x1 - 1)) x3).bind fun t252=>(spec_l06Rule.j1 k x0 x1 x3 x12 (!t252) x240000 x240001 x240002 x240003 x240004)) else (spec_l06Rule.j1 k x0 x1 x3 x12 false x240000 x240001 x240002 x240003 x240004))))))
def spec_l06Rule.j1:Nat→List (S86)→Int→Int→Int→Bool→Int→Int→Int→Int→Int→Option (Int)
  | 0,_,_,_,_,_,_,_,_,_,_=>none
  | k+1,x0,x1,x3,x12,x104,x240000,x240001,x240002,x240003,x240004=>if x104=true then (some 21) else (if x12 > 0 then (if x240002=2 then ((spec_l06Ends.f x0 x1 x3).bind fun t253=>(if t253=true then (some 0) else (if x240004 < 0 then (some 17) else (if x240004 > (wrap64 ((wrap64 (x3 - 8)) - x12)) then (some 17) else (if x12=0 then (none) else (if (Int.tmod x240004 x12)=0 then (some 0) else (some 17))))))) else (some 0)) else (some 0))
end
def spec_l06Rule.f (k:Nat) (l0:List (S86)) (a1:Int) (a2:Int) (a3:Int) (l4:List Int):Option (Int):=if 0≤a1 then (if a1 < (l0.length:Int) then ((spec_l03Width.f k ((rd_T86 l0 a1).f0)).bind fun bt240=>(if ((rd_T86 l0 a1).f0)=4 then ((spec_l06Ends.f l0 (wrap64 (a1 - 2)) a3).bind fun t242=>(if t242=true then (some 0) else (some 18))) else (if ((rd_T86 l0 a1).f0)=3 then (spec_l06Rule.j0 k l0 a1 a2 a3 l4 bt240.1 (((rd_T86 l0 a1).f1)==1) ((rd_T86 l0 a1).f0) ((rd_T86 l0 a1).f1) ((rd_T86 l0 a1).f2) ((rd_T86 l0 a1).f3) ((rd_T86 l0 a1).f4)) else (spec_l06Rule.j0 k l0 a1 a2 a3 l4 bt240.1 false ((rd_T86 l0 a1).f0) ((rd_T86 l0 a1).f1) ((rd_T86 l0 a1).f2) ((rd_T86 l0 a1).f3) ((rd_T86 l0 a1).f4))))) else (none)) else (none)
theorem spec_l06Rule.mono_l : ∀ k,(∀ y0 y1 y2 y3 y4 y5 y6 y7 y8 y9 y10 y11,LeO (spec_l06Rule.j0 k y0 y1 y2 y3 y4 y5 y6 y7 y8 y9 y10 y11) (spec_l06Rule.j0 (k+1) y0 y1 y2 y3 y4 y5 y6 y7 y8 y9 y10 y11))∧(∀ y0 y1 y2 y3 y4 y5 y6 y7 y8 y9,LeO (spec_l06Rule.j1 k y0 y1 y2 y3 y4 y5 y6 y7 y8 y9) (spec_l06Rule.j1 (k+1) y0 y1 y2 y3 y4 y5 y6 y7 y8 y9))
  | 0=>⟨fun _ _ _ _ _ _ _ _ _ _ _ _ r h=>by simp [spec_l06Rule.j0] at h,fun _ _ _ _ _ _ _ _ _ _ r h=>by simp [spec_l06Rule.j1] at h⟩
  | k+1=>by
    obtain ⟨ih0,ih1⟩:=spec_l06Rule.mono_l k
    refine ⟨?_,?_⟩<;>intros<;>(first|unfold spec_l06Rule.j0|unfold spec_l06Rule.j1)<;>repeat' (with_reducible first|apply ih0|apply ih1|apply spec_l03Width.mono|apply spec_l06HasInt.mono|apply LeO.refl|apply LeO.none|apply LeO.ite|refine LeO.bind ?_ (fun _=>?_))
theorem spec_l06Rule.mono : ∀ a0 a1 a2 a3 a4 k,LeO (spec_l06Rule.f k a0 a1 a2 a3 a4) (spec_l06Rule.f (k+1) a0 a1 a2 a3 a4):=by
 intro a0 a1 a2 a3 a4 k
 obtain ⟨ih0,ih1⟩:=spec_l06Rule.mono_l k
 unfold spec_l06Rule.f
 repeat' (with_reducible first|apply ih0|apply ih1|apply spec_l03Width.mono|apply spec_l06HasInt.mono|apply LeO.refl|apply LeO.none|apply LeO.ite|refine LeO.bind ?_ (fun _=>?_))
set_option maxHeartbeats 8000000 in
set_option maxRecDepth 100000 in
theorem spec_l06Rule.calls (k:Nat) (A0:Option Addr) (c0:Nat) (l0:List (S86)) (a1:Int) (a2:Int) (a3:Int) (A4:Option Addr) (c4:Nat) (l4:List Int) (r:Int) (w:World) (hr0:Kd.C k86 w A0 l0.length l0) (hc0:l0.length≤c0) (hr4:Kd.C (Kd.int .i64) w A4 l4.length l4) (hc4:l4.length≤c4) (h:spec_l06Rule.f k l0 a1 a2 a3 l4=some r) :
    Calls Try.prog 68 #[.slice A0 l0.length c0,.int .i64 a1,.int .i64 a2,.int .i64 a3,.slice A4 l4.length c4] w fun e w'=>e=.returned (.int .i64 r)∧Below w.heap.size w w':=by
 have hu86:=Try.underlying86
 have hu109:=Try.underlying109
 have hfd109_0 : ∀ (q0_ q1_ q2_ q3_:Value) (W_:World),(Instr.field 109 (.agg #[q0_,q1_,q2_,q3_]) 0).run Try.prog W_=.ok q0_ W_:=by intros;simp [Instr.field,run_underlying Try.underlying109,run_underlying Try.underlying3,asAgg,part,isAgg,sizeOf,typeInfo]
 have HR0:=Aside0.mk hr0
 have HC0:=Aside0.mk hc0
 clear hr0 hc0
 have HR4:=Aside0.mk hr4
 have HC4:=Aside0.mk hc4
 clear hr4 hc4
 have HB:=Aside0.mk (Below.refl w.heap.size w)
 have H:(if 0≤a1 then (if a1 < (l0.length:Int) then ((spec_l03Width.f k ((rd_T86 l0 a1).f0)).bind fun bt240=>(if ((rd_T86 l0 a1).f0)=4 then ((spec_l06Ends.f l0 (wrap64 (a1 - 2)) a3).bind fun t242=>(if t242=true then (some 0) else (some 18))) else (if ((rd_T86 l0 a1).f0)=3 then (spec_l06Rule.j0 k l0 a1 a2 a3 l4 bt240.1 (((rd_T86 l0 a1).f1)==1) ((rd_T86 l0 a1).f0) ((rd_T86 l0 a1).f1) ((rd_T86 l0 a1).f2) ((rd_T86 l0 a1).f3) ((rd_T86 l0 a1).f4)) else (spec_l06Rule.j0 k l0 a1 a2 a3 l4 bt240.1 false ((rd_T86 l0 a1).f0) ((rd_T86 l0 a1).f1) ((rd_T86 l0 a1).f2) ((rd_T86 l0 a1).f3) ((rd_T86 l0 a1).f4))))) else (none)) else (none))=some r:=h
 clear h
 by_cases c6:0≤a1
 ·rw [if_pos c6] at H
  have c6b0:decide (0≤a1)=true:=decide_eq_true c6
  clear c6
  by_cases c7:a1 < (l0.length:Int)
  ·rw [if_pos c7] at H
   have c7b0:decide (a1 < (l0.length:Int))=true:=decide_eq_true c7
   clear c7
   obtain ⟨⟨t240,t241⟩,A8,H⟩:=bindA H
   try dsimp only at H
   by_cases c9:((rd_T86 l0 a1).f0)=4
   ·rw [if_pos c9] at H
    obtain ⟨c9b0,c9b1⟩:=eqP c9
    clear c9
    obtain ⟨t242,A10,H⟩:=bindA H
    by_cases c11:t242=true
    ·subst c11
     rw [if_pos rfl] at H
     obtain rfl:=Option.some.inj H
     have p238:0≤(a1:Int):=of_decide_eq_true (by first|(with_reducible assumption)|assumption)
     have q238:a1 < (l0.length:Int):=of_decide_eq_true (by first|(with_reducible assumption)|assumption)
     obtain ⟨ad238,e238,hx238_0,hx238_1,hx238_2,hx238_3,hx238_4⟩:=at_T86 HR0.out a1 p238 q238
     cases e238
     replace p238:=eq_true p238
     replace q238:=eq_true q238
     go_enter Try.func68,Try.ntmps68
     go_wp2_with (first|((with_reducible refine gate_dst (N:=11) rfl ?_);refine box_event ?hg (N:=11) ?hd (cs:=#[.int .i64 0,.int .i64 0,.int .i64 0,.int .i64 0,.int .i64 0]) (t:=86) ?hr ?_;(case hd=>rfl);(case hg=>rfl);(case hr=>first|(go_simp;done)|(go_simp;rfl));intro gb239 hg w12 hbox hb;have n0_:=Aside0.mk (below_step (by repeat (with_reducible first|exact HB.out|apply Q4|apply Q5|apply Q6)) hb);have n1_:=Aside0.mk (hbox);have n2_:=Aside0.mk ((by rw [hg];exact (below_size (by repeat (with_reducible first|exact HB.out|apply Q4|apply Q5|apply Q6))):w.heap.size≤gb239));have n3_:=Aside0.mk ((by rw [hg];exact (below_size (by repeat (with_reducible first|exact HB.out|apply Q4|apply Q5|apply Q6))):w.heap.size≤gb239));clear HB;have HB:=n0_;have BK239:=n1_;have GW239:=n2_;have GE239:=n3_;clear n0_ n1_ n2_ n3_;clear hb hbox hg;have hcz13_0:w12.cell? ⟨gb239,0,none⟩=some (.int .i64 0):=(blk_cell BK239.out 0).trans rfl;have hcz13_1:w12.cell? ⟨gb239,1,none⟩=some (.int .i64 0):=(blk_cell BK239.out 1).trans rfl;have hcz13_2:w12.cell? ⟨gb239,2,none⟩=some (.int .i64 0):=(blk_cell BK239.out 2).trans rfl;have hcz13_3:w12.cell? ⟨gb239,3,none⟩=some (.int .i64 0):=(blk_cell BK239.out 3).trans rfl;have hcz13_4:w12.cell? ⟨gb239,4,none⟩=some (.int .i64 0):=(blk_cell BK239.out 4).trans rfl;have hfz13_0:=blk_frozen BK239.out 0;have hfz13_1:=blk_frozen BK239.out 1;have hfz13_2:=blk_frozen BK239.out 2;have hfz13_3:=blk_frozen BK239.out 3;have hfz13_4:=blk_frozen BK239.out 4)|((with_reducible refine gate_callee (f:=85) rfl ?_);refine goesL_ (some 21) rfl rfl Try.func85 (by kernel_rfl) rfl #[.int .i64 ((rd_T86 l0 a1).f0)] rfl (by (try simp only [List.map_toArray,List.map_cons,List.map_nil]);first|done|rfl|(simp only [List.length_drop,List.length_take];rfl)) ?_;(with_reducible refine (spec_l03Width.calls k ((rd_T86 l0 a1).f0) t240 t241 _ A8.out).mono ?_);rintro e w' ⟨rfl,⟨nd,rfl⟩⟩;refine ⟨_,rfl,?_⟩)|((with_reducible refine gate_callee (f:=86) rfl ?_);refine goesL_ (some 32) rfl rfl Try.func86 (by kernel_rfl) rfl #[.slice (some ad238) l0.length c0,.int .i64 (wrap64 (a1 - 2)),.int .i64 a3] rfl (by (try simp only [List.map_toArray,List.map_cons,List.map_nil]);first|done|rfl|(simp only [List.length_drop,List.length_take];rfl)) ?_;(with_reducible refine (spec_l06Ends.calls _ _ l0 (wrap64 (a1 - 2)) a3 true _ ?side1 ?side2 A10.out).mono ?_);(case side1=>exact Kd.C_below HR0.out (by repeat (with_reducible first|exact HB.out|apply Q4|apply Q5|apply Q6|apply Q7 GE239.out)));(case side2=>exact HC0.out);rintro e w14 ⟨rfl,hb⟩;refine ⟨_,rfl,?_⟩;have n0_:=Aside0.mk (blk_below (g:=gb239) (o:=.cells #[.int .i64 ((rd_T86 l0 a1).f0),.int .i64 ((rd_T86 l0 a1).f1),.int .i64 ((rd_T86 l0 a1).f2),.int .i64 ((rd_T86 l0 a1).f3),.int .i64 ((rd_T86 l0 a1).f4)] 86 (0,0)) (by (with_reducible repeat first|apply Q1|apply Q2|apply Q3);refine blk_put (cs:=#[.int .i64 ((rd_T86 l0 a1).f0),.int .i64 ((rd_T86 l0 a1).f1),.int .i64 ((rd_T86 l0 a1).f2),.int .i64 ((rd_T86 l0 a1).f3),.int .i64 0]) ?_ 4 _ rfl;(with_reducible repeat first|apply Q1|apply Q2|apply Q3);refine blk_put (cs:=#[.int .i64 ((rd_T86 l0 a1).f0),.int .i64 ((rd_T86 l0 a1).f1),.int .i64 ((rd_T86 l0 a1).f2),.int .i64 0,.int .i64 0]) ?_ 3 _ rfl;(with_reducible repeat first|apply Q1|apply Q2|apply Q3);refine blk_put (cs:=#[.int .i64 ((rd_T86 l0 a1).f0),.int .i64 ((rd_T86 l0 a1).f1),.int .i64 0,.int .i64 0,.int .i64 0]) ?_ 2 _ rfl;(with_reducible repeat first|apply Q1|apply Q2|apply Q3);refine blk_put (cs:=#[.int .i64 ((rd_T86 l0 a1).f0),.int .i64 0,.int .i64 0,.int .i64 0,.int .i64 0]) ?_ 1 _ rfl;(with_reducible repeat first|apply Q1|apply Q2|apply Q3);refine blk_put (cs:=#[.int .i64 0,.int .i64 0,.int .i64 0,.int .i64 0,.int .i64 0]) ?_ 0 _ rfl;(with_reducible repeat first|apply Q1|apply Q2|apply Q3);exact BK239.out) hb);have n1_:=Aside0.mk (below_step (by repeat (with_reducible first|exact HB.out|apply Q4|apply Q5|apply Q6|apply Q7 GE239.out)) hb);clear BK239;clear HB;have BK239:=n0_;have HB:=n1_;clear n0_ n1_;(try clear hb);(try clear hb2);(try clear hk);(try clear hi)))
     go_ret
     exact ⟨by first|rfl|(simp [errW_none,errW_some]<;>rfl)|(simp [*,errW_none,errW_some]<;>rfl),by repeat (with_reducible first|exact HB.out|apply Q4|apply Q5|apply Q6|apply Q7 GE239.out)⟩
    replace c11:=Bool.eq_false_iff.mpr c11
    subst c11
    rw [if_neg (show ¬ (false=true) by decide)] at H
    obtain rfl:=Option.some.inj H
    have p238:0≤(a1:Int):=of_decide_eq_true (by first|(with_reducible assumption)|assumption)
    have q238:a1 < (l0.length:Int):=of_decide_eq_true (by first|(with_reducible assumption)|assumption)
    obtain ⟨ad238,e238,hx238_0,hx238_1,hx238_2,hx238_3,hx238_4⟩:=at_T86 HR0.out a1 p238 q238
    cases e238
    replace p238:=eq_true p238
    replace q238:=eq_true q238
    go_enter Try.func68,Try.ntmps68
    go_wp2_with (first|((with_reducible refine gate_dst (N:=11) rfl ?_);refine box_event ?hg (N:=11) ?hd (cs:=#[.int .i64 0,.int .i64 0,.int .i64 0,.int .i64 0,.int .i64 0]) (t:=86) ?hr ?_;(case hd=>rfl);(case hg=>rfl);(case hr=>first|(go_simp;done)|(go_simp;rfl));intro gb239 hg w15 hbox hb;have n0_:=Aside0.mk (below_step (by repeat (with_reducible first|exact HB.out|apply Q4|apply Q5|apply Q6)) hb);have n1_:=Aside0.mk (hbox);have n2_:=Aside0.mk ((by rw [hg];exact (below_size (by repeat (with_reducible first|exact HB.out|apply Q4|apply Q5|apply Q6))):w.heap.size≤gb239));have n3_:=Aside0.mk ((by rw [hg];exact (below_size (by repeat (with_reducible first|exact HB.out|apply Q4|apply Q5|apply Q6))):w.heap.size≤gb239));clear HB;have HB:=n0_;have BK239:=n1_;have GW239:=n2_;have GE239:=n3_;clear n0_ n1_ n2_ n3_;clear hb hbox hg;have hcz16_0:w15.cell? ⟨gb239,0,none⟩=some (.int .i64 0):=(blk_cell BK239.out 0).trans rfl;have hcz16_1:w15.cell? ⟨gb239,1,none⟩=some (.int .i64 0):=(blk_cell BK239.out 1).trans rfl;have hcz16_2:w15.cell? ⟨gb239,2,none⟩=some (.int .i64 0):=(blk_cell BK239.out 2).trans rfl;have hcz16_3:w15.cell? ⟨gb239,3,none⟩=some (.int .i64 0):=(blk_cell BK239.out 3).trans rfl;have hcz16_4:w15.cell? ⟨gb239,4,none⟩=some (.int .i64 0):=(blk_cell BK239.out 4).trans rfl;have hfz16_0:=blk_frozen BK239.out 0;have hfz16_1:=blk_frozen BK239.out 1;have hfz16_2:=blk_frozen BK239.out 2;have hfz16_3:=blk_frozen BK239.out 3;have hfz16_4:=blk_frozen BK239.out 4)|((with_reducible refine gate_callee (f:=85) rfl ?_);refine goesL_ (some 21) rfl rfl Try.func85 (by kernel_rfl) rfl #[.int .i64 ((rd_T86 l0 a1).f0)] rfl (by (try simp only [List.map_toArray,List.map_cons,List.map_nil]);first|done|rfl|(simp only [List.length_drop,List.length_take];rfl)) ?_;(with_reducible refine (spec_l03Width.calls k ((rd_T86 l0 a1).f0) t240 t241 _ A8.out).mono ?_);rintro e w' ⟨rfl,⟨nd,rfl⟩⟩;refine ⟨_,rfl,?_⟩)|((with_reducible refine gate_callee (f:=86) rfl ?_);refine goesL_ (some 32) rfl rfl Try.func86 (by kernel_rfl) rfl #[.slice (some ad238) l0.length c0,.int .i64 (wrap64 (a1 - 2)),.int .i64 a3] rfl (by (try simp only [List.map_toArray,List.map_cons,List.map_nil]);first|done|rfl|(simp only [List.length_drop,List.length_take];rfl)) ?_;(with_reducible refine (spec_l06Ends.calls _ _ l0 (wrap64 (a1 - 2)) a3 false _ ?side1 ?side2 A10.out).mono ?_);(case side1=>exact Kd.C_below HR0.out (by repeat (with_reducible first|exact HB.out|apply Q4|apply Q5|apply Q6|apply Q7 GE239.out)));(case side2=>exact HC0.out);rintro e w17 ⟨rfl,hb⟩;refine ⟨_,rfl,?_⟩;have n0_:=Aside0.mk (blk_below (g:=gb239) (o:=.cells #[.int .i64 ((rd_T86 l0 a1).f0),.int .i64 ((rd_T86 l0 a1).f1),.int .i64 ((rd_T86 l0 a1).f2),.int .i64 ((rd_T86 l0 a1).f3),.int .i64 ((rd_T86 l0 a1).f4)] 86 (0,0)) (by (with_reducible repeat first|apply Q1|apply Q2|apply Q3);refine blk_put (cs:=#[.int .i64 ((rd_T86 l0 a1).f0),.int .i64 ((rd_T86 l0 a1).f1),.int .i64 ((rd_T86 l0 a1).f2),.int .i64 ((rd_T86 l0 a1).f3),.int .i64 0]) ?_ 4 _ rfl;(with_reducible repeat first|apply Q1|apply Q2|apply Q3);refine blk_put (cs:=#[.int .i64 ((rd_T86 l0 a1).f0),.int .i64 ((rd_T86 l0 a1).f1),.int .i64 ((rd_T86 l0 a1).f2),.int .i64 0,.int .i64 0]) ?_ 3 _ rfl;(with_reducible repeat first|apply Q1|apply Q2|apply Q3);refine blk_put (cs:=#[.int .i64 ((rd_T86 l0 a1).f0),.int .i64 ((rd_T86 l0 a1).f1),.int .i64 0,.int .i64 0,.int .i64 0]) ?_ 2 _ rfl;(with_reducible repeat first|apply Q1|apply Q2|apply Q3);refine blk_put (cs:=#[.int .i64 ((rd_T86 l0 a1).f0),.int .i64 0,.int .i64 0,.int .i64 0,.int .i64 0]) ?_ 1 _ rfl;(with_reducible repeat first|apply Q1|apply Q2|apply Q3);refine blk_put (cs:=#[.int .i64 0,.int .i64 0,.int .i64 0,.int .i64 0,.int .i64 0]) ?_ 0 _ rfl;(with_reducible repeat first|apply Q1|apply Q2|apply Q3);exact BK239.out) hb);have n1_:=Aside0.mk (below_step (by repeat (with_reducible first|exact HB.out|apply Q4|apply Q5|apply Q6|apply Q7 GE239.out)) hb);clear BK239;clear HB;have BK239:=n0_;have HB:=n1_;clear n0_ n1_;(try clear hb);(try clear hb2);(try clear hk);(try clear hi)))
    go_ret
    exact ⟨by first|rfl|(simp [errW_none,errW_some]<;>rfl)|(simp [*,errW_none,errW_some]<;>rfl),by repeat (with_reducible first|exact HB.out|apply Q4|apply Q5|apply Q6|apply Q7 GE239.out)⟩
   rw [if_neg c9] at H
   obtain ⟨c9b0,c9b1⟩:=eqN c9
   have HC18:=Aside0.mk H
   clear H
   have p238:0≤(a1:Int):=of_decide_eq_true (by first|(with_reducible assumption)|assumption)
   have q238:a1 < (l0.length:Int):=of_decide_eq_true (by first|(with_reducible assumption)|assumption)
   obtain ⟨ad238,e238,hx238_0,hx238_1,hx238_2,hx238_3,hx238_4⟩:=at_T86 HR0.out a1 p238 q238
   cases e238
   replace p238:=eq_true p238
   replace q238:=eq_true q238
   go_enter Try.func68,Try.ntmps68
   go_upto_region 7 with (first|((with_reducible refine gate_dst (N:=11) rfl ?_);refine box_event ?hg (N:=11) ?hd (cs:=#[.int .i64 0,.int .i64 0,.int .i64 0,.int .i64 0,.int .i64 0]) (t:=86) ?hr ?_;(case hd=>rfl);(case hg=>rfl);(case hr=>first|(go_simp;done)|(go_simp;rfl));intro gb239 hg w19 hbox hb;have n0_:=Aside0.mk (below_step (by repeat (with_reducible first|exact HB.out|apply Q4|apply Q5|apply Q6)) hb);have n1_:=Aside0.mk (hbox);have n2_:=Aside0.mk ((by rw [hg];exact (below_size (by repeat (with_reducible first|exact HB.out|apply Q4|apply Q5|apply Q6))):w.heap.size≤gb239));have n3_:=Aside0.mk ((by rw [hg];exact (below_size (by repeat (with_reducible first|exact HB.out|apply Q4|apply Q5|apply Q6))):w.heap.size≤gb239));clear HB;have HB:=n0_;have BK239:=n1_;have GW239:=n2_;have GE239:=n3_;clear n0_ n1_ n2_ n3_;clear hb hbox hg;have hcz20_0:w19.cell? ⟨gb239,0,none⟩=some (.int .i64 0):=(blk_cell BK239.out 0).trans rfl;have hcz20_1:w19.cell? ⟨gb239,1,none⟩=some (.int .i64 0):=(blk_cell BK239.out 1).trans rfl;have hcz20_2:w19.cell? ⟨gb239,2,none⟩=some (.int .i64 0):=(blk_cell BK239.out 2).trans rfl;have hcz20_3:w19.cell? ⟨gb239,3,none⟩=some (.int .i64 0):=(blk_cell BK239.out 3).trans rfl;have hcz20_4:w19.cell? ⟨gb239,4,none⟩=some (.int .i64 0):=(blk_cell BK239.out 4).trans rfl;have hfz20_0:=blk_frozen BK239.out 0;have hfz20_1:=blk_frozen BK239.out 1;have hfz20_2:=blk_frozen BK239.out 2;have hfz20_3:=blk_frozen BK239.out 3;have hfz20_4:=blk_frozen BK239.out 4)|((with_reducible refine gate_callee (f:=85) rfl ?_);refine goesL_ (some 21) rfl rfl Try.func85 (by kernel_rfl) rfl #[.int .i64 ((rd_T86 l0 a1).f0)] rfl (by (try simp only [List.map_toArray,List.map_cons,List.map_nil]);first|done|rfl|(simp only [List.length_drop,List.length_take];rfl)) ?_;(with_reducible refine (spec_l03Width.calls k ((rd_T86 l0 a1).f0) t240 t241 _ A8.out).mono ?_);rintro e w' ⟨rfl,⟨nd,rfl⟩⟩;refine ⟨_,rfl,?_⟩))
   (try simp only [Act.put,List.setIfInBounds_toArray,List.set_cons_zero,List.set_cons_succ])
   go_cut [34] (fun v34 wc=>∃ (kq:Nat) (x34_17:Bool),v34=.bool x34_17∧Aside0 (spec_l06Rule.j0 kq l0 a1 a2 a3 l4 t240 x34_17 ((rd_T86 l0 a1).f0) ((rd_T86 l0 a1).f1) ((rd_T86 l0 a1).f2) ((rd_T86 l0 a1).f3) ((rd_T86 l0 a1).f4)=some r)∧Aside0 (kq≤k)∧Aside0 (wc.heap[gb239]?=some (.cells #[.int .i64 ((rd_T86 l0 a1).f0),.int .i64 ((rd_T86 l0 a1).f1),.int .i64 ((rd_T86 l0 a1).f2),.int .i64 ((rd_T86 l0 a1).f3),.int .i64 ((rd_T86 l0 a1).f4)] 86 (0,0)))∧Aside0 (Below w.heap.size w wc))
   case first=>
    have H:=HC18.out
    clear HC18
    by_cases c21:((rd_T86 l0 a1).f0)=3
    ·rw [if_pos c21] at H
     obtain ⟨c21b0,c21b1⟩:=eqP c21
     clear c21
     (first|rw [c21b0]|(simp only [i64_w,i32_w];rw [c21b0])|skip)
     have H':=Aside0.mk H
     clear H
     have hcz22_0:w19.cell? ⟨gb239,0,none⟩=some (.int .i64 0):=(blk_cell BK239.out 0).trans rfl
     have hcz22_1:w19.cell? ⟨gb239,1,none⟩=some (.int .i64 0):=(blk_cell BK239.out 1).trans rfl
     have hcz22_2:w19.cell? ⟨gb239,2,none⟩=some (.int .i64 0):=(blk_cell BK239.out 2).trans rfl
     have hcz22_3:w19.cell? ⟨gb239,3,none⟩=some (.int .i64 0):=(blk_cell BK239.out 3).trans rfl
     have hcz22_4:w19.cell? ⟨gb239,4,none⟩=some (.int .i64 0):=(blk_cell BK239.out 4).trans rfl
     have hfz22_0:=blk_frozen BK239.out 0
     have hfz22_1:=blk_frozen BK239.out 1
     have hfz22_2:=blk_frozen BK239.out 2
     have hfz22_3:=blk_frozen BK239.out 3
     have hfz22_4:=blk_frozen BK239.out 4
     go_wp2
     go_meet
     case rel=>exact ⟨_,((((rd_T86 l0 a1).f1)==1)),(by first|rfl|(simp;done)|(simp [*];done)),H',⟨by first|omega|exact Nat.le_refl _⟩,⟨by (with_reducible repeat first|apply Q1|apply Q2|apply Q3);refine blk_put (cs:=#[.int .i64 ((rd_T86 l0 a1).f0),.int .i64 ((rd_T86 l0 a1).f1),.int .i64 ((rd_T86 l0 a1).f2),.int .i64 ((rd_T86 l0 a1).f3),.int .i64 0]) ?_ 4 _ rfl;(with_reducible repeat first|apply Q1|apply Q2|apply Q3);refine blk_put (cs:=#[.int .i64 ((rd_T86 l0 a1).f0),.int .i64 ((rd_T86 l0 a1).f1),.int .i64 ((rd_T86 l0 a1).f2),.int .i64 0,.int .i64 0]) ?_ 3 _ rfl;(with_reducible repeat first|apply Q1|apply Q2|apply Q3);refine blk_put (cs:=#[.int .i64 ((rd_T86 l0 a1).f0),.int .i64 ((rd_T86 l0 a1).f1),.int .i64 0,.int .i64 0,.int .i64 0]) ?_ 2 _ rfl;(with_reducible repeat first|apply Q1|apply Q2|apply Q3);refine blk_put (cs:=#[.int .i64 ((rd_T86 l0 a1).f0),.int .i64 0,.int .i64 0,.int .i64 0,.int .i64 0]) ?_ 1 _ rfl;(with_reducible repeat first|apply Q1|apply Q2|apply Q3);refine blk_put (cs:=#[.int .i64 0,.int .i64 0,.int .i64 0,.int .i64 0,.int .i64 0]) ?_ 0 _ rfl;(with_reducible repeat first|apply Q1|apply Q2|apply Q3);exact BK239.out⟩,⟨by repeat (with_reducible first|exact HB.out|apply Q4|apply Q5|apply Q6|apply Q7 GE239.out)⟩⟩
    rw [if_neg c21] at H
    obtain ⟨c21b0,c21b1⟩:=eqN c21
    (first|rw [c21b0]|(simp only [i64_w,i32_w];rw [c21b0])|skip)
    have H':=Aside0.mk H
    clear H
    have hcz23_0:w19.cell? ⟨gb239,0,none⟩=some (.int .i64 0):=(blk_cell BK239.out 0).trans rfl
    have hcz23_1:w19.cell? ⟨gb239,1,none⟩=some (.int .i64 0):=(blk_cell BK239.out 1).trans rfl
    have hcz23_2:w19.cell? ⟨gb239,2,none⟩=some (.int .i64 0):=(blk_cell BK239.out 2).trans rfl
    have hcz23_3:w19.cell? ⟨gb239,3,none⟩=some (.int .i64 0):=(blk_cell BK239.out 3).trans rfl
    have hcz23_4:w19.cell? ⟨gb239,4,none⟩=some (.int .i64 0):=(blk_cell BK239.out 4).trans rfl
    have hfz23_0:=blk_frozen BK239.out 0
    have hfz23_1:=blk_frozen BK239.out 1
    have hfz23_2:=blk_frozen BK239.out 2
    have hfz23_3:=blk_frozen BK239.out 3
    have hfz23_4:=blk_frozen BK239.out 4
    go_wp2
    go_meet
    case rel=>exact ⟨_,(false),(by first|rfl|(simp;done)|(simp [*];done)),H',⟨by first|omega|exact Nat.le_refl _⟩,⟨by (with_reducible repeat first|apply Q1|apply Q2|apply Q3);refine blk_put (cs:=#[.int .i64 ((rd_T86 l0 a1).f0),.int .i64 ((rd_T86 l0 a1).f1),.int .i64 ((rd_T86 l0 a1).f2),.int .i64 ((rd_T86 l0 a1).f3),.int .i64 0]) ?_ 4 _ rfl;(with_reducible repeat first|apply Q1|apply Q2|apply Q3);refine blk_put (cs:=#[.int .i64 ((rd_T86 l0 a1).f0),.int .i64 ((rd_T86 l0 a1).f1),.int .i64 ((rd_T86 l0 a1).f2),.int .i64 0,.int .i64 0]) ?_ 3 _ rfl;(with_reducible repeat first|apply Q1|apply Q2|apply Q3);refine blk_put (cs:=#[.int .i64 ((rd_T86 l0 a1).f0),.int .i64 ((rd_T86 l0 a1).f1),.int .i64 0,.int .i64 0,.int .i64 0]) ?_ 2 _ rfl;(with_reducible repeat first|apply Q1|apply Q2|apply Q3);refine blk_put (cs:=#[.int .i64 ((rd_T86 l0 a1).f0),.int .i64 0,.int .i64 0,.int .i64 0,.int .i64 0]) ?_ 1 _ rfl;(with_reducible repeat first|apply Q1|apply Q2|apply Q3);refine blk_put (cs:=#[.int .i64 0,.int .i64 0,.int .i64 0,.int .i64 0,.int .i64 0]) ?_ 0 _ rfl;(with_reducible repeat first|apply Q1|apply Q2|apply Q3);exact BK239.out⟩,⟨by repeat (with_reducible first|exact HB.out|apply Q4|apply Q5|apply Q6|apply Q7 GE239.out)⟩⟩
   clear HC18
   try clear c6b0
   try clear c7b0
   try clear c9
   try clear c9b0 c9b1
   try clear hcz20_0 hcz20_1 hcz20_2 hcz20_3 hcz20_4 hfz20_0 hfz20_1 hfz20_2 hfz20_3 hfz20_4
   try clear hx238_0 hx238_1 hx238_2 hx238_3 hx238_4
   try clear p238
   try clear q238
   obtain ⟨kq,x34_17,rfl,HA,HJ17,BK239,HB⟩:=hcut
   cases kq with
   | zero=>exact absurd HA.out (by simp [spec_l06Rule.j0])
   | succ kj17 =>
    have H:=HA.out
    clear HA
    simp only [spec_l06Rule.j0] at H
    by_cases c24:x34_17=true
    ·subst c24
     rw [if_pos rfl] at H
     obtain ⟨t243,A25,H⟩:=bindA H
     by_cases c26:t243=true
     ·subst c26
      rw [if_pos rfl] at H
      obtain rfl:=Option.some.inj H
      have hcz27_0:wc.cell? ⟨gb239,0,none⟩=some (.int .i64 ((rd_T86 l0 a1).f0)):=(blk_cell BK239.out 0).trans rfl
      have hcz27_1:wc.cell? ⟨gb239,1,none⟩=some (.int .i64 ((rd_T86 l0 a1).f1)):=(blk_cell BK239.out 1).trans rfl
      have hcz27_2:wc.cell? ⟨gb239,2,none⟩=some (.int .i64 ((rd_T86 l0 a1).f2)):=(blk_cell BK239.out 2).trans rfl
      have hcz27_3:wc.cell? ⟨gb239,3,none⟩=some (.int .i64 ((rd_T86 l0 a1).f3)):=(blk_cell BK239.out 3).trans rfl
      have hcz27_4:wc.cell? ⟨gb239,4,none⟩=some (.int .i64 ((rd_T86 l0 a1).f4)):=(blk_cell BK239.out 4).trans rfl
      have hfz27_0:=blk_frozen BK239.out 0
      have hfz27_1:=blk_frozen BK239.out 1
      have hfz27_2:=blk_frozen BK239.out 2
      have hfz27_3:=blk_frozen BK239.out 3
      have hfz27_4:=blk_frozen BK239.out 4
      go_wp2_with (first|((with_reducible refine gate_callee (f:=78) rfl ?_);refine goesL_ (some 51) rfl rfl Try.func78 (by kernel_rfl) rfl #[.slice A4 l4.length c4,.int .i64 (wrap64 ((wrap64 (a2+(wrap64 (4*a1))))+((rd_T86 l0 a1).f4)))] rfl (by (try simp only [List.map_toArray,List.map_cons,List.map_nil]);first|done|rfl|(simp only [List.length_drop,List.length_take];rfl)) ?_;(with_reducible refine (spec_l06HasInt.calls kj17 _ _ l4 (wrap64 ((wrap64 (a2+(wrap64 (4*a1))))+((rd_T86 l0 a1).f4))) true _ ?side1 ?side2 A25.out).mono ?_);(case side1=>repeat (first|exact (Kd.C_below HR4.out HB.out)|(with_reducible refine Kd.C_alloc ?_ _)|(with_reducible refine Kd.C_drewN ?_ _)|(with_reducible refine Kd.C_drew ?_)));(case side2=>exact HC4.out);rintro e w' ⟨rfl,⟨nd,rfl⟩⟩;refine ⟨_,rfl,?_⟩))
      go_ret
      exact ⟨by first|rfl|(simp [errW_none,errW_some]<;>rfl)|(simp [*,errW_none,errW_some]<;>rfl),by repeat (with_reducible first|exact HB.out|apply Q4|apply Q5|apply Q6|apply Q7 GE239.out)⟩
     replace c26:=Bool.eq_false_iff.mpr c26
     subst c26
     rw [if_neg (show ¬ (false=true) by decide)] at H
     obtain rfl:=Option.some.inj H
     have hcz28_0:wc.cell? ⟨gb239,0,none⟩=some (.int .i64 ((rd_T86 l0 a1).f0)):=(blk_cell BK239.out 0).trans rfl
     have hcz28_1:wc.cell? ⟨gb239,1,none⟩=some (.int .i64 ((rd_T86 l0 a1).f1)):=(blk_cell BK239.out 1).trans rfl
     have hcz28_2:wc.cell? ⟨gb239,2,none⟩=some (.int .i64 ((rd_T86 l0 a1).f2)):=(blk_cell BK239.out 2).trans rfl
     have hcz28_3:wc.cell? ⟨gb239,3,none⟩=some (.int .i64 ((rd_T86 l0 a1).f3)):=(blk_cell BK239.out 3).trans rfl
     have hcz28_4:wc.cell? ⟨gb239,4,none⟩=some (.int .i64 ((rd_T86 l0 a1).f4)):=(blk_cell BK239.out 4).trans rfl
     have hfz28_0:=blk_frozen BK239.out 0
     have hfz28_1:=blk_frozen BK239.out 1
     have hfz28_2:=blk_frozen BK239.out 2
     have hfz28_3:=blk_frozen BK239.out 3
     have hfz28_4:=blk_frozen BK239.out 4
     go_wp2_with (first|((with_reducible refine gate_callee (f:=78) rfl ?_);refine goesL_ (some 51) rfl rfl Try.func78 (by kernel_rfl) rfl #[.slice A4 l4.length c4,.int .i64 (wrap64 ((wrap64 (a2+(wrap64 (4*a1))))+((rd_T86 l0 a1).f4)))] rfl (by (try simp only [List.map_toArray,List.map_cons,List.map_nil]);first|done|rfl|(simp only [List.length_drop,List.length_take];rfl)) ?_;(with_reducible refine (spec_l06HasInt.calls kj17 _ _ l4 (wrap64 ((wrap64 (a2+(wrap64 (4*a1))))+((rd_T86 l0 a1).f4))) false _ ?side1 ?side2 A25.out).mono ?_);(case side1=>repeat (first|exact (Kd.C_below HR4.out HB.out)|(with_reducible refine Kd.C_alloc ?_ _)|(with_reducible refine Kd.C_drewN ?_ _)|(with_reducible refine Kd.C_drew ?_)));(case side2=>exact HC4.out);rintro e w' ⟨rfl,⟨nd,rfl⟩⟩;refine ⟨_,rfl,?_⟩))
     go_ret
     exact ⟨by first|rfl|(simp [errW_none,errW_some]<;>rfl)|(simp [*,errW_none,errW_some]<;>rfl),by repeat (with_reducible first|exact HB.out|apply Q4|apply Q5|apply Q6|apply Q7 GE239.out)⟩
    replace c24:=Bool.eq_false_iff.mpr c24
    subst c24
    rw [if_neg (show ¬ (false=true) by decide)] at H
    by_cases c29:((rd_T86 l0 a1).f0)=3
    ·rw [if_pos c29] at H
     obtain ⟨c29b0,c29b1⟩:=eqP c29
     clear c29
     by_cases c30:((rd_T86 l0 a1).f1)=0
     ·rw [if_pos c30] at H
      obtain ⟨c30b0,c30b1⟩:=eqP c30
      clear c30
      obtain ⟨t244,A31,H⟩:=bindA H
      by_cases c32:t244=true
      ·subst c32
       rw [if_pos rfl] at H
       obtain rfl:=Option.some.inj H
       have hcz33_0:wc.cell? ⟨gb239,0,none⟩=some (.int .i64 ((rd_T86 l0 a1).f0)):=(blk_cell BK239.out 0).trans rfl
       have hcz33_1:wc.cell? ⟨gb239,1,none⟩=some (.int .i64 ((rd_T86 l0 a1).f1)):=(blk_cell BK239.out 1).trans rfl
       have hcz33_2:wc.cell? ⟨gb239,2,none⟩=some (.int .i64 ((rd_T86 l0 a1).f2)):=(blk_cell BK239.out 2).trans rfl
       have hcz33_3:wc.cell? ⟨gb239,3,none⟩=some (.int .i64 ((rd_T86 l0 a1).f3)):=(blk_cell BK239.out 3).trans rfl
       have hcz33_4:wc.cell? ⟨gb239,4,none⟩=some (.int .i64 ((rd_T86 l0 a1).f4)):=(blk_cell BK239.out 4).trans rfl
       have hfz33_0:=blk_frozen BK239.out 0
       have hfz33_1:=blk_frozen BK239.out 1
       have hfz33_2:=blk_frozen BK239.out 2
       have hfz33_3:=blk_frozen BK239.out 3
       have hfz33_4:=blk_frozen BK239.out 4
       go_wp2_with (first|(go_at_call 87;(with_reducible refine (spec_l06Goes.calls _ _ l0 a1 ((rd_T86 l0 a1).f4) a3 true _ ?side1 ?side2 A31.out).mono ?_);(case side1=>repeat (first|exact (Kd.C_below HR0.out HB.out)|(with_reducible refine Kd.C_alloc ?_ _)|(with_reducible refine Kd.C_drewN ?_ _)|(with_reducible refine Kd.C_drew ?_)));(case side2=>exact HC0.out);rintro e w34 ⟨rfl,hb⟩;have n0_:=Aside0.mk (blk_below (g:=gb239) (o:=.cells #[.int .i64 ((rd_T86 l0 a1).f0),.int .i64 ((rd_T86 l0 a1).f1),.int .i64 ((rd_T86 l0 a1).f2),.int .i64 ((rd_T86 l0 a1).f3),.int .i64 ((rd_T86 l0 a1).f4)] 86 (0,0)) (by (with_reducible repeat first|apply Q1|apply Q2|apply Q3);exact BK239.out) hb);have n1_:=Aside0.mk (below_step (by repeat (with_reducible first|exact HB.out|apply Q4|apply Q5|apply Q6|apply Q7 GE239.out)) hb);clear BK239;clear HB;have BK239:=n0_;have HB:=n1_;clear n0_ n1_;(try clear hb);(try clear hb2);(try clear hk);(try clear hi)))
       go_ret
       exact ⟨by first|rfl|(simp [errW_none,errW_some]<;>rfl)|(simp [*,errW_none,errW_some]<;>rfl),by repeat (with_reducible first|exact HB.out|apply Q4|apply Q5|apply Q6|apply Q7 GE239.out)⟩
      replace c32:=Bool.eq_false_iff.mpr c32
      subst c32
      rw [if_neg (show ¬ (false=true) by decide)] at H
      obtain rfl:=Option.some.inj H
      have hcz35_0:wc.cell? ⟨gb239,0,none⟩=some (.int .i64 ((rd_T86 l0 a1).f0)):=(blk_cell BK239.out 0).trans rfl
      have hcz35_1:wc.cell? ⟨gb239,1,none⟩=some (.int .i64 ((rd_T86 l0 a1).f1)):=(blk_cell BK239.out 1).trans rfl
      have hcz35_2:wc.cell? ⟨gb239,2,none⟩=some (.int .i64 ((rd_T86 l0 a1).f2)):=(blk_cell BK239.out 2).trans rfl
      have hcz35_3:wc.cell? ⟨gb239,3,none⟩=some (.int .i64 ((rd_T86 l0 a1).f3)):=(blk_cell BK239.out 3).trans rfl
      have hcz35_4:wc.cell? ⟨gb239,4,none⟩=some (.int .i64 ((rd_T86 l0 a1).f4)):=(blk_cell BK239.out 4).trans rfl
      have hfz35_0:=blk_frozen BK239.out 0
      have hfz35_1:=blk_frozen BK239.out 1
      have hfz35_2:=blk_frozen BK239.out 2
      have hfz35_3:=blk_frozen BK239.out 3
      have hfz35_4:=blk_frozen BK239.out 4
      go_wp2_with (first|(go_at_call 87;(with_reducible refine (spec_l06Goes.calls _ _ l0 a1 ((rd_T86 l0 a1).f4) a3 false _ ?side1 ?side2 A31.out).mono ?_);(case side1=>repeat (first|exact (Kd.C_below HR0.out HB.out)|(with_reducible refine Kd.C_alloc ?_ _)|(with_reducible refine Kd.C_drewN ?_ _)|(with_reducible refine Kd.C_drew ?_)));(case side2=>exact HC0.out);rintro e w36 ⟨rfl,hb⟩;have n0_:=Aside0.mk (blk_below (g:=gb239) (o:=.cells #[.int .i64 ((rd_T86 l0 a1).f0),.int .i64 ((rd_T86 l0 a1).f1),.int .i64 ((rd_T86 l0 a1).f2),.int .i64 ((rd_T86 l0 a1).f3),.int .i64 ((rd_T86 l0 a1).f4)] 86 (0,0)) (by (with_reducible repeat first|apply Q1|apply Q2|apply Q3);exact BK239.out) hb);have n1_:=Aside0.mk (below_step (by repeat (with_reducible first|exact HB.out|apply Q4|apply Q5|apply Q6|apply Q7 GE239.out)) hb);clear BK239;clear HB;have BK239:=n0_;have HB:=n1_;clear n0_ n1_;(try clear hb);(try clear hb2);(try clear hk);(try clear hi)))
      go_ret
      exact ⟨by first|rfl|(simp [errW_none,errW_some]<;>rfl)|(simp [*,errW_none,errW_some]<;>rfl),by repeat (with_reducible first|exact HB.out|apply Q4|apply Q5|apply Q6|apply Q7 GE239.out)⟩
     rw [if_neg c30] at H
     obtain ⟨c30b0,c30b1⟩:=eqN c30
     obtain rfl:=Option.some.inj H
     have hcz37_0:wc.cell? ⟨gb239,0,none⟩=some (.int .i64 ((rd_T86 l0 a1).f0)):=(blk_cell BK239.out 0).trans rfl
     have hcz37_1:wc.cell? ⟨gb239,1,none⟩=some (.int .i64 ((rd_T86 l0 a1).f1)):=(blk_cell BK239.out 1).trans rfl
     have hcz37_2:wc.cell? ⟨gb239,2,none⟩=some (.int .i64 ((rd_T86 l0 a1).f2)):=(blk_cell BK239.out 2).trans rfl
     have hcz37_3:wc.cell? ⟨gb239,3,none⟩=some (.int .i64 ((rd_T86 l0 a1).f3)):=(blk_cell BK239.out 3).trans rfl
     have hcz37_4:wc.cell? ⟨gb239,4,none⟩=some (.int .i64 ((rd_T86 l0 a1).f4)):=(blk_cell BK239.out 4).trans rfl
     have hfz37_0:=blk_frozen BK239.out 0
     have hfz37_1:=blk_frozen BK239.out 1
     have hfz37_2:=blk_frozen BK239.out 2
     have hfz37_3:=blk_frozen BK239.out 3
     have hfz37_4:=blk_frozen BK239.out 4
     go_wp2
     go_ret
     exact ⟨by first|rfl|(simp [errW_none,errW_some]<;>rfl)|(simp [*,errW_none,errW_some]<;>rfl),by repeat (with_reducible first|exact HB.out|apply Q4|apply Q5|apply Q6|apply Q7 GE239.out)⟩
    rw [if_neg c29] at H
    obtain ⟨c29b0,c29b1⟩:=eqN c29
    obtain ⟨⟨t245,t246,t247,t248⟩,A38,H⟩:=bindA H
    try dsimp only at H
    by_cases c39:t245=4
    ·rw [if_pos c39] at H
     obtain ⟨c39b0,c39b1⟩:=eqP c39
     clear c39
     obtain ⟨t249,A40,H⟩:=bindA H
     by_cases c41:t249=true
     ·subst c41
      rw [if_pos rfl] at H
      obtain rfl:=Option.some.inj H
      have hcz42_0:wc.cell? ⟨gb239,0,none⟩=some (.int .i64 ((rd_T86 l0 a1).f0)):=(blk_cell BK239.out 0).trans rfl
      have hcz42_1:wc.cell? ⟨gb239,1,none⟩=some (.int .i64 ((rd_T86 l0 a1).f1)):=(blk_cell BK239.out 1).trans rfl
      have hcz42_2:wc.cell? ⟨gb239,2,none⟩=some (.int .i64 ((rd_T86 l0 a1).f2)):=(blk_cell BK239.out 2).trans rfl
      have hcz42_3:wc.cell? ⟨gb239,3,none⟩=some (.int .i64 ((rd_T86 l0 a1).f3)):=(blk_cell BK239.out 3).trans rfl
      have hcz42_4:wc.cell? ⟨gb239,4,none⟩=some (.int .i64 ((rd_T86 l0 a1).f4)):=(blk_cell BK239.out 4).trans rfl
      have hfz42_0:=blk_frozen BK239.out 0
      have hfz42_1:=blk_frozen BK239.out 1
      have hfz42_2:=blk_frozen BK239.out 2
      have hfz42_3:=blk_frozen BK239.out 3
      have hfz42_4:=blk_frozen BK239.out 4
      go_wp2_with (first|((with_reducible refine gate_callee (f:=88) rfl ?_);refine goesL_ (some 72) rfl rfl Try.func88 (by kernel_rfl) rfl #[.int .i64 ((rd_T86 l0 a1).f0)] rfl (by (try simp only [List.map_toArray,List.map_cons,List.map_nil]);first|done|rfl|(simp only [List.length_drop,List.length_take];rfl)) ?_;(with_reducible refine (spec_l02Shape.calls ((rd_T86 l0 a1).f0) t245 t246 t247 t248 _ A38.out).mono ?_);rintro e w43 ⟨rfl,hb⟩;refine ⟨_,rfl,?_⟩;have n0_:=Aside0.mk (blk_below (g:=gb239) (o:=.cells #[.int .i64 ((rd_T86 l0 a1).f0),.int .i64 ((rd_T86 l0 a1).f1),.int .i64 ((rd_T86 l0 a1).f2),.int .i64 ((rd_T86 l0 a1).f3),.int .i64 ((rd_T86 l0 a1).f4)] 86 (0,0)) (by (with_reducible repeat first|apply Q1|apply Q2|apply Q3);exact BK239.out) hb);have n1_:=Aside0.mk (below_step (by repeat (with_reducible first|exact HB.out|apply Q4|apply Q5|apply Q6|apply Q7 GE239.out)) hb);clear BK239;clear HB;have BK239:=n0_;have HB:=n1_;clear n0_ n1_;(try clear hb);(try clear hb2);(try clear hk);(try clear hi);have hcz44_0:w43.cell? ⟨gb239,0,none⟩=some (.int .i64 ((rd_T86 l0 a1).f0)):=(blk_cell BK239.out 0).trans rfl;have hcz44_1:w43.cell? ⟨gb239,1,none⟩=some (.int .i64 ((rd_T86 l0 a1).f1)):=(blk_cell BK239.out 1).trans rfl;have hcz44_2:w43.cell? ⟨gb239,2,none⟩=some (.int .i64 ((rd_T86 l0 a1).f2)):=(blk_cell BK239.out 2).trans rfl;have hcz44_3:w43.cell? ⟨gb239,3,none⟩=some (.int .i64 ((rd_T86 l0 a1).f3)):=(blk_cell BK239.out 3).trans rfl;have hcz44_4:w43.cell? ⟨gb239,4,none⟩=some (.int .i64 ((rd_T86 l0 a1).f4)):=(blk_cell BK239.out 4).trans rfl;have hfz44_0:=blk_frozen BK239.out 0;have hfz44_1:=blk_frozen BK239.out 1;have hfz44_2:=blk_frozen BK239.out 2;have hfz44_3:=blk_frozen BK239.out 3;have hfz44_4:=blk_frozen BK239.out 4)|((with_reducible refine gate_callee (f:=87) rfl ?_);refine goesL_ (some 80) rfl rfl Try.func87 (by kernel_rfl) rfl #[.slice (some ad238) l0.length c0,.int .i64 a1,.int .i64 ((rd_T86 l0 a1).f4),.int .i64 a3] rfl (by (try simp only [List.map_toArray,List.map_cons,List.map_nil]);first|done|rfl|(simp only [List.length_drop,List.length_take];rfl)) ?_;(with_reducible refine (spec_l06Goes.calls _ _ l0 a1 ((rd_T86 l0 a1).f4) a3 true _ ?side1 ?side2 A40.out).mono ?_);(case side1=>repeat (first|exact (Kd.C_below HR0.out HB.out)|(with_reducible refine Kd.C_alloc ?_ _)|(with_reducible refine Kd.C_drewN ?_ _)|(with_reducible refine Kd.C_drew ?_)));(case side2=>exact HC0.out);rintro e w45 ⟨rfl,hb⟩;refine ⟨_,rfl,?_⟩;have n0_:=Aside0.mk (blk_below (g:=gb239) (o:=.cells #[.int .i64 ((rd_T86 l0 a1).f0),.int .i64 ((rd_T86 l0 a1).f1),.int .i64 ((rd_T86 l0 a1).f2),.int .i64 ((rd_T86 l0 a1).f3),.int .i64 ((rd_T86 l0 a1).f4)] 86 (0,0)) (by (with_reducible repeat first|apply Q1|apply Q2|apply Q3);exact BK239.out) hb);have n1_:=Aside0.mk (below_step (by repeat (with_reducible first|exact HB.out|apply Q4|apply Q5|apply Q6|apply Q7 GE239.out)) hb);clear BK239;clear HB;have BK239:=n0_;have HB:=n1_;clear n0_ n1_;(try clear hb);(try clear hb2);(try clear hk);(try clear hi)))
      go_ret
      exact ⟨by first|rfl|(simp [errW_none,errW_some]<;>rfl)|(simp [*,errW_none,errW_some]<;>rfl),by repeat (with_reducible first|exact HB.out|apply Q4|apply Q5|apply Q6|apply Q7 GE239.out)⟩
     replace c41:=Bool.eq_false_iff.mpr c41
     subst c41
     rw [if_neg (show ¬ (false=true) by decide)] at H
     obtain rfl:=Option.some.inj H
     have hcz46_0:wc.cell? ⟨gb239,0,none⟩=some (.int .i64 ((rd_T86 l0 a1).f0)):=(blk_cell BK239.out 0).trans rfl
     have hcz46_1:wc.cell? ⟨gb239,1,none⟩=some (.int .i64 ((rd_T86 l0 a1).f1)):=(blk_cell BK239.out 1).trans rfl
     have hcz46_2:wc.cell? ⟨gb239,2,none⟩=some (.int .i64 ((rd_T86 l0 a1).f2)):=(blk_cell BK239.out 2).trans rfl
     have hcz46_3:wc.cell? ⟨gb239,3,none⟩=some (.int .i64 ((rd_T86 l0 a1).f3)):=(blk_cell BK239.out 3).trans rfl
     have hcz46_4:wc.cell? ⟨gb239,4,none⟩=some (.int .i64 ((rd_T86 l0 a1).f4)):=(blk_cell BK239.out 4).trans rfl
     have hfz46_0:=blk_frozen BK239.out 0
     have hfz46_1:=blk_frozen BK239.out 1
     have hfz46_2:=blk_frozen BK239.out 2
     have hfz46_3:=blk_frozen BK239.out 3
     have hfz46_4:=blk_frozen BK239.out 4
     go_wp2_with (first|((with_reducible refine gate_callee (f:=88) rfl ?_);refine goesL_ (some 72) rfl rfl Try.func88 (by kernel_rfl) rfl #[.int .i64 ((rd_T86 l0 a1).f0)] rfl (by (try simp only [List.map_toArray,List.map_cons,List.map_nil]);first|done|rfl|(simp only [List.length_drop,List.length_take];rfl)) ?_;(with_reducible refine (spec_l02Shape.calls ((rd_T86 l0 a1).f0) t245 t246 t247 t248 _ A38.out).mono ?_);rintro e w47 ⟨rfl,hb⟩;refine ⟨_,rfl,?_⟩;have n0_:=Aside0.mk (blk_below (g:=gb239) (o:=.cells #[.int .i64 ((rd_T86 l0 a1).f0),.int .i64 ((rd_T86 l0 a1).f1),.int .i64 ((rd_T86 l0 a1).f2),.int .i64 ((rd_T86 l0 a1).f3),.int .i64 ((rd_T86 l0 a1).f4)] 86 (0,0)) (by (with_reducible repeat first|apply Q1|apply Q2|apply Q3);exact BK239.out) hb);have n1_:=Aside0.mk (below_step (by repeat (with_reducible first|exact HB.out|apply Q4|apply Q5|apply Q6|apply Q7 GE239.out)) hb);clear BK239;clear HB;have BK239:=n0_;have HB:=n1_;clear n0_ n1_;(try clear hb);(try clear hb2);(try clear hk);(try clear hi);have hcz48_0:w47.cell? ⟨gb239,0,none⟩=some (.int .i64 ((rd_T86 l0 a1).f0)):=(blk_cell BK239.out 0).trans rfl;have hcz48_1:w47.cell? ⟨gb239,1,none⟩=some (.int .i64 ((rd_T86 l0 a1).f1)):=(blk_cell BK239.out 1).trans rfl;have hcz48_2:w47.cell? ⟨gb239,2,none⟩=some (.int .i64 ((rd_T86 l0 a1).f2)):=(blk_cell BK239.out 2).trans rfl;have hcz48_3:w47.cell? ⟨gb239,3,none⟩=some (.int .i64 ((rd_T86 l0 a1).f3)):=(blk_cell BK239.out 3).trans rfl;have hcz48_4:w47.cell? ⟨gb239,4,none⟩=some (.int .i64 ((rd_T86 l0 a1).f4)):=(blk_cell BK239.out 4).trans rfl;have hfz48_0:=blk_frozen BK239.out 0;have hfz48_1:=blk_frozen BK239.out 1;have hfz48_2:=blk_frozen BK239.out 2;have hfz48_3:=blk_frozen BK239.out 3;have hfz48_4:=blk_frozen BK239.out 4)|((with_reducible refine gate_callee (f:=87) rfl ?_);refine goesL_ (some 80) rfl rfl Try.func87 (by kernel_rfl) rfl #[.slice (some ad238) l0.length c0,.int .i64 a1,.int .i64 ((rd_T86 l0 a1).f4),.int .i64 a3] rfl (by (try simp only [List.map_toArray,List.map_cons,List.map_nil]);first|done|rfl|(simp only [List.length_drop,List.length_take];rfl)) ?_;(with_reducible refine (spec_l06Goes.calls _ _ l0 a1 ((rd_T86 l0 a1).f4) a3 false _ ?side1 ?side2 A40.out).mono ?_);(case side1=>repeat (first|exact (Kd.C_below HR0.out HB.out)|(with_reducible refine Kd.C_alloc ?_ _)|(with_reducible refine Kd.C_drewN ?_ _)|(with_reducible refine Kd.C_drew ?_)));(case side2=>exact HC0.out);rintro e w49 ⟨rfl,hb⟩;refine ⟨_,rfl,?_⟩;have n0_:=Aside0.mk (blk_below (g:=gb239) (o:=.cells #[.int .i64 ((rd_T86 l0 a1).f0),.int .i64 ((rd_T86 l0 a1).f1),.int .i64 ((rd_T86 l0 a1).f2),.int .i64 ((rd_T86 l0 a1).f3),.int .i64 ((rd_T86 l0 a1).f4)] 86 (0,0)) (by (with_reducible repeat first|apply Q1|apply Q2|apply Q3);exact BK239.out) hb);have n1_:=Aside0.mk (below_step (by repeat (with_reducible first|exact HB.out|apply Q4|apply Q5|apply Q6|apply Q7 GE239.out)) hb);clear BK239;clear HB;have BK239:=n0_;have HB:=n1_;clear n0_ n1_;(try clear hb);(try clear hb2);(try clear hk);(try clear hi)))
     go_ret
     exact ⟨by first|rfl|(simp [errW_none,errW_some]<;>rfl)|(simp [*,errW_none,errW_some]<;>rfl),by repeat (with_reducible first|exact HB.out|apply Q4|apply Q5|apply Q6|apply Q7 GE239.out)⟩
    rw [if_neg c39] at H
    obtain ⟨c39b0,c39b1⟩:=eqN c39
    have HC50:=Aside0.mk H
    clear H
    have hcz51_0:wc.cell? ⟨gb239,0,none⟩=some (.int .i64 ((rd_T86 l0 a1).f0)):=(blk_cell BK239.out 0).trans rfl
    have hcz51_1:wc.cell? ⟨gb239,1,none⟩=some (.int .i64 ((rd_T86 l0 a1).f1)):=(blk_cell BK239.out 1).trans rfl
    have hcz51_2:wc.cell? ⟨gb239,2,none⟩=some (.int .i64 ((rd_T86 l0 a1).f2)):=(blk_cell BK239.out 2).trans rfl
    have hcz51_3:wc.cell? ⟨gb239,3,none⟩=some (.int .i64 ((rd_T86 l0 a1).f3)):=(blk_cell BK239.out 3).trans rfl
    have hcz51_4:wc.cell? ⟨gb239,4,none⟩=some (.int .i64 ((rd_T86 l0 a1).f4)):=(blk_cell BK239.out 4).trans rfl
    have hfz51_0:=blk_frozen BK239.out 0
    have hfz51_1:=blk_frozen BK239.out 1
    have hfz51_2:=blk_frozen BK239.out 2
    have hfz51_3:=blk_frozen BK239.out 3
    have hfz51_4:=blk_frozen BK239.out 4
    go_upto_region 19 with (first|((with_reducible refine gate_callee (f:=88) rfl ?_);refine goesL_ (some 72) rfl rfl Try.func88 (by kernel_rfl) rfl #[.int .i64 ((rd_T86 l0 a1).f0)] rfl (by (try simp only [List.map_toArray,List.map_cons,List.map_nil]);first|done|rfl|(simp only [List.length_drop,List.length_take];rfl)) ?_;(with_reducible refine (spec_l02Shape.calls ((rd_T86 l0 a1).f0) t245 t246 t247 t248 _ A38.out).mono ?_);rintro e w52 ⟨rfl,hb⟩;refine ⟨_,rfl,?_⟩;have n0_:=Aside0.mk (blk_below (g:=gb239) (o:=.cells #[.int .i64 ((rd_T86 l0 a1).f0),.int .i64 ((rd_T86 l0 a1).f1),.int .i64 ((rd_T86 l0 a1).f2),.int .i64 ((rd_T86 l0 a1).f3),.int .i64 ((rd_T86 l0 a1).f4)] 86 (0,0)) (by (with_reducible repeat first|apply Q1|apply Q2|apply Q3);exact BK239.out) hb);have n1_:=Aside0.mk (below_step (by repeat (with_reducible first|exact HB.out|apply Q4|apply Q5|apply Q6|apply Q7 GE239.out)) hb);clear BK239;clear HB;have BK239:=n0_;have HB:=n1_;clear n0_ n1_;(try clear hb);(try clear hb2);(try clear hk);(try clear hi)))
    (try simp only [Act.put,List.setIfInBounds_toArray,List.set_cons_zero,List.set_cons_succ])
    go_cut [104] (fun v104 wc=>∃ (kq:Nat) (x104_49:Bool),v104=.bool x104_49∧Aside0 (spec_l06Rule.j1 kq l0 a1 a3 t240 x104_49 ((rd_T86 l0 a1).f0) ((rd_T86 l0 a1).f1) ((rd_T86 l0 a1).f2) ((rd_T86 l0 a1).f3) ((rd_T86 l0 a1).f4)=some r)∧Aside0 (kq≤kj17)∧Aside0 (wc.heap[gb239]?=some (.cells #[.int .i64 ((rd_T86 l0 a1).f0),.int .i64 ((rd_T86 l0 a1).f1),.int .i64 ((rd_T86 l0 a1).f2),.int .i64 ((rd_T86 l0 a1).f3),.int .i64 ((rd_T86 l0 a1).f4)] 86 (0,0)))∧Aside0 (Below w.heap.size w wc))
    case first=>
     have H:=HC50.out
     clear HC50
     by_cases c53:((rd_T86 l0 a1).f1)=1
     ·rw [if_pos c53] at H
      obtain ⟨c53b0,c53b1⟩:=eqP c53
      clear c53
      (first|rw [c53b0]|(simp only [i64_w,i32_w];rw [c53b0])|skip)
      obtain ⟨t250,A54,H⟩:=bindA H
      by_cases c55:t250=true
      ·subst c55
       rw [if_pos rfl] at H
       by_cases c56:((rd_T86 l0 a1).f1)=2
       ·rw [if_pos c56] at H
        obtain ⟨c56b0,c56b1⟩:=eqP c56
        clear c56
        obtain ⟨t251,A57,H⟩:=bindA H
        have H':=Aside0.mk H
        clear H
        have hcz58_0:w52.cell? ⟨gb239,0,none⟩=some (.int .i64 ((rd_T86 l0 a1).f0)):=(blk_cell BK239.out 0).trans rfl
        have hcz58_1:w52.cell? ⟨gb239,1,none⟩=some (.int .i64 ((rd_T86 l0 a1).f1)):=(blk_cell BK239.out 1).trans rfl
        have hcz58_2:w52.cell? ⟨gb239,2,none⟩=some (.int .i64 ((rd_T86 l0 a1).f2)):=(blk_cell BK239.out 2).trans rfl
        have hcz58_3:w52.cell? ⟨gb239,3,none⟩=some (.int .i64 ((rd_T86 l0 a1).f3)):=(blk_cell BK239.out 3).trans rfl
        have hcz58_4:w52.cell? ⟨gb239,4,none⟩=some (.int .i64 ((rd_T86 l0 a1).f4)):=(blk_cell BK239.out 4).trans rfl
        have hfz58_0:=blk_frozen BK239.out 0
        have hfz58_1:=blk_frozen BK239.out 1
        have hfz58_2:=blk_frozen BK239.out 2
        have hfz58_3:=blk_frozen BK239.out 3
        have hfz58_4:=blk_frozen BK239.out 4
        go_wp2_with (first|(go_at_call 86;(with_reducible refine (spec_l06Ends.calls _ _ l0 a1 a3 true _ ?side1 ?side2 A54.out).mono ?_);(case side1=>repeat (first|exact (Kd.C_below HR0.out HB.out)|(with_reducible refine Kd.C_alloc ?_ _)|(with_reducible refine Kd.C_drewN ?_ _)|(with_reducible refine Kd.C_drew ?_)));(case side2=>exact HC0.out);rintro e w59 ⟨rfl,hb⟩;have n0_:=Aside0.mk (blk_below (g:=gb239) (o:=.cells #[.int .i64 ((rd_T86 l0 a1).f0),.int .i64 ((rd_T86 l0 a1).f1),.int .i64 ((rd_T86 l0 a1).f2),.int .i64 ((rd_T86 l0 a1).f3),.int .i64 ((rd_T86 l0 a1).f4)] 86 (0,0)) (by (with_reducible repeat first|apply Q1|apply Q2|apply Q3);exact BK239.out) hb);have n1_:=Aside0.mk (below_step (by repeat (with_reducible first|exact HB.out|apply Q4|apply Q5|apply Q6|apply Q7 GE239.out)) hb);clear BK239;clear HB;have BK239:=n0_;have HB:=n1_;clear n0_ n1_;(try clear hb);(try clear hb2);(try clear hk);(try clear hi);have hcz60_0:w59.cell? ⟨gb239,0,none⟩=some (.int .i64 ((rd_T86 l0 a1).f0)):=(blk_cell BK239.out 0).trans rfl;have hcz60_1:w59.cell? ⟨gb239,1,none⟩=some (.int .i64 ((rd_T86 l0 a1).f1)):=(blk_cell BK239.out 1).trans rfl;have hcz60_2:w59.cell? ⟨gb239,2,none⟩=some (.int .i64 ((rd_T86 l0 a1).f2)):=(blk_cell BK239.out 2).trans rfl;have hcz60_3:w59.cell? ⟨gb239,3,none⟩=some (.int .i64 ((rd_T86 l0 a1).f3)):=(blk_cell BK239.out 3).trans rfl;have hcz60_4:w59.cell? ⟨gb239,4,none⟩=some (.int .i64 ((rd_T86 l0 a1).f4)):=(blk_cell BK239.out 4).trans rfl;have hfz60_0:=blk_frozen BK239.out 0;have hfz60_1:=blk_frozen BK239.out 1;have hfz60_2:=blk_frozen BK239.out 2;have hfz60_3:=blk_frozen BK239.out 3;have hfz60_4:=blk_frozen BK239.out 4)|(go_at_call 86;(with_reducible refine (spec_l06Ends.calls _ _ l0 (wrap64 (a1 - 1)) a3 t251 _ ?side1 ?side2 A57.out).mono ?_);(case side1=>repeat (first|exact (Kd.C_below HR0.out HB.out)|(with_reducible refine Kd.C_alloc ?_ _)|(with_reducible refine Kd.C_drewN ?_ _)|(with_reducible refine Kd.C_drew ?_)));(case side2=>exact HC0.out);rintro e w61 ⟨rfl,hb⟩;have n0_:=Aside0.mk (blk_below (g:=gb239) (o:=.cells #[.int .i64 ((rd_T86 l0 a1).f0),.int .i64 ((rd_T86 l0 a1).f1),.int .i64 ((rd_T86 l0 a1).f2),.int .i64 ((rd_T86 l0 a1).f3),.int .i64 ((rd_T86 l0 a1).f4)] 86 (0,0)) (by (with_reducible repeat first|apply Q1|apply Q2|apply Q3);exact BK239.out) hb);have n1_:=Aside0.mk (below_step (by repeat (with_reducible first|exact HB.out|apply Q4|apply Q5|apply Q6|apply Q7 GE239.out)) hb);clear BK239;clear HB;have BK239:=n0_;have HB:=n1_;clear n0_ n1_;(try clear hb);(try clear hb2);(try clear hk);(try clear hi)))
        go_meet
        case rel=>exact ⟨_,(!t251),(by first|rfl|(simp;done)|(simp [*];done)),H',⟨by have:=HJ17.out;first|omega|exact Nat.le_refl _⟩,⟨by (with_reducible repeat first|apply Q1|apply Q2|apply Q3);exact BK239.out⟩,⟨by repeat (with_reducible first|exact HB.out|apply Q4|apply Q5|apply Q6|apply Q7 GE239.out)⟩⟩
       rw [if_neg c56] at H
       obtain ⟨c56b0,c56b1⟩:=eqN c56
       have H':=Aside0.mk H
       clear H
       have hcz62_0:w52.cell? ⟨gb239,0,none⟩=some (.int .i64 ((rd_T86 l0 a1).f0)):=(blk_cell BK239.out 0).trans rfl
       have hcz62_1:w52.cell? ⟨gb239,1,none⟩=some (.int .i64 ((rd_T86 l0 a1).f1)):=(blk_cell BK239.out 1).trans rfl
       have hcz62_2:w52.cell? ⟨gb239,2,none⟩=some (.int .i64 ((rd_T86 l0 a1).f2)):=(blk_cell BK239.out 2).trans rfl
       have hcz62_3:w52.cell? ⟨gb239,3,none⟩=some (.int .i64 ((rd_T86 l0 a1).f3)):=(blk_cell BK239.out 3).trans rfl
       have hcz62_4:w52.cell? ⟨gb239,4,none⟩=some (.int .i64 ((rd_T86 l0 a1).f4)):=(blk_cell BK239.out 4).trans rfl
       have hfz62_0:=blk_frozen BK239.out 0
       have hfz62_1:=blk_frozen BK239.out 1
       have hfz62_2:=blk_frozen BK239.out 2
       have hfz62_3:=blk_frozen BK239.out 3
       have hfz62_4:=blk_frozen BK239.out 4
       go_wp2_with (first|(go_at_call 86;(with_reducible refine (spec_l06Ends.calls _ _ l0 a1 a3 true _ ?side1 ?side2 A54.out).mono ?_);(case side1=>repeat (first|exact (Kd.C_below HR0.out HB.out)|(with_reducible refine Kd.C_alloc ?_ _)|(with_reducible refine Kd.C_drewN ?_ _)|(with_reducible refine Kd.C_drew ?_)));(case side2=>exact HC0.out);rintro e w63 ⟨rfl,hb⟩;have n0_:=Aside0.mk (blk_below (g:=gb239) (o:=.cells #[.int .i64 ((rd_T86 l0 a1).f0),.int .i64 ((rd_T86 l0 a1).f1),.int .i64 ((rd_T86 l0 a1).f2),.int .i64 ((rd_T86 l0 a1).f3),.int .i64 ((rd_T86 l0 a1).f4)] 86 (0,0)) (by (with_reducible repeat first|apply Q1|apply Q2|apply Q3);exact BK239.out) hb);have n1_:=Aside0.mk (below_step (by repeat (with_reducible first|exact HB.out|apply Q4|apply Q5|apply Q6|apply Q7 GE239.out)) hb);clear BK239;clear HB;have BK239:=n0_;have HB:=n1_;clear n0_ n1_;(try clear hb);(try clear hb2);(try clear hk);(try clear hi);have hcz64_0:w63.cell? ⟨gb239,0,none⟩=some (.int .i64 ((rd_T86 l0 a1).f0)):=(blk_cell BK239.out 0).trans rfl;have hcz64_1:w63.cell? ⟨gb239,1,none⟩=some (.int .i64 ((rd_T86 l0 a1).f1)):=(blk_cell BK239.out 1).trans rfl;have hcz64_2:w63.cell? ⟨gb239,2,none⟩=some (.int .i64 ((rd_T86 l0 a1).f2)):=(blk_cell BK239.out 2).trans rfl;have hcz64_3:w63.cell? ⟨gb239,3,none⟩=some (.int .i64 ((rd_T86 l0 a1).f3)):=(blk_cell BK239.out 3).trans rfl;have hcz64_4:w63.cell? ⟨gb239,4,none⟩=some (.int .i64 ((rd_T86 l0 a1).f4)):=(blk_cell BK239.out 4).trans rfl;have hfz64_0:=blk_frozen BK239.out 0;have hfz64_1:=blk_frozen BK239.out 1;have hfz64_2:=blk_frozen BK239.out 2;have hfz64_3:=blk_frozen BK239.out 3;have hfz64_4:=blk_frozen BK239.out 4))
       go_meet
       case rel=>exact ⟨_,(false),(by first|rfl|(simp;done)|(simp [*];done)),H',⟨by have:=HJ17.out;first|omega|exact Nat.le_refl _⟩,⟨by (with_reducible repeat first|apply Q1|apply Q2|apply Q3);exact BK239.out⟩,⟨by repeat (with_reducible first|exact HB.out|apply Q4|apply Q5|apply Q6|apply Q7 GE239.out)⟩⟩
      replace c55:=Bool.eq_false_iff.mpr c55
      subst c55
      rw [if_neg (show ¬ (false=true) by decide)] at H
      have H':=Aside0.mk H
      clear H
      have hcz65_0:w52.cell? ⟨gb239,0,none⟩=some (.int .i64 ((rd_T86 l0 a1).f0)):=(blk_cell BK239.out 0).trans rfl
      have hcz65_1:w52.cell? ⟨gb239,1,none⟩=some (.int .i64 ((rd_T86 l0 a1).f1)):=(blk_cell BK239.out 1).trans rfl
      have hcz65_2:w52.cell? ⟨gb239,2,none⟩=some (.int .i64 ((rd_T86 l0 a1).f2)):=(blk_cell BK239.out 2).trans rfl
      have hcz65_3:w52.cell? ⟨gb239,3,none⟩=some (.int .i64 ((rd_T86 l0 a1).f3)):=(blk_cell BK239.out 3).trans rfl
      have hcz65_4:w52.cell? ⟨gb239,4,none⟩=some (.int .i64 ((rd_T86 l0 a1).f4)):=(blk_cell BK239.out 4).trans rfl
      have hfz65_0:=blk_frozen BK239.out 0
      have hfz65_1:=blk_frozen BK239.out 1
      have hfz65_2:=blk_frozen BK239.out 2
      have hfz65_3:=blk_frozen BK239.out 3
      have hfz65_4:=blk_frozen BK239.out 4
      go_wp2_with (first|(go_at_call 86;(with_reducible refine (spec_l06Ends.calls _ _ l0 a1 a3 false _ ?side1 ?side2 A54.out).mono ?_);(case side1=>repeat (first|exact (Kd.C_below HR0.out HB.out)|(with_reducible refine Kd.C_alloc ?_ _)|(with_reducible refine Kd.C_drewN ?_ _)|(with_reducible refine Kd.C_drew ?_)));(case side2=>exact HC0.out);rintro e w66 ⟨rfl,hb⟩;have n0_:=Aside0.mk (blk_below (g:=gb239) (o:=.cells #[.int .i64 ((rd_T86 l0 a1).f0),.int .i64 ((rd_T86 l0 a1).f1),.int .i64 ((rd_T86 l0 a1).f2),.int .i64 ((rd_T86 l0 a1).f3),.int .i64 ((rd_T86 l0 a1).f4)] 86 (0,0)) (by (with_reducible repeat first|apply Q1|apply Q2|apply Q3);exact BK239.out) hb);have n1_:=Aside0.mk (below_step (by repeat (with_reducible first|exact HB.out|apply Q4|apply Q5|apply Q6|apply Q7 GE239.out)) hb);clear BK239;clear HB;have BK239:=n0_;have HB:=n1_;clear n0_ n1_;(try clear hb);(try clear hb2);(try clear hk);(try clear hi)))
      go_meet
      case rel=>exact ⟨_,(true),(by first|rfl|(simp;done)|(simp [*];done)),H',⟨by have:=HJ17.out;first|omega|exact Nat.le_refl _⟩,⟨by (with_reducible repeat first|apply Q1|apply Q2|apply Q3);exact BK239.out⟩,⟨by repeat (with_reducible first|exact HB.out|apply Q4|apply Q5|apply Q6|apply Q7 GE239.out)⟩⟩
     rw [if_neg c53] at H
     obtain ⟨c53b0,c53b1⟩:=eqN c53
     (first|rw [c53b0]|(simp only [i64_w,i32_w];rw [c53b0])|skip)
     by_cases c67:((rd_T86 l0 a1).f1)=2
     ·rw [if_pos c67] at H
      obtain ⟨c67b0,c67b1⟩:=eqP c67
      clear c67
      obtain ⟨t252,A68,H⟩:=bindA H
      have H':=Aside0.mk H
      clear H
      have hcz69_0:w52.cell? ⟨gb239,0,none⟩=some (.int .i64 ((rd_T86 l0 a1).f0)):=(blk_cell BK239.out 0).trans rfl
      have hcz69_1:w52.cell? ⟨gb239,1,none⟩=some (.int .i64 ((rd_T86 l0 a1).f1)):=(blk_cell BK239.out 1).trans rfl
      have hcz69_2:w52.cell? ⟨gb239,2,none⟩=some (.int .i64 ((rd_T86 l0 a1).f2)):=(blk_cell BK239.out 2).trans rfl
      have hcz69_3:w52.cell? ⟨gb239,3,none⟩=some (.int .i64 ((rd_T86 l0 a1).f3)):=(blk_cell BK239.out 3).trans rfl
      have hcz69_4:w52.cell? ⟨gb239,4,none⟩=some (.int .i64 ((rd_T86 l0 a1).f4)):=(blk_cell BK239.out 4).trans rfl
      have hfz69_0:=blk_frozen BK239.out 0
      have hfz69_1:=blk_frozen BK239.out 1
      have hfz69_2:=blk_frozen BK239.out 2
      have hfz69_3:=blk_frozen BK239.out 3
      have hfz69_4:=blk_frozen BK239.out 4
      go_wp2_with (first|(go_at_call 86;(with_reducible refine (spec_l06Ends.calls _ _ l0 (wrap64 (a1 - 1)) a3 t252 _ ?side1 ?side2 A68.out).mono ?_);(case side1=>repeat (first|exact (Kd.C_below HR0.out HB.out)|(with_reducible refine Kd.C_alloc ?_ _)|(with_reducible refine Kd.C_drewN ?_ _)|(with_reducible refine Kd.C_drew ?_)));(case side2=>exact HC0.out);rintro e w70 ⟨rfl,hb⟩;have n0_:=Aside0.mk (blk_below (g:=gb239) (o:=.cells #[.int .i64 ((rd_T86 l0 a1).f0),.int .i64 ((rd_T86 l0 a1).f1),.int .i64 ((rd_T86 l0 a1).f2),.int .i64 ((rd_T86 l0 a1).f3),.int .i64 ((rd_T86 l0 a1).f4)] 86 (0,0)) (by (with_reducible repeat first|apply Q1|apply Q2|apply Q3);exact BK239.out) hb);have n1_:=Aside0.mk (below_step (by repeat (with_reducible first|exact HB.out|apply Q4|apply Q5|apply Q6|apply Q7 GE239.out)) hb);clear BK239;clear HB;have BK239:=n0_;have HB:=n1_;clear n0_ n1_;(try clear hb);(try clear hb2);(try clear hk);(try clear hi)))
      go_meet
      case rel=>exact ⟨_,(!t252),(by first|rfl|(simp;done)|(simp [*];done)),H',⟨by have:=HJ17.out;first|omega|exact Nat.le_refl _⟩,⟨by (with_reducible repeat first|apply Q1|apply Q2|apply Q3);exact BK239.out⟩,⟨by repeat (with_reducible first|exact HB.out|apply Q4|apply Q5|apply Q6|apply Q7 GE239.out)⟩⟩
     rw [if_neg c67] at H
     obtain ⟨c67b0,c67b1⟩:=eqN c67
     have H':=Aside0.mk H
     clear H
     have hcz71_0:w52.cell? ⟨gb239,0,none⟩=some (.int .i64 ((rd_T86 l0 a1).f0)):=(blk_cell BK239.out 0).trans rfl
     have hcz71_1:w52.cell? ⟨gb239,1,none⟩=some (.int .i64 ((rd_T86 l0 a1).f1)):=(blk_cell BK239.out 1).trans rfl
     have hcz71_2:w52.cell? ⟨gb239,2,none⟩=some (.int .i64 ((rd_T86 l0 a1).f2)):=(blk_cell BK239.out 2).trans rfl
     have hcz71_3:w52.cell? ⟨gb239,3,none⟩=some (.int .i64 ((rd_T86 l0 a1).f3)):=(blk_cell BK239.out 3).trans rfl
     have hcz71_4:w52.cell? ⟨gb239,4,none⟩=some (.int .i64 ((rd_T86 l0 a1).f4)):=(blk_cell BK239.out 4).trans rfl
     have hfz71_0:=blk_frozen BK239.out 0
     have hfz71_1:=blk_frozen BK239.out 1
     have hfz71_2:=blk_frozen BK239.out 2
     have hfz71_3:=blk_frozen BK239.out 3
     have hfz71_4:=blk_frozen BK239.out 4
     go_wp2
     go_meet
     case rel=>exact ⟨_,(false),(by first|rfl|(simp;done)|(simp [*];done)),H',⟨by have:=HJ17.out;first|omega|exact Nat.le_refl _⟩,⟨by (with_reducible repeat first|apply Q1|apply Q2|apply Q3);exact BK239.out⟩,⟨by repeat (with_reducible first|exact HB.out|apply Q4|apply Q5|apply Q6|apply Q7 GE239.out)⟩⟩
    clear HC50
    try clear c24
    try clear c29
    try clear c29b0 c29b1
    try clear c39
    try clear c39b0 c39b1
    try clear hcz51_0
    try clear hcz51_1
    try clear hcz51_2
    try clear hcz51_3
    try clear hcz51_4
    try clear hfz51_0
    try clear hfz51_1
    try clear hfz51_2
    try clear hfz51_3
    try clear hfz51_4
    obtain ⟨kq,x104_49,rfl,HA,HJ49,BK239,HB⟩:=hcut
    cases kq with
    | zero=>exact absurd HA.out (by simp [spec_l06Rule.j1])
    | succ kj49 =>
     have H:=HA.out
     clear HA
     simp only [spec_l06Rule.j1] at H
     by_cases c72:x104_49=true
     ·subst c72
      rw [if_pos rfl] at H
      obtain rfl:=Option.some.inj H
      go_wp2
      go_ret
      exact ⟨by first|rfl|(simp [errW_none,errW_some]<;>rfl)|(simp [*,errW_none,errW_some]<;>rfl),by repeat (with_reducible first|exact HB.out|apply Q4|apply Q5|apply Q6|apply Q7 GE239.out)⟩
     replace c72:=Bool.eq_false_iff.mpr c72
     subst c72
     rw [if_neg (show ¬ (false=true) by decide)] at H
     by_cases c73:t240 > 0
     ·rw [if_pos c73] at H
      have c73b0:decide (0 < t240)=true:=decide_eq_true c73
      clear c73
      by_cases c74:((rd_T86 l0 a1).f2)=2
      ·rw [if_pos c74] at H
       obtain ⟨c74b0,c74b1⟩:=eqP c74
       clear c74
       obtain ⟨t253,A75,H⟩:=bindA H
       by_cases c76:t253=true
       ·subst c76
        rw [if_pos rfl] at H
        obtain rfl:=Option.some.inj H
        have hcz77_0:wc.cell? ⟨gb239,0,none⟩=some (.int .i64 ((rd_T86 l0 a1).f0)):=(blk_cell BK239.out 0).trans rfl
        have hcz77_1:wc.cell? ⟨gb239,1,none⟩=some (.int .i64 ((rd_T86 l0 a1).f1)):=(blk_cell BK239.out 1).trans rfl
        have hcz77_2:wc.cell? ⟨gb239,2,none⟩=some (.int .i64 ((rd_T86 l0 a1).f2)):=(blk_cell BK239.out 2).trans rfl
        have hcz77_3:wc.cell? ⟨gb239,3,none⟩=some (.int .i64 ((rd_T86 l0 a1).f3)):=(blk_cell BK239.out 3).trans rfl
        have hcz77_4:wc.cell? ⟨gb239,4,none⟩=some (.int .i64 ((rd_T86 l0 a1).f4)):=(blk_cell BK239.out 4).trans rfl
        have hfz77_0:=blk_frozen BK239.out 0
        have hfz77_1:=blk_frozen BK239.out 1
        have hfz77_2:=blk_frozen BK239.out 2
        have hfz77_3:=blk_frozen BK239.out 3
        have hfz77_4:=blk_frozen BK239.out 4
        go_wp2_with (first|(go_at_call 86;(with_reducible refine (spec_l06Ends.calls _ _ l0 a1 a3 true _ ?side1 ?side2 A75.out).mono ?_);(case side1=>repeat (first|exact (Kd.C_below HR0.out HB.out)|(with_reducible refine Kd.C_alloc ?_ _)|(with_reducible refine Kd.C_drewN ?_ _)|(with_reducible refine Kd.C_drew ?_)));(case side2=>exact HC0.out);rintro e w78 ⟨rfl,hb⟩;have n0_:=Aside0.mk (blk_below (g:=gb239) (o:=.cells #[.int .i64 ((rd_T86 l0 a1).f0),.int .i64 ((rd_T86 l0 a1).f1),.int .i64 ((rd_T86 l0 a1).f2),.int .i64 ((rd_T86 l0 a1).f3),.int .i64 ((rd_T86 l0 a1).f4)] 86 (0,0)) (by (with_reducible repeat first|apply Q1|apply Q2|apply Q3);exact BK239.out) hb);have n1_:=Aside0.mk (below_step (by repeat (with_reducible first|exact HB.out|apply Q4|apply Q5|apply Q6|apply Q7 GE239.out)) hb);clear BK239;clear HB;have BK239:=n0_;have HB:=n1_;clear n0_ n1_;(try clear hb);(try clear hb2);(try clear hk);(try clear hi)))
        go_ret
        exact ⟨by first|rfl|(simp [errW_none,errW_some]<;>rfl)|(simp [*,errW_none,errW_some]<;>rfl),by repeat (with_reducible first|exact HB.out|apply Q4|apply Q5|apply Q6|apply Q7 GE239.out)⟩
       replace c76:=Bool.eq_false_iff.mpr c76
       subst c76
       rw [if_neg (show ¬ (false=true) by decide)] at H
       by_cases c79:((rd_T86 l0 a1).f4) < 0
       ·rw [if_pos c79] at H
        have c79b0:decide (((rd_T86 l0 a1).f4) < 0)=true:=decide_eq_true c79
        clear c79
        obtain rfl:=Option.some.inj H
        have hcz80_0:wc.cell? ⟨gb239,0,none⟩=some (.int .i64 ((rd_T86 l0 a1).f0)):=(blk_cell BK239.out 0).trans rfl
        have hcz80_1:wc.cell? ⟨gb239,1,none⟩=some (.int .i64 ((rd_T86 l0 a1).f1)):=(blk_cell BK239.out 1).trans rfl
        have hcz80_2:wc.cell? ⟨gb239,2,none⟩=some (.int .i64 ((rd_T86 l0 a1).f2)):=(blk_cell BK239.out 2).trans rfl
        have hcz80_3:wc.cell? ⟨gb239,3,none⟩=some (.int .i64 ((rd_T86 l0 a1).f3)):=(blk_cell BK239.out 3).trans rfl
        have hcz80_4:wc.cell? ⟨gb239,4,none⟩=some (.int .i64 ((rd_T86 l0 a1).f4)):=(blk_cell BK239.out 4).trans rfl
        have hfz80_0:=blk_frozen BK239.out 0
        have hfz80_1:=blk_frozen BK239.out 1
        have hfz80_2:=blk_frozen BK239.out 2
        have hfz80_3:=blk_frozen BK239.out 3
        have hfz80_4:=blk_frozen BK239.out 4
        go_wp2_with (first|(go_at_call 86;(with_reducible refine (spec_l06Ends.calls _ _ l0 a1 a3 false _ ?side1 ?side2 A75.out).mono ?_);(case side1=>repeat (first|exact (Kd.C_below HR0.out HB.out)|(with_reducible refine Kd.C_alloc ?_ _)|(with_reducible refine Kd.C_drewN ?_ _)|(with_reducible refine Kd.C_drew ?_)));(case side2=>exact HC0.out);rintro e w81 ⟨rfl,hb⟩;have n0_:=Aside0.mk (blk_below (g:=gb239) (o:=.cells #[.int .i64 ((rd_T86 l0 a1).f0),.int .i64 ((rd_T86 l0 a1).f1),.int .i64 ((rd_T86 l0 a1).f2),.int .i64 ((rd_T86 l0 a1).f3),.int .i64 ((rd_T86 l0 a1).f4)] 86 (0,0)) (by (with_reducible repeat first|apply Q1|apply Q2|apply Q3);exact BK239.out) hb);have n1_:=Aside0.mk (below_step (by repeat (with_reducible first|exact HB.out|apply Q4|apply Q5|apply Q6|apply Q7 GE239.out)) hb);clear BK239;clear HB;have BK239:=n0_;have HB:=n1_;clear n0_ n1_;(try clear hb);(try clear hb2);(try clear hk);(try clear hi);have hcz82_0:w81.cell? ⟨gb239,0,none⟩=some (.int .i64 ((rd_T86 l0 a1).f0)):=(blk_cell BK239.out 0).trans rfl;have hcz82_1:w81.cell? ⟨gb239,1,none⟩=some (.int .i64 ((rd_T86 l0 a1).f1)):=(blk_cell BK239.out 1).trans rfl;have hcz82_2:w81.cell? ⟨gb239,2,none⟩=some (.int .i64 ((rd_T86 l0 a1).f2)):=(blk_cell BK239.out 2).trans rfl;have hcz82_3:w81.cell? ⟨gb239,3,none⟩=some (.int .i64 ((rd_T86 l0 a1).f3)):=(blk_cell BK239.out 3).trans rfl;have hcz82_4:w81.cell? ⟨gb239,4,none⟩=some (.int .i64 ((rd_T86 l0 a1).f4)):=(blk_cell BK239.out 4).trans rfl;have hfz82_0:=blk_frozen BK239.out 0;have hfz82_1:=blk_frozen BK239.out 1;have hfz82_2:=blk_frozen BK239.out 2;have hfz82_3:=blk_frozen BK239.out 3;have hfz82_4:=blk_frozen BK239.out 4))
        go_ret
        exact ⟨by first|rfl|(simp [errW_none,errW_some]<;>rfl)|(simp [*,errW_none,errW_some]<;>rfl),by repeat (with_reducible first|exact HB.out|apply Q4|apply Q5|apply Q6|apply Q7 GE239.out)⟩
       rw [if_neg c79] at H
       have c79b0:decide (((rd_T86 l0 a1).f4) < 0)=false:=decide_eq_false c79
       clear c79
       by_cases c83:((rd_T86 l0 a1).f4) > (wrap64 ((wrap64 (a3 - 8)) - t240))
       ·rw [if_pos c83] at H
        have c83b0:decide ((wrap64 ((wrap64 (a3 - 8)) - t240)) < ((rd_T86 l0 a1).f4))=true:=decide_eq_true c83
        clear c83
        obtain rfl:=Option.some.inj H
        have hcz84_0:wc.cell? ⟨gb239,0,none⟩=some (.int .i64 ((rd_T86 l0 a1).f0)):=(blk_cell BK239.out 0).trans rfl
        have hcz84_1:wc.cell? ⟨gb239,1,none⟩=some (.int .i64 ((rd_T86 l0 a1).f1)):=(blk_cell BK239.out 1).trans rfl
        have hcz84_2:wc.cell? ⟨gb239,2,none⟩=some (.int .i64 ((rd_T86 l0 a1).f2)):=(blk_cell BK239.out 2).trans rfl
        have hcz84_3:wc.cell? ⟨gb239,3,none⟩=some (.int .i64 ((rd_T86 l0 a1).f3)):=(blk_cell BK239.out 3).trans rfl
        have hcz84_4:wc.cell? ⟨gb239,4,none⟩=some (.int .i64 ((rd_T86 l0 a1).f4)):=(blk_cell BK239.out 4).trans rfl
        have hfz84_0:=blk_frozen BK239.out 0
        have hfz84_1:=blk_frozen BK239.out 1
        have hfz84_2:=blk_frozen BK239.out 2
        have hfz84_3:=blk_frozen BK239.out 3
        have hfz84_4:=blk_frozen BK239.out 4
        go_wp2_with (first|(go_at_call 86;(with_reducible refine (spec_l06Ends.calls _ _ l0 a1 a3 false _ ?side1 ?side2 A75.out).mono ?_);(case side1=>repeat (first|exact (Kd.C_below HR0.out HB.out)|(with_reducible refine Kd.C_alloc ?_ _)|(with_reducible refine Kd.C_drewN ?_ _)|(with_reducible refine Kd.C_drew ?_)));(case side2=>exact HC0.out);rintro e w85 ⟨rfl,hb⟩;have n0_:=Aside0.mk (blk_below (g:=gb239) (o:=.cells #[.int .i64 ((rd_T86 l0 a1).f0),.int .i64 ((rd_T86 l0 a1).f1),.int .i64 ((rd_T86 l0 a1).f2),.int .i64 ((rd_T86 l0 a1).f3),.int .i64 ((rd_T86 l0 a1).f4)] 86 (0,0)) (by (with_reducible repeat first|apply Q1|apply Q2|apply Q3);exact BK239.out) hb);have n1_:=Aside0.mk (below_step (by repeat (with_reducible first|exact HB.out|apply Q4|apply Q5|apply Q6|apply Q7 GE239.out)) hb);clear BK239;clear HB;have BK239:=n0_;have HB:=n1_;clear n0_ n1_;(try clear hb);(try clear hb2);(try clear hk);(try clear hi);have hcz86_0:w85.cell? ⟨gb239,0,none⟩=some (.int .i64 ((rd_T86 l0 a1).f0)):=(blk_cell BK239.out 0).trans rfl;have hcz86_1:w85.cell? ⟨gb239,1,none⟩=some (.int .i64 ((rd_T86 l0 a1).f1)):=(blk_cell BK239.out 1).trans rfl;have hcz86_2:w85.cell? ⟨gb239,2,none⟩=some (.int .i64 ((rd_T86 l0 a1).f2)):=(blk_cell BK239.out 2).trans rfl;have hcz86_3:w85.cell? ⟨gb239,3,none⟩=some (.int .i64 ((rd_T86 l0 a1).f3)):=(blk_cell BK239.out 3).trans rfl;have hcz86_4:w85.cell? ⟨gb239,4,none⟩=some (.int .i64 ((rd_T86 l0 a1).f4)):=(blk_cell BK239.out 4).trans rfl;have hfz86_0:=blk_frozen BK239.out 0;have hfz86_1:=blk_frozen BK239.out 1;have hfz86_2:=blk_frozen BK239.out 2;have hfz86_3:=blk_frozen BK239.out 3;have hfz86_4:=blk_frozen BK239.out 4))
        go_ret
        exact ⟨by first|rfl|(simp [errW_none,errW_some]<;>rfl)|(simp [*,errW_none,errW_some]<;>rfl),by repeat (with_reducible first|exact HB.out|apply Q4|apply Q5|apply Q6|apply Q7 GE239.out)⟩
       rw [if_neg c83] at H
       have c83b0:decide ((wrap64 ((wrap64 (a3 - 8)) - t240)) < ((rd_T86 l0 a1).f4))=false:=decide_eq_false c83
       clear c83
       by_cases c87:t240=0
       ·rw [if_pos c87] at H
        exact absurd H (by simp)
       rw [if_neg c87] at H
       obtain ⟨c87b0,c87b1⟩:=eqN c87
       by_cases c88:(Int.tmod ((rd_T86 l0 a1).f4) t240)=0
       ·rw [if_pos c88] at H
        obtain ⟨c88b0,c88b1⟩:=eqP c88
        clear c88
        obtain rfl:=Option.some.inj H
        have hcz89_0:wc.cell? ⟨gb239,0,none⟩=some (.int .i64 ((rd_T86 l0 a1).f0)):=(blk_cell BK239.out 0).trans rfl
        have hcz89_1:wc.cell? ⟨gb239,1,none⟩=some (.int .i64 ((rd_T86 l0 a1).f1)):=(blk_cell BK239.out 1).trans rfl
        have hcz89_2:wc.cell? ⟨gb239,2,none⟩=some (.int .i64 ((rd_T86 l0 a1).f2)):=(blk_cell BK239.out 2).trans rfl
        have hcz89_3:wc.cell? ⟨gb239,3,none⟩=some (.int .i64 ((rd_T86 l0 a1).f3)):=(blk_cell BK239.out 3).trans rfl
        have hcz89_4:wc.cell? ⟨gb239,4,none⟩=some (.int .i64 ((rd_T86 l0 a1).f4)):=(blk_cell BK239.out 4).trans rfl
        have hfz89_0:=blk_frozen BK239.out 0
        have hfz89_1:=blk_frozen BK239.out 1
        have hfz89_2:=blk_frozen BK239.out 2
        have hfz89_3:=blk_frozen BK239.out 3
        have hfz89_4:=blk_frozen BK239.out 4
        go_wp2_with (first|(go_at_call 86;(with_reducible refine (spec_l06Ends.calls _ _ l0 a1 a3 false _ ?side1 ?side2 A75.out).mono ?_);(case side1=>repeat (first|exact (Kd.C_below HR0.out HB.out)|(with_reducible refine Kd.C_alloc ?_ _)|(with_reducible refine Kd.C_drewN ?_ _)|(with_reducible refine Kd.C_drew ?_)));(case side2=>exact HC0.out);rintro e w90 ⟨rfl,hb⟩;have n0_:=Aside0.mk (blk_below (g:=gb239) (o:=.cells #[.int .i64 ((rd_T86 l0 a1).f0),.int .i64 ((rd_T86 l0 a1).f1),.int .i64 ((rd_T86 l0 a1).f2),.int .i64 ((rd_T86 l0 a1).f3),.int .i64 ((rd_T86 l0 a1).f4)] 86 (0,0)) (by (with_reducible repeat first|apply Q1|apply Q2|apply Q3);exact BK239.out) hb);have n1_:=Aside0.mk (below_step (by repeat (with_reducible first|exact HB.out|apply Q4|apply Q5|apply Q6|apply Q7 GE239.out)) hb);clear BK239;clear HB;have BK239:=n0_;have HB:=n1_;clear n0_ n1_;(try clear hb);(try clear hb2);(try clear hk);(try clear hi);have hcz91_0:w90.cell? ⟨gb239,0,none⟩=some (.int .i64 ((rd_T86 l0 a1).f0)):=(blk_cell BK239.out 0).trans rfl;have hcz91_1:w90.cell? ⟨gb239,1,none⟩=some (.int .i64 ((rd_T86 l0 a1).f1)):=(blk_cell BK239.out 1).trans rfl;have hcz91_2:w90.cell? ⟨gb239,2,none⟩=some (.int .i64 ((rd_T86 l0 a1).f2)):=(blk_cell BK239.out 2).trans rfl;have hcz91_3:w90.cell? ⟨gb239,3,none⟩=some (.int .i64 ((rd_T86 l0 a1).f3)):=(blk_cell BK239.out 3).trans rfl;have hcz91_4:w90.cell? ⟨gb239,4,none⟩=some (.int .i64 ((rd_T86 l0 a1).f4)):=(blk_cell BK239.out 4).trans rfl;have hfz91_0:=blk_frozen BK239.out 0;have hfz91_1:=blk_frozen BK239.out 1;have hfz91_2:=blk_frozen BK239.out 2;have hfz91_3:=blk_frozen BK239.out 3;have hfz91_4:=blk_frozen BK239.out 4))
        go_ret
        exact ⟨by first|rfl|(simp [errW_none,errW_some]<;>rfl)|(simp [*,errW_none,errW_some]<;>rfl),by repeat (with_reducible first|exact HB.out|apply Q4|apply Q5|apply Q6|apply Q7 GE239.out)⟩
       rw [if_neg c88] at H
       obtain ⟨c88b0,c88b1⟩:=eqN c88
       obtain rfl:=Option.some.inj H
       have hcz92_0:wc.cell? ⟨gb239,0,none⟩=some (.int .i64 ((rd_T86 l0 a1).f0)):=(blk_cell BK239.out 0).trans rfl
       have hcz92_1:wc.cell? ⟨gb239,1,none⟩=some (.int .i64 ((rd_T86 l0 a1).f1)):=(blk_cell BK239.out 1).trans rfl
       have hcz92_2:wc.cell? ⟨gb239,2,none⟩=some (.int .i64 ((rd_T86 l0 a1).f2)):=(blk_cell BK239.out 2).trans rfl
       have hcz92_3:wc.cell? ⟨gb239,3,none⟩=some (.int .i64 ((rd_T86 l0 a1).f3)):=(blk_cell BK239.out 3).trans rfl
       have hcz92_4:wc.cell? ⟨gb239,4,none⟩=some (.int .i64 ((rd_T86 l0 a1).f4)):=(blk_cell BK239.out 4).trans rfl
       have hfz92_0:=blk_frozen BK239.out 0
       have hfz92_1:=blk_frozen BK239.out 1
       have hfz92_2:=blk_frozen BK239.out 2
       have hfz92_3:=blk_frozen BK239.out 3
       have hfz92_4:=blk_frozen BK239.out 4
       go_wp2_with (first|(go_at_call 86;(with_reducible refine (spec_l06Ends.calls _ _ l0 a1 a3 false _ ?side1 ?side2 A75.out).mono ?_);(case side1=>repeat (first|exact (Kd.C_below HR0.out HB.out)|(with_reducible refine Kd.C_alloc ?_ _)|(with_reducible refine Kd.C_drewN ?_ _)|(with_reducible refine Kd.C_drew ?_)));(case side2=>exact HC0.out);rintro e w93 ⟨rfl,hb⟩;have n0_:=Aside0.mk (blk_below (g:=gb239) (o:=.cells #[.int .i64 ((rd_T86 l0 a1).f0),.int .i64 ((rd_T86 l0 a1).f1),.int .i64 ((rd_T86 l0 a1).f2),.int .i64 ((rd_T86 l0 a1).f3),.int .i64 ((rd_T86 l0 a1).f4)] 86 (0,0)) (by (with_reducible repeat first|apply Q1|apply Q2|apply Q3);exact BK239.out) hb);have n1_:=Aside0.mk (below_step (by repeat (with_reducible first|exact HB.out|apply Q4|apply Q5|apply Q6|apply Q7 GE239.out)) hb);clear BK239;clear HB;have BK239:=n0_;have HB:=n1_;clear n0_ n1_;(try clear hb);(try clear hb2);(try clear hk);(try clear hi);have hcz94_0:w93.cell? ⟨gb239,0,none⟩=some (.int .i64 ((rd_T86 l0 a1).f0)):=(blk_cell BK239.out 0).trans rfl;have hcz94_1:w93.cell? ⟨gb239,1,none⟩=some (.int .i64 ((rd_T86 l0 a1).f1)):=(blk_cell BK239.out 1).trans rfl;have hcz94_2:w93.cell? ⟨gb239,2,none⟩=some (.int .i64 ((rd_T86 l0 a1).f2)):=(blk_cell BK239.out 2).trans rfl;have hcz94_3:w93.cell? ⟨gb239,3,none⟩=some (.int .i64 ((rd_T86 l0 a1).f3)):=(blk_cell BK239.out 3).trans rfl;have hcz94_4:w93.cell? ⟨gb239,4,none⟩=some (.int .i64 ((rd_T86 l0 a1).f4)):=(blk_cell BK239.out 4).trans rfl;have hfz94_0:=blk_frozen BK239.out 0;have hfz94_1:=blk_frozen BK239.out 1;have hfz94_2:=blk_frozen BK239.out 2;have hfz94_3:=blk_frozen BK239.out 3;have hfz94_4:=blk_frozen BK239.out 4))
       go_ret
       exact ⟨by first|rfl|(simp [errW_none,errW_some]<;>rfl)|(simp [*,errW_none,errW_some]<;>rfl),by repeat (with_reducible first|exact HB.out|apply Q4|apply Q5|apply Q6|apply Q7 GE239.out)⟩
      rw [if_neg c74] at H
      obtain ⟨c74b0,c74b1⟩:=eqN c74
      obtain rfl:=Option.some.inj H
      have hcz95_0:wc.cell? ⟨gb239,0,none⟩=some (.int .i64 ((rd_T86 l0 a1).f0)):=(blk_cell BK239.out 0).trans rfl
      have hcz95_1:wc.cell? ⟨gb239,1,none⟩=some (.int .i64 ((rd_T86 l0 a1).f1)):=(blk_cell BK239.out 1).trans rfl
      have hcz95_2:wc.cell? ⟨gb239,2,none⟩=some (.int .i64 ((rd_T86 l0 a1).f2)):=(blk_cell BK239.out 2).trans rfl
      have hcz95_3:wc.cell? ⟨gb239,3,none⟩=some (.int .i64 ((rd_T86 l0 a1).f3)):=(blk_cell BK239.out 3).trans rfl
      have hcz95_4:wc.cell? ⟨gb239,4,none⟩=some (.int .i64 ((rd_T86 l0 a1).f4)):=(blk_cell BK239.out 4).trans rfl
      have hfz95_0:=blk_frozen BK239.out 0
      have hfz95_1:=blk_frozen BK239.out 1
      have hfz95_2:=blk_frozen BK239.out 2
      have hfz95_3:=blk_frozen BK239.out 3
      have hfz95_4:=blk_frozen BK239.out 4
      go_wp2
      go_ret
      exact ⟨by first|rfl|(simp [errW_none,errW_some]<;>rfl)|(simp [*,errW_none,errW_some]<;>rfl),by repeat (with_reducible first|exact HB.out|apply Q4|apply Q5|apply Q6|apply Q7 GE239.out)⟩
     rw [if_neg c73] at H
     have c73b0:decide (0 < t240)=false:=decide_eq_false c73
     clear c73
     obtain rfl:=Option.some.inj H
     go_wp2
     go_ret
     exact ⟨by first|rfl|(simp [errW_none,errW_some]<;>rfl)|(simp [*,errW_none,errW_some]<;>rfl),by repeat (with_reducible first|exact HB.out|apply Q4|apply Q5|apply Q6|apply Q7 GE239.out)⟩
  rw [if_neg c7] at H
  exact absurd H (by simp)
 rw [if_neg c6] at H
 exact absurd H (by simp)
end Go.Proofs.Ythepmdlpjdlajaa.PFnExactLintFunction
