/- The walk of FnExactCallsOf: each Go function that the law reaches as a plain Lean function, with the proof that a call does what it says; no conditions. Written by a program for this claim. -/
import Derived.Test.YthepmdlpjdlajaaPFnExactCallsOfx0
import Derived.Test.YthepmdlpjdlajaaPFnExactCallsOfx6
import Derived.Test.YthepmdlpjdlajaaPFnExactCallsOfx9
namespace Go.Proofs.Ythepmdlpjdlajaa.PFnExactCallsOf
open Go.RowKit Go.Proofs.YthepmdlpjdlajaaW.PrintWords Go.Proofs.YthepmdlpjdlajaaW.PrintLast Go.Proofs.YthepmdlpjdlajaaW.PrintMore
attribute [local go_sem] max2_int min2_int max_two min_two max_three min_three max_four min_four   -- for this text's walks alone
set_option linter.unusedVariables false
set_option linter.unusedSimpArgs false
def impl_takeLittle.l0:Nat→ByteArray→Int→Int→Option (Int)
  | 0,_,_,_=>none
  | k+1,x0,x3,x4=>if x4≥0 then (if 0≤x4 then (if x4 < (x0.size:Int) then (impl_takeLittle.l0 k x0 (Go.bits .or .i64 (wrap64 (x3*256)) (wrap64 (bt x0 x4))) (wrap64 (x4 - 1))) else (none)) else (none)) else (some x3)
def impl_takeLittle.f (k:Nat) (a0:ByteArray):Option (Int):=impl_takeLittle.l0 k a0 0 (wrap64 ((a0.size:Int) - 1))
theorem impl_takeLittle.mono_l : ∀ k,(∀ y0 y1 y2,LeO (impl_takeLittle.l0 k y0 y1 y2) (impl_takeLittle.l0 (k+1) y0 y1 y2))
  | 0=>fun _ _ _ r h=>by simp [impl_takeLittle.l0] at h
  | k+1=>by
    have ih0:=impl_takeLittle.mono_l k
    · intro y0 y1 y2
      unfold impl_takeLittle.l0
      repeat' (with_reducible first|apply ih0|apply LeO.refl|apply LeO.none|apply LeO.ite|refine LeO.bind ?_ (fun _=>?_))
theorem impl_takeLittle.mono : ∀ a0 k,LeO (impl_takeLittle.f k a0) (impl_takeLittle.f (k+1) a0):=by
 intro a0 k
 have ih0:=impl_takeLittle.mono_l k
 unfold impl_takeLittle.f
 repeat' (with_reducible first|apply ih0|apply LeO.refl|apply LeO.none|apply LeO.ite|refine LeO.bind ?_ (fun _=>?_))
set_option maxHeartbeats 8000000 in
set_option maxRecDepth 100000 in
theorem impl_takeLittle.calls (k:Nat) (a0:ByteArray) (r:Int) (w:World) (h:impl_takeLittle.f k a0=some r) :
    Calls Try.prog 90 #[.string a0] w fun e w'=>e=.returned (.int .i64 r)∧Drawn0 w w':=by
 have H:(impl_takeLittle.l0 k a0 0 (wrap64 ((a0.size:Int) - 1)))=some r:=h
 clear h
 have H':=Aside0.mk H
 clear H
 go_enter Try.func90,Try.ntmps90
 go_wp2
 go_loopg [3,4] k (fun kq v3 v4 w'=>∃ (x3_1:Int) (x4_1:Int),v3=.int .i64 x3_1∧v4=.int .i64 x4_1∧Aside0 (impl_takeLittle.l0 kq a0 x3_1 x4_1=some r)∧Aside0 (kq≤k)∧Drawn0 w w')
 case atStart=>exact ⟨(0),(wrap64 ((a0.size:Int) - 1)),(by first|rfl|(simp;done)|(simp [*];done)),(by first|rfl|(simp;done)|(simp [*];done)),H',⟨Nat.le_refl _⟩,by repeat (first|exact Drawn0.refl _|apply Drawn0.step)⟩
 clear H'
 obtain ⟨x3_1,x4_1,rfl,rfl,HA,HK1,⟨m1,rfl⟩⟩:=hrel
 cases gk with
 | zero=>exact absurd HA.out (by simp [impl_takeLittle.l0])
 | succ k1 =>
  have H:=HA.out
  clear HA
  simp only [impl_takeLittle.l0] at H
  by_cases c2:x4_1≥0
  ·rw [if_pos c2] at H
   have c2b0:decide (0≤x4_1)=true:=decide_eq_true c2
   clear c2
   by_cases c3:0≤x4_1
   ·rw [if_pos c3] at H
    have c3b0:decide (0≤x4_1)=true:=decide_eq_true c3
    clear c3
    by_cases c4:x4_1 < (a0.size:Int)
    ·rw [if_pos c4] at H
     have c4b0:decide (x4_1 < (a0.size:Int))=true:=decide_eq_true c4
     clear c4
     have H':=Aside0.mk H
     clear H
     have p5:0≤(x4_1:Int):=of_decide_eq_true (by first|(with_reducible assumption)|assumption)
     have q5:x4_1 < (a0.size:Int):=of_decide_eq_true (by first|(with_reducible assumption)|assumption)
     have hx5:=bt_at a0 x4_1
     replace p5:=eq_true p5
     replace q5:=eq_true q5
     go_wp2
     go_roundg k1
     case measure=>have:=HK1.out;omega
     case rel=>exact ⟨(Go.bits .or .i64 (wrap64 (x3_1*256)) (wrap64 (bt a0 x4_1))),(wrap64 (x4_1 - 1)),(by first|rfl|(simp;done)|(simp [*];done)),(by first|rfl|(simp;done)|(simp [*];done)),H',⟨by have:=HK1.out;omega⟩,by repeat (first|exact Drawn0.refl _|apply Drawn0.step)⟩
    rw [if_neg c4] at H
    exact absurd H (by simp)
   rw [if_neg c3] at H
   exact absurd H (by simp)
  rw [if_neg c2] at H
  have c2b0:decide (0≤x4_1)=false:=decide_eq_false c2
  clear c2
  obtain rfl:=Option.some.inj H
  go_wp2
  go_ret
  exact ⟨by first|rfl|(simp;done)|(simp [*];done),by repeat (first|exact Drawn0.refl _|apply Drawn0.step)⟩
def impl_instrsOf.l0:Nat→ByteArray→List (S86)→Int→Option ((List (S86)) × Int × Bool)
  | 0,_,_,_=>none
  | k+1,x0,x5,x6=>if x6 < (x0.size:Int) then (if 0≤x6 then (if x6≤(wrap64 (x6+4)) then (if (wrap64 (x6+4))≤(x0.size:Int) then ((impl_takeLittle.f k (x0.extract (x6:Int).toNat ((wrap64 (x6+4)):Int).toNat)).bind fun t359=>((impl_decode.f k t359).bind fun bt360=>(if bt360.2.2.2.2.2=true then (if x5.length < 3518437208883 then (impl_instrsOf.l0 k x0 (x5 ++ [(⟨bt360.1,bt360.2.1,bt360.2.2.1,bt360.2.2.2.1,bt360.2.2.2.2.1⟩:S86)]) (wrap64 (x6+4))) else (none)) else (some (([]:List (S86)),wrap64 (Int.tdiv x6 4),false))))) else (none)) else (none)) else (none)) else (some (x5,0,true))
def impl_instrsOf.f (k:Nat) (a0:ByteArray):Option ((List (S86)) × Int × Bool):=impl_instrsOf.l0 k a0 ([]:List (S86)) 0
theorem impl_instrsOf.mono_l : ∀ k,(∀ y0 y1 y2,LeO (impl_instrsOf.l0 k y0 y1 y2) (impl_instrsOf.l0 (k+1) y0 y1 y2))
  | 0=>fun _ _ _ r h=>by simp [impl_instrsOf.l0] at h
  | k+1=>by
    have ih0:=impl_instrsOf.mono_l k
    · intro y0 y1 y2
      unfold impl_instrsOf.l0
      repeat' (with_reducible first|apply ih0|apply impl_decode.mono|apply impl_takeLittle.mono|apply LeO.refl|apply LeO.none|apply LeO.ite|refine LeO.bind ?_ (fun _=>?_))
theorem impl_instrsOf.mono : ∀ a0 k,LeO (impl_instrsOf.f k a0) (impl_instrsOf.f (k+1) a0):=by
 intro a0 k
 have ih0:=impl_instrsOf.mono_l k
 unfold impl_instrsOf.f
 repeat' (with_reducible first|apply ih0|apply impl_decode.mono|apply impl_takeLittle.mono|apply LeO.refl|apply LeO.none|apply LeO.ite|refine LeO.bind ?_ (fun _=>?_))
set_option maxHeartbeats 8000000 in
set_option maxRecDepth 100000 in
theorem impl_instrsOf.calls (k:Nat) (a0:ByteArray) (r1:List (S86)) (r2:Int) (r3:Bool) (w:World) (h:impl_instrsOf.f k a0=some (r1,r2,r3)) :
    Calls Try.prog 71 #[.string a0] w fun e w'=>∃ v0_:Value,e=.returned (.tuple #[v0_,.int .i64 r2,.bool r3])∧Kd.R k86 86 w' w.heap.size (fun _=>True) v0_ r1∧Below w.heap.size w w':=by
 have hu86:=Try.underlying86
 have HB:=Aside0.mk (Below.refl w.heap.size w)
 have H:(impl_instrsOf.l0 k a0 ([]:List (S86)) 0)=some (r1,r2,r3):=h
 clear h
 have H':=Aside0.mk H
 clear H
 go_enter Try.func71,Try.ntmps71
 go_wp2
 go_loopg [5,6] k (fun kq v5 v6 w'=>∃ (x5_1:List (S86)) (x6_1:Int),v6=.int .i64 x6_1∧Aside0 (impl_instrsOf.l0 kq a0 x5_1 x6_1=some (r1,r2,r3))∧Aside0 (kq≤k)∧Aside0 (Kd.R k86 86 w' w.heap.size (fun _=>True) v5 x5_1)∧Aside0 (Below w.heap.size w w'))
 case atStart=>exact ⟨(([]:List (S86))),(0),(by first|rfl|(simp;done)|(simp [*];done)),H',⟨Nat.le_refl _⟩,⟨by first|exact Kd.R_nil _ _ _ _ _|exact Kd.N_nil _ _ _ _ _|exact Kd.V_nil _ _ _ _ _|exact Kd.Q_nil _ _ _ _ _|exact Kd.S_nil _ _ _ _ _⟩,⟨by repeat (with_reducible first|exact HB.out|apply Q4|apply Q5|apply Q6)⟩⟩
 clear H'
 obtain ⟨x5_1,x6_1,rfl,HA,HK1,HO_5,HB⟩:=hrel
 cases gk with
 | zero=>exact absurd HA.out (by simp [impl_instrsOf.l0])
 | succ k1 =>
  have H:=HA.out
  clear HA
  simp only [impl_instrsOf.l0] at H
  by_cases c2:x6_1 < (a0.size:Int)
  ·rw [if_pos c2] at H
   have c2b0:decide (x6_1 < (a0.size:Int))=true:=decide_eq_true c2
   clear c2
   by_cases c3:0≤x6_1
   ·rw [if_pos c3] at H
    have c3b0:=eq_true c3
    have c3b1:decide (0≤x6_1)=true:=decide_eq_true c3
    clear c3
    by_cases c4:x6_1≤(wrap64 (x6_1+4))
    ·rw [if_pos c4] at H
     have c4b0:=eq_true c4
     have c4b1:decide (x6_1≤(wrap64 (x6_1+4)))=true:=decide_eq_true c4
     by_cases c5:(wrap64 (x6_1+4))≤(a0.size:Int)
     ·rw [if_pos c5] at H
      have c5b0:=eq_true c5
      have c5b1:decide ((wrap64 (x6_1+4))≤(a0.size:Int))=true:=decide_eq_true c5
      obtain ⟨t359,A6,H⟩:=bindA H
      obtain ⟨⟨t360,t361,t362,t363,t364,t365⟩,A7,H⟩:=bindA H
      try dsimp only at H
      by_cases c8:t365=true
      ·subst c8
       rw [if_pos rfl] at H
       by_cases c9:x5_1.length < 3518437208883
       ·rw [if_pos c9] at H
        have LMc9:=Aside0.mk c9
        clear c9
        obtain ⟨y367,hy367⟩ : ∃ y_:List (S86),y_=(x5_1 ++ [(⟨t360,t361,t362,t363,t364⟩:S86)]):=⟨_,rfl⟩
        replace H:(impl_instrsOf.l0 k1 a0 y367 (wrap64 (x6_1+4)))=some (r1,r2,r3):=by first|(rw [hy367];with_reducible exact H)|(have H2_:=(Option.bind_some _ _).symm.trans H;rw [hy367];with_reducible exact H2_)|(have H2_:=(Option.bind_some _ _).symm.trans H;with_reducible exact H2_)|with_reducible exact H|(rw [hy367];exact H)|exact H
        have Ny367:=Aside0.mk hy367
        clear hy367
        have H':=Aside0.mk H
        clear H
        go_wp2_with (first|((with_reducible refine gate_callee (f:=90) rfl ?_);refine goesL_ (some 21) rfl rfl Try.func90 (by kernel_rfl) rfl #[.string (a0.extract (x6_1:Int).toNat ((wrap64 (x6_1+4)):Int).toNat)] rfl (by (try simp only [List.map_toArray,List.map_cons,List.map_nil]);first|done|rfl|(simp only [List.length_drop,List.length_take];rfl)) ?_;(with_reducible refine (impl_takeLittle.calls k1 (a0.extract (x6_1:Int).toNat ((wrap64 (x6_1+4)):Int).toNat) t359 _ A6.out).mono ?_);rintro e w' ⟨rfl,⟨nd,rfl⟩⟩;refine ⟨_,rfl,?_⟩;(try (rw [drewN_self wr];generalize hq_:World.drewN wr _=wr;have n0_:Aside0 (Kd.R k86 86 wr w.heap.size (fun _=>True) u5 x5_1):=⟨by rw [← hq_];exact (by (with_reducible repeat (first|apply Kd.R_alloc|apply Kd.R_drewN|apply Kd.R_drew));exact HO_5.out)⟩;have n1_:Aside0 (Below w.heap.size w wr):=⟨by rw [← hq_];exact (by repeat (with_reducible first|exact HB.out|apply Q4|apply Q5|apply Q6))⟩;clear HO_5 HB hq_;have HO_5:=n0_;have HB:=n1_;clear n0_ n1_)))|((with_reducible refine gate_callee (f:=89) rfl ?_);refine goesL_ (some 22) rfl rfl Try.func89 (by kernel_rfl) rfl #[.int .i64 t359] rfl (by (try simp only [List.map_toArray,List.map_cons,List.map_nil]);first|done|rfl|(simp only [List.length_drop,List.length_take];rfl)) ?_;(with_reducible refine (impl_decode.calls k1 t359 t360 t361 t362 t363 t364 true _ A7.out).mono ?_);rintro e w10 ⟨rfl,hb⟩;refine ⟨_,rfl,?_⟩;have n0_:=Aside0.mk (Kd.R_below (by (with_reducible repeat (first|apply Kd.R_alloc|apply Kd.R_drewN|apply Kd.R_drew));exact HO_5.out) hb);have n1_:=Aside0.mk (below_step (by repeat (with_reducible first|exact HB.out|apply Q4|apply Q5|apply Q6)) hb);clear HO_5;clear HB;have HO_5:=n0_;have HB:=n1_;clear n0_ n1_;(try clear hb);(try clear hb2);(try clear hk);(try clear hi))|((with_reducible refine gate_dst (N:=7) rfl ?_);refine box_event ?hg (N:=7) ?hd (cs:=#[.int .i64 0,.int .i64 0,.int .i64 0,.int .i64 0,.int .i64 0]) (t:=86) ?hr ?_;(case hd=>rfl);(case hg=>rfl);(case hr=>first|(go_simp;done)|(go_simp;rfl));intro gb366 hg w11 hbox hb;have n0_:=Aside0.mk (Kd.R_below (Kd.R_elderB (by (with_reducible repeat (first|apply Kd.R_alloc|apply Kd.R_drewN|apply Kd.R_drew));exact HO_5.out) gb366 (Nat.le_of_eq hg.symm)) hb);have n1_:=Aside0.mk (below_step (by repeat (with_reducible first|exact HB.out|apply Q4|apply Q5|apply Q6)) hb);have n2_:=Aside0.mk (hbox);have n3_:=Aside0.mk ((by rw [hg];exact (below_size (by repeat (with_reducible first|exact HB.out|apply Q4|apply Q5|apply Q6))):w.heap.size≤gb366));have n4_:=Aside0.mk ((by rw [hg];exact (below_size (by repeat (with_reducible first|exact HB.out|apply Q4|apply Q5|apply Q6))):w.heap.size≤gb366));clear HO_5;clear HB;have HO_5:=n0_;have HB:=n1_;have BK366:=n2_;have GW366:=n3_;have GE366:=n4_;clear n0_ n1_ n2_ n3_ n4_;clear hb hbox hg;have hcz12_0:w11.cell? ⟨gb366,0,none⟩=some (.int .i64 0):=(blk_cell BK366.out 0).trans rfl;have hcz12_1:w11.cell? ⟨gb366,1,none⟩=some (.int .i64 0):=(blk_cell BK366.out 1).trans rfl;have hcz12_2:w11.cell? ⟨gb366,2,none⟩=some (.int .i64 0):=(blk_cell BK366.out 2).trans rfl;have hcz12_3:w11.cell? ⟨gb366,3,none⟩=some (.int .i64 0):=(blk_cell BK366.out 3).trans rfl;have hcz12_4:w11.cell? ⟨gb366,4,none⟩=some (.int .i64 0):=(blk_cell BK366.out 4).trans rfl;have hfz12_0:=blk_frozen BK366.out 0;have hfz12_1:=blk_frozen BK366.out 1;have hfz12_2:=blk_frozen BK366.out 2;have hfz12_3:=blk_frozen BK366.out 3;have hfz12_4:=blk_frozen BK366.out 4)|((with_reducible refine gate_builtin (b:=.append) (xs:=#[.tmp 29,.tmp 31]) rfl ?_);at_builtin;refine Kd.R_append k86 (w0:=w) w.heap.size rfl (.tmp 29) (.tmp 31) 63 86 (.agg #[(.int .i64 0),(.int .i64 0),(.int .i64 0),(.int .i64 0),(.int .i64 0)]) 40 rfl Try.underlying63 info86 rfl (by decide) (by omega) u5 x5_1 (⟨t360,t361,t362,t363,t364⟩:S86) [.int .i64 t360,.int .i64 t361,.int .i64 t362,.int .i64 t363,.int .i64 t364] (fun k_=>k_≠gb366) (fun _=>False) rfl (by first|(go_simp;done)|(go_simp;rfl)) ?aP (fun _ hk=>hk.elim) ?aF ?aO ?aB ?aS ?aL ?_;(case aP=>exact k86_mkM _ _ _ (⟨t360,t361,t362,t363,t364⟩:S86));(case aB=>exact (by repeat (with_reducible first|exact HB.out|apply Q4|apply Q5|apply Q6|apply Q7 GE366.out)));(case aF=>exact (fun k_ hk=>Kd.freshB (g:=gb366) (o:=.cells #[.int .i64 t360,.int .i64 t361,.int .i64 t362,.int .i64 t363,.int .i64 t364] 86 (0,0)) (by (with_reducible repeat first|apply Q1|apply Q2|apply Q3);refine blk_put (cs:=#[.int .i64 t360,.int .i64 t361,.int .i64 t362,.int .i64 t363,.int .i64 0]) ?_ 4 _ rfl;(with_reducible repeat first|apply Q1|apply Q2|apply Q3);refine blk_put (cs:=#[.int .i64 t360,.int .i64 t361,.int .i64 t362,.int .i64 0,.int .i64 0]) ?_ 3 _ rfl;(with_reducible repeat first|apply Q1|apply Q2|apply Q3);refine blk_put (cs:=#[.int .i64 t360,.int .i64 t361,.int .i64 0,.int .i64 0,.int .i64 0]) ?_ 2 _ rfl;(with_reducible repeat first|apply Q1|apply Q2|apply Q3);refine blk_put (cs:=#[.int .i64 t360,.int .i64 0,.int .i64 0,.int .i64 0,.int .i64 0]) ?_ 1 _ rfl;(with_reducible repeat first|apply Q1|apply Q2|apply Q3);refine blk_put (cs:=#[.int .i64 0,.int .i64 0,.int .i64 0,.int .i64 0,.int .i64 0]) ?_ 0 _ rfl;(with_reducible repeat first|apply Q1|apply Q2|apply Q3);exact BK366.out) k_ hk));(case aO=>exact (by (with_reducible repeat (first|apply Kd.R_alloc|apply Kd.R_drewN|apply Kd.R_drew));exact Kd.R_mono (Kd.R_far (p:=⟨gb366,4,none⟩) (Kd.R_far (p:=⟨gb366,3,none⟩) (Kd.R_far (p:=⟨gb366,2,none⟩) (Kd.R_far (p:=⟨gb366,1,none⟩) (Kd.R_far (p:=⟨gb366,0,none⟩) (Kd.R_mono HO_5.out (fun k_ hk=>(⟨hk,hk.2⟩:_∧k_≠gb366))) (fun _ hk=>hk.2) (.int .i64 t360)) (fun _ hk=>hk.2) (.int .i64 t361)) (fun _ hk=>hk.2) (.int .i64 t362)) (fun _ hk=>hk.2) (.int .i64 t363)) (fun _ hk=>hk.2) (.int .i64 t364)) (fun _ hk=>hk.1.2)));(case aS=>exact (below_size (by repeat (with_reducible first|exact HB.out|apply Q4|apply Q5|apply Q6|apply Q7 GE366.out))));(case aL=>have:=LMc9.out;omega);intro v368 w13 ho hb hg hat;rw [← Ny367.out] at ho;have n0_:=Aside0.mk (blk_grown (g:=gb366) (o:=.cells #[.int .i64 t360,.int .i64 t361,.int .i64 t362,.int .i64 t363,.int .i64 t364] 86 (0,0)) (by (with_reducible repeat first|apply Q1|apply Q2|apply Q3);refine blk_put (cs:=#[.int .i64 t360,.int .i64 t361,.int .i64 t362,.int .i64 t363,.int .i64 0]) ?_ 4 _ rfl;(with_reducible repeat first|apply Q1|apply Q2|apply Q3);refine blk_put (cs:=#[.int .i64 t360,.int .i64 t361,.int .i64 t362,.int .i64 0,.int .i64 0]) ?_ 3 _ rfl;(with_reducible repeat first|apply Q1|apply Q2|apply Q3);refine blk_put (cs:=#[.int .i64 t360,.int .i64 t361,.int .i64 0,.int .i64 0,.int .i64 0]) ?_ 2 _ rfl;(with_reducible repeat first|apply Q1|apply Q2|apply Q3);refine blk_put (cs:=#[.int .i64 t360,.int .i64 0,.int .i64 0,.int .i64 0,.int .i64 0]) ?_ 1 _ rfl;(with_reducible repeat first|apply Q1|apply Q2|apply Q3);refine blk_put (cs:=#[.int .i64 0,.int .i64 0,.int .i64 0,.int .i64 0,.int .i64 0]) ?_ 0 _ rfl;(with_reducible repeat first|apply Q1|apply Q2|apply Q3);exact BK366.out) hg (Kd.R_away HO_5.out (fun _ hk=>hk.2)));have n1_:=Aside0.mk (hb);have n2_:=Aside0.mk (ho);clear BK366;clear HB;clear HO_5;have BK366:=n0_;have HB:=n1_;have HO369:=n2_;clear n0_ n1_ n2_;clear ho hb hg hat))
        go_roundg k1
        case measure=>have:=HK1.out;omega
        case rel=>exact ⟨(y367),(wrap64 (x6_1+4)),(by first|rfl|(simp;done)|(simp [*];done)),H',⟨by have:=HK1.out;omega⟩,⟨by (with_reducible repeat (first|apply Kd.R_alloc|apply Kd.R_drewN|apply Kd.R_drew));exact Kd.R_mono HO369.out (fun _ hk=>trivial)⟩,⟨by repeat (with_reducible first|exact HB.out|apply Q4|apply Q5|apply Q6|apply Q7 GE366.out)⟩⟩
       rw [if_neg c9] at H
       exact absurd H (by simp)
      replace c8:=Bool.eq_false_iff.mpr c8
      subst c8
      rw [if_neg (show ¬ (false=true) by decide)] at H
      simp only [Option.some.injEq,Prod.mk.injEq] at H
      obtain ⟨rfl,rfl,rfl⟩:=H
      go_wp2_with (first|((with_reducible refine gate_callee (f:=90) rfl ?_);refine goesL_ (some 21) rfl rfl Try.func90 (by kernel_rfl) rfl #[.string (a0.extract (x6_1:Int).toNat ((wrap64 (x6_1+4)):Int).toNat)] rfl (by (try simp only [List.map_toArray,List.map_cons,List.map_nil]);first|done|rfl|(simp only [List.length_drop,List.length_take];rfl)) ?_;(with_reducible refine (impl_takeLittle.calls k1 (a0.extract (x6_1:Int).toNat ((wrap64 (x6_1+4)):Int).toNat) t359 _ A6.out).mono ?_);rintro e w' ⟨rfl,⟨nd,rfl⟩⟩;refine ⟨_,rfl,?_⟩;(try (rw [drewN_self wr];generalize hq_:World.drewN wr _=wr;have n0_:Aside0 (Kd.R k86 86 wr w.heap.size (fun _=>True) u5 x5_1):=⟨by rw [← hq_];exact (by (with_reducible repeat (first|apply Kd.R_alloc|apply Kd.R_drewN|apply Kd.R_drew));exact HO_5.out)⟩;have n1_:Aside0 (Below w.heap.size w wr):=⟨by rw [← hq_];exact (by repeat (with_reducible first|exact HB.out|apply Q4|apply Q5|apply Q6))⟩;clear HO_5 HB hq_;have HO_5:=n0_;have HB:=n1_;clear n0_ n1_)))|((with_reducible refine gate_callee (f:=89) rfl ?_);refine goesL_ (some 22) rfl rfl Try.func89 (by kernel_rfl) rfl #[.int .i64 t359] rfl (by (try simp only [List.map_toArray,List.map_cons,List.map_nil]);first|done|rfl|(simp only [List.length_drop,List.length_take];rfl)) ?_;(with_reducible refine (impl_decode.calls k1 t359 t360 t361 t362 t363 t364 false _ A7.out).mono ?_);rintro e w14 ⟨rfl,hb⟩;refine ⟨_,rfl,?_⟩;have n0_:=Aside0.mk (Kd.R_below (by (with_reducible repeat (first|apply Kd.R_alloc|apply Kd.R_drewN|apply Kd.R_drew));exact HO_5.out) hb);have n1_:=Aside0.mk (below_step (by repeat (with_reducible first|exact HB.out|apply Q4|apply Q5|apply Q6)) hb);clear HO_5;clear HB;have HO_5:=n0_;have HB:=n1_;clear n0_ n1_;(try clear hb);(try clear hb2);(try clear hk);(try clear hi))|((with_reducible refine gate_dst (N:=7) rfl ?_);refine box_event ?hg (N:=7) ?hd (cs:=#[.int .i64 0,.int .i64 0,.int .i64 0,.int .i64 0,.int .i64 0]) (t:=86) ?hr ?_;(case hd=>rfl);(case hg=>rfl);(case hr=>first|(go_simp;done)|(go_simp;rfl));intro gb366 hg w15 hbox hb;have n0_:=Aside0.mk (Kd.R_below (Kd.R_elderB (by (with_reducible repeat (first|apply Kd.R_alloc|apply Kd.R_drewN|apply Kd.R_drew));exact HO_5.out) gb366 (Nat.le_of_eq hg.symm)) hb);have n1_:=Aside0.mk (below_step (by repeat (with_reducible first|exact HB.out|apply Q4|apply Q5|apply Q6)) hb);have n2_:=Aside0.mk (hbox);have n3_:=Aside0.mk ((by rw [hg];exact (below_size (by repeat (with_reducible first|exact HB.out|apply Q4|apply Q5|apply Q6))):w.heap.size≤gb366));have n4_:=Aside0.mk ((by rw [hg];exact (below_size (by repeat (with_reducible first|exact HB.out|apply Q4|apply Q5|apply Q6))):w.heap.size≤gb366));clear HO_5;clear HB;have HO_5:=n0_;have HB:=n1_;have BK366:=n2_;have GW366:=n3_;have GE366:=n4_;clear n0_ n1_ n2_ n3_ n4_;clear hb hbox hg;have hcz16_0:w15.cell? ⟨gb366,0,none⟩=some (.int .i64 0):=(blk_cell BK366.out 0).trans rfl;have hcz16_1:w15.cell? ⟨gb366,1,none⟩=some (.int .i64 0):=(blk_cell BK366.out 1).trans rfl;have hcz16_2:w15.cell? ⟨gb366,2,none⟩=some (.int .i64 0):=(blk_cell BK366.out 2).trans rfl;have hcz16_3:w15.cell? ⟨gb366,3,none⟩=some (.int .i64 0):=(blk_cell BK366.out 3).trans rfl;have hcz16_4:w15.cell? ⟨gb366,4,none⟩=some (.int .i64 0):=(blk_cell BK366.out 4).trans rfl;have hfz16_0:=blk_frozen BK366.out 0;have hfz16_1:=blk_frozen BK366.out 1;have hfz16_2:=blk_frozen BK366.out 2;have hfz16_3:=blk_frozen BK366.out 3;have hfz16_4:=blk_frozen BK366.out 4))
      go_ret3
      exact ⟨_,by first|rfl|(simp [errW_none,errW_some]<;>rfl)|(simp [*,errW_none,errW_some]<;>rfl),by first|exact Kd.R_nil _ _ _ _ _|exact Kd.N_nil _ _ _ _ _|exact Kd.V_nil _ _ _ _ _|exact Kd.Q_nil _ _ _ _ _|exact Kd.S_nil _ _ _ _ _,by repeat (with_reducible first|exact HB.out|apply Q4|apply Q5|apply Q6|apply Q7 GE366.out)⟩
     rw [if_neg c5] at H
     exact absurd H (by simp)
    rw [if_neg c4] at H
    exact absurd H (by simp)
   rw [if_neg c3] at H
   exact absurd H (by simp)
  rw [if_neg c2] at H
  have c2b0:decide (x6_1 < (a0.size:Int))=false:=decide_eq_false c2
  clear c2
  simp only [Option.some.injEq,Prod.mk.injEq] at H
  obtain ⟨rfl,rfl,rfl⟩:=H
  go_wp2
  go_ret3
  exact ⟨_,by first|rfl|(simp [errW_none,errW_some]<;>rfl)|(simp [*,errW_none,errW_some]<;>rfl),by (with_reducible repeat (first|apply Kd.R_alloc|apply Kd.R_drewN|apply Kd.R_drew));exact HO_5.out,by repeat (with_reducible first|exact HB.out|apply Q4|apply Q5|apply Q6)⟩
def impl_isCodeSize.f (a0:ByteArray):Option (Bool):=if ((a0.size:Int) % 4)=0 then (some (decide ((a0.size:Int)≤256))) else (some false)
set_option maxHeartbeats 8000000 in
set_option maxRecDepth 100000 in
theorem impl_isCodeSize.calls (a0:ByteArray) (r:Bool) (w:World) (h:impl_isCodeSize.f a0=some r) :
    Calls Try.prog 79 #[.string a0] w fun e w'=>e=.returned (.bool r)∧Drawn0 w w':=by
 have H:(if ((a0.size:Int) % 4)=0 then (some (decide ((a0.size:Int)≤256))) else (some false))=some r:=h
 clear h
 by_cases c2:((a0.size:Int) % 4)=0
 ·rw [if_pos c2] at H
  obtain ⟨c2b0,c2b1⟩:=eqP c2
  clear c2
  obtain rfl:=Option.some.inj H
  go_enter Try.func79,Try.ntmps79
  go_wp2
  go_ret
  exact ⟨by first|rfl|(simp;done)|(simp [*];done),by repeat (first|exact Drawn0.refl _|apply Drawn0.step)⟩
 rw [if_neg c2] at H
 obtain ⟨c2b0,c2b1⟩:=eqN c2
 obtain rfl:=Option.some.inj H
 go_enter Try.func79,Try.ntmps79
 go_wp2
 go_ret
 exact ⟨by first|rfl|(simp;done)|(simp [*];done),by repeat (first|exact Drawn0.refl _|apply Drawn0.step)⟩
def impl_InstrsOf.f (k:Nat) (a0:ByteArray):Option ((List (S86)) × Int × Int):=(impl_isLong.f a0).bind fun t370=>(if t370=true then (some (([]:List (S86)),0,2)) else ((impl_isCodeSize.f a0).bind fun t371=>(if t371=true then ((impl_instrsOf.f k a0).bind fun bt372=>(if bt372.2.2=true then (some (bt372.1,0,0)) else (some (([]:List (S86)),bt372.2.1,10)))) else (some (([]:List (S86)),0,8)))))
theorem impl_InstrsOf.mono : ∀ a0 k,LeO (impl_InstrsOf.f k a0) (impl_InstrsOf.f (k+1) a0):=by
 intro a0 k
 unfold impl_InstrsOf.f
 repeat' (with_reducible first|apply impl_instrsOf.mono|apply LeO.refl|apply LeO.none|apply LeO.ite|refine LeO.bind ?_ (fun _=>?_))
set_option maxHeartbeats 8000000 in
set_option maxRecDepth 100000 in
theorem impl_InstrsOf.calls (k:Nat) (a0:ByteArray) (r1:List (S86)) (r2:Int) (r3:Int) (w:World) (h:impl_InstrsOf.f k a0=some (r1,r2,r3)) :
    Calls Try.prog 49 #[.string a0] w fun e w'=>∃ v0_:Value,e=.returned (.tuple #[v0_,.int .i64 r2,.int .i64 r3])∧Kd.R k86 86 w' w.heap.size (fun _=>True) v0_ r1∧Below w.heap.size w w':=by
 have HB:=Aside0.mk (Below.refl w.heap.size w)
 have H:((impl_isLong.f a0).bind fun t370=>(if t370=true then (some (([]:List (S86)),0,2)) else ((impl_isCodeSize.f a0).bind fun t371=>(if t371=true then ((impl_instrsOf.f k a0).bind fun bt372=>(if bt372.2.2=true then (some (bt372.1,0,0)) else (some (([]:List (S86)),bt372.2.1,10)))) else (some (([]:List (S86)),0,8))))))=some (r1,r2,r3):=h
 clear h
 obtain ⟨t370,A2,H⟩:=bindA H
 by_cases c3:t370=true
 ·subst c3
  rw [if_pos rfl] at H
  simp only [Option.some.injEq,Prod.mk.injEq] at H
  obtain ⟨rfl,rfl,rfl⟩:=H
  go_enter Try.func49,Try.ntmps49
  go_wp2_with (first|((with_reducible refine gate_callee (f:=36) rfl ?_);refine goesL_ (some 10) rfl rfl Try.func36 (by kernel_rfl) rfl #[.string a0] rfl (by (try simp only [List.map_toArray,List.map_cons,List.map_nil]);first|done|rfl|(simp only [List.length_drop,List.length_take];rfl)) ?_;(with_reducible refine (impl_isLong.calls a0 true _ A2.out).mono ?_);rintro e w' ⟨rfl,⟨nd,rfl⟩⟩;refine ⟨_,rfl,?_⟩))
  go_ret3
  exact ⟨_,by first|rfl|(simp [errW_none,errW_some]<;>rfl)|(simp [*,errW_none,errW_some]<;>rfl),by first|exact Kd.R_nil _ _ _ _ _|exact Kd.N_nil _ _ _ _ _|exact Kd.V_nil _ _ _ _ _|exact Kd.Q_nil _ _ _ _ _|exact Kd.S_nil _ _ _ _ _,by repeat (with_reducible first|exact HB.out|apply Q4|apply Q5|apply Q6)⟩
 replace c3:=Bool.eq_false_iff.mpr c3
 subst c3
 rw [if_neg (show ¬ (false=true) by decide)] at H
 obtain ⟨t371,A4,H⟩:=bindA H
 by_cases c5:t371=true
 ·subst c5
  rw [if_pos rfl] at H
  obtain ⟨⟨t372,t373,t374⟩,A6,H⟩:=bindA H
  try dsimp only at H
  by_cases c7:t374=true
  ·subst c7
   rw [if_pos rfl] at H
   simp only [Option.some.injEq,Prod.mk.injEq] at H
   obtain ⟨rfl,rfl,rfl⟩:=H
   go_enter Try.func49,Try.ntmps49
   go_wp2_with (first|((with_reducible refine gate_callee (f:=36) rfl ?_);refine goesL_ (some 10) rfl rfl Try.func36 (by kernel_rfl) rfl #[.string a0] rfl (by (try simp only [List.map_toArray,List.map_cons,List.map_nil]);first|done|rfl|(simp only [List.length_drop,List.length_take];rfl)) ?_;(with_reducible refine (impl_isLong.calls a0 false _ A2.out).mono ?_);rintro e w' ⟨rfl,⟨nd,rfl⟩⟩;refine ⟨_,rfl,?_⟩)|((with_reducible refine gate_callee (f:=79) rfl ?_);refine goesL_ (some 13) rfl rfl Try.func79 (by kernel_rfl) rfl #[.string a0] rfl (by (try simp only [List.map_toArray,List.map_cons,List.map_nil]);first|done|rfl|(simp only [List.length_drop,List.length_take];rfl)) ?_;(with_reducible refine (impl_isCodeSize.calls a0 true _ A4.out).mono ?_);rintro e w' ⟨rfl,⟨nd,rfl⟩⟩;refine ⟨_,rfl,?_⟩)|((with_reducible refine gate_callee (f:=71) rfl ?_);refine goesL_ (some 17) rfl rfl Try.func71 (by kernel_rfl) rfl #[.string a0] rfl (by (try simp only [List.map_toArray,List.map_cons,List.map_nil]);first|done|rfl|(simp only [List.length_drop,List.length_take];rfl)) ?_;(with_reducible refine (impl_instrsOf.calls k a0 t372 t373 true _ A6.out).mono ?_);rintro e w8 ⟨v375,rfl,ho0,hb⟩;refine ⟨_,rfl,?_⟩;have n0_:=Aside0.mk (Kd.R_lower ho0 (below_size (by repeat (with_reducible first|exact HB.out|apply Q4|apply Q5|apply Q6))));have n1_:=Aside0.mk (below_step (by repeat (with_reducible first|exact HB.out|apply Q4|apply Q5|apply Q6)) hb);clear HB;have HO376:=n0_;have HB:=n1_;clear n0_ n1_;(try clear hb);(try clear hb2);(try clear hk);(try clear hi);(try clear ho0)))
   go_ret3
   exact ⟨_,by first|rfl|(simp [errW_none,errW_some]<;>rfl)|(simp [*,errW_none,errW_some]<;>rfl),by (with_reducible repeat (first|apply Kd.R_alloc|apply Kd.R_drewN|apply Kd.R_drew));exact HO376.out,by repeat (with_reducible first|exact HB.out|apply Q4|apply Q5|apply Q6)⟩
  replace c7:=Bool.eq_false_iff.mpr c7
  subst c7
  rw [if_neg (show ¬ (false=true) by decide)] at H
  simp only [Option.some.injEq,Prod.mk.injEq] at H
  obtain ⟨rfl,rfl,rfl⟩:=H
  go_enter Try.func49,Try.ntmps49
  go_wp2_with (first|((with_reducible refine gate_callee (f:=36) rfl ?_);refine goesL_ (some 10) rfl rfl Try.func36 (by kernel_rfl) rfl #[.string a0] rfl (by (try simp only [List.map_toArray,List.map_cons,List.map_nil]);first|done|rfl|(simp only [List.length_drop,List.length_take];rfl)) ?_;(with_reducible refine (impl_isLong.calls a0 false _ A2.out).mono ?_);rintro e w' ⟨rfl,⟨nd,rfl⟩⟩;refine ⟨_,rfl,?_⟩)|((with_reducible refine gate_callee (f:=79) rfl ?_);refine goesL_ (some 13) rfl rfl Try.func79 (by kernel_rfl) rfl #[.string a0] rfl (by (try simp only [List.map_toArray,List.map_cons,List.map_nil]);first|done|rfl|(simp only [List.length_drop,List.length_take];rfl)) ?_;(with_reducible refine (impl_isCodeSize.calls a0 true _ A4.out).mono ?_);rintro e w' ⟨rfl,⟨nd,rfl⟩⟩;refine ⟨_,rfl,?_⟩)|((with_reducible refine gate_callee (f:=71) rfl ?_);refine goesL_ (some 17) rfl rfl Try.func71 (by kernel_rfl) rfl #[.string a0] rfl (by (try simp only [List.map_toArray,List.map_cons,List.map_nil]);first|done|rfl|(simp only [List.length_drop,List.length_take];rfl)) ?_;(with_reducible refine (impl_instrsOf.calls k a0 t372 t373 false _ A6.out).mono ?_);rintro e w9 ⟨v375,rfl,ho0,hb⟩;refine ⟨_,rfl,?_⟩;have n0_:=Aside0.mk (Kd.R_lower ho0 (below_size (by repeat (with_reducible first|exact HB.out|apply Q4|apply Q5|apply Q6))));have n1_:=Aside0.mk (below_step (by repeat (with_reducible first|exact HB.out|apply Q4|apply Q5|apply Q6)) hb);clear HB;have HO376:=n0_;have HB:=n1_;clear n0_ n1_;(try clear hb);(try clear hb2);(try clear hk);(try clear hi);(try clear ho0)))
  go_ret3
  exact ⟨_,by first|rfl|(simp [errW_none,errW_some]<;>rfl)|(simp [*,errW_none,errW_some]<;>rfl),by first|exact Kd.R_nil _ _ _ _ _|exact Kd.N_nil _ _ _ _ _|exact Kd.V_nil _ _ _ _ _|exact Kd.Q_nil _ _ _ _ _|exact Kd.S_nil _ _ _ _ _,by repeat (with_reducible first|exact HB.out|apply Q4|apply Q5|apply Q6)⟩
 replace c5:=Bool.eq_false_iff.mpr c5
 subst c5
 rw [if_neg (show ¬ (false=true) by decide)] at H
 simp only [Option.some.injEq,Prod.mk.injEq] at H
 obtain ⟨rfl,rfl,rfl⟩:=H
 go_enter Try.func49,Try.ntmps49
 go_wp2_with (first|((with_reducible refine gate_callee (f:=36) rfl ?_);refine goesL_ (some 10) rfl rfl Try.func36 (by kernel_rfl) rfl #[.string a0] rfl (by (try simp only [List.map_toArray,List.map_cons,List.map_nil]);first|done|rfl|(simp only [List.length_drop,List.length_take];rfl)) ?_;(with_reducible refine (impl_isLong.calls a0 false _ A2.out).mono ?_);rintro e w' ⟨rfl,⟨nd,rfl⟩⟩;refine ⟨_,rfl,?_⟩)|((with_reducible refine gate_callee (f:=79) rfl ?_);refine goesL_ (some 13) rfl rfl Try.func79 (by kernel_rfl) rfl #[.string a0] rfl (by (try simp only [List.map_toArray,List.map_cons,List.map_nil]);first|done|rfl|(simp only [List.length_drop,List.length_take];rfl)) ?_;(with_reducible refine (impl_isCodeSize.calls a0 false _ A4.out).mono ?_);rintro e w' ⟨rfl,⟨nd,rfl⟩⟩;refine ⟨_,rfl,?_⟩))
 go_ret3
 exact ⟨_,by first|rfl|(simp [errW_none,errW_some]<;>rfl)|(simp [*,errW_none,errW_some]<;>rfl),by first|exact Kd.R_nil _ _ _ _ _|exact Kd.N_nil _ _ _ _ _|exact Kd.V_nil _ _ _ _ _|exact Kd.Q_nil _ _ _ _ _|exact Kd.S_nil _ _ _ _ _,by repeat (with_reducible first|exact HB.out|apply Q4|apply Q5|apply Q6)⟩
end Go.Proofs.Ythepmdlpjdlajaa.PFnExactCallsOf
