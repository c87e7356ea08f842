-- Written by a program for this claim.
import Derived.Test.YthepmdlpjdlajaaPFnExactLintImagex0
import Derived.Test.YthepmdlpjdlajaaPFnExactLintImagex1
import Derived.Test.YthepmdlpjdlajaaPFnExactLintImagex16
import Derived.Test.YthepmdlpjdlajaaPFnExactLintImagex19
namespace Go.Proofs.Ythepmdlpjdlajaa.PFnExactLintImage
open Go.RowKit Go.Proofs.YthepmdlpjdlajaaW.PrintWords Go.Proofs.YthepmdlpjdlajaaW.PrintLast Go.Proofs.YthepmdlpjdlajaaW.PrintMore
attribute [local go_sem] max2_int min2_int max_two min_two max_three min_three max_four min_four   -- for this text's walks alone
set_option linter.unusedVariables false
set_option linter.unusedSimpArgs false
attribute [local go_sem high] eqA86
def impl_takeLittle.l0:Nat→ByteArray→Int→Int→Option (Int)
  | 0,_,_,_=>none
  | k+1,x0,x3,x4=>if x4≥0 then (if 0≤x4 then (if x4 < (x0.size:Int) then (impl_takeLittle.l0 k x0 (Go.bits .or .i64 (wrap64 (x3*256)) (wrap64 (bt x0 x4))) (wrap64 (x4 - 1))) else (none)) else (none)) else (some x3)
def impl_takeLittle.f (k:Nat) (a0:ByteArray):Option (Int):=impl_takeLittle.l0 k a0 0 (wrap64 ((a0.size:Int) - 1))
theorem impl_takeLittle.mono_l : ∀ k,(∀ y0 y1 y2,LeO (impl_takeLittle.l0 k y0 y1 y2) (impl_takeLittle.l0 (k+1) y0 y1 y2))
  | 0=>fun _ _ _ r h=>by simp [impl_takeLittle.l0] at h
  | k+1=>by
    have ih0:=impl_takeLittle.mono_l k
    · intro y0 y1 y2
      unfold impl_takeLittle.l0
      repeat' (with_reducible first|apply ih0|apply LeO.refl|apply LeO.none|apply LeO.ite|refine LeO.bind ?_ (fun _=>?_))
theorem impl_takeLittle.mono : ∀ a0 k,LeO (impl_takeLittle.f k a0) (impl_takeLittle.f (k+1) a0):=by
 intro a0 k
 have ih0:=impl_takeLittle.mono_l k
 unfold impl_takeLittle.f
 repeat' (with_reducible first|apply ih0|apply LeO.refl|apply LeO.none|apply LeO.ite|refine LeO.bind ?_ (fun _=>?_))
set_option maxHeartbeats 8000000 in
set_option maxRecDepth 100000 in
theorem impl_takeLittle.calls (k:Nat) (a0:ByteArray) (r:Int) (w:World) (h:impl_takeLittle.f k a0=some r) :
    Calls Try.prog 90 #[.string a0] w fun e w'=>e=.returned (.int .i64 r)∧Drawn0 w w':=by
 have H:(impl_takeLittle.l0 k a0 0 (wrap64 ((a0.size:Int) - 1)))=some r:=h
 clear h
 have H':=Aside0.mk H
 clear H
 go_enter Try.func90,Try.ntmps90
 go_wp2
 go_loopg [3,4] k (fun kq v3 v4 w'=>∃ (x3_1:Int) (x4_1:Int),v3=.int .i64 x3_1∧v4=.int .i64 x4_1∧Aside0 (impl_takeLittle.l0 kq a0 x3_1 x4_1=some r)∧Aside0 (kq≤k)∧Drawn0 w w')
 case atStart=>exact ⟨(0),(wrap64 ((a0.size:Int) - 1)),rs,rs,H',⟨Nat.le_refl _⟩,dr⟩
 clear H'
 obtain ⟨x3_1,x4_1,rfl,rfl,HA,HK1,⟨m1,rfl⟩⟩:=hrel
 cases gk with
 | zero=>exact absurd HA.out (by simp [impl_takeLittle.l0])
 | succ k1 =>
  have H:=HA.out
  clear HA
  simp only [impl_takeLittle.l0] at H
  by_cases c2:x4_1≥0
  ·rw [if_pos c2] at H
   have c2b0:decide (0≤x4_1)=true:=decide_eq_true c2
   clear c2
   by_cases c3:0≤x4_1
   ·rw [if_pos c3] at H
    have c3b0:decide (0≤x4_1)=true:=decide_eq_true c3
    clear c3
    by_cases c4:x4_1 < (a0.size:Int)
    ·rw [if_pos c4] at H
     have c4b0:decide (x4_1 < (a0.size:Int))=true:=decide_eq_true c4
     clear c4
     have H':=Aside0.mk H
     clear H
     have p5:0≤(x4_1:Int):=od
     have q5:x4_1 < (a0.size:Int):=od
     have hx5:=bt_at a0 x4_1
     replace p5:=eq_true p5
     replace q5:=eq_true q5
     go_wp2
     go_roundg k1
     case measure=>have:=HK1.out;omega
     case rel=>exact ⟨(Go.bits .or .i64 (wrap64 (x3_1*256)) (wrap64 (bt a0 x4_1))),(wrap64 (x4_1 - 1)),rs,rs,H',⟨by have:=HK1.out;omega⟩,dr⟩
    rw [if_neg c4] at H
    exact absurd H (by simp)
   rw [if_neg c3] at H
   exact absurd H (by simp)
  rw [if_neg c2] at H
  have c2b0:decide (0≤x4_1)=false:=decide_eq_false c2
  clear c2
  obtain rfl:=Option.some.inj H
  go_wp2
  go_ret
  exact ⟨rs,dr⟩
def impl_instrsOf.l0:Nat→ByteArray→List (S86)→Int→Option ((List (S86)) × Int × Bool)
  | 0,_,_,_=>none
  | k+1,x0,x5,x6=>if x6 < (x0.size:Int) then (if 0≤x6 then (if x6≤(wrap64 (x6+4)) then (if (wrap64 (x6+4))≤(x0.size:Int) then ((impl_takeLittle.f k (x0.extract (x6:Int).toNat ((wrap64 (x6+4)):Int).toNat)).bind fun t408=>((impl_decode.f k t408).bind fun bt409=>(if bt409.2.2.2.2.2=true then (if x5.length < 3518437208883 then (impl_instrsOf.l0 k x0 (x5 ++ [(⟨bt409.1,bt409.2.1,bt409.2.2.1,bt409.2.2.2.1,bt409.2.2.2.2.1⟩:S86)]) (wrap64 (x6+4))) else (none)) else (some (([]:List (S86)),wrap64 (Int.tdiv x6 4),false))))) else (none)) else (none)) else (none)) else (some (x5,0,true))
def impl_instrsOf.f (k:Nat) (a0:ByteArray):Option ((List (S86)) × Int × Bool):=impl_instrsOf.l0 k a0 ([]:List (S86)) 0
theorem impl_instrsOf.mono_l : ∀ k,(∀ y0 y1 y2,LeO (impl_instrsOf.l0 k y0 y1 y2) (impl_instrsOf.l0 (k+1) y0 y1 y2))
  | 0=>fun _ _ _ r h=>by simp [impl_instrsOf.l0] at h
  | k+1=>by
    have ih0:=impl_instrsOf.mono_l k
    · intro y0 y1 y2
      unfold impl_instrsOf.l0
      repeat' (with_reducible first|apply ih0|apply impl_decode.mono|apply impl_takeLittle.mono|apply LeO.refl|apply LeO.none|apply LeO.ite|refine LeO.bind ?_ (fun _=>?_))
theorem impl_instrsOf.mono : ∀ a0 k,LeO (impl_instrsOf.f k a0) (impl_instrsOf.f (k+1) a0):=by
 intro a0 k
 have ih0:=impl_instrsOf.mono_l k
 unfold impl_instrsOf.f
 repeat' (with_reducible first|apply ih0|apply impl_decode.mono|apply impl_takeLittle.mono|apply LeO.refl|apply LeO.none|apply LeO.ite|refine LeO.bind ?_ (fun _=>?_))
set_option maxHeartbeats 8000000 in
set_option maxRecDepth 100000 in
theorem impl_instrsOf.calls (k:Nat) (a0:ByteArray) (r1:List (S86)) (r2:Int) (r3:Bool) (w:World) (h:impl_instrsOf.f k a0=some (r1,r2,r3)) :
    Calls Try.prog 71 #[.string a0] w fun e w'=>∃ v0_:Value,e=.returned (.tuple #[v0_,.int .i64 r2,.bool r3])∧Kd.R k86 86 w' w.heap.size (fun _=>True) v0_ r1∧Below w.heap.size w w':=by
 have hu86:=Try.underlying86
 have HB:=Aside0.mk (Below.refl w.heap.size w)
 have H:(impl_instrsOf.l0 k a0 ([]:List (S86)) 0)=some (r1,r2,r3):=h
 clear h
 have H':=Aside0.mk H
 clear H
 go_enter Try.func71,Try.ntmps71
 go_wp2
 go_loopg [5,6] k (fun kq v5 v6 w'=>∃ (x5_1:List (S86)) (x6_1:Int),v6=.int .i64 x6_1∧Aside0 (impl_instrsOf.l0 kq a0 x5_1 x6_1=some (r1,r2,r3))∧Aside0 (kq≤k)∧Aside0 (Kd.R k86 86 w' w.heap.size (fun _=>True) v5 x5_1)∧Aside0 (Below w.heap.size w w'))
 case atStart=>exact ⟨(([]:List (S86))),(0),rs,H',⟨Nat.le_refl _⟩,⟨by first|exact Kd.R_nil _ _ _ _ _|exact Kd.N_nil _ _ _ _ _|exact Kd.V_nil _ _ _ _ _|exact Kd.Q_nil _ _ _ _ _|exact Kd.S_nil _ _ _ _ _⟩,⟨hbx⟩⟩
 clear H'
 obtain ⟨x5_1,x6_1,rfl,HA,HK1,HO_5,HB⟩:=hrel
 cases gk with
 | zero=>exact absurd HA.out (by simp [impl_instrsOf.l0])
 | succ k1 =>
  have H:=HA.out
  clear HA
  simp only [impl_instrsOf.l0] at H
  by_cases c2:x6_1 < (a0.size:Int)
  ·rw [if_pos c2] at H
   have c2b0:decide (x6_1 < (a0.size:Int))=true:=decide_eq_true c2
   clear c2
   by_cases c3:0≤x6_1
   ·rw [if_pos c3] at H
    have c3b0:=eq_true c3
    have c3b1:decide (0≤x6_1)=true:=decide_eq_true c3
    clear c3
    by_cases c4:x6_1≤(wrap64 (x6_1+4))
    ·rw [if_pos c4] at H
     have c4b0:=eq_true c4
     have c4b1:decide (x6_1≤(wrap64 (x6_1+4)))=true:=decide_eq_true c4
     by_cases c5:(wrap64 (x6_1+4))≤(a0.size:Int)
     ·rw [if_pos c5] at H
      have c5b0:=eq_true c5
      have c5b1:decide ((wrap64 (x6_1+4))≤(a0.size:Int))=true:=decide_eq_true c5
      obtain ⟨t408,A6,H⟩:=bindA H
      obtain ⟨⟨t409,t410,t411,t412,t413,t414⟩,A7,H⟩:=bindA H
      try dsimp only at H
      by_cases c8:t414=true
      ·subst c8
       rw [if_pos rfl] at H
       by_cases c9:x5_1.length < 3518437208883
       ·rw [if_pos c9] at H
        have LMc9:=Aside0.mk c9
        clear c9
        obtain ⟨y416,hy416⟩ : ∃ y_:List (S86),y_=(x5_1 ++ [(⟨t409,t410,t411,t412,t413⟩:S86)]):=⟨_,rfl⟩
        replace H:(impl_instrsOf.l0 k1 a0 y416 (wrap64 (x6_1+4)))=some (r1,r2,r3):=by first|(rw [hy416];with_reducible exact H)|(have H2_:=(Option.bind_some _ _).symm.trans H;rw [hy416];with_reducible exact H2_)|(have H2_:=(Option.bind_some _ _).symm.trans H;with_reducible exact H2_)|with_reducible exact H|(rw [hy416];exact H)|exact H
        have Ny416:=Aside0.mk hy416
        clear hy416
        have H':=Aside0.mk H
        clear H
        go_wp2_with (first|(refine gd 90 21 Try.func90 #[.string (a0.extract (x6_1:Int).toNat ((wrap64 (x6_1+4)):Int).toNat)] (impl_takeLittle.calls k1 (a0.extract (x6_1:Int).toNat ((wrap64 (x6_1+4)):Int).toNat) t408 _ A6.out) ?_;intro nd;(try (rw [drewN_self wr];generalize hq_:World.drewN wr _=wr;replace HO_5:Aside0 (Kd.R k86 86 wr w.heap.size (fun _=>True) u5 x5_1):=⟨by rw [← hq_];exact (kr HO_5.out)⟩;replace HB:Aside0 (Below w.heap.size w wr):=⟨by rw [← hq_];exact hbx⟩;clear hq_)))|(refine gl 89 22 Try.func89 #[.int .i64 t408] ?_;(with_reducible refine (impl_decode.calls k1 t408 t409 t410 t411 t412 t413 true _ A7.out).mono ?_);rintro e w10 ⟨rfl,hb⟩;refine ⟨_,rfl,?_⟩;have n0_:=Aside0.mk (Kd.R_below (kr HO_5.out) hb);replace HB:=Aside0.mk (below_step hbx hb);clear HO_5;have HO_5:=n0_;clear n0_;(try clear hb);(try clear hb2);(try clear hk);(try clear hi))|(refine bv 7 #[.int .i64 0,.int .i64 0,.int .i64 0,.int .i64 0,.int .i64 0] 86 ?_;intro gb415 hg w11 hbox hb;obtain ⟨n1_,n3_⟩:=bx0 hbx hb hg;have n0_:=Aside0.mk (Kd.R_below (Kd.R_elderB (kr HO_5.out) gb415 (Nat.le_of_eq hg.symm)) hb);have n2_:=Aside0.mk (hbox);clear HO_5;clear HB;have HO_5:=n0_;have HB:=n1_;have BK415:=n2_;have GW415:=n3_;have GE415:=n3_;clear n0_ n1_ n2_ n3_;clear hb hbox hg;obtain ⟨Z12_0,Z12_1,Z12_2,Z12_3,Z12_4,Y12_0,Y12_1,Y12_2,Y12_3,Y12_4⟩:=cel5 BK415.out)|((with_reducible refine gate_builtin (b:=.append) (xs:=#[.tmp 29,.tmp 31]) rfl ?_);at_builtin;refine Kd.R_append k86 (w0:=w) w.heap.size rfl (.tmp 29) (.tmp 31) 63 86 (.agg #[(.int .i64 0),(.int .i64 0),(.int .i64 0),(.int .i64 0),(.int .i64 0)]) 40 rfl Try.underlying63 info86 rfl (by decide) (by omega) u5 x5_1 (⟨t409,t410,t411,t412,t413⟩:S86) [.int .i64 t409,.int .i64 t410,.int .i64 t411,.int .i64 t412,.int .i64 t413] (fun k_=>k_≠gb415) (fun _=>False) rfl (by first|(go_simp;done)|(go_simp;rfl)) ?aP (fun _ hk=>hk.elim) ?aF ?aO ?aB ?aS ?aL ?_;(case aP=>exact k86_mkM _ _ _ (⟨t409,t410,t411,t412,t413⟩:S86));(case aB=>exact (hb1 GE415.out));(case aF=>exact (fun k_ hk=>Kd.freshB (g:=gb415) (o:=.cells #[.int .i64 t409,.int .i64 t410,.int .i64 t411,.int .i64 t412,.int .i64 t413] 86 (0,0)) (qp BK415.out) k_ hk));(case aO=>exact (by (with_reducible repeat (first|apply Kd.R_alloc|apply Kd.R_drewN|apply Kd.R_drew));exact Kd.R_mono (Kd.R_far (p:=⟨gb415,4,none⟩) (Kd.R_far (p:=⟨gb415,3,none⟩) (Kd.R_far (p:=⟨gb415,2,none⟩) (Kd.R_far (p:=⟨gb415,1,none⟩) (Kd.R_far (p:=⟨gb415,0,none⟩) (Kd.R_mono HO_5.out (fun k_ hk=>(⟨hk,hk.2⟩:_∧k_≠gb415))) (fun _ hk=>hk.2) (.int .i64 t409)) (fun _ hk=>hk.2) (.int .i64 t410)) (fun _ hk=>hk.2) (.int .i64 t411)) (fun _ hk=>hk.2) (.int .i64 t412)) (fun _ hk=>hk.2) (.int .i64 t413)) (fun _ hk=>hk.1.2)));(case aS=>exact (below_size (hb1 GE415.out)));(case aL=>have:=LMc9.out;omega);intro v417 w13 ho hb hg hat;rw [← Ny416.out] at ho;have n0_:=Aside0.mk (blk_grown (g:=gb415) (o:=.cells #[.int .i64 t409,.int .i64 t410,.int .i64 t411,.int .i64 t412,.int .i64 t413] 86 (0,0)) (qp BK415.out) hg (Kd.R_away HO_5.out (fun _ hk=>hk.2)));have n1_:=Aside0.mk (hb);have n2_:=Aside0.mk (ho);clear BK415;clear HB;clear HO_5;have BK415:=n0_;have HB:=n1_;have HO418:=n2_;clear n0_ n1_ n2_;clear ho hb hg hat))
        go_roundg k1
        case measure=>have:=HK1.out;omega
        case rel=>exact ⟨(y416),(wrap64 (x6_1+4)),rs,H',⟨by have:=HK1.out;omega⟩,⟨by (with_reducible repeat (first|apply Kd.R_alloc|apply Kd.R_drewN|apply Kd.R_drew));exact Kd.R_mono HO418.out (fun _ hk=>trivial)⟩,⟨hb1 GE415.out⟩⟩
       rw [if_neg c9] at H
       exact absurd H (by simp)
      replace c8:=Bool.eq_false_iff.mpr c8
      subst c8
      rw [if_neg (show ¬ (false=true) by decide)] at H
      simp only [Option.some.injEq,Prod.mk.injEq] at H
      obtain ⟨rfl,rfl,rfl⟩:=H
      go_wp2_with (first|(refine gd 90 21 Try.func90 #[.string (a0.extract (x6_1:Int).toNat ((wrap64 (x6_1+4)):Int).toNat)] (impl_takeLittle.calls k1 (a0.extract (x6_1:Int).toNat ((wrap64 (x6_1+4)):Int).toNat) t408 _ A6.out) ?_;intro nd;(try (rw [drewN_self wr];generalize hq_:World.drewN wr _=wr;replace HO_5:Aside0 (Kd.R k86 86 wr w.heap.size (fun _=>True) u5 x5_1):=⟨by rw [← hq_];exact (kr HO_5.out)⟩;replace HB:Aside0 (Below w.heap.size w wr):=⟨by rw [← hq_];exact hbx⟩;clear hq_)))|(refine gl 89 22 Try.func89 #[.int .i64 t408] ?_;(with_reducible refine (impl_decode.calls k1 t408 t409 t410 t411 t412 t413 false _ A7.out).mono ?_);rintro e w14 ⟨rfl,hb⟩;refine ⟨_,rfl,?_⟩;have n0_:=Aside0.mk (Kd.R_below (kr HO_5.out) hb);replace HB:=Aside0.mk (below_step hbx hb);clear HO_5;have HO_5:=n0_;clear n0_;(try clear hb);(try clear hb2);(try clear hk);(try clear hi))|(refine bv 7 #[.int .i64 0,.int .i64 0,.int .i64 0,.int .i64 0,.int .i64 0] 86 ?_;intro gb415 hg w15 hbox hb;obtain ⟨n1_,n3_⟩:=bx0 hbx hb hg;have n0_:=Aside0.mk (Kd.R_below (Kd.R_elderB (kr HO_5.out) gb415 (Nat.le_of_eq hg.symm)) hb);have n2_:=Aside0.mk (hbox);clear HO_5;clear HB;have HO_5:=n0_;have HB:=n1_;have BK415:=n2_;have GW415:=n3_;have GE415:=n3_;clear n0_ n1_ n2_ n3_;clear hb hbox hg;obtain ⟨Z16_0,Z16_1,Z16_2,Z16_3,Z16_4,Y16_0,Y16_1,Y16_2,Y16_3,Y16_4⟩:=cel5 BK415.out))
      go_ret3
      exact ⟨_,rf,by first|exact Kd.R_nil _ _ _ _ _|exact Kd.N_nil _ _ _ _ _|exact Kd.V_nil _ _ _ _ _|exact Kd.Q_nil _ _ _ _ _|exact Kd.S_nil _ _ _ _ _,hb1 GE415.out⟩
     rw [if_neg c5] at H
     exact absurd H (by simp)
    rw [if_neg c4] at H
    exact absurd H (by simp)
   rw [if_neg c3] at H
   exact absurd H (by simp)
  rw [if_neg c2] at H
  have c2b0:decide (x6_1 < (a0.size:Int))=false:=decide_eq_false c2
  clear c2
  simp only [Option.some.injEq,Prod.mk.injEq] at H
  obtain ⟨rfl,rfl,rfl⟩:=H
  go_wp2
  go_ret3
  exact ⟨_,rf,by (with_reducible repeat (first|apply Kd.R_alloc|apply Kd.R_drewN|apply Kd.R_drew));exact HO_5.out,hbx⟩
def impl_prologue.f (a0:Int):Option ((List (S86))):=some (([(⟨22,2,2,0,wrap64 (-a0)⟩:S86),(⟨21,0,2,1,wrap64 (a0 - 8)⟩:S86)]:List (S86)))
set_option maxHeartbeats 8000000 in
set_option maxRecDepth 100000 in
theorem impl_prologue.calls (a0:Int) (r:List (S86)) (w:World) (h:impl_prologue.f a0=some r) :
    Calls Try.prog 72 #[.int .i64 a0] w fun e w'=>∃ v0_:Value,e=.returned (v0_)∧Kd.R k86 86 w' w.heap.size (fun _=>True) v0_ r∧Below w.heap.size w w':=by
 have hu86:=Try.underlying86
 have HB:=Aside0.mk (Below.refl w.heap.size w)
 have H:(some (([(⟨22,2,2,0,wrap64 (-a0)⟩:S86),(⟨21,0,2,1,wrap64 (a0 - 8)⟩:S86)]:List (S86))))=some r:=h
 clear h
 obtain ⟨y419,hy419⟩ : ∃ y_:List (S86),y_=(([(⟨22,2,2,0,wrap64 (-a0)⟩:S86),(⟨21,0,2,1,wrap64 (a0 - 8)⟩:S86)]:List (S86))):=⟨_,rfl⟩
 replace H:(some y419)=some r:=by first|(rw [hy419];with_reducible exact H)|(have H2_:=(Option.bind_some _ _).symm.trans H;rw [hy419];with_reducible exact H2_)|(have H2_:=(Option.bind_some _ _).symm.trans H;with_reducible exact H2_)|with_reducible exact H|(rw [hy419];exact H)|exact H
 have Ny419:=Aside0.mk hy419
 clear hy419
 obtain rfl:=Option.some.inj H
 go_enter Try.func72,Try.ntmps72
 go_wp2_with (first|((with_reducible refine gate_dst (N:=9) rfl ?_);refine Kd.R_lit k86 _ 86 ?hg (N:=9) ?hd (xs:=([(⟨22,2,2,0,wrap64 (-a0)⟩:S86),(⟨21,0,2,1,wrap64 (a0 - 8)⟩:S86)]:List (S86))) (inner:=[.int .i64 22,.int .i64 2,.int .i64 2,.int .i64 0,.int .i64 (wrap64 (-a0)),.int .i64 21,.int .i64 0,.int .i64 2,.int .i64 1,.int .i64 (wrap64 (a0 - 8))]) (ok:=fun _=>True) (okp:=fun _=>True) ?hr ?hp (fun _ hk=>hk) trivial (Below.refl _ _) (Nat.le_refl _) (by simp) ?_;(case hd=>rfl);(case hg=>rfl);(case hr=>first|(go_simp;done)|(go_simp;rfl));(case hp=>exact (Reps.c5 (show Kd.M k86 _ _ _ (⟨22,2,2,0,wrap64 (-a0)⟩:S86) [.int .i64 22,.int .i64 2,.int .i64 2,.int .i64 0,.int .i64 (wrap64 (-a0))] from (k86_mkM _ _ _ (⟨22,2,2,0,wrap64 (-a0)⟩:S86) )) (Reps.c5 (show Kd.M k86 _ _ _ (⟨21,0,2,1,wrap64 (a0 - 8)⟩:S86) [.int .i64 21,.int .i64 0,.int .i64 2,.int .i64 1,.int .i64 (wrap64 (a0 - 8))] from (k86_mkM _ _ _ (⟨21,0,2,1,wrap64 (a0 - 8)⟩:S86) )) (Reps.none _ _))));intro v420 w2 ho3 hb hg_ hnew_;clear hg_ hnew_;(first|rw [← Ny419.out] at ho3|(simp only [Int.reduceToNat] at ho3;rw [← Ny419.out] at ho3));have n0_:=Aside0.mk (Kd.R_lower ho3 (below_size hbx));have n1_:=Aside0.mk (below_step hbx hb);clear HB;have HO421:=n0_;have HB:=n1_;clear n0_ n1_;clear hb ho3))
 go_ret
 exact ⟨_,rf,by (with_reducible repeat (first|apply Kd.R_alloc|apply Kd.R_drewN|apply Kd.R_drew));exact HO421.out,hbx⟩
def impl_Instr.l0:Nat→List (S86)→List (S86)→Int→Int→Option (Bool)
  | 0,_,_,_,_=>none
  | k+1,x0,x1,x12,x13=>if x13 < x12 then (if 0≤x13 then (if x13 < (x0.length:Int) then (if x13 < (x1.length:Int) then (if (!(((rd_T86 x0 x13).f0)==((rd_T86 x1 x13).f0)) || (!(((rd_T86 x0 x13).f1)==((rd_T86 x1 x13).f1)) || (!(((rd_T86 x0 x13).f2)==((rd_T86 x1 x13).f2)) || (!(((rd_T86 x0 x13).f3)==((rd_T86 x1 x13).f3)) || (!(((rd_T86 x0 x13).f4)==((rd_T86 x1 x13).f4)))))))=true then (some false) else (impl_Instr.l0 k x0 x1 x12 (wrap64 (x13+1)))) else (none)) else (none)) else (none)) else (some true)
def impl_Instr.f (k:Nat) (l0:List (S86)) (l1:List (S86)):Option (Bool):=if (l0.length:Int)=(l1.length:Int) then (impl_Instr.l0 k l0 l1 (l0.length:Int) 0) else (some false)
theorem impl_Instr.mono_l : ∀ k,(∀ y0 y1 y2 y3,LeO (impl_Instr.l0 k y0 y1 y2 y3) (impl_Instr.l0 (k+1) y0 y1 y2 y3))
  | 0=>fun _ _ _ _ r h=>by simp [impl_Instr.l0] at h
  | k+1=>by
    have ih0:=impl_Instr.mono_l k
    · intro y0 y1 y2 y3
      unfold impl_Instr.l0
      repeat' (with_reducible first|apply ih0|apply LeO.refl|apply LeO.none|apply LeO.ite|refine LeO.bind ?_ (fun _=>?_))
theorem impl_Instr.mono : ∀ a0 a1 k,LeO (impl_Instr.f k a0 a1) (impl_Instr.f (k+1) a0 a1):=by
 intro a0 a1 k
 have ih0:=impl_Instr.mono_l k
 unfold impl_Instr.f
 repeat' (with_reducible first|apply ih0|apply LeO.refl|apply LeO.none|apply LeO.ite|refine LeO.bind ?_ (fun _=>?_))
set_option maxHeartbeats 8000000 in
set_option maxRecDepth 100000 in
theorem impl_Instr.calls (k:Nat) (A0:Option Addr) (c0:Nat) (l0:List (S86)) (A1:Option Addr) (c1:Nat) (l1:List (S86)) (r:Bool) (w:World) (hr0:Kd.C k86 w A0 l0.length l0) (hc0:l0.length≤c0) (hr1:Kd.C k86 w A1 l1.length l1) (hc1:l1.length≤c1) (h:impl_Instr.f k l0 l1=some r) :
    Calls Try.prog 73 #[.slice A0 l0.length c0,.slice A1 l1.length c1] w fun e w'=>e=.returned (.bool r)∧Drawn0 w w':=by
 have hu86:=Try.underlying86
 have HR0:=Aside0.mk hr0
 have HC0:=Aside0.mk hc0
 clear hr0 hc0
 have HR1:=Aside0.mk hr1
 have HC1:=Aside0.mk hc1
 clear hr1 hc1
 have H:(if (l0.length:Int)=(l1.length:Int) then (impl_Instr.l0 k l0 l1 (l0.length:Int) 0) else (some false))=some r:=h
 clear h
 by_cases c3:(l0.length:Int)=(l1.length:Int)
 ·rw [if_pos c3] at H
  obtain ⟨c3b0,c3b1⟩:=eqP c3
  have c3b2:(l0.length==l1.length)=true:=by first|simpa using c3|(simp at c3 ⊢;omega)
  clear c3
  have H':=Aside0.mk H
  clear H
  go_enter Try.func73,Try.ntmps73
  go_wp2
  repeat (go_quiet (fail);try go_wp2)
  go_loopg [13] k (fun kq v13 w'=>∃ (x13_1:Int),v13=.int .i64 x13_1∧Aside0 (impl_Instr.l0 kq l0 l1 (l0.length:Int) x13_1=some r)∧Aside0 (kq≤k)∧Drawn0 w w')
  case atStart=>exact ⟨(0),rs,H',⟨Nat.le_refl _⟩,dr⟩
  clear H'
  try clear c3b0 c3b1
  try clear c3b2
  obtain ⟨x13_1,rfl,HA,HK1,⟨m1,rfl⟩⟩:=hrel
  cases gk with
  | zero=>exact absurd HA.out (by simp [impl_Instr.l0])
  | succ k1 =>
   have H:=HA.out
   clear HA
   simp only [impl_Instr.l0] at H
   by_cases c4:x13_1 < (l0.length:Int)
   ·rw [if_pos c4] at H
    have c4b0:decide (x13_1 < (l0.length:Int))=true:=decide_eq_true c4
    clear c4
    by_cases c5:0≤x13_1
    ·rw [if_pos c5] at H
     have c5b0:decide (0≤x13_1)=true:=decide_eq_true c5
     clear c5
     by_cases c6:x13_1 < (l0.length:Int)
     ·rw [if_pos c6] at H
      have c6b0:decide (x13_1 < (l0.length:Int))=true:=decide_eq_true c6
      clear c6
      by_cases c7:x13_1 < (l1.length:Int)
      ·rw [if_pos c7] at H
       have c7b0:decide (x13_1 < (l1.length:Int))=true:=decide_eq_true c7
       clear c7
       by_cases c8:(!(((rd_T86 l0 x13_1).f0)==((rd_T86 l1 x13_1).f0)) || (!(((rd_T86 l0 x13_1).f1)==((rd_T86 l1 x13_1).f1)) || (!(((rd_T86 l0 x13_1).f2)==((rd_T86 l1 x13_1).f2)) || (!(((rd_T86 l0 x13_1).f3)==((rd_T86 l1 x13_1).f3)) || (!(((rd_T86 l0 x13_1).f4)==((rd_T86 l1 x13_1).f4)))))))=true
       ·rw [if_pos c8] at H
        have c8b0:(!(((rd_T86 l0 x13_1).f0)==((rd_T86 l1 x13_1).f0)) || (!(((rd_T86 l0 x13_1).f1)==((rd_T86 l1 x13_1).f1)) || (!(((rd_T86 l0 x13_1).f2)==((rd_T86 l1 x13_1).f2)) || (!(((rd_T86 l0 x13_1).f3)==((rd_T86 l1 x13_1).f3)) || (!(((rd_T86 l0 x13_1).f4)==((rd_T86 l1 x13_1).f4)))))))=true:=c8
        clear c8
        obtain rfl:=Option.some.inj H
        have p422:0≤(x13_1:Int):=od
        have q422:x13_1 < (l0.length:Int):=od
        obtain ⟨ad422,e422,hx422_0,hx422_1,hx422_2,hx422_3,hx422_4⟩:=at_T86 HR0.out x13_1 p422 q422
        cases e422
        replace p422:=eq_true p422
        replace q422:=eq_true q422
        have p423:0≤(x13_1:Int):=od
        have q423:x13_1 < (l1.length:Int):=od
        obtain ⟨ad423,e423,hx423_0,hx423_1,hx423_2,hx423_3,hx423_4⟩:=at_T86 HR1.out x13_1 p423 q423
        cases e423
        replace p423:=eq_true p423
        replace q423:=eq_true q423
        go_wp2
        repeat (go_quiet (fail);try go_wp2)
        go_ret
        exact ⟨rs,dr⟩
       rw [if_neg c8] at H
       have c8b0:(!(((rd_T86 l0 x13_1).f0)==((rd_T86 l1 x13_1).f0)) || (!(((rd_T86 l0 x13_1).f1)==((rd_T86 l1 x13_1).f1)) || (!(((rd_T86 l0 x13_1).f2)==((rd_T86 l1 x13_1).f2)) || (!(((rd_T86 l0 x13_1).f3)==((rd_T86 l1 x13_1).f3)) || (!(((rd_T86 l0 x13_1).f4)==((rd_T86 l1 x13_1).f4)))))))=false:=by simpa using c8
       clear c8
       have H':=Aside0.mk H
       clear H
       have p422:0≤(x13_1:Int):=od
       have q422:x13_1 < (l0.length:Int):=od
       obtain ⟨ad422,e422,hx422_0,hx422_1,hx422_2,hx422_3,hx422_4⟩:=at_T86 HR0.out x13_1 p422 q422
       cases e422
       replace p422:=eq_true p422
       replace q422:=eq_true q422
       have p423:0≤(x13_1:Int):=od
       have q423:x13_1 < (l1.length:Int):=od
       obtain ⟨ad423,e423,hx423_0,hx423_1,hx423_2,hx423_3,hx423_4⟩:=at_T86 HR1.out x13_1 p423 q423
       cases e423
       replace p423:=eq_true p423
       replace q423:=eq_true q423
       go_wp2
       repeat (go_quiet (fail);try go_wp2)
       go_roundg k1
       case measure=>have:=HK1.out;omega
       case rel=>exact ⟨(wrap64 (x13_1+1)),rs,H',⟨by have:=HK1.out;omega⟩,dr⟩
      rw [if_neg c7] at H
      exact absurd H (by simp)
     rw [if_neg c6] at H
     exact absurd H (by simp)
    rw [if_neg c5] at H
    exact absurd H (by simp)
   rw [if_neg c4] at H
   have c4b0:decide (x13_1 < (l0.length:Int))=false:=decide_eq_false c4
   clear c4
   obtain rfl:=Option.some.inj H
   go_wp2
   repeat (go_quiet (fail);try go_wp2)
   go_ret
   exact ⟨rs,dr⟩
 rw [if_neg c3] at H
 obtain ⟨c3b0,c3b1⟩:=eqN c3
 have c3b2:(l0.length==l1.length)=false:=by first|simpa using c3|(simp at c3 ⊢;omega)
 obtain rfl:=Option.some.inj H
 go_enter Try.func73,Try.ntmps73
 go_wp2
 repeat (go_quiet (fail);try go_wp2)
 go_ret
 exact ⟨rs,dr⟩
def impl_epilogue.f (a0:Int):Option ((List (S86))):=some (([(⟨14,1,2,0,wrap64 (a0 - 8)⟩:S86),(⟨22,2,2,0,a0⟩:S86),(⟨4,0,1,0,0⟩:S86)]:List (S86)))
set_option maxHeartbeats 8000000 in
set_option maxRecDepth 100000 in
theorem impl_epilogue.calls (a0:Int) (r:List (S86)) (w:World) (h:impl_epilogue.f a0=some r) :
    Calls Try.prog 74 #[.int .i64 a0] w fun e w'=>∃ v0_:Value,e=.returned (v0_)∧Kd.R k86 86 w' w.heap.size (fun _=>True) v0_ r∧Below w.heap.size w w':=by
 have hu86:=Try.underlying86
 have HB:=Aside0.mk (Below.refl w.heap.size w)
 have H:(some (([(⟨14,1,2,0,wrap64 (a0 - 8)⟩:S86),(⟨22,2,2,0,a0⟩:S86),(⟨4,0,1,0,0⟩:S86)]:List (S86))))=some r:=h
 clear h
 obtain ⟨y424,hy424⟩ : ∃ y_:List (S86),y_=(([(⟨14,1,2,0,wrap64 (a0 - 8)⟩:S86),(⟨22,2,2,0,a0⟩:S86),(⟨4,0,1,0,0⟩:S86)]:List (S86))):=⟨_,rfl⟩
 replace H:(some y424)=some r:=by first|(rw [hy424];with_reducible exact H)|(have H2_:=(Option.bind_some _ _).symm.trans H;rw [hy424];with_reducible exact H2_)|(have H2_:=(Option.bind_some _ _).symm.trans H;with_reducible exact H2_)|with_reducible exact H|(rw [hy424];exact H)|exact H
 have Ny424:=Aside0.mk hy424
 clear hy424
 obtain rfl:=Option.some.inj H
 go_enter Try.func74,Try.ntmps74
 go_wp2_with (first|((with_reducible refine gate_dst (N:=9) rfl ?_);refine Kd.R_lit k86 _ 86 ?hg (N:=9) ?hd (xs:=([(⟨14,1,2,0,wrap64 (a0 - 8)⟩:S86),(⟨22,2,2,0,a0⟩:S86),(⟨4,0,1,0,0⟩:S86)]:List (S86))) (inner:=[.int .i64 14,.int .i64 1,.int .i64 2,.int .i64 0,.int .i64 (wrap64 (a0 - 8)),.int .i64 22,.int .i64 2,.int .i64 2,.int .i64 0,.int .i64 a0,.int .i64 4,.int .i64 0,.int .i64 1,.int .i64 0,.int .i64 0]) (ok:=fun _=>True) (okp:=fun _=>True) ?hr ?hp (fun _ hk=>hk) trivial (Below.refl _ _) (Nat.le_refl _) (by simp) ?_;(case hd=>rfl);(case hg=>rfl);(case hr=>first|(go_simp;done)|(go_simp;rfl));(case hp=>exact (Reps.c5 (show Kd.M k86 _ _ _ (⟨14,1,2,0,wrap64 (a0 - 8)⟩:S86) [.int .i64 14,.int .i64 1,.int .i64 2,.int .i64 0,.int .i64 (wrap64 (a0 - 8))] from (k86_mkM _ _ _ (⟨14,1,2,0,wrap64 (a0 - 8)⟩:S86) )) (Reps.c5 (show Kd.M k86 _ _ _ (⟨22,2,2,0,a0⟩:S86) [.int .i64 22,.int .i64 2,.int .i64 2,.int .i64 0,.int .i64 a0] from (k86_mkM _ _ _ (⟨22,2,2,0,a0⟩:S86) )) (Reps.c5 (show Kd.M k86 _ _ _ (⟨4,0,1,0,0⟩:S86) [.int .i64 4,.int .i64 0,.int .i64 1,.int .i64 0,.int .i64 0] from (k86_mkM _ _ _ (⟨4,0,1,0,0⟩:S86) )) (Reps.none _ _)))));intro v425 w2 ho3 hb hg_ hnew_;clear hg_ hnew_;(first|rw [← Ny424.out] at ho3|(simp only [Int.reduceToNat] at ho3;rw [← Ny424.out] at ho3));have n0_:=Aside0.mk (Kd.R_lower ho3 (below_size hbx));have n1_:=Aside0.mk (below_step hbx hb);clear HB;have HO426:=n0_;have HB:=n1_;clear n0_ n1_;clear hb ho3))
 go_ret
 exact ⟨_,rf,by (with_reducible repeat (first|apply Kd.R_alloc|apply Kd.R_drewN|apply Kd.R_drew));exact HO426.out,hbx⟩
def slices_Index_int_int.l0:Nat→List Int→Int→Int→Int→Option (Int)
  | 0,_,_,_,_=>none
  | k+1,x0,x1,x7,x8=>if x8 < x7 then (if 0≤x8 then (if x8 < (x0.length:Int) then (if x1=(rd x0 x8) then (some x8) else (slices_Index_int_int.l0 k x0 x1 x7 (wrap64 (x8+1)))) else (none)) else (none)) else (some (-1))
def slices_Index_int_int.f (k:Nat) (l0:List Int) (a1:Int):Option (Int):=slices_Index_int_int.l0 k l0 a1 (l0.length:Int) 0
theorem slices_Index_int_int.mono_l : ∀ k,(∀ y0 y1 y2 y3,LeO (slices_Index_int_int.l0 k y0 y1 y2 y3) (slices_Index_int_int.l0 (k+1) y0 y1 y2 y3))
  | 0=>fun _ _ _ _ r h=>by simp [slices_Index_int_int.l0] at h
  | k+1=>by
    have ih0:=slices_Index_int_int.mono_l k
    · intro y0 y1 y2 y3
      unfold slices_Index_int_int.l0
      repeat' (with_reducible first|apply ih0|apply LeO.refl|apply LeO.none|apply LeO.ite|refine LeO.bind ?_ (fun _=>?_))
theorem slices_Index_int_int.mono : ∀ a0 a1 k,LeO (slices_Index_int_int.f k a0 a1) (slices_Index_int_int.f (k+1) a0 a1):=by
 intro a0 a1 k
 have ih0:=slices_Index_int_int.mono_l k
 unfold slices_Index_int_int.f
 repeat' (with_reducible first|apply ih0|apply LeO.refl|apply LeO.none|apply LeO.ite|refine LeO.bind ?_ (fun _=>?_))
set_option maxHeartbeats 8000000 in
set_option maxRecDepth 100000 in
theorem slices_Index_int_int.calls (k:Nat) (A0:Option Addr) (c0:Nat) (l0:List Int) (a1:Int) (r:Int) (w:World) (hr0:Kd.C (Kd.int .i64) w A0 l0.length l0) (hc0:l0.length≤c0) (h:slices_Index_int_int.f k l0 a1=some r) :
    Calls Try.prog 113 #[.slice A0 l0.length c0,.int .i64 a1] w fun e w'=>e=.returned (.int .i64 r)∧Drawn0 w w':=by
 have HR0:=Aside0.mk hr0
 have HC0:=Aside0.mk hc0
 clear hr0 hc0
 have H:(slices_Index_int_int.l0 k l0 a1 (l0.length:Int) 0)=some r:=h
 clear h
 have H':=Aside0.mk H
 clear H
 go_enter Try.func113,Try.ntmps113
 go_wp2
 go_loopg [8] k (fun kq v8 w'=>∃ (x8_1:Int),v8=.int .i64 x8_1∧Aside0 (slices_Index_int_int.l0 kq l0 a1 (l0.length:Int) x8_1=some r)∧Aside0 (kq≤k)∧Drawn0 w w')
 case atStart=>exact ⟨(0),rs,H',⟨Nat.le_refl _⟩,dr⟩
 clear H'
 obtain ⟨x8_1,rfl,HA,HK1,⟨m1,rfl⟩⟩:=hrel
 cases gk with
 | zero=>exact absurd HA.out (by simp [slices_Index_int_int.l0])
 | succ k1 =>
  have H:=HA.out
  clear HA
  simp only [slices_Index_int_int.l0] at H
  by_cases c3:x8_1 < (l0.length:Int)
  ·rw [if_pos c3] at H
   have c3b0:decide (x8_1 < (l0.length:Int))=true:=decide_eq_true c3
   clear c3
   by_cases c4:0≤x8_1
   ·rw [if_pos c4] at H
    have c4b0:decide (0≤x8_1)=true:=decide_eq_true c4
    clear c4
    by_cases c5:x8_1 < (l0.length:Int)
    ·rw [if_pos c5] at H
     have c5b0:decide (x8_1 < (l0.length:Int))=true:=decide_eq_true c5
     clear c5
     by_cases c6:a1=(rd l0 x8_1)
     ·rw [if_pos c6] at H
      obtain ⟨c6b0,c6b1⟩:=eqP c6
      clear c6
      obtain rfl:=Option.some.inj H
      have p427:0≤(x8_1:Int):=od
      have q427:x8_1 < (l0.length:Int):=od
      obtain ⟨ad427,e427,hx427_0⟩:=Kd.at_int HR0.out x8_1 p427 q427
      cases e427
      replace p427:=eq_true p427
      replace q427:=eq_true q427
      go_wp2
      go_ret
      exact ⟨rs,dr⟩
     rw [if_neg c6] at H
     obtain ⟨c6b0,c6b1⟩:=eqN c6
     have H':=Aside0.mk H
     clear H
     have p427:0≤(x8_1:Int):=od
     have q427:x8_1 < (l0.length:Int):=od
     obtain ⟨ad427,e427,hx427_0⟩:=Kd.at_int HR0.out x8_1 p427 q427
     cases e427
     replace p427:=eq_true p427
     replace q427:=eq_true q427
     go_wp2
     go_roundg k1
     case measure=>have:=HK1.out;omega
     case rel=>exact ⟨(wrap64 (x8_1+1)),rs,H',⟨by have:=HK1.out;omega⟩,dr⟩
    rw [if_neg c5] at H
    exact absurd H (by simp)
   rw [if_neg c4] at H
   exact absurd H (by simp)
  rw [if_neg c3] at H
  have c3b0:decide (x8_1 < (l0.length:Int))=false:=decide_eq_false c3
  clear c3
  obtain rfl:=Option.some.inj H
  go_wp2
  go_ret
  exact ⟨rs,dr⟩
def slices_Contains_int_int.f (k:Nat) (l0:List Int) (a1:Int):Option (Bool):=(slices_Index_int_int.f k l0 a1).bind fun t428=>(some (decide (t428≥0)))
theorem slices_Contains_int_int.mono : ∀ a0 a1 k,LeO (slices_Contains_int_int.f k a0 a1) (slices_Contains_int_int.f (k+1) a0 a1):=by
 intro a0 a1 k
 unfold slices_Contains_int_int.f
 repeat' (with_reducible first|apply slices_Index_int_int.mono|apply LeO.refl|apply LeO.none|apply LeO.ite|refine LeO.bind ?_ (fun _=>?_))
set_option maxHeartbeats 8000000 in
set_option maxRecDepth 100000 in
theorem slices_Contains_int_int.calls (k:Nat) (A0:Option Addr) (c0:Nat) (l0:List Int) (a1:Int) (r:Bool) (w:World) (hr0:Kd.C (Kd.int .i64) w A0 l0.length l0) (hc0:l0.length≤c0) (h:slices_Contains_int_int.f k l0 a1=some r) :
    Calls Try.prog 91 #[.slice A0 l0.length c0,.int .i64 a1] w fun e w'=>e=.returned (.bool r)∧Drawn0 w w':=by
 have HR0:=Aside0.mk hr0
 have HC0:=Aside0.mk hc0
 clear hr0 hc0
 have H:((slices_Index_int_int.f k l0 a1).bind fun t428=>(some (decide (t428≥0))))=some r:=h
 clear h
 obtain ⟨t428,A3,H⟩:=bindA H
 obtain rfl:=Option.some.inj H
 go_enter Try.func91,Try.ntmps91
 go_wp2_with (first|(refine gl 113 7 Try.func113 #[.slice A0 l0.length c0,.int .i64 a1] ?_;(with_reducible refine (slices_Index_int_int.calls k _ _ l0 a1 t428 _ ?side1 ?side2 A3.out).mono ?_);(case side1=>repeat (first|exact HR0.out|(with_reducible refine Kd.C_alloc ?_ _)|(with_reducible refine Kd.C_drewN ?_ _)|(with_reducible refine Kd.C_drew ?_)));(case side2=>exact HC0.out);rintro e w' ⟨rfl,⟨nd,rfl⟩⟩;refine ⟨_,rfl,?_⟩))
 go_ret
 exact ⟨rs,dr⟩
def impl_linting.LS (W:World) (g:Nat) (f0:List S86) (f1 f2:Int) (f3 f4:List Int):Prop:=∃ A0 c0 A3 c3 A4 c4,W.heap[g]?=some (.cells #[.slice A0 f0.length c0,.int .i64 f1,.int .i64 f2,.slice A3 f3.length c3,.slice A4 f4.length c4] 93 (0,0))∧Kd.C k86 W A0 f0.length f0∧f0.length≤c0∧Kd.C (Kd.int .i64) W A3 f3.length f3∧f3.length≤c3∧Kd.C (Kd.int .i64) W A4 f4.length f4∧f4.length≤c4
theorem impl_linting.LS.below {W W':World} {g:Nat} {l:List S86} {fr at_:Int} {c e:List Int} (h:impl_linting.LS W g l fr at_ c e) (hb:Below W.heap.size W W'):impl_linting.LS W' g l fr at_ c e:=by
 obtain ⟨A0,c0,A3,c3,A4,c4,hh,r0,l0,r3,l3,r4,l4⟩:=h
 exact ⟨A0,c0,A3,c3,A4,c4,blk_below hh hb,Kd.C_below r0 hb,l0,Kd.C_below r3 hb,l3,Kd.C_below r4 hb,l4⟩
theorem impl_within.eq (a b c:Int):impl_within.f a b c=some (decide (b≤a) && decide (a≤c)):=by
 unfold impl_within.f
 by_cases h:b≤a<;>simp [h]
def impl_linting.tgt (l:List S86) (i:Int):Int:=wrap64 (i+wrap64 (Int.tdiv (rd_T86 l i).f4 4))
def impl_linting.perm (l:List S86) (e:List Int) (i:Int):Bool:=((rd_T86 l i).f4).tmod 4==0 && (decide (2≤impl_linting.tgt l i) && decide (impl_linting.tgt l i≤wrap64 ((l.length:Int) - 1))) && decide (rd e (impl_linting.tgt l i) < 2)
set_option maxHeartbeats 2000000 in
set_option maxRecDepth 100000 in
theorem impl_linting_permitted.calls (g:Nat) (l:List S86) (fr at_:Int) (c e:List Int) (i:Int) (W:World) (hL:impl_linting.LS W g l fr at_ c e) (h0:0≤i) (h1:i < (l.length:Int)) (hl:l.length=e.length) :
    Calls Try.prog 92 #[.pointer (some ⟨g,0,none⟩),.int .i64 i] W fun r w'=>r=.returned (.bool (impl_linting.perm l e i))∧Drawn0 W w':=by
 obtain ⟨A0,c0,A3,c3,A4,c4,hb,r0,l0,r3,l3,r4,l4⟩:=hL
 have z0:W.cell? ⟨g,0,none⟩=some (.slice A0 l.length c0):=(blk_cell hb 0).trans rfl
 have z4:W.cell? ⟨g,4,none⟩=some (.slice A4 e.length c4):=(blk_cell hb 4).trans rfl
 obtain ⟨ad,rfl,q0,q1,q2,q3,q4⟩:=at_T86 r0 i h0 h1
 have hbig:l.length≤9223372036854775807:=r0.2.1
 have R4:=Aside0.mk r4
 have HL:=Aside0.mk hl
 have HG:=Aside0.mk hbig
 clear hb r0 r3 r4 l0 l3 l4 hl hbig
 unfold impl_linting.perm
 have p0:=eq_true h0
 have p1:=eq_true h1
 have HW:=Aside0.mk (impl_within.eq (impl_linting.tgt l i) 2 (wrap64 ((l.length:Int) - 1)))
 have HT:Aside0 (impl_linting.tgt l i=wrap64 (i+wrap64 (Int.tdiv (rd_T86 l i).f4 4))):=⟨rfl⟩
 generalize (rd_T86 l i).f4=imm at *
 generalize hto:impl_linting.tgt l i=tq at *
 clear hto
 by_cases hm:imm.tmod 4=0
 ·have hm':(imm.tmod 4==0)=true:=by simp [hm]
  have hT2:IntKind.i64.wrap (i+wrap64 (Int.tdiv imm 4))=tq:=(i64_w _).trans HT.out.symm
  have hT3:wrap64 (i+wrap64 (Int.tdiv imm 4))=tq:=HT.out.symm
  cases hw:(decide (2≤tq) && decide (tq≤wrap64 ((l.length:Int) - 1))) with
  | true =>
   rw [hw] at HW
   have b1:2≤tq:=by simp at hw;exact hw.1
   have b2:tq < (e.length:Int):=by
    simp at hw
    have:=hw.2
    have hl:=HL.out
    have hbig:=HG.out
    have e1:wrap64 ((l.length:Int) - 1)=(l.length:Int) - 1:=by unfold wrap64;omega
    omega
   obtain ⟨ad4,rfl,y4⟩:=Kd.at_int R4.out tq (by omega) b2
   have b3:(0≤tq)=True:=eq_true (by omega)
   have b4:=eq_true b2
   clear hw
   go_enter Try.func92,Try.ntmps92
   go_wp2_with (first|(go_at_call 56;(with_reducible refine (impl_within.calls tq 2 (wrap64 ((l.length:Int) - 1)) true _ HW.out).mono ?_);rintro r w' ⟨rfl,⟨nd,rfl⟩⟩))
   go_ret
   exact ⟨by simp [hm'],dr⟩
  | false =>
   rw [hw] at HW
   clear hw
   go_enter Try.func92,Try.ntmps92
   go_wp2_with (first|(go_at_call 56;(with_reducible refine (impl_within.calls tq 2 (wrap64 ((l.length:Int) - 1)) false _ HW.out).mono ?_);rintro r w' ⟨rfl,⟨nd,rfl⟩⟩))
   go_ret
   exact ⟨by simp [hm'],dr⟩
 have hm':(imm.tmod 4==0)=false:=by simp [hm]
 go_enter Try.func92,Try.ntmps92
 go_wp2
 go_ret
 exact ⟨by simp [hm'],dr⟩
def impl_isBranch.f (a0:Int):Option (Bool):=(impl_within.f a0 5 10).bind fun t429=>(some t429)
set_option maxHeartbeats 8000000 in
set_option maxRecDepth 100000 in
theorem impl_isBranch.calls (a0:Int) (r:Bool) (w:World) (h:impl_isBranch.f a0=some r) :
    Calls Try.prog 93 #[.int .i64 a0] w fun e w'=>e=.returned (.bool r)∧Drawn0 w w':=by
 have H:((impl_within.f a0 5 10).bind fun t429=>(some t429))=some r:=h
 clear h
 obtain ⟨t429,A2,H⟩:=bindA H
 obtain rfl:=Option.some.inj H
 go_enter Try.func93,Try.ntmps93
 go_wp2_with (first|(refine gd 56 4 Try.func56 #[.int .i64 a0,.int .i64 5,.int .i64 10] (impl_within.calls a0 5 10 t429 _ A2.out) ?_;intro nd))
 go_ret
 exact ⟨rs,dr⟩
def impl_isLoad.f (a0:Int):Option (Bool):=(impl_within.f a0 11 17).bind fun t430=>(some t430)
set_option maxHeartbeats 8000000 in
set_option maxRecDepth 100000 in
theorem impl_isLoad.calls (a0:Int) (r:Bool) (w:World) (h:impl_isLoad.f a0=some r) :
    Calls Try.prog 94 #[.int .i64 a0] w fun e w'=>e=.returned (.bool r)∧Drawn0 w w':=by
 have H:((impl_within.f a0 11 17).bind fun t430=>(some t430))=some r:=h
 clear h
 obtain ⟨t430,A2,H⟩:=bindA H
 obtain rfl:=Option.some.inj H
 go_enter Try.func94,Try.ntmps94
 go_wp2_with (first|(refine gd 56 4 Try.func56 #[.int .i64 a0,.int .i64 11,.int .i64 17] (impl_within.calls a0 11 17 t430 _ A2.out) ?_;intro nd))
 go_ret
 exact ⟨rs,dr⟩
def impl_isStore.f (a0:Int):Option (Bool):=(impl_within.f a0 18 21).bind fun t431=>(some t431)
set_option maxHeartbeats 8000000 in
set_option maxRecDepth 100000 in
theorem impl_isStore.calls (a0:Int) (r:Bool) (w:World) (h:impl_isStore.f a0=some r) :
    Calls Try.prog 95 #[.int .i64 a0] w fun e w'=>e=.returned (.bool r)∧Drawn0 w w':=by
 have H:((impl_within.f a0 18 21).bind fun t431=>(some t431))=some r:=h
 clear h
 obtain ⟨t431,A2,H⟩:=bindA H
 obtain rfl:=Option.some.inj H
 go_enter Try.func95,Try.ntmps95
 go_wp2_with (first|(refine gd 56 4 Try.func56 #[.int .i64 a0,.int .i64 18,.int .i64 21] (impl_within.calls a0 18 21 t431 _ A2.out) ?_;intro nd))
 go_ret
 exact ⟨rs,dr⟩
def impl_widthOf.f (a0:Int):Option (Int × Bool):=(impl_isStore.f a0).bind fun t432=>(if t432=true then (if 0≤(wrap64 (a0 - 18)) then (some (shl .i64 1 (wrap64 (a0 - 18)),false)) else (none)) else (if a0 > 14 then (if 0≤(wrap64 (a0 - 15)) then (some (shl .i64 1 (wrap64 (a0 - 15)),false)) else (none)) else (if 0≤(wrap64 (a0 - 11)) then (some (shl .i64 1 (wrap64 (a0 - 11)),true)) else (none))))
set_option maxHeartbeats 8000000 in
set_option maxRecDepth 100000 in
theorem impl_widthOf.calls (a0:Int) (r1:Int) (r2:Bool) (w:World) (h:impl_widthOf.f a0=some (r1,r2)) :
    Calls Try.prog 96 #[.int .i64 a0] w fun e w'=>e=.returned (.tuple #[.int .i64 r1,.bool r2])∧Drawn0 w w':=by
 have H:((impl_isStore.f a0).bind fun t432=>(if t432=true then (if 0≤(wrap64 (a0 - 18)) then (some (shl .i64 1 (wrap64 (a0 - 18)),false)) else (none)) else (if a0 > 14 then (if 0≤(wrap64 (a0 - 15)) then (some (shl .i64 1 (wrap64 (a0 - 15)),false)) else (none)) else (if 0≤(wrap64 (a0 - 11)) then (some (shl .i64 1 (wrap64 (a0 - 11)),true)) else (none)))))=some (r1,r2):=h
 clear h
 obtain ⟨t432,A2,H⟩:=bindA H
 by_cases c3:t432=true
 ·subst c3
  rw [if_pos rfl] at H
  obtain ⟨ji4,hji4⟩ : ∃ j_:Int,(wrap64 (a0 - 18))=j_:=⟨_,rfl⟩
  replace H:(if 0≤(ji4) then (some (shl .i64 1 (ji4),false)) else (none))=some (r1,r2):=by first|(rw [hji4] at H;exact H)|(simp only [hji4] at H ⊢;exact H)
  (try rw [hji4] at A2)
  have hji4w:(IntKind.i64.wrap (a0 - 18))=ji4:=(i64_w _).trans hji4
  by_cases c5:0≤(ji4)
  ·rw [if_pos c5] at H
   have c5b0:=eq_true c5
   have c5b1:decide (0≤(ji4))=true:=decide_eq_true c5
   clear c5
   obtain ⟨ji6,hji6⟩ : ∃ j_:Int,(shl .i64 1 (ji4))=j_:=⟨_,rfl⟩
   replace H:(some (ji6,false))=some (r1,r2):=by first|(rw [hji6] at H;exact H)|(simp only [hji6] at H ⊢;exact H)
   (try rw [hji6] at A2)
   have hji6_:(IntKind.i64.wrap (1*2 ^ min (ji4).toNat 64))=ji6:=hji6
   have hji6z:(ji4)≤64→(IntKind.i64.wrap (1*2 ^ (ji4).toNat))=ji6:=shl_small hji6
   have hji6u:(IntKind.i64.wrap (2 ^ min (ji4).toNat 64))=ji6:=by have h_:=hji6_;rw [Int.one_mul] at h_;exact h_
   have hji6v:(ji4)≤64→(IntKind.i64.wrap (2 ^ (ji4).toNat))=ji6:=fun hle_=>by have h_:=hji6z hle_;rw [Int.one_mul] at h_;exact h_
   have hji6y:(wrap64 (1*2 ^ min (ji4).toNat 64))=ji6:=(i64_w _).symm.trans hji6_
   have hji6x:(ji4)≤64→(wrap64 (1*2 ^ (ji4).toNat))=ji6:=fun h_=>(i64_w _).symm.trans (hji6z h_)
   simp only [Option.some.injEq,Prod.mk.injEq] at H
   obtain ⟨rfl,rfl⟩:=H
   go_enter Try.func96,Try.ntmps96
   go_wp2_with (first|(refine gd 95 5 Try.func95 #[.int .i64 a0] (impl_isStore.calls a0 true _ A2.out) ?_;intro nd))
   go_ret2
   exact ⟨by first|rfl|(simp;done)|(simp only [← hji4,← hji6]<;>(first|rfl|simp))|(simp [*];done),dr⟩
  rw [if_neg c5] at H
  exact absurd H (by simp)
 replace c3:=Bool.eq_false_iff.mpr c3
 subst c3
 rw [if_neg (show ¬ (false=true) by decide)] at H
 by_cases c7:a0 > 14
 ·rw [if_pos c7] at H
  have c7b0:decide (14 < a0)=true:=decide_eq_true c7
  clear c7
  obtain ⟨ji8,hji8⟩ : ∃ j_:Int,(wrap64 (a0 - 15))=j_:=⟨_,rfl⟩
  replace H:(if 0≤(ji8) then (some (shl .i64 1 (ji8),false)) else (none))=some (r1,r2):=by first|(rw [hji8] at H;exact H)|(simp only [hji8] at H ⊢;exact H)
  (try rw [hji8] at A2)
  have hji8w:(IntKind.i64.wrap (a0 - 15))=ji8:=(i64_w _).trans hji8
  by_cases c9:0≤(ji8)
  ·rw [if_pos c9] at H
   have c9b0:=eq_true c9
   have c9b1:decide (0≤(ji8))=true:=decide_eq_true c9
   clear c9
   obtain ⟨ji10,hji10⟩ : ∃ j_:Int,(shl .i64 1 (ji8))=j_:=⟨_,rfl⟩
   replace H:(some (ji10,false))=some (r1,r2):=by first|(rw [hji10] at H;exact H)|(simp only [hji10] at H ⊢;exact H)
   (try rw [hji10] at A2)
   have hji10_:(IntKind.i64.wrap (1*2 ^ min (ji8).toNat 64))=ji10:=hji10
   have hji10z:(ji8)≤64→(IntKind.i64.wrap (1*2 ^ (ji8).toNat))=ji10:=shl_small hji10
   have hji10u:(IntKind.i64.wrap (2 ^ min (ji8).toNat 64))=ji10:=by have h_:=hji10_;rw [Int.one_mul] at h_;exact h_
   have hji10v:(ji8)≤64→(IntKind.i64.wrap (2 ^ (ji8).toNat))=ji10:=fun hle_=>by have h_:=hji10z hle_;rw [Int.one_mul] at h_;exact h_
   have hji10y:(wrap64 (1*2 ^ min (ji8).toNat 64))=ji10:=(i64_w _).symm.trans hji10_
   have hji10x:(ji8)≤64→(wrap64 (1*2 ^ (ji8).toNat))=ji10:=fun h_=>(i64_w _).symm.trans (hji10z h_)
   simp only [Option.some.injEq,Prod.mk.injEq] at H
   obtain ⟨rfl,rfl⟩:=H
   go_enter Try.func96,Try.ntmps96
   go_wp2_with (first|(refine gd 95 5 Try.func95 #[.int .i64 a0] (impl_isStore.calls a0 false _ A2.out) ?_;intro nd))
   go_ret2
   exact ⟨by first|rfl|(simp;done)|(simp only [← hji8,← hji10]<;>(first|rfl|simp))|(simp [*];done),dr⟩
  rw [if_neg c9] at H
  exact absurd H (by simp)
 rw [if_neg c7] at H
 have c7b0:decide (14 < a0)=false:=decide_eq_false c7
 clear c7
 obtain ⟨ji11,hji11⟩ : ∃ j_:Int,(wrap64 (a0 - 11))=j_:=⟨_,rfl⟩
 replace H:(if 0≤(ji11) then (some (shl .i64 1 (ji11),true)) else (none))=some (r1,r2):=by first|(rw [hji11] at H;exact H)|(simp only [hji11] at H ⊢;exact H)
 (try rw [hji11] at A2)
 have hji11w:(IntKind.i64.wrap (a0 - 11))=ji11:=(i64_w _).trans hji11
 by_cases c12:0≤(ji11)
 ·rw [if_pos c12] at H
  have c12b0:=eq_true c12
  have c12b1:decide (0≤(ji11))=true:=decide_eq_true c12
  clear c12
  obtain ⟨ji13,hji13⟩ : ∃ j_:Int,(shl .i64 1 (ji11))=j_:=⟨_,rfl⟩
  replace H:(some (ji13,true))=some (r1,r2):=by first|(rw [hji13] at H;exact H)|(simp only [hji13] at H ⊢;exact H)
  (try rw [hji13] at A2)
  have hji13_:(IntKind.i64.wrap (1*2 ^ min (ji11).toNat 64))=ji13:=hji13
  have hji13z:(ji11)≤64→(IntKind.i64.wrap (1*2 ^ (ji11).toNat))=ji13:=shl_small hji13
  have hji13u:(IntKind.i64.wrap (2 ^ min (ji11).toNat 64))=ji13:=by have h_:=hji13_;rw [Int.one_mul] at h_;exact h_
  have hji13v:(ji11)≤64→(IntKind.i64.wrap (2 ^ (ji11).toNat))=ji13:=fun hle_=>by have h_:=hji13z hle_;rw [Int.one_mul] at h_;exact h_
  have hji13y:(wrap64 (1*2 ^ min (ji11).toNat 64))=ji13:=(i64_w _).symm.trans hji13_
  have hji13x:(ji11)≤64→(wrap64 (1*2 ^ (ji11).toNat))=ji13:=fun h_=>(i64_w _).symm.trans (hji13z h_)
  simp only [Option.some.injEq,Prod.mk.injEq] at H
  obtain ⟨rfl,rfl⟩:=H
  go_enter Try.func96,Try.ntmps96
  go_wp2_with (first|(refine gd 95 5 Try.func95 #[.int .i64 a0] (impl_isStore.calls a0 false _ A2.out) ?_;intro nd))
  go_ret2
  exact ⟨by first|rfl|(simp;done)|(simp only [← hji11,← hji13]<;>(first|rfl|simp))|(simp [*];done),dr⟩
 rw [if_neg c12] at H
 exact absurd H (by simp)
end Go.Proofs.Ythepmdlpjdlajaa.PFnExactLintImage
