-- Written by a program for this claim.
import Derived.Test.YthepmdlpjdlajaaPFnExactLintImagex0
import Derived.Test.YthepmdlpjdlajaaPFnExactLintImagex12
namespace Go.Proofs.Ythepmdlpjdlajaa.PFnExactLintImage
open Go.RowKit Go.Proofs.YthepmdlpjdlajaaW.PrintWords Go.Proofs.YthepmdlpjdlajaaW.PrintLast Go.Proofs.YthepmdlpjdlajaaW.PrintMore
attribute [local go_sem] max2_int min2_int max_two min_two max_three min_three max_four min_four   -- for this text's walks alone
set_option linter.unusedVariables false
set_option linter.unusedSimpArgs false
def spec_l07Entries.l0:Nat→List (S54)→List Int→Int→Option (List Int)
  | 0,_,_,_=>none
  | k+1,x0,x3,x4=>if x4 < (x0.length:Int) then (if 0≤x4 then (if ((rd_T54 x0 x4).f1)=1 then ((spec_l07Place.f ((rd_T54 x0 x4).f0) ((rd_T54 x0 x4).f1) ((rd_T54 x0 x4).f2) ((rd_T54 x0 x4).f3) ((rd_T54 x0 x4).f4)).bind fun t317=>(if x3.length < 17592186044416 then (spec_l07Entries.l0 k x0 (x3 ++ [t317]) (wrap64 (x4+1))) else (none))) else (spec_l07Entries.l0 k x0 x3 (wrap64 (x4+1)))) else (none)) else (some x3)
def spec_l07Entries.f (k:Nat) (l0:List (S54)):Option (List Int):=spec_l07Entries.l0 k l0 (([]:List Int)) 0
theorem spec_l07Entries.mono_l : ∀ k,(∀ y0 y1 y2,LeO (spec_l07Entries.l0 k y0 y1 y2) (spec_l07Entries.l0 (k+1) y0 y1 y2))
  | 0=>fun _ _ _ r h=>by simp [spec_l07Entries.l0] at h
  | k+1=>by
    have ih0:=spec_l07Entries.mono_l k
    · intro y0 y1 y2
      unfold spec_l07Entries.l0
      repeat' (with_reducible first|apply ih0|apply LeO.refl|apply LeO.none|apply LeO.ite|refine LeO.bind ?_ (fun _=>?_))
theorem spec_l07Entries.mono : ∀ a0 k,LeO (spec_l07Entries.f k a0) (spec_l07Entries.f (k+1) a0):=by
 intro a0 k
 have ih0:=spec_l07Entries.mono_l k
 unfold spec_l07Entries.f
 repeat' (with_reducible first|apply ih0|apply LeO.refl|apply LeO.none|apply LeO.ite|refine LeO.bind ?_ (fun _=>?_))
set_option maxHeartbeats 8000000 in
set_option maxRecDepth 100000 in
theorem spec_l07Entries.calls (k:Nat) (A0:Option Addr) (c0:Nat) (l0:List (S54)) (r:List Int) (w:World) (hr0:Kd.C k54 w A0 l0.length l0) (hc0:l0.length≤c0) (h:spec_l07Entries.f k l0=some r) :
    Calls Try.prog 83 #[.slice A0 l0.length c0] w fun e w'=>∃ v0_:Value,e=.returned (v0_)∧Kd.R (Kd.int .i64) 3 w' w.heap.size (fun _=>True) v0_ r∧Below w.heap.size w w':=by
 have hu54:=Try.underlying54
 have HR0:=Aside0.mk hr0
 have HC0:=Aside0.mk hc0
 clear hr0 hc0
 have HB:=Aside0.mk (Below.refl w.heap.size w)
 have H:(spec_l07Entries.l0 k l0 (([]:List Int)) 0)=some r:=h
 clear h
 obtain ⟨y312,hy312⟩ : ∃ y_:List Int,y_=(([]:List Int)):=⟨_,rfl⟩
 replace H:(spec_l07Entries.l0 k l0 y312 0)=some r:=by first|(rw [hy312];with_reducible exact H)|(have H2_:=(Option.bind_some _ _).symm.trans H;rw [hy312];with_reducible exact H2_)|(have H2_:=(Option.bind_some _ _).symm.trans H;with_reducible exact H2_)|with_reducible exact H|(rw [hy312];exact H)|exact H
 have Ny312:=Aside0.mk hy312
 clear hy312
 have H':=Aside0.mk H
 clear H
 go_enter Try.func83,Try.ntmps83
 go_wp2_with (first|((with_reducible refine gate_dst (N:=5) rfl ?_);refine Kd.R_lit (Kd.int .i64) _ 3 ?hg (N:=5) ?hd (xs:=([]:List Int)) (inner:=[]) (ok:=fun _=>True) (okp:=fun _=>True) ?hr ?hp (fun _ hk=>hk) trivial (Below.refl _ _) (Nat.le_refl _) (by simp) ?_;(case hd=>rfl);(case hg=>rfl);(case hr=>first|(go_simp;done)|(go_simp;rfl));(case hp=>exact (Reps.none _ _));intro v313 w2 ho3 hb hg_ hnew_;clear hg_ hnew_;(first|rw [← Ny312.out] at ho3|(simp only [Int.reduceToNat] at ho3;rw [← Ny312.out] at ho3));have n0_:=Aside0.mk (Kd.R_lower ho3 (below_size hbx));have n1_:=Aside0.mk (below_step hbx hb);clear HB;have HO314:=n0_;have HB:=n1_;clear n0_ n1_;clear hb ho3))
 go_loopg [3,4] k (fun kq v3 v4 w'=>∃ (x3_1:List Int) (x4_1:Int),v4=.int .i64 x4_1∧Aside0 (spec_l07Entries.l0 kq l0 x3_1 x4_1=some r)∧Aside0 (kq≤k)∧Aside0 (Kd.R (Kd.int .i64) 3 w' w.heap.size (fun _=>True) v3 x3_1)∧Aside0 (Below w.heap.size w w'))
 case atStart=>exact ⟨(y312),(0),rs,H',⟨Nat.le_refl _⟩,⟨kr HO314.out⟩,⟨hbx⟩⟩
 clear H'
 obtain ⟨x3_1,x4_1,rfl,HA,HK1,HO_3,HB⟩:=hrel
 cases gk with
 | zero=>exact absurd HA.out (by simp [spec_l07Entries.l0])
 | succ k1 =>
  have H:=HA.out
  clear HA
  simp only [spec_l07Entries.l0] at H
  by_cases c4:x4_1 < (l0.length:Int)
  ·rw [if_pos c4] at H
   have c4b0:decide (x4_1 < (l0.length:Int))=true:=decide_eq_true c4
   clear c4
   by_cases c5:0≤x4_1
   ·rw [if_pos c5] at H
    have c5b0:decide (0≤x4_1)=true:=decide_eq_true c5
    clear c5
    by_cases c6:((rd_T54 l0 x4_1).f1)=1
    ·rw [if_pos c6] at H
     obtain ⟨c6b0,c6b1⟩:=eqP c6
     clear c6
     obtain ⟨t317,A7,H⟩:=bindA H
     by_cases c8:x3_1.length < 17592186044416
     ·rw [if_pos c8] at H
      have LMc8:=Aside0.mk c8
      clear c8
      obtain ⟨y318,hy318⟩ : ∃ y_:List Int,y_=(x3_1 ++ [t317]):=⟨_,rfl⟩
      replace H:(spec_l07Entries.l0 k1 l0 y318 (wrap64 (x4_1+1)))=some r:=by first|(rw [hy318];with_reducible exact H)|(have H2_:=(Option.bind_some _ _).symm.trans H;rw [hy318];with_reducible exact H2_)|(have H2_:=(Option.bind_some _ _).symm.trans H;with_reducible exact H2_)|with_reducible exact H|(rw [hy318];exact H)|exact H
      have Ny318:=Aside0.mk hy318
      clear hy318
      have H':=Aside0.mk H
      clear H
      have p315:0≤(x4_1:Int):=od
      have q315:x4_1 < (l0.length:Int):=od
      obtain ⟨ad315,e315,hx315_0,hx315_1,hx315_2,hx315_3,hx315_4⟩:=at_T54 HR0.out x4_1 p315 q315
      cases e315
      replace hx315_0:=cx HB.out hx315_0
      replace hx315_1:=cx HB.out hx315_1
      replace hx315_2:=cx HB.out hx315_2
      replace hx315_3:=cx HB.out hx315_3
      replace hx315_4:=cx HB.out hx315_4
      replace p315:=eq_true p315
      replace q315:=eq_true q315
      have p316:0≤(x4_1:Int):=od
      have q316:x4_1 < (l0.length:Int):=od
      obtain ⟨ad316,e316,hx316_0,hx316_1,hx316_2,hx316_3,hx316_4⟩:=at_T54 HR0.out x4_1 p316 q316
      obtain rfl:ad315=ad316:=(by injection e316)
      replace hx316_0:=cx HB.out hx316_0
      replace hx316_1:=cx HB.out hx316_1
      replace hx316_2:=cx HB.out hx316_2
      replace hx316_3:=cx HB.out hx316_3
      replace hx316_4:=cx HB.out hx316_4
      replace p316:=eq_true p316
      replace q316:=eq_true q316
      go_wp2_with (first|(refine gl 55 23 Try.func55 #[.agg #[.string ((rd_T54 l0 x4_1).f0),.int .i64 ((rd_T54 l0 x4_1).f1),.int .i64 ((rd_T54 l0 x4_1).f2),.int .i64 ((rd_T54 l0 x4_1).f3),.int .i64 ((rd_T54 l0 x4_1).f4)]] ?_;(with_reducible refine (spec_l07Place.calls ((rd_T54 l0 x4_1).f0) ((rd_T54 l0 x4_1).f1) ((rd_T54 l0 x4_1).f2) ((rd_T54 l0 x4_1).f3) ((rd_T54 l0 x4_1).f4) t317 _ A7.out).mono ?_);rintro e w9 ⟨rfl,hb⟩;refine ⟨_,rfl,?_⟩;have n0_:=Aside0.mk (Kd.R_below (kr HO_3.out) hb);replace HB:=Aside0.mk (below_step hbx hb);clear HO_3;have HO_3:=n0_;clear n0_;(try clear hb);(try clear hb2);(try clear hk);(try clear hi))|((with_reducible refine gate_builtin (b:=.append) (xs:=#[.tmp 18,.tmp 24]) rfl ?_);at_builtin;refine Kd.R_append (Kd.int .i64) (w0:=w) w.heap.size rfl (.tmp 18) (.tmp 24) 37 3 (.int .i64 0) 8 rfl Try.underlying37 info3 rfl (by decide) (by omega) u3 x3_1 t317 [.int .i64 t317] (fun _=>True) (fun _=>False) rfl rfl ?aP (fun _ hk=>hk.elim) ?aF ?aO ?aB ?aS ?aL ?_;(case aP=>exact rfl);(case aB=>exact hbx);(case aF=>exact (fun _ _=>trivial));(case aO=>exact (kr HO_3.out));(case aS=>exact (below_size hbx));(case aL=>have:=LMc8.out;omega);intro v319 w10 ho hb hg hat;rw [← Ny318.out] at ho;have n0_:=Aside0.mk (hb);have n1_:=Aside0.mk (ho);clear HB;clear HO_3;have HB:=n0_;have HO320:=n1_;clear n0_ n1_;clear ho hb hg hat))
      go_roundg k1
      case measure=>have:=HK1.out;omega
      case rel=>exact ⟨(y318),(wrap64 (x4_1+1)),rs,H',⟨by have:=HK1.out;omega⟩,⟨kr HO320.out⟩,⟨hbx⟩⟩
     rw [if_neg c8] at H
     exact absurd H (by simp)
    rw [if_neg c6] at H
    obtain ⟨c6b0,c6b1⟩:=eqN c6
    have H':=Aside0.mk H
    clear H
    have p315:0≤(x4_1:Int):=od
    have q315:x4_1 < (l0.length:Int):=od
    obtain ⟨ad315,e315,hx315_0,hx315_1,hx315_2,hx315_3,hx315_4⟩:=at_T54 HR0.out x4_1 p315 q315
    cases e315
    replace hx315_0:=cx HB.out hx315_0
    replace hx315_1:=cx HB.out hx315_1
    replace hx315_2:=cx HB.out hx315_2
    replace hx315_3:=cx HB.out hx315_3
    replace hx315_4:=cx HB.out hx315_4
    replace p315:=eq_true p315
    replace q315:=eq_true q315
    go_wp2
    go_roundg k1
    case measure=>have:=HK1.out;omega
    case rel=>exact ⟨(x3_1),(wrap64 (x4_1+1)),rs,H',⟨by have:=HK1.out;omega⟩,⟨kr HO_3.out⟩,⟨hbx⟩⟩
   rw [if_neg c5] at H
   exact absurd H (by simp)
  rw [if_neg c4] at H
  have c4b0:decide (x4_1 < (l0.length:Int))=false:=decide_eq_false c4
  clear c4
  obtain rfl:=Option.some.inj H
  go_wp2
  go_ret
  exact ⟨_,rf,by (with_reducible repeat (first|apply Kd.R_alloc|apply Kd.R_drewN|apply Kd.R_drew));exact HO_3.out,hbx⟩
end Go.Proofs.Ythepmdlpjdlajaa.PFnExactLintImage
