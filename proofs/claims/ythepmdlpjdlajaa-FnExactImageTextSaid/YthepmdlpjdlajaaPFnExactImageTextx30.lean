-- Written by a program for this claim.
import Derived.Test.YthepmdlpjdlajaaZFnExactImageTexta
import Derived.Test.YthepmdlpjdlajaaPFnExactLintImagex2
import Derived.Test.YthepmdlpjdlajaaPFnExactLintImagex3
import Derived.Test.YthepmdlpjdlajaaPFnExactLintImagex16
import Derived.Test.YthepmdlpjdlajaaPFnExactLintImagex24
namespace Go.Proofs.Ythepmdlpjdlajaa.PFnExactLintImage
open Go.RowKit Go.Proofs.YthepmdlpjdlajaaW.PrintWords Go.Proofs.YthepmdlpjdlajaaW.PrintLast Go.Proofs.YthepmdlpjdlajaaW.PrintMore
attribute [local go_sem] max2_int min2_int max_two min_two max_three min_three max_four min_four   -- for this text's walks alone
set_option linter.unusedVariables false
set_option linter.unusedSimpArgs false
theorem info5:(Try.prog.info? 5).map (fun i=>(i.zero,i.size,i.bytes))=some (some (.int .u8 0),1,1):=by kernel_rfl
def spec_ImageOK.f (k:Nat) (a0_0:ByteArray) (a0_1:ByteArray) (l0_2:List (S54)):Option (Bool):=(spec_l07Lint.f k a0_0 a0_1 l0_2).bind fun bt333=>(some (bt333.2.2==0))
theorem spec_ImageOK.mono : ∀ a0 a1 a2 k,LeO (spec_ImageOK.f k a0 a1 a2) (spec_ImageOK.f (k+1) a0 a1 a2):=by
 intro a0 a1 a2 k
 unfold spec_ImageOK.f
 repeat' (with_reducible first|apply spec_l07Lint.mono|apply LeO.refl|apply LeO.none|apply LeO.ite|refine LeO.bind ?_ (fun _=>?_))
set_option maxHeartbeats 8000000 in
set_option maxRecDepth 100000 in
theorem spec_ImageOK.calls (k:Nat) (a0_0:ByteArray) (a0_1:ByteArray) (A0_2:Option Addr) (c0_2:Nat) (l0_2:List (S54)) (r:Bool) (w:World) (hr0_2:Kd.C k54 w A0_2 l0_2.length l0_2) (hc0_2:l0_2.length≤c0_2) (h:spec_ImageOK.f k a0_0 a0_1 l0_2=some r) :
    Calls Try.prog 28 #[.agg #[.string a0_0,.string a0_1,.slice A0_2 l0_2.length c0_2]] w fun e w'=>e=.returned (.bool r)∧Below w.heap.size w w':=by
 have hu30:=Try.underlying30
 have HR0_2:=Aside0.mk hr0_2
 have HC0_2:=Aside0.mk hc0_2
 clear hr0_2 hc0_2
 have HB:=Aside0.mk (Below.refl w.heap.size w)
 have H:((spec_l07Lint.f k a0_0 a0_1 l0_2).bind fun bt333=>(some (bt333.2.2==0)))=some r:=h
 clear h
 obtain ⟨⟨t333,t334,t335⟩,A2,H⟩:=bindA H
 try dsimp only at H
 obtain rfl:=Option.some.inj H
 go_enter Try.func28,Try.ntmps28
 go_wp2_with (first|(refine bv 1 #[.string a0_0,.string a0_1,.slice A0_2 l0_2.length c0_2] 30 ?_;intro gb332 hg w3 hbox hb;obtain ⟨n0_,n2_⟩:=bx0 hbx hb hg;have n1_:=Aside0.mk (hbox);clear HB;have HB:=n0_;have BK332:=n1_;have GW332:=n2_;have GE332:=n2_;clear n0_ n1_ n2_;clear hb hbox hg;obtain ⟨Z4_0,Z4_1,Z4_2,Y4_0,Y4_1,Y4_2⟩:=cel3 BK332.out)|(refine gl 51 8 Try.func51 #[.agg #[.string a0_0,.string a0_1,.slice A0_2 l0_2.length c0_2]] ?_;(with_reducible refine (spec_l07Lint.calls k a0_0 a0_1 _ _ l0_2 t333 t334 t335 _ ?side1 ?side2 A2.out).mono ?_);(case side1=>exact kc HR0_2.out);(case side2=>exact HC0_2.out);rintro e w5 ⟨rfl,hb⟩;refine ⟨_,rfl,?_⟩;have n0_:=Aside0.mk (blk_below (qx BK332.out) hb);replace HB:=Aside0.mk (below_step (hb1 GE332.out) hb);clear BK332;have BK332:=n0_;clear n0_;(try clear hb);(try clear hb2);(try clear hk);(try clear hi)))
 go_ret
 exact ⟨rf,hb1 GE332.out⟩
def spec_l01Little.l0:Nat→Int→Int→List Int→Int→Option (ByteArray)
  | 0,_,_,_,_=>none
  | k+1,x0,x1,x5,x6=>if x6 < x1 then (if 0≤(IntKind.u64.wrap (wrap64 (8*x6))) then (if x5.length < 140737488355328 then (spec_l01Little.l0 k x0 x1 (x5 ++ [(shr .u64 (IntKind.u64.wrap (x0)) (IntKind.u64.wrap (wrap64 (8*x6)))) % 256]) (wrap64 (x6+1))) else (none)) else (none)) else (some (strOfNums x5))
def spec_l01Little.f (k:Nat) (a0:Int) (a1:Int):Option (ByteArray):=spec_l01Little.l0 k a0 a1 (([]:List Int)) 0
theorem spec_l01Little.mono_l : ∀ k,(∀ y0 y1 y2 y3,LeO (spec_l01Little.l0 k y0 y1 y2 y3) (spec_l01Little.l0 (k+1) y0 y1 y2 y3))
  | 0=>fun _ _ _ _ r h=>by simp [spec_l01Little.l0] at h
  | k+1=>by
    have ih0:=spec_l01Little.mono_l k
    · intro y0 y1 y2 y3
      unfold spec_l01Little.l0
      repeat' (with_reducible first|apply ih0|apply LeO.refl|apply LeO.none|apply LeO.ite|refine LeO.bind ?_ (fun _=>?_))
theorem spec_l01Little.mono : ∀ a0 a1 k,LeO (spec_l01Little.f k a0 a1) (spec_l01Little.f (k+1) a0 a1):=by
 intro a0 a1 k
 have ih0:=spec_l01Little.mono_l k
 unfold spec_l01Little.f
 repeat' (with_reducible first|apply ih0|apply LeO.refl|apply LeO.none|apply LeO.ite|refine LeO.bind ?_ (fun _=>?_))
set_option maxHeartbeats 8000000 in
set_option maxRecDepth 100000 in
theorem spec_l01Little.calls (k:Nat) (a0:Int) (a1:Int) (r:ByteArray) (w:World) (h:spec_l01Little.f k a0 a1=some r) :
    Calls Try.prog 62 #[.int .i64 a0,.int .i64 a1] w fun e w'=>e=.returned (.string r)∧Below w.heap.size w w':=by
 have HB:=Aside0.mk (Below.refl w.heap.size w)
 have H:(spec_l01Little.l0 k a0 a1 (([]:List Int)) 0)=some r:=h
 clear h
 obtain ⟨y336,hy336⟩ : ∃ y_:List Int,y_=(([]:List Int)):=⟨_,rfl⟩
 replace H:(spec_l01Little.l0 k a0 a1 y336 0)=some r:=by first|(rw [hy336];with_reducible exact H)|(have H2_:=(Option.bind_some _ _).symm.trans H;rw [hy336];with_reducible exact H2_)|(have H2_:=(Option.bind_some _ _).symm.trans H;with_reducible exact H2_)|with_reducible exact H|(rw [hy336];exact H)|exact H
 have Ny336:=Aside0.mk hy336
 clear hy336
 have H':=Aside0.mk H
 clear H
 go_enter Try.func62,Try.ntmps62
 go_wp2_with (first|((with_reducible refine gate_dst (N:=7) rfl ?_);refine Kd.R_lit (Kd.int .u8) _ 5 ?hg (N:=7) ?hd (xs:=([]:List Int)) (inner:=[]) (ok:=fun _=>True) (okp:=fun _=>True) ?hr ?hp (fun _ hk=>hk) trivial (Below.refl _ _) (Nat.le_refl _) (by simp) ?_;(case hd=>rfl);(case hg=>rfl);(case hr=>first|(go_simp;done)|(go_simp;rfl));(case hp=>exact (Reps.none _ _));intro v337 w3 ho4 hb hg_ hnew_;clear hg_ hnew_;(first|rw [← Ny336.out] at ho4|(simp only [Int.reduceToNat] at ho4;rw [← Ny336.out] at ho4));have n0_:=Aside0.mk (Kd.R_lower ho4 (below_size hbx));have n1_:=Aside0.mk (below_step hbx hb);clear HB;have HO338:=n0_;have HB:=n1_;clear n0_ n1_;clear hb ho4))
 go_loopg [5,6] k (fun kq v5 v6 w'=>∃ (x5_1:List Int) (x6_1:Int),v6=.int .i64 x6_1∧Aside0 (spec_l01Little.l0 kq a0 a1 x5_1 x6_1=some r)∧Aside0 (kq≤k)∧Aside0 (Kd.R (Kd.int .u8) 5 w' w.heap.size (fun _=>True) v5 x5_1)∧Aside0 (Below w.heap.size w w'))
 case atStart=>exact ⟨(y336),(0),rs,H',⟨Nat.le_refl _⟩,⟨kr HO338.out⟩,⟨hbx⟩⟩
 clear H'
 obtain ⟨x5_1,x6_1,rfl,HA,HK1,HO_5,HB⟩:=hrel
 cases gk with
 | zero=>exact absurd HA.out (by simp [spec_l01Little.l0])
 | succ k1 =>
  have H:=HA.out
  clear HA
  simp only [spec_l01Little.l0] at H
  by_cases c5:x6_1 < a1
  ·rw [if_pos c5] at H
   have c5b0:decide (x6_1 < a1)=true:=decide_eq_true c5
   clear c5
   obtain ⟨ji6,hji6⟩ : ∃ j_:Int,(IntKind.u64.wrap (wrap64 (8*x6_1)))=j_:=⟨_,rfl⟩
   replace H:(if 0≤(ji6) then (if x5_1.length < 140737488355328 then (spec_l01Little.l0 k1 a0 a1 (x5_1 ++ [(shr .u64 (IntKind.u64.wrap (a0)) (ji6)) % 256]) (wrap64 (x6_1+1))) else (none)) else (none))=some r:=by first|(rw [hji6] at H;exact H)|(simp only [hji6] at H ⊢;exact H)
   by_cases c7:0≤(ji6)
   ·rw [if_pos c7] at H
    have c7b0:=eq_true c7
    have c7b1:decide (0≤(ji6))=true:=decide_eq_true c7
    clear c7
    obtain ⟨ji8,hji8⟩ : ∃ j_:Int,(shr .u64 (IntKind.u64.wrap (a0)) (ji6))=j_:=⟨_,rfl⟩
    replace H:(if x5_1.length < 140737488355328 then (spec_l01Little.l0 k1 a0 a1 (x5_1 ++ [(ji8) % 256]) (wrap64 (x6_1+1))) else (none))=some r:=by first|(rw [hji8] at H;exact H)|(simp only [hji8] at H ⊢;exact H)
    have hji8_:((IntKind.u64.wrap (a0)) / 2 ^ min (ji6).toNat 64)=ji8:=hji8
    have hji8z:(ji6)≤64→((IntKind.u64.wrap (a0)) / 2 ^ (ji6).toNat)=ji8:=shr_small hji8
    by_cases c9:x5_1.length < 140737488355328
    ·rw [if_pos c9] at H
     have LMc9:=Aside0.mk c9
     clear c9
     obtain ⟨y339,hy339⟩ : ∃ y_:List Int,y_=(x5_1 ++ [(ji8) % 256]):=⟨_,rfl⟩
     replace H:(spec_l01Little.l0 k1 a0 a1 y339 (wrap64 (x6_1+1)))=some r:=by first|(rw [hy339];with_reducible exact H)|(have H2_:=(Option.bind_some _ _).symm.trans H;rw [hy339];with_reducible exact H2_)|(have H2_:=(Option.bind_some _ _).symm.trans H;with_reducible exact H2_)|with_reducible exact H|(rw [hy339];exact H)|exact H
     have Ny339:=Aside0.mk hy339
     clear hy339
     have H':=Aside0.mk H
     clear H
     go_wp2_with (first|((with_reducible refine gate_builtin (b:=.append) (xs:=#[.tmp 13,.tmp 21]) rfl ?_);at_builtin;refine Kd.R_append (Kd.int .u8) (w0:=w) w.heap.size rfl (.tmp 13) (.tmp 21) 83 5 (.int .u8 0) 1 rfl Try.underlying83 info5 rfl (by decide) (by omega) u5 x5_1 ((ji8) % 256) [.int .u8 ((ji8) % 256)] (fun _=>True) (fun _=>False) rfl rfl ?aP (fun _ hk=>hk.elim) ?aF ?aO ?aB ?aS ?aL ?_;(case aP=>exact rfl);(case aB=>exact hbx);(case aF=>exact (fun _ _=>trivial));(case aO=>exact (kr HO_5.out));(case aS=>exact (below_size hbx));(case aL=>have:=LMc9.out;omega);intro v340 w10 ho hb hg hat;rw [← Ny339.out] at ho;have n0_:=Aside0.mk (hb);have n1_:=Aside0.mk (ho);clear HB;clear HO_5;have HB:=n0_;have HO341:=n1_;clear n0_ n1_;clear ho hb hg hat))
     go_roundg k1
     case measure=>have:=HK1.out;omega
     case rel=>exact ⟨(y339),(wrap64 (x6_1+1)),rs,H',⟨by have:=HK1.out;omega⟩,⟨kr HO341.out⟩,⟨hbx⟩⟩
    rw [if_neg c9] at H
    exact absurd H (by simp)
   rw [if_neg c7] at H
   exact absurd H (by simp)
  rw [if_neg c5] at H
  have c5b0:decide (x6_1 < a1)=false:=decide_eq_false c5
  clear c5
  obtain rfl:=Option.some.inj H
  have hcv11:=own_string (P:=Try.prog) Try.underlying83 Try.underlying5 Try.underlying9 (Kd.own_of_R HO_5.out)
  go_wp2
  go_ret
  exact ⟨rf,hbx⟩
def spec_l07Name.f (a0:ByteArray):Option (ByteArray):=(some (([((a0.size:Int)) % 256]:List Int):List Int)).bind fun y342=>(if (strOfNums y342).size+a0.size≤9223372036854775807 then (some ((strOfNums y342) ++ a0)) else (none))
set_option maxHeartbeats 8000000 in
set_option maxRecDepth 100000 in
theorem spec_l07Name.calls (a0:ByteArray) (r:ByteArray) (w:World) (h:spec_l07Name.f a0=some r) :
    Calls Try.prog 63 #[.string a0] w fun e w'=>e=.returned (.string r)∧Below w.heap.size w w':=by
 have HB:=Aside0.mk (Below.refl w.heap.size w)
 have H:((some (([((a0.size:Int)) % 256]:List Int):List Int)).bind fun y342=>(if (strOfNums y342).size+a0.size≤9223372036854775807 then (some ((strOfNums y342) ++ a0)) else (none)))=some r:=h
 clear h
 obtain ⟨y342,hy342⟩ : ∃ y_:List Int,y_=(([((a0.size:Int)) % 256]:List Int)):=⟨_,rfl⟩
 replace H:(if (strOfNums y342).size+a0.size≤9223372036854775807 then (some ((strOfNums y342) ++ a0)) else (none))=some r:=by first|(rw [hy342];with_reducible exact H)|(have H2_:=(Option.bind_some _ _).symm.trans H;rw [hy342];with_reducible exact H2_)|(have H2_:=(Option.bind_some _ _).symm.trans H;with_reducible exact H2_)|with_reducible exact H|(rw [hy342];exact H)|exact H
 have Ny342:=Aside0.mk hy342
 clear hy342
 by_cases c2:(strOfNums y342).size+a0.size≤9223372036854775807
 ·rw [if_pos c2] at H
  have c2b0:=eq_true c2
  have c2b1:decide ((strOfNums y342).size+a0.size≤9223372036854775807)=true:=decide_eq_true c2
  try have c2b2:(9223372036854775807 < (strOfNums y342).size+a0.size)=False:=eq_false (Nat.not_lt.2 c2)
  obtain rfl:=Option.some.inj H
  go_enter Try.func63,Try.ntmps63
  go_wp2_with (first|((with_reducible refine gate_dst (N:=6) rfl ?_);refine Kd.R_lit (Kd.int .u8) _ 5 ?hg (N:=6) ?hd (xs:=([((a0.size:Int)) % 256]:List Int)) (inner:=[.int .u8 (((a0.size:Int)) % 256)]) (ok:=fun _=>True) (okp:=fun _=>True) ?hr ?hp (fun _ hk=>hk) trivial (Below.refl _ _) (Nat.le_refl _) (by simp) ?_;(case hd=>rfl);(case hg=>rfl);(case hr=>first|(go_simp;done)|(go_simp;rfl));(case hp=>exact (Reps.one (show Kd.M (Kd.int .u8) _ _ _ (((a0.size:Int)) % 256) [.int .u8 (((a0.size:Int)) % 256)] from rfl) (Reps.none _ _)));intro v343 w3 ho4 hb hg_ hnew_;clear hg_ hnew_;(first|rw [← Ny342.out] at ho4|(simp only [Int.reduceToNat] at ho4;rw [← Ny342.out] at ho4));have n0_:=Aside0.mk (Kd.R_lower ho4 (below_size hbx));have n1_:=Aside0.mk (below_step hbx hb);clear HB;have HO344:=n0_;have HB:=n1_;clear n0_ n1_;clear hb ho4;have hcv5:=own_string (P:=Try.prog) Try.underlying83 Try.underlying5 Try.underlying9 (Kd.own_of_R HO344.out)))
  go_ret
  exact ⟨rf,hbx⟩
 rw [if_neg c2] at H
 exact absurd H (by simp)
def spec_l01Sum.l0:Nat→ByteArray→Int→Int→Option (Int)
  | 0,_,_,_=>none
  | k+1,x0,x3,x4=>if x4 < (x0.size:Int) then (if 0≤x4 then (spec_l01Sum.l0 k x0 (Int.tmod (wrap64 ((wrap64 (31*x3))+(wrap64 (bt x0 x4)))) 65521) (wrap64 (x4+1))) else (none)) else (some x3)
def spec_l01Sum.f (k:Nat) (a0:ByteArray):Option (Int):=spec_l01Sum.l0 k a0 1 0
theorem spec_l01Sum.mono_l : ∀ k,(∀ y0 y1 y2,LeO (spec_l01Sum.l0 k y0 y1 y2) (spec_l01Sum.l0 (k+1) y0 y1 y2))
  | 0=>fun _ _ _ r h=>by simp [spec_l01Sum.l0] at h
  | k+1=>by
    have ih0:=spec_l01Sum.mono_l k
    · intro y0 y1 y2
      unfold spec_l01Sum.l0
      repeat' (with_reducible first|apply ih0|apply LeO.refl|apply LeO.none|apply LeO.ite|refine LeO.bind ?_ (fun _=>?_))
theorem spec_l01Sum.mono : ∀ a0 k,LeO (spec_l01Sum.f k a0) (spec_l01Sum.f (k+1) a0):=by
 intro a0 k
 have ih0:=spec_l01Sum.mono_l k
 unfold spec_l01Sum.f
 repeat' (with_reducible first|apply ih0|apply LeO.refl|apply LeO.none|apply LeO.ite|refine LeO.bind ?_ (fun _=>?_))
set_option maxHeartbeats 8000000 in
set_option maxRecDepth 100000 in
theorem spec_l01Sum.calls (k:Nat) (a0:ByteArray) (r:Int) (w:World) (h:spec_l01Sum.f k a0=some r) :
    Calls Try.prog 64 #[.string a0] w fun e w'=>e=.returned (.int .i64 r)∧Drawn0 w w':=by
 have H:(spec_l01Sum.l0 k a0 1 0)=some r:=h
 clear h
 have H':=Aside0.mk H
 clear H
 go_enter Try.func64,Try.ntmps64
 go_wp2
 go_loopg [3,4] k (fun kq v3 v4 w'=>∃ (x3_1:Int) (x4_1:Int),v3=.int .i64 x3_1∧v4=.int .i64 x4_1∧Aside0 (spec_l01Sum.l0 kq a0 x3_1 x4_1=some r)∧Aside0 (kq≤k)∧Drawn0 w w')
 case atStart=>exact ⟨(1),(0),rs,rs,H',⟨Nat.le_refl _⟩,dr⟩
 clear H'
 obtain ⟨x3_1,x4_1,rfl,rfl,HA,HK1,⟨m1,rfl⟩⟩:=hrel
 cases gk with
 | zero=>exact absurd HA.out (by simp [spec_l01Sum.l0])
 | succ k1 =>
  have H:=HA.out
  clear HA
  simp only [spec_l01Sum.l0] at H
  by_cases c2:x4_1 < (a0.size:Int)
  ·rw [if_pos c2] at H
   have c2b0:decide (x4_1 < (a0.size:Int))=true:=decide_eq_true c2
   clear c2
   by_cases c3:0≤x4_1
   ·rw [if_pos c3] at H
    have c3b0:decide (0≤x4_1)=true:=decide_eq_true c3
    clear c3
    have H':=Aside0.mk H
    clear H
    have p4:0≤(x4_1:Int):=od
    have q4:x4_1 < (a0.size:Int):=od
    have hx4:=bt_at a0 x4_1
    replace p4:=eq_true p4
    replace q4:=eq_true q4
    go_wp2
    go_roundg k1
    case measure=>have:=HK1.out;omega
    case rel=>exact ⟨(Int.tmod (wrap64 ((wrap64 (31*x3_1))+(wrap64 (bt a0 x4_1)))) 65521),(wrap64 (x4_1+1)),rs,rs,H',⟨by have:=HK1.out;omega⟩,dr⟩
   rw [if_neg c3] at H
   exact absurd H (by simp)
  rw [if_neg c2] at H
  have c2b0:decide (x4_1 < (a0.size:Int))=false:=decide_eq_false c2
  clear c2
  obtain rfl:=Option.some.inj H
  go_wp2
  go_ret
  exact ⟨rs,dr⟩
end Go.Proofs.Ythepmdlpjdlajaa.PFnExactLintImage
