-- Written by a program for this claim.
import Derived.Test.YthepmdlpjdlajaaPFnExactLintImagex0
import Derived.Test.YthepmdlpjdlajaaPFnExactLintImagex2
namespace Go.Proofs.Ythepmdlpjdlajaa.PFnExactLintImage
open Go.RowKit Go.Proofs.YthepmdlpjdlajaaW.PrintWords Go.Proofs.YthepmdlpjdlajaaW.PrintLast Go.Proofs.YthepmdlpjdlajaaW.PrintMore
attribute [local go_sem] max2_int min2_int max_two min_two max_three min_three max_four min_four   -- for this text's walks alone
set_option linter.unusedVariables false
set_option linter.unusedSimpArgs false
def laws_eqSymbolS.l0:Nat→List (S54)→List (S54)→Int→Option (Bool)
  | 0,_,_,_=>none
  | k+1,x0,x1,x5=>if x5 < (x0.length:Int) then (if 0≤x5 then (if x5 < (x1.length:Int) then ((laws_eqSymbol.f ((rd_T54 x0 x5).f0) ((rd_T54 x0 x5).f1) ((rd_T54 x0 x5).f2) ((rd_T54 x0 x5).f3) ((rd_T54 x0 x5).f4) ((rd_T54 x1 x5).f0) ((rd_T54 x1 x5).f1) ((rd_T54 x1 x5).f2) ((rd_T54 x1 x5).f3) ((rd_T54 x1 x5).f4)).bind fun t129=>(if t129=true then (laws_eqSymbolS.l0 k x0 x1 (wrap64 (x5+1))) else (some false))) else (none)) else (none)) else (some true)
def laws_eqSymbolS.f (k:Nat) (l0:List (S54)) (l1:List (S54)):Option (Bool):=if (l0.length:Int)=(l1.length:Int) then (laws_eqSymbolS.l0 k l0 l1 0) else (some false)
theorem laws_eqSymbolS.mono_l : ∀ k,(∀ y0 y1 y2,LeO (laws_eqSymbolS.l0 k y0 y1 y2) (laws_eqSymbolS.l0 (k+1) y0 y1 y2))
  | 0=>fun _ _ _ r h=>by simp [laws_eqSymbolS.l0] at h
  | k+1=>by
    have ih0:=laws_eqSymbolS.mono_l k
    · intro y0 y1 y2
      unfold laws_eqSymbolS.l0
      repeat' (with_reducible first|apply ih0|apply LeO.refl|apply LeO.none|apply LeO.ite|refine LeO.bind ?_ (fun _=>?_))
theorem laws_eqSymbolS.mono : ∀ a0 a1 k,LeO (laws_eqSymbolS.f k a0 a1) (laws_eqSymbolS.f (k+1) a0 a1):=by
 intro a0 a1 k
 have ih0:=laws_eqSymbolS.mono_l k
 unfold laws_eqSymbolS.f
 repeat' (with_reducible first|apply ih0|apply LeO.refl|apply LeO.none|apply LeO.ite|refine LeO.bind ?_ (fun _=>?_))
def laws_eqSymbolS.T6:Bool × List (List Nat × List Nat):=(true,[([],[]),([],[]),([0,1],[0,1]),([2],[2]),([],[]),([],[]),([4,5],[4,5]),([6],[6]),([3,7],[3,7]),([8],[8])])
def laws_eqSymbolS.B6:List Nat:=[0,0,3,7,0,0,48,112,255,511]
theorem laws_eqSymbolS.tab6:rtab .any (opsOf Try.f38 6)=laws_eqSymbolS.T6:=by kernel_rfl
theorem laws_eqSymbolS.bits6:waitsOk laws_eqSymbolS.T6.2 laws_eqSymbolS.B6=true:=by kernel_rfl
set_option maxHeartbeats 8000000 in
set_option maxRecDepth 100000 in
theorem laws_eqSymbolS.calls (k:Nat) (A0:Option Addr) (c0:Nat) (l0:List (S54)) (A1:Option Addr) (c1:Nat) (l1:List (S54)) (r:Bool) (w:World) (hr0:Kd.C k54 w A0 l0.length l0) (hc0:l0.length≤c0) (hr1:Kd.C k54 w A1 l1.length l1) (hc1:l1.length≤c1) (h:laws_eqSymbolS.f k l0 l1=some r) :
    Calls Try.prog 38 #[.slice A0 l0.length c0,.slice A1 l1.length c1] w fun e w'=>e=.returned (.bool r)∧Below w.heap.size w w':=by
 have hu54:=Try.underlying54
 have HR0:=Aside0.mk hr0
 have HC0:=Aside0.mk hc0
 clear hr0 hc0
 have HR1:=Aside0.mk hr1
 have HC1:=Aside0.mk hc1
 clear hr1 hc1
 have HB:=Aside0.mk (Below.refl w.heap.size w)
 have H:(if (l0.length:Int)=(l1.length:Int) then (laws_eqSymbolS.l0 k l0 l1 0) else (some false))=some r:=h
 clear h
 by_cases c3:(l0.length:Int)=(l1.length:Int)
 ·rw [if_pos c3] at H
  obtain ⟨c3b0,c3b1⟩:=eqP c3
  have c3b2:(l0.length==l1.length)=true:=by first|simpa using c3|(simp at c3 ⊢;omega)
  clear c3
  have H':=Aside0.mk H
  clear H
  go_enter Try.func38,Try.ntmps38
  go_wp2
  go_loopg [5] k (fun kq v5 w'=>∃ (x5_1:Int),v5=.int .i64 x5_1∧Aside0 (laws_eqSymbolS.l0 kq l0 l1 x5_1=some r)∧Aside0 (kq≤k)∧Aside0 (Below w.heap.size w w'))
  case atStart=>exact ⟨(0),rs,H',⟨Nat.le_refl _⟩,⟨hbx⟩⟩
  clear H'
  try clear c3b0 c3b1
  try clear c3b2
  obtain ⟨x5_1,rfl,HA,HK1,HB⟩:=hrel
  cases gk with
  | zero=>exact absurd HA.out (by simp [laws_eqSymbolS.l0])
  | succ k1 =>
   have H:=HA.out
   clear HA
   simp only [laws_eqSymbolS.l0] at H
   by_cases c4:x5_1 < (l0.length:Int)
   ·rw [if_pos c4] at H
    have c4b0:decide (x5_1 < (l0.length:Int))=true:=decide_eq_true c4
    clear c4
    by_cases c5:0≤x5_1
    ·rw [if_pos c5] at H
     have c5b0:decide (0≤x5_1)=true:=decide_eq_true c5
     clear c5
     by_cases c6:x5_1 < (l1.length:Int)
     ·rw [if_pos c6] at H
      have c6b0:decide (x5_1 < (l1.length:Int))=true:=decide_eq_true c6
      clear c6
      obtain ⟨t129,A7,H⟩:=bindA H
      by_cases c8:t129=true
      ·subst c8
       rw [if_pos rfl] at H
       have H':=Aside0.mk H
       clear H
       try go_wp2
       replace HB:=Aside0.mk (below_drew1 HB.out)
       have p127:0≤(x5_1:Int):=od
       have q127:x5_1 < (l0.length:Int):=od
       obtain ⟨ad127,e127,hx127_0,hx127_1,hx127_2,hx127_3,hx127_4⟩:=at_T54 HR0.out x5_1 p127 q127
       have hw127_4:=hx127_4
       have hw127_3:=hx127_3
       have hw127_2:=hx127_2
       have hw127_1:=hx127_1
       have hw127_0:=hx127_0
       cases e127
       replace hx127_0:=cx HB.out hx127_0
       replace hx127_1:=cx HB.out hx127_1
       replace hx127_2:=cx HB.out hx127_2
       replace hx127_3:=cx HB.out hx127_3
       replace hx127_4:=cx HB.out hx127_4
       replace p127:=eq_true p127
       replace q127:=eq_true q127
       have p128:0≤(x5_1:Int):=od
       have q128:x5_1 < (l1.length:Int):=od
       obtain ⟨ad128,e128,hx128_0,hx128_1,hx128_2,hx128_3,hx128_4⟩:=at_T54 HR1.out x5_1 p128 q128
       have hw128_4:=hx128_4
       have hw128_3:=hx128_3
       have hw128_2:=hx128_2
       have hw128_1:=hx128_1
       have hw128_0:=hx128_0
       cases e128
       replace hx128_0:=cx HB.out hx128_0
       replace hx128_1:=cx HB.out hx128_1
       replace hx128_2:=cx HB.out hx128_2
       replace hx128_3:=cx HB.out hx128_3
       replace hx128_4:=cx HB.out hx128_4
       replace p128:=eq_true p128
       replace q128:=eq_true q128
       refine start_ (n:=10) (S:=fun w'=>w'.cell? (ad127.add ((x5_1).toNat*5))=some (.string ((rd_T54 l0 x5_1).f0))∧w'.cell? ⟨(ad127.add ((x5_1).toNat*5)).block,(ad127.add ((x5_1).toNat*5)).off+1,none⟩=some (.int .i64 ((rd_T54 l0 x5_1).f1))∧w'.cell? ⟨(ad127.add ((x5_1).toNat*5)).block,(ad127.add ((x5_1).toNat*5)).off+2,none⟩=some (.int .i64 ((rd_T54 l0 x5_1).f2))∧w'.cell? ⟨(ad127.add ((x5_1).toNat*5)).block,(ad127.add ((x5_1).toNat*5)).off+3,none⟩=some (.int .i64 ((rd_T54 l0 x5_1).f3))∧w'.cell? ⟨(ad127.add ((x5_1).toNat*5)).block,(ad127.add ((x5_1).toNat*5)).off+4,none⟩=some (.int .i64 ((rd_T54 l0 x5_1).f4))∧w'.cell? (ad128.add ((x5_1).toNat*5))=some (.string ((rd_T54 l1 x5_1).f0))∧w'.cell? ⟨(ad128.add ((x5_1).toNat*5)).block,(ad128.add ((x5_1).toNat*5)).off+1,none⟩=some (.int .i64 ((rd_T54 l1 x5_1).f1))∧w'.cell? ⟨(ad128.add ((x5_1).toNat*5)).block,(ad128.add ((x5_1).toNat*5)).off+2,none⟩=some (.int .i64 ((rd_T54 l1 x5_1).f2))∧w'.cell? ⟨(ad128.add ((x5_1).toNat*5)).block,(ad128.add ((x5_1).toNat*5)).off+3,none⟩=some (.int .i64 ((rd_T54 l1 x5_1).f3))∧w'.cell? ⟨(ad128.add ((x5_1).toNat*5)).block,(ad128.add ((x5_1).toNat*5)).off+4,none⟩=some (.int .i64 ((rd_T54 l1 x5_1).f4))) (ds:=[]) #[false,false,false,false,false,false,false,false,false,false] (by kernel_rfl) rfl rfl ⟨((HB.out.cell (World.block_lt_of_cell? w _ hw127_0)).trans hw127_0),((HB.out.cell (World.block_lt_of_cell? w _ hw127_1)).trans hw127_1),((HB.out.cell (World.block_lt_of_cell? w _ hw127_2)).trans hw127_2),((HB.out.cell (World.block_lt_of_cell? w _ hw127_3)).trans hw127_3),((HB.out.cell (World.block_lt_of_cell? w _ hw127_4)).trans hw127_4),((HB.out.cell (World.block_lt_of_cell? w _ hw128_0)).trans hw128_0),((HB.out.cell (World.block_lt_of_cell? w _ hw128_1)).trans hw128_1),((HB.out.cell (World.block_lt_of_cell? w _ hw128_2)).trans hw128_2),((HB.out.cell (World.block_lt_of_cell? w _ hw128_3)).trans hw128_3),((HB.out.cell (World.block_lt_of_cell? w _ hw128_4)).trans hw128_4)⟩ (fun hHeld=>?_);refine with_tabW laws_eqSymbolS.tab6 laws_eqSymbolS.bits6 (fun HT_ HW_=>?_)
       generalize wr.drew=w9 at HB hx127_0 hx127_1 hx127_2 hx127_3 hx127_4 hx128_0 hx128_1 hx128_2 hx128_3 hx128_4 hHeld ⊢
       refine pu 0 17 #[true,false,false,false,false,false,false,false,false,false] ?_
       refine pu 1 18 #[true,true,false,false,false,false,false,false,false,false] ?_
       refine pu 2 19 #[true,true,true,false,false,false,false,false,false,false] ?_
       refine pu 4 21 #[true,true,true,false,true,false,false,false,false,false] ?_
       refine pu 5 22 #[true,true,true,false,true,true,false,false,false,false] ?_
       refine pu 6 23 #[true,true,true,false,true,true,true,false,false,false] ?_
       refine tk10 3 20 #[true,true,true,true,true,true,true,false,false,false] hHeld ?_
       refine tk10 7 24 #[true,true,true,true,true,true,true,true,false,false] hHeld ?_
       refine one_ (i:=8) (N:=some 25) #[true,true,true,true,true,true,true,true,true,false] rfl rfl (one_of HT_.out (by kernel_rfl)) (by decide) (fun K hK=>?_)
       refine goes_ Try.func61 (by kernel_rfl) rfl #[.agg #[.string ((rd_T54 l0 x5_1).f0),.int .i64 ((rd_T54 l0 x5_1).f1),.int .i64 ((rd_T54 l0 x5_1).f2),.int .i64 ((rd_T54 l0 x5_1).f3),.int .i64 ((rd_T54 l0 x5_1).f4)],.agg #[.string ((rd_T54 l1 x5_1).f0),.int .i64 ((rd_T54 l1 x5_1).f1),.int .i64 ((rd_T54 l1 x5_1).f2),.int .i64 ((rd_T54 l1 x5_1).f3),.int .i64 ((rd_T54 l1 x5_1).f4)]] (by rfl) rfl rfl (mp_ rfl) ?_
       with_reducible refine (laws_eqSymbol.calls ((rd_T54 l0 x5_1).f0) ((rd_T54 l0 x5_1).f1) ((rd_T54 l0 x5_1).f2) ((rd_T54 l0 x5_1).f3) ((rd_T54 l0 x5_1).f4) ((rd_T54 l1 x5_1).f0) ((rd_T54 l1 x5_1).f1) ((rd_T54 l1 x5_1).f2) ((rd_T54 l1 x5_1).f3) ((rd_T54 l1 x5_1).f4) true _ A7.out).mono ?_
       rintro e w10 ⟨rfl,hb⟩
       refine ⟨_,rfl,?_⟩
       replace HB:=Aside0.mk (below_step hbx hb)
       try clear hb
       refine hK.out _ _ ⟨((HB.out.cell (World.block_lt_of_cell? w _ hw127_0)).trans hw127_0),((HB.out.cell (World.block_lt_of_cell? w _ hw127_1)).trans hw127_1),((HB.out.cell (World.block_lt_of_cell? w _ hw127_2)).trans hw127_2),((HB.out.cell (World.block_lt_of_cell? w _ hw127_3)).trans hw127_3),((HB.out.cell (World.block_lt_of_cell? w _ hw127_4)).trans hw127_4),((HB.out.cell (World.block_lt_of_cell? w _ hw128_0)).trans hw128_0),((HB.out.cell (World.block_lt_of_cell? w _ hw128_1)).trans hw128_1),((HB.out.cell (World.block_lt_of_cell? w _ hw128_2)).trans hw128_2),((HB.out.cell (World.block_lt_of_cell? w _ hw128_3)).trans hw128_3),((HB.out.cell (World.block_lt_of_cell? w _ hw128_4)).trans hw128_4)⟩ (fun hHeld=>?_)
       clear hK K
       refine norm_ (a':=?_) ?_ ?_
       rotate_left
       ·show Act.put _ (some 25) _=_
        simp only [Act.put,List.setIfInBounds_toArray,List.set_cons_zero,List.set_cons_succ,i64_w,i32_w]
        rfl
       refine pu 9 26 #[true,true,true,true,true,true,true,true,true,true] ?_
       refine done_ (done_of HT_.out (by kernel_rfl)) ?_
       try go_wp2
       go_roundg k1
       case measure=>have:=HK1.out;omega
       case rel=>exact ⟨(wrap64 (x5_1+1)),rs,H',⟨by have:=HK1.out;omega⟩,⟨hbx⟩⟩
      replace c8:=Bool.eq_false_iff.mpr c8
      subst c8
      rw [if_neg (show ¬ (false=true) by decide)] at H
      obtain rfl:=Option.some.inj H
      try go_wp2
      replace HB:=Aside0.mk (below_drew1 HB.out)
      have p127:0≤(x5_1:Int):=od
      have q127:x5_1 < (l0.length:Int):=od
      obtain ⟨ad127,e127,hx127_0,hx127_1,hx127_2,hx127_3,hx127_4⟩:=at_T54 HR0.out x5_1 p127 q127
      have hw127_4:=hx127_4
      have hw127_3:=hx127_3
      have hw127_2:=hx127_2
      have hw127_1:=hx127_1
      have hw127_0:=hx127_0
      cases e127
      replace hx127_0:=cx HB.out hx127_0
      replace hx127_1:=cx HB.out hx127_1
      replace hx127_2:=cx HB.out hx127_2
      replace hx127_3:=cx HB.out hx127_3
      replace hx127_4:=cx HB.out hx127_4
      replace p127:=eq_true p127
      replace q127:=eq_true q127
      have p128:0≤(x5_1:Int):=od
      have q128:x5_1 < (l1.length:Int):=od
      obtain ⟨ad128,e128,hx128_0,hx128_1,hx128_2,hx128_3,hx128_4⟩:=at_T54 HR1.out x5_1 p128 q128
      have hw128_4:=hx128_4
      have hw128_3:=hx128_3
      have hw128_2:=hx128_2
      have hw128_1:=hx128_1
      have hw128_0:=hx128_0
      cases e128
      replace hx128_0:=cx HB.out hx128_0
      replace hx128_1:=cx HB.out hx128_1
      replace hx128_2:=cx HB.out hx128_2
      replace hx128_3:=cx HB.out hx128_3
      replace hx128_4:=cx HB.out hx128_4
      replace p128:=eq_true p128
      replace q128:=eq_true q128
      refine start_ (n:=10) (S:=fun w'=>w'.cell? (ad127.add ((x5_1).toNat*5))=some (.string ((rd_T54 l0 x5_1).f0))∧w'.cell? ⟨(ad127.add ((x5_1).toNat*5)).block,(ad127.add ((x5_1).toNat*5)).off+1,none⟩=some (.int .i64 ((rd_T54 l0 x5_1).f1))∧w'.cell? ⟨(ad127.add ((x5_1).toNat*5)).block,(ad127.add ((x5_1).toNat*5)).off+2,none⟩=some (.int .i64 ((rd_T54 l0 x5_1).f2))∧w'.cell? ⟨(ad127.add ((x5_1).toNat*5)).block,(ad127.add ((x5_1).toNat*5)).off+3,none⟩=some (.int .i64 ((rd_T54 l0 x5_1).f3))∧w'.cell? ⟨(ad127.add ((x5_1).toNat*5)).block,(ad127.add ((x5_1).toNat*5)).off+4,none⟩=some (.int .i64 ((rd_T54 l0 x5_1).f4))∧w'.cell? (ad128.add ((x5_1).toNat*5))=some (.string ((rd_T54 l1 x5_1).f0))∧w'.cell? ⟨(ad128.add ((x5_1).toNat*5)).block,(ad128.add ((x5_1).toNat*5)).off+1,none⟩=some (.int .i64 ((rd_T54 l1 x5_1).f1))∧w'.cell? ⟨(ad128.add ((x5_1).toNat*5)).block,(ad128.add ((x5_1).toNat*5)).off+2,none⟩=some (.int .i64 ((rd_T54 l1 x5_1).f2))∧w'.cell? ⟨(ad128.add ((x5_1).toNat*5)).block,(ad128.add ((x5_1).toNat*5)).off+3,none⟩=some (.int .i64 ((rd_T54 l1 x5_1).f3))∧w'.cell? ⟨(ad128.add ((x5_1).toNat*5)).block,(ad128.add ((x5_1).toNat*5)).off+4,none⟩=some (.int .i64 ((rd_T54 l1 x5_1).f4))) (ds:=[]) #[false,false,false,false,false,false,false,false,false,false] (by kernel_rfl) rfl rfl ⟨((HB.out.cell (World.block_lt_of_cell? w _ hw127_0)).trans hw127_0),((HB.out.cell (World.block_lt_of_cell? w _ hw127_1)).trans hw127_1),((HB.out.cell (World.block_lt_of_cell? w _ hw127_2)).trans hw127_2),((HB.out.cell (World.block_lt_of_cell? w _ hw127_3)).trans hw127_3),((HB.out.cell (World.block_lt_of_cell? w _ hw127_4)).trans hw127_4),((HB.out.cell (World.block_lt_of_cell? w _ hw128_0)).trans hw128_0),((HB.out.cell (World.block_lt_of_cell? w _ hw128_1)).trans hw128_1),((HB.out.cell (World.block_lt_of_cell? w _ hw128_2)).trans hw128_2),((HB.out.cell (World.block_lt_of_cell? w _ hw128_3)).trans hw128_3),((HB.out.cell (World.block_lt_of_cell? w _ hw128_4)).trans hw128_4)⟩ (fun hHeld=>?_);refine with_tabW laws_eqSymbolS.tab6 laws_eqSymbolS.bits6 (fun HT_ HW_=>?_)
      generalize wr.drew=w11 at HB hx127_0 hx127_1 hx127_2 hx127_3 hx127_4 hx128_0 hx128_1 hx128_2 hx128_3 hx128_4 hHeld ⊢
      refine pu 0 17 #[true,false,false,false,false,false,false,false,false,false] ?_
      refine pu 1 18 #[true,true,false,false,false,false,false,false,false,false] ?_
      refine pu 2 19 #[true,true,true,false,false,false,false,false,false,false] ?_
      refine pu 4 21 #[true,true,true,false,true,false,false,false,false,false] ?_
      refine pu 5 22 #[true,true,true,false,true,true,false,false,false,false] ?_
      refine pu 6 23 #[true,true,true,false,true,true,true,false,false,false] ?_
      refine tk10 3 20 #[true,true,true,true,true,true,true,false,false,false] hHeld ?_
      refine tk10 7 24 #[true,true,true,true,true,true,true,true,false,false] hHeld ?_
      refine one_ (i:=8) (N:=some 25) #[true,true,true,true,true,true,true,true,true,false] rfl rfl (one_of HT_.out (by kernel_rfl)) (by decide) (fun K hK=>?_)
      refine goes_ Try.func61 (by kernel_rfl) rfl #[.agg #[.string ((rd_T54 l0 x5_1).f0),.int .i64 ((rd_T54 l0 x5_1).f1),.int .i64 ((rd_T54 l0 x5_1).f2),.int .i64 ((rd_T54 l0 x5_1).f3),.int .i64 ((rd_T54 l0 x5_1).f4)],.agg #[.string ((rd_T54 l1 x5_1).f0),.int .i64 ((rd_T54 l1 x5_1).f1),.int .i64 ((rd_T54 l1 x5_1).f2),.int .i64 ((rd_T54 l1 x5_1).f3),.int .i64 ((rd_T54 l1 x5_1).f4)]] (by rfl) rfl rfl (mp_ rfl) ?_
      with_reducible refine (laws_eqSymbol.calls ((rd_T54 l0 x5_1).f0) ((rd_T54 l0 x5_1).f1) ((rd_T54 l0 x5_1).f2) ((rd_T54 l0 x5_1).f3) ((rd_T54 l0 x5_1).f4) ((rd_T54 l1 x5_1).f0) ((rd_T54 l1 x5_1).f1) ((rd_T54 l1 x5_1).f2) ((rd_T54 l1 x5_1).f3) ((rd_T54 l1 x5_1).f4) false _ A7.out).mono ?_
      rintro e w12 ⟨rfl,hb⟩
      refine ⟨_,rfl,?_⟩
      replace HB:=Aside0.mk (below_step hbx hb)
      try clear hb
      refine hK.out _ _ ⟨((HB.out.cell (World.block_lt_of_cell? w _ hw127_0)).trans hw127_0),((HB.out.cell (World.block_lt_of_cell? w _ hw127_1)).trans hw127_1),((HB.out.cell (World.block_lt_of_cell? w _ hw127_2)).trans hw127_2),((HB.out.cell (World.block_lt_of_cell? w _ hw127_3)).trans hw127_3),((HB.out.cell (World.block_lt_of_cell? w _ hw127_4)).trans hw127_4),((HB.out.cell (World.block_lt_of_cell? w _ hw128_0)).trans hw128_0),((HB.out.cell (World.block_lt_of_cell? w _ hw128_1)).trans hw128_1),((HB.out.cell (World.block_lt_of_cell? w _ hw128_2)).trans hw128_2),((HB.out.cell (World.block_lt_of_cell? w _ hw128_3)).trans hw128_3),((HB.out.cell (World.block_lt_of_cell? w _ hw128_4)).trans hw128_4)⟩ (fun hHeld=>?_)
      clear hK K
      refine norm_ (a':=?_) ?_ ?_
      rotate_left
      ·show Act.put _ (some 25) _=_
       simp only [Act.put,List.setIfInBounds_toArray,List.set_cons_zero,List.set_cons_succ,i64_w,i32_w]
       rfl
      refine pu 9 26 #[true,true,true,true,true,true,true,true,true,true] ?_
      refine done_ (done_of HT_.out (by kernel_rfl)) ?_
      try go_wp2
      go_ret
      exact ⟨rf,hbx⟩
     rw [if_neg c6] at H
     exact absurd H (by simp)
    rw [if_neg c5] at H
    exact absurd H (by simp)
   rw [if_neg c4] at H
   have c4b0:decide (x5_1 < (l0.length:Int))=false:=decide_eq_false c4
   clear c4
   obtain rfl:=Option.some.inj H
   go_wp2
   go_ret
   exact ⟨rf,hbx⟩
 rw [if_neg c3] at H
 obtain ⟨c3b0,c3b1⟩:=eqN c3
 have c3b2:(l0.length==l1.length)=false:=by first|simpa using c3|(simp at c3 ⊢;omega)
 obtain rfl:=Option.some.inj H
 go_enter Try.func38,Try.ntmps38
 go_wp2
 go_ret
 exact ⟨rf,hbx⟩
def laws_eqImage.f (k:Nat) (a0_0:ByteArray) (a0_1:ByteArray) (l0_2:List (S54)) (a1_0:ByteArray) (a1_1:ByteArray) (l1_2:List (S54)):Option (Bool):=if a0_0.toList=a1_0.toList then (if a0_1.toList=a1_1.toList then ((laws_eqSymbolS.f k l0_2 l1_2).bind fun t132=>(if t132=true then (some true) else (some false))) else (some false)) else (some false)
theorem laws_eqImage.mono : ∀ a0 a1 a2 a3 a4 a5 k,LeO (laws_eqImage.f k a0 a1 a2 a3 a4 a5) (laws_eqImage.f (k+1) a0 a1 a2 a3 a4 a5):=by
 intro a0 a1 a2 a3 a4 a5 k
 unfold laws_eqImage.f
 repeat' (with_reducible first|apply laws_eqSymbolS.mono|apply LeO.refl|apply LeO.none|apply LeO.ite|refine LeO.bind ?_ (fun _=>?_))
set_option maxHeartbeats 8000000 in
set_option maxRecDepth 100000 in
theorem laws_eqImage.calls (k:Nat) (a0_0:ByteArray) (a0_1:ByteArray) (A0_2:Option Addr) (c0_2:Nat) (l0_2:List (S54)) (a1_0:ByteArray) (a1_1:ByteArray) (A1_2:Option Addr) (c1_2:Nat) (l1_2:List (S54)) (r:Bool) (w:World) (hr0_2:Kd.C k54 w A0_2 l0_2.length l0_2) (hc0_2:l0_2.length≤c0_2) (hr1_2:Kd.C k54 w A1_2 l1_2.length l1_2) (hc1_2:l1_2.length≤c1_2) (h:laws_eqImage.f k a0_0 a0_1 l0_2 a1_0 a1_1 l1_2=some r) :
    Calls Try.prog 15 #[.agg #[.string a0_0,.string a0_1,.slice A0_2 l0_2.length c0_2],.agg #[.string a1_0,.string a1_1,.slice A1_2 l1_2.length c1_2]] w fun e w'=>e=.returned (.bool r)∧Below w.heap.size w w':=by
 have hu30:=Try.underlying30
 have HR0_2:=Aside0.mk hr0_2
 have HC0_2:=Aside0.mk hc0_2
 clear hr0_2 hc0_2
 have HR1_2:=Aside0.mk hr1_2
 have HC1_2:=Aside0.mk hc1_2
 clear hr1_2 hc1_2
 have HB:=Aside0.mk (Below.refl w.heap.size w)
 have H:(if a0_0.toList=a1_0.toList then (if a0_1.toList=a1_1.toList then ((laws_eqSymbolS.f k l0_2 l1_2).bind fun t132=>(if t132=true then (some true) else (some false))) else (some false)) else (some false))=some r:=h
 clear h
 by_cases c3:a0_0.toList=a1_0.toList
 ·rw [if_pos c3] at H
  obtain ⟨c3b0,c3b1⟩:=eqP c3
  clear c3
  by_cases c4:a0_1.toList=a1_1.toList
  ·rw [if_pos c4] at H
   obtain ⟨c4b0,c4b1⟩:=eqP c4
   clear c4
   obtain ⟨t132,A5,H⟩:=bindA H
   by_cases c6:t132=true
   ·subst c6
    rw [if_pos rfl] at H
    obtain rfl:=Option.some.inj H
    go_enter Try.func15,Try.ntmps15
    go_wp2_with (first|(refine bv 2 #[.string a0_0,.string a0_1,.slice A0_2 l0_2.length c0_2] 30 ?_;intro gb130 hg w7 hbox hb;obtain ⟨n0_,n2_⟩:=bx0 hbx hb hg;have n1_:=Aside0.mk (hbox);clear HB;have HB:=n0_;have BK130:=n1_;have GW130:=n2_;have GE130:=n2_;clear n0_ n1_ n2_;clear hb hbox hg)|(refine bv 3 #[.string a1_0,.string a1_1,.slice A1_2 l1_2.length c1_2] 30 ?_;intro gb131 hg w8 hbox hb;obtain ⟨n1_,n3_⟩:=bx0 (hb1 GE130.out) hb hg;obtain ⟨n0_,n5_,n6_⟩:=bx3 (qx BK130.out) hb hg;have n2_:=Aside0.mk (hbox);clear BK130;clear HB;have BK130:=n0_;have HB:=n1_;have BK131:=n2_;have GW131:=n3_;have GE131:=n3_;have NB130_131:=n5_;have NB131_130:=n6_;clear n0_ n1_ n2_ n3_ n5_ n6_;clear hb hbox hg;have hnb9:=NB130_131.out;have hnc9:=NB131_130.out;obtain ⟨Z10_0,Z10_1,Z10_2,Y10_0,Y10_1,Y10_2⟩:=cel3 BK130.out;obtain ⟨Z11_0,Z11_1,Z11_2,Y11_0,Y11_1,Y11_2⟩:=cel3 BK131.out)|(refine gl 38 19 Try.func38 #[.slice A0_2 l0_2.length c0_2,.slice A1_2 l1_2.length c1_2] ?_;(with_reducible refine (laws_eqSymbolS.calls k _ _ l0_2 _ _ l1_2 true _ ?side1 ?side2 ?side3 ?side4 A5.out).mono ?_);(case side1=>exact kc HR0_2.out);(case side2=>exact HC0_2.out);(case side3=>exact kc HR1_2.out);(case side4=>exact HC1_2.out);rintro e w12 ⟨rfl,hb⟩;refine ⟨_,rfl,?_⟩;have n0_:=Aside0.mk (blk_below (qx BK130.out) hb);have n1_:=Aside0.mk (blk_below (qx BK131.out) hb);replace HB:=Aside0.mk (below_step (hb2 GE130.out GE131.out) hb);clear BK130;clear BK131;have BK130:=n0_;have BK131:=n1_;clear n0_ n1_;(try clear hb);(try clear hb2);(try clear hk);(try clear hi)))
    go_ret
    exact ⟨rf,hb2 GE130.out GE131.out⟩
   replace c6:=Bool.eq_false_iff.mpr c6
   subst c6
   rw [if_neg (show ¬ (false=true) by decide)] at H
   obtain rfl:=Option.some.inj H
   go_enter Try.func15,Try.ntmps15
   go_wp2_with (first|(refine bv 2 #[.string a0_0,.string a0_1,.slice A0_2 l0_2.length c0_2] 30 ?_;intro gb130 hg w13 hbox hb;obtain ⟨n0_,n2_⟩:=bx0 hbx hb hg;have n1_:=Aside0.mk (hbox);clear HB;have HB:=n0_;have BK130:=n1_;have GW130:=n2_;have GE130:=n2_;clear n0_ n1_ n2_;clear hb hbox hg)|(refine bv 3 #[.string a1_0,.string a1_1,.slice A1_2 l1_2.length c1_2] 30 ?_;intro gb131 hg w14 hbox hb;obtain ⟨n1_,n3_⟩:=bx0 (hb1 GE130.out) hb hg;obtain ⟨n0_,n5_,n6_⟩:=bx3 (qx BK130.out) hb hg;have n2_:=Aside0.mk (hbox);clear BK130;clear HB;have BK130:=n0_;have HB:=n1_;have BK131:=n2_;have GW131:=n3_;have GE131:=n3_;have NB130_131:=n5_;have NB131_130:=n6_;clear n0_ n1_ n2_ n3_ n5_ n6_;clear hb hbox hg;have hnb15:=NB130_131.out;have hnc15:=NB131_130.out;obtain ⟨Z16_0,Z16_1,Z16_2,Y16_0,Y16_1,Y16_2⟩:=cel3 BK130.out;obtain ⟨Z17_0,Z17_1,Z17_2,Y17_0,Y17_1,Y17_2⟩:=cel3 BK131.out)|(refine gl 38 19 Try.func38 #[.slice A0_2 l0_2.length c0_2,.slice A1_2 l1_2.length c1_2] ?_;(with_reducible refine (laws_eqSymbolS.calls k _ _ l0_2 _ _ l1_2 false _ ?side1 ?side2 ?side3 ?side4 A5.out).mono ?_);(case side1=>exact kc HR0_2.out);(case side2=>exact HC0_2.out);(case side3=>exact kc HR1_2.out);(case side4=>exact HC1_2.out);rintro e w18 ⟨rfl,hb⟩;refine ⟨_,rfl,?_⟩;have n0_:=Aside0.mk (blk_below (qx BK130.out) hb);have n1_:=Aside0.mk (blk_below (qx BK131.out) hb);replace HB:=Aside0.mk (below_step (hb2 GE130.out GE131.out) hb);clear BK130;clear BK131;have BK130:=n0_;have BK131:=n1_;clear n0_ n1_;(try clear hb);(try clear hb2);(try clear hk);(try clear hi)))
   go_ret
   exact ⟨rf,hb2 GE130.out GE131.out⟩
  rw [if_neg c4] at H
  obtain ⟨c4b0,c4b1⟩:=eqN c4
  obtain rfl:=Option.some.inj H
  go_enter Try.func15,Try.ntmps15
  go_wp2_with (first|(refine bv 2 #[.string a0_0,.string a0_1,.slice A0_2 l0_2.length c0_2] 30 ?_;intro gb130 hg w19 hbox hb;obtain ⟨n0_,n2_⟩:=bx0 hbx hb hg;have n1_:=Aside0.mk (hbox);clear HB;have HB:=n0_;have BK130:=n1_;have GW130:=n2_;have GE130:=n2_;clear n0_ n1_ n2_;clear hb hbox hg)|(refine bv 3 #[.string a1_0,.string a1_1,.slice A1_2 l1_2.length c1_2] 30 ?_;intro gb131 hg w20 hbox hb;obtain ⟨n1_,n3_⟩:=bx0 (hb1 GE130.out) hb hg;obtain ⟨n0_,n5_,n6_⟩:=bx3 (qx BK130.out) hb hg;have n2_:=Aside0.mk (hbox);clear BK130;clear HB;have BK130:=n0_;have HB:=n1_;have BK131:=n2_;have GW131:=n3_;have GE131:=n3_;have NB130_131:=n5_;have NB131_130:=n6_;clear n0_ n1_ n2_ n3_ n5_ n6_;clear hb hbox hg;have hnb21:=NB130_131.out;have hnc21:=NB131_130.out;obtain ⟨Z22_0,Z22_1,Z22_2,Y22_0,Y22_1,Y22_2⟩:=cel3 BK130.out;obtain ⟨Z23_0,Z23_1,Z23_2,Y23_0,Y23_1,Y23_2⟩:=cel3 BK131.out))
  go_ret
  exact ⟨rf,hb2 GE130.out GE131.out⟩
 rw [if_neg c3] at H
 obtain ⟨c3b0,c3b1⟩:=eqN c3
 obtain rfl:=Option.some.inj H
 go_enter Try.func15,Try.ntmps15
 go_wp2_with (first|(refine bv 2 #[.string a0_0,.string a0_1,.slice A0_2 l0_2.length c0_2] 30 ?_;intro gb130 hg w24 hbox hb;obtain ⟨n0_,n2_⟩:=bx0 hbx hb hg;have n1_:=Aside0.mk (hbox);clear HB;have HB:=n0_;have BK130:=n1_;have GW130:=n2_;have GE130:=n2_;clear n0_ n1_ n2_;clear hb hbox hg)|(refine bv 3 #[.string a1_0,.string a1_1,.slice A1_2 l1_2.length c1_2] 30 ?_;intro gb131 hg w25 hbox hb;obtain ⟨n1_,n3_⟩:=bx0 (hb1 GE130.out) hb hg;obtain ⟨n0_,n5_,n6_⟩:=bx3 (qx BK130.out) hb hg;have n2_:=Aside0.mk (hbox);clear BK130;clear HB;have BK130:=n0_;have HB:=n1_;have BK131:=n2_;have GW131:=n3_;have GE131:=n3_;have NB130_131:=n5_;have NB131_130:=n6_;clear n0_ n1_ n2_ n3_ n5_ n6_;clear hb hbox hg;have hnb26:=NB130_131.out;have hnc26:=NB131_130.out;obtain ⟨Z27_0,Z27_1,Z27_2,Y27_0,Y27_1,Y27_2⟩:=cel3 BK130.out;obtain ⟨Z28_0,Z28_1,Z28_2,Y28_0,Y28_1,Y28_2⟩:=cel3 BK131.out))
 go_ret
 exact ⟨rf,hb2 GE130.out GE131.out⟩
def spec_l01In.f (a0:Int) (a1:Int) (a2:Int):Option (Bool):=if a0≥a1 then (some (decide (a0≤a2))) else (some false)
set_option maxHeartbeats 8000000 in
set_option maxRecDepth 100000 in
theorem spec_l01In.calls (a0:Int) (a1:Int) (a2:Int) (r:Bool) (w:World) (h:spec_l01In.f a0 a1 a2=some r) :
    Calls Try.prog 44 #[.int .i64 a0,.int .i64 a1,.int .i64 a2] w fun e w'=>e=.returned (.bool r)∧Drawn0 w w':=by
 have H:(if a0≥a1 then (some (decide (a0≤a2))) else (some false))=some r:=h
 clear h
 by_cases c4:a0≥a1
 ·rw [if_pos c4] at H
  have c4b0:decide (a1≤a0)=true:=decide_eq_true c4
  clear c4
  obtain rfl:=Option.some.inj H
  go_enter Try.func44,Try.ntmps44
  go_wp2
  go_ret
  exact ⟨rs,dr⟩
 rw [if_neg c4] at H
 have c4b0:decide (a1≤a0)=false:=decide_eq_false c4
 clear c4
 obtain rfl:=Option.some.inj H
 go_enter Try.func44,Try.ntmps44
 go_wp2
 go_ret
 exact ⟨rs,dr⟩
def spec_l06Size.f (a0:ByteArray):Option (Bool):=if ((a0.size:Int) % 4)=0 then (some (decide ((a0.size:Int)≤256))) else (some false)
set_option maxHeartbeats 8000000 in
set_option maxRecDepth 100000 in
theorem spec_l06Size.calls (a0:ByteArray) (r:Bool) (w:World) (h:spec_l06Size.f a0=some r) :
    Calls Try.prog 45 #[.string a0] w fun e w'=>e=.returned (.bool r)∧Drawn0 w w':=by
 have H:(if ((a0.size:Int) % 4)=0 then (some (decide ((a0.size:Int)≤256))) else (some false))=some r:=h
 clear h
 by_cases c2:((a0.size:Int) % 4)=0
 ·rw [if_pos c2] at H
  obtain ⟨c2b0,c2b1⟩:=eqP c2
  clear c2
  obtain rfl:=Option.some.inj H
  go_enter Try.func45,Try.ntmps45
  go_wp2
  go_ret
  exact ⟨rs,dr⟩
 rw [if_neg c2] at H
 obtain ⟨c2b0,c2b1⟩:=eqN c2
 obtain rfl:=Option.some.inj H
 go_enter Try.func45,Try.ntmps45
 go_wp2
 go_ret
 exact ⟨rs,dr⟩
def spec_l02Shape.f (a0:Int):Option (Int × Int × Int × Int):=if a0=1 then (some (1,55,0,0)) else (if a0=2 then (some (1,23,0,0)) else (if a0=3 then (some (2,111,0,0)) else (if a0=4 then (some (3,103,0,0)) else (if a0=5 then (some (4,99,0,0)) else (if a0=6 then (some (4,99,1,0)) else (if a0=7 then (some (4,99,4,0)) else (if a0=8 then (some (4,99,5,0)) else (if a0=9 then (some (4,99,6,0)) else (if a0=10 then (some (4,99,7,0)) else (if a0=11 then (some (3,3,0,0)) else (if a0=12 then (some (3,3,1,0)) else (if a0=13 then (some (3,3,2,0)) else (if a0=14 then (some (3,3,3,0)) else (if a0=15 then (some (3,3,4,0)) else (if a0=16 then (some (3,3,5,0)) else (if a0=17 then (some (3,3,6,0)) else (if a0=18 then (some (5,35,0,0)) else (if a0=19 then (some (5,35,1,0)) else (if a0=20 then (some (5,35,2,0)) else (if a0=21 then (some (5,35,3,0)) else (if a0=22 then (some (3,19,0,0)) else (if a0=23 then (some (3,19,2,0)) else (if a0=24 then (some (3,19,3,0)) else (if a0=25 then (some (3,19,4,0)) else (if a0=26 then (some (3,19,6,0)) else (if a0=27 then (some (3,19,7,0)) else (if a0=28 then (some (6,19,1,0)) else (if a0=29 then (some (6,19,5,0)) else (if a0=30 then (some (6,19,5,32)) else (if a0=31 then (some (8,51,0,0)) else (if a0=32 then (some (8,51,0,32)) else (if a0=33 then (some (8,51,1,0)) else (if a0=34 then (some (8,51,2,0)) else (if a0=35 then (some (8,51,3,0)) else (if a0=36 then (some (8,51,4,0)) else (if a0=37 then (some (8,51,5,0)) else (if a0=38 then (some (8,51,5,32)) else (if a0=39 then (some (8,51,6,0)) else (if a0=40 then (some (8,51,7,0)) else (if a0=41 then (some (3,27,0,0)) else (if a0=42 then (some (7,27,1,0)) else (if a0=43 then (some (7,27,5,0)) else (if a0=44 then (some (7,27,5,32)) else (if a0=45 then (some (8,59,0,0)) else (if a0=46 then (some (8,59,0,32)) else (if a0=47 then (some (8,59,1,0)) else (if a0=48 then (some (8,59,5,0)) else (if a0=49 then (some (8,59,5,32)) else (if a0=50 then (some (8,51,0,1)) else (if a0=51 then (some (8,51,1,1)) else (if a0=52 then (some (8,51,2,1)) else (if a0=53 then (some (8,51,3,1)) else (if a0=54 then (some (8,51,4,1)) else (if a0=55 then (some (8,51,5,1)) else (if a0=56 then (some (8,51,6,1)) else (if a0=57 then (some (8,51,7,1)) else (if a0=58 then (some (8,59,0,1)) else (if a0=59 then (some (8,59,4,1)) else (if a0=60 then (some (8,59,5,1)) else (if a0=61 then (some (8,59,6,1)) else (if a0=62 then (some (8,59,7,1)) else (if a0=63 then (some (9,115,0,0)) else (if a0=64 then (some (9,115,0,1)) else (some (0,0,0,0)))))))))))))))))))))))))))))))))))))))))))))))))))))))))))))))))
theorem spec_l02Shape.leaf {a:Act} {w w3:World} {g:Nat} {a0 r1 r2 r3 r4 v1 v2 v3 v4:Int} (hp:a.tmps.getD 2 undef=.pointer (some ⟨g,0,none⟩)) (hd:a.defers=[])
    (BK:Aside0 (w3.heap[g]?=some (.cells #[.int .i64 0,.int .i64 0,.int .i64 0,.int .i64 0] 109 (0,0)))) (HB:Aside0 (Below w.heap.size w w3)) (GE:Aside0 (w.heap.size≤g))
    (H:Aside0 (spec_l02Shape.f a0=some (r1,r2,r3,r4))) (e:spec_l02Shape.f a0=some (v1,v2,v3,v4)) :
    bodyPost Try.prog Try.f88 (fun e w'=>e=.returned (.agg #[.int .i64 r1,.int .i64 r2,.int .i64 r3,.int .i64 r4])∧Below w.heap.size w w') .ret a
      ((((w3.setCell ⟨g,0,none⟩ (.int .i64 v1)).setCell ⟨g,1,none⟩ (.int .i64 v2)).setCell ⟨g,2,none⟩ (.int .i64 v3)).setCell ⟨g,3,none⟩ (.int .i64 v4)):=by
 have h:=e.symm.trans H.out
 simp only [Option.some.injEq,Prod.mk.injEq] at h
 obtain ⟨rfl,rfl,rfl,rfl⟩:=h
 refine bodyPost_ret (results_cell_row rfl _ _ g 109 #[.int .i64 v1,.int .i64 v2,.int .i64 v3,.int .i64 v4] (0,0) _ hp (blk_put (blk_put (blk_put (blk_put BK.out 0 _ rfl) 1 _ rfl) 2 _ rfl) 3 _ rfl) Try.underlying109 rfl (by kernel_rfl)) hd ?_
 exact ⟨rfl,below_set (below_set (below_set (below_set HB.out GE.out) GE.out) GE.out) GE.out⟩
set_option maxHeartbeats 8000000 in
set_option maxRecDepth 100000 in
theorem spec_l02Shape.calls (a0:Int) (r1:Int) (r2:Int) (r3:Int) (r4:Int) (w:World) (h:spec_l02Shape.f a0=some (r1,r2,r3,r4)) :
    Calls Try.prog 88 #[.int .i64 a0] w fun e w'=>e=.returned (.agg #[.int .i64 r1,.int .i64 r2,.int .i64 r3,.int .i64 r4])∧Below w.heap.size w w':=by
 have hu:=Try.underlying109
 have HB:=Aside0.mk (Below.refl w.heap.size w)
 have H:=Aside0.mk h
 clear h
 go_enter Try.func88,Try.ntmps88
 go_wp2_with (first|(refine bv 2 #[.int .i64 0,.int .i64 0,.int .i64 0,.int .i64 0] 109 ?_;intro gb102 hg w3 hbox hb;obtain ⟨n0_,n3_⟩:=bx0 hbx hb hg;have n1_:=Aside0.mk (hbox);clear HB;have HB:=n0_;have BK102:=n1_;have GE102:=n3_;clear n0_ n1_ n3_;clear hb hbox hg;obtain ⟨Z4_0,Z4_1,Z4_2,Z4_3,Y4_0,Y4_1,Y4_2,Y4_3⟩:=cel4 BK102.out))
 all_goals
  refine spec_l02Shape.leaf rfl rfl BK102 HB GE102 H ?_
  first
  | (have hx_:=eq_of_beq (by assumption:(a0==_)=true);subst hx_;rfl)
  | (simp only [beq_eq_false_iff_ne,ne_eq] at *;unfold spec_l02Shape.f;simp only [*,if_false])
def spec_l01Bit.f (a0:Int) (a1:Int):Option (Int):=if 0≤(IntKind.u64.wrap (a1)) then (if (Int.tmod (shr .u64 (IntKind.u64.wrap (a0)) (IntKind.u64.wrap (a1))) 2)=1 then (some 1) else (some 0)) else (none)
set_option maxHeartbeats 8000000 in
set_option maxRecDepth 100000 in
theorem spec_l01Bit.calls (a0:Int) (a1:Int) (r:Int) (w:World) (h:spec_l01Bit.f a0 a1=some r) :
    Calls Try.prog 116 #[.int .i64 a0,.int .i64 a1] w fun e w'=>e=.returned (.int .i64 r)∧Drawn0 w w':=by
 have H:(if 0≤(IntKind.u64.wrap (a1)) then (if (Int.tmod (shr .u64 (IntKind.u64.wrap (a0)) (IntKind.u64.wrap (a1))) 2)=1 then (some 1) else (some 0)) else (none))=some r:=h
 clear h
 obtain ⟨ji3,hji3⟩ : ∃ j_:Int,(IntKind.u64.wrap (a1))=j_:=⟨_,rfl⟩
 replace H:(if 0≤(ji3) then (if (Int.tmod (shr .u64 (IntKind.u64.wrap (a0)) (ji3)) 2)=1 then (some 1) else (some 0)) else (none))=some r:=by first|(rw [hji3] at H;exact H)|(simp only [hji3] at H ⊢;exact H)
 by_cases c4:0≤(ji3)
 ·rw [if_pos c4] at H
  have c4b0:=eq_true c4
  have c4b1:decide (0≤(ji3))=true:=decide_eq_true c4
  clear c4
  obtain ⟨ji5,hji5⟩ : ∃ j_:Int,(shr .u64 (IntKind.u64.wrap (a0)) (ji3))=j_:=⟨_,rfl⟩
  replace H:(if (Int.tmod (ji5) 2)=1 then (some 1) else (some 0))=some r:=by first|(rw [hji5] at H;exact H)|(simp only [hji5] at H ⊢;exact H)
  have hji5_:((IntKind.u64.wrap (a0)) / 2 ^ min (ji3).toNat 64)=ji5:=hji5
  have hji5z:(ji3)≤64→((IntKind.u64.wrap (a0)) / 2 ^ (ji3).toNat)=ji5:=shr_small hji5
  by_cases c6:(Int.tmod (ji5) 2)=1
  ·rw [if_pos c6] at H
   obtain ⟨c6b0,c6b1⟩:=eqP c6
   clear c6
   obtain rfl:=Option.some.inj H
   go_enter Try.func116,Try.ntmps116
   go_wp2
   go_ret
   exact ⟨by first|rfl|(simp;done)|(simp only [← hji3,← hji5]<;>(first|rfl|simp))|(simp [*];done),dr⟩
  rw [if_neg c6] at H
  obtain ⟨c6b0,c6b1⟩:=eqN c6
  obtain rfl:=Option.some.inj H
  go_enter Try.func116,Try.ntmps116
  go_wp2
  go_ret
  exact ⟨by first|rfl|(simp;done)|(simp only [← hji3,← hji5]<;>(first|rfl|simp))|(simp [*];done),dr⟩
 rw [if_neg c4] at H
 exact absurd H (by simp)
def spec_l01Field.l0:Nat→Int→Int→Int→Int→Option (Int)
  | 0,_,_,_,_=>none
  | k+1,x0,x1,x7,x8=>if x8≥0 then ((spec_l01Bit.f x0 (wrap64 (x1+x8))).bind fun t134=>(spec_l01Field.l0 k x0 x1 (wrap64 ((wrap64 (2*x7))+t134)) (wrap64 (x8 - 1)))) else (some x7)
def spec_l01Field.f (k:Nat) (a0:Int) (a1:Int) (a2:Int):Option (Int):=spec_l01Field.l0 k a0 a1 0 (wrap64 (a2 - 1))
theorem spec_l01Field.mono_l : ∀ k,(∀ y0 y1 y2 y3,LeO (spec_l01Field.l0 k y0 y1 y2 y3) (spec_l01Field.l0 (k+1) y0 y1 y2 y3))
  | 0=>fun _ _ _ _ r h=>by simp [spec_l01Field.l0] at h
  | k+1=>by
    have ih0:=spec_l01Field.mono_l k
    · intro y0 y1 y2 y3
      unfold spec_l01Field.l0
      repeat' (with_reducible first|apply ih0|apply LeO.refl|apply LeO.none|apply LeO.ite|refine LeO.bind ?_ (fun _=>?_))
theorem spec_l01Field.mono : ∀ a0 a1 a2 k,LeO (spec_l01Field.f k a0 a1 a2) (spec_l01Field.f (k+1) a0 a1 a2):=by
 intro a0 a1 a2 k
 have ih0:=spec_l01Field.mono_l k
 unfold spec_l01Field.f
 repeat' (with_reducible first|apply ih0|apply LeO.refl|apply LeO.none|apply LeO.ite|refine LeO.bind ?_ (fun _=>?_))
set_option maxHeartbeats 8000000 in
set_option maxRecDepth 100000 in
theorem spec_l01Field.calls (k:Nat) (a0:Int) (a1:Int) (a2:Int) (r:Int) (w:World) (h:spec_l01Field.f k a0 a1 a2=some r) :
    Calls Try.prog 114 #[.int .i64 a0,.int .i64 a1,.int .i64 a2] w fun e w'=>e=.returned (.int .i64 r)∧Drawn0 w w':=by
 have H:(spec_l01Field.l0 k a0 a1 0 (wrap64 (a2 - 1)))=some r:=h
 clear h
 have H':=Aside0.mk H
 clear H
 go_enter Try.func114,Try.ntmps114
 go_wp2
 go_loopg [7,8] k (fun kq v7 v8 w'=>∃ (x7_1:Int) (x8_1:Int),v7=.int .i64 x7_1∧v8=.int .i64 x8_1∧Aside0 (spec_l01Field.l0 kq a0 a1 x7_1 x8_1=some r)∧Aside0 (kq≤k)∧Drawn0 w w')
 case atStart=>exact ⟨(0),(wrap64 (a2 - 1)),rs,rs,H',⟨Nat.le_refl _⟩,dr⟩
 clear H'
 obtain ⟨x7_1,x8_1,rfl,rfl,HA,HK1,⟨m1,rfl⟩⟩:=hrel
 cases gk with
 | zero=>exact absurd HA.out (by simp [spec_l01Field.l0])
 | succ k1 =>
  have H:=HA.out
  clear HA
  simp only [spec_l01Field.l0] at H
  by_cases c4:x8_1≥0
  ·rw [if_pos c4] at H
   have c4b0:decide (0≤x8_1)=true:=decide_eq_true c4
   clear c4
   obtain ⟨t134,A5,H⟩:=bindA H
   have H':=Aside0.mk H
   clear H
   go_wp2_with (first|(refine gd 116 21 Try.func116 #[.int .i64 a0,.int .i64 (wrap64 (a1+x8_1))] (spec_l01Bit.calls a0 (wrap64 (a1+x8_1)) t134 _ A5.out) ?_;intro nd))
   go_roundg k1
   case measure=>have:=HK1.out;omega
   case rel=>exact ⟨(wrap64 ((wrap64 (2*x7_1))+t134)),(wrap64 (x8_1 - 1)),rs,rs,H',⟨by have:=HK1.out;omega⟩,dr⟩
  rw [if_neg c4] at H
  have c4b0:decide (0≤x8_1)=false:=decide_eq_false c4
  clear c4
  obtain rfl:=Option.some.inj H
  go_wp2
  go_ret
  exact ⟨rs,dr⟩
def spec_l01Sign.l0:Nat→Int→Int→Int→Int→Option (Int)
  | 0,_,_,_,_=>none
  | k+1,x0,x1,x5,x6=>if x6≥0 then ((spec_l01Bit.f x0 (mn x6 (wrap64 (x1 - 1)))).bind fun t135=>(spec_l01Sign.l0 k x0 x1 (IntKind.u64.wrap ((IntKind.u64.wrap (2*x5))+(IntKind.u64.wrap (t135)))) (wrap64 (x6 - 1)))) else (some (wrap64 (x5)))
def spec_l01Sign.f (k:Nat) (a0:Int) (a1:Int):Option (Int):=spec_l01Sign.l0 k a0 a1 0 63
theorem spec_l01Sign.mono_l : ∀ k,(∀ y0 y1 y2 y3,LeO (spec_l01Sign.l0 k y0 y1 y2 y3) (spec_l01Sign.l0 (k+1) y0 y1 y2 y3))
  | 0=>fun _ _ _ _ r h=>by simp [spec_l01Sign.l0] at h
  | k+1=>by
    have ih0:=spec_l01Sign.mono_l k
    · intro y0 y1 y2 y3
      unfold spec_l01Sign.l0
      repeat' (with_reducible first|apply ih0|apply LeO.refl|apply LeO.none|apply LeO.ite|refine LeO.bind ?_ (fun _=>?_))
theorem spec_l01Sign.mono : ∀ a0 a1 k,LeO (spec_l01Sign.f k a0 a1) (spec_l01Sign.f (k+1) a0 a1):=by
 intro a0 a1 k
 have ih0:=spec_l01Sign.mono_l k
 unfold spec_l01Sign.f
 repeat' (with_reducible first|apply ih0|apply LeO.refl|apply LeO.none|apply LeO.ite|refine LeO.bind ?_ (fun _=>?_))
set_option maxHeartbeats 8000000 in
set_option maxRecDepth 100000 in
theorem spec_l01Sign.calls (k:Nat) (a0:Int) (a1:Int) (r:Int) (w:World) (h:spec_l01Sign.f k a0 a1=some r) :
    Calls Try.prog 115 #[.int .i64 a0,.int .i64 a1] w fun e w'=>e=.returned (.int .i64 r)∧Below w.heap.size w w':=by
 have HB:=Aside0.mk (Below.refl w.heap.size w)
 have H:(spec_l01Sign.l0 k a0 a1 0 63)=some r:=h
 clear h
 have H':=Aside0.mk H
 clear H
 go_enter Try.func115,Try.ntmps115
 go_wp2
 go_loopg [5,6] k (fun kq v5 v6 w'=>∃ (x5_1:Int) (x6_1:Int),v5=.int .u64 x5_1∧v6=.int .i64 x6_1∧Aside0 (spec_l01Sign.l0 kq a0 a1 x5_1 x6_1=some r)∧Aside0 (kq≤k)∧Aside0 (Below w.heap.size w w'))
 case atStart=>exact ⟨(0),(63),rs,rs,H',⟨Nat.le_refl _⟩,⟨hbx⟩⟩
 clear H'
 obtain ⟨x5_1,x6_1,rfl,rfl,HA,HK1,HB⟩:=hrel
 cases gk with
 | zero=>exact absurd HA.out (by simp [spec_l01Sign.l0])
 | succ k1 =>
  have H:=HA.out
  clear HA
  simp only [spec_l01Sign.l0] at H
  by_cases c3:x6_1≥0
  ·rw [if_pos c3] at H
   have c3b0:decide (0≤x6_1)=true:=decide_eq_true c3
   clear c3
   obtain ⟨ji4,hji4⟩ : ∃ j_:Int,(mn x6_1 (wrap64 (a1 - 1)))=j_:=⟨_,rfl⟩
   replace H:((spec_l01Bit.f a0 (ji4)).bind fun t135=>(spec_l01Sign.l0 k1 a0 a1 (IntKind.u64.wrap ((IntKind.u64.wrap (2*x5_1))+(IntKind.u64.wrap (t135)))) (wrap64 (x6_1 - 1))))=some r:=by first|(rw [hji4] at H;exact H)|(simp only [hji4] at H ⊢;exact H)
   have hji4_:(if (wrap64 (a1 - 1)) < x6_1 then (wrap64 (a1 - 1)) else x6_1)=ji4:=hji4
   obtain ⟨t135,A5,H⟩:=bindA H
   have H':=Aside0.mk H
   clear H
   go_wp2_with (first|((with_reducible refine gate_callee (f:=116) rfl ?_);refine goesL_ (some 18) rfl rfl Try.func116 (by kernel_rfl) rfl #[.int .i64 a0,.int .i64 ji4] rfl (by (try simp only [List.map_toArray,List.map_cons,List.map_nil]);first|done|(simp only [hji4];rfl)|rfl|(simp only [List.length_drop,List.length_take];rfl)) ?_;(with_reducible refine (spec_l01Bit.calls a0 ji4 t135 _ A5.out).mono ?_);rintro e w' ⟨rfl,⟨nd,rfl⟩⟩;refine ⟨_,rfl,?_⟩))
   go_roundg k1
   case measure=>have:=HK1.out;omega
   case rel=>exact ⟨(IntKind.u64.wrap ((IntKind.u64.wrap (2*x5_1))+(IntKind.u64.wrap (t135)))),(wrap64 (x6_1 - 1)),rs,rs,H',⟨by have:=HK1.out;omega⟩,⟨hbx⟩⟩
  rw [if_neg c3] at H
  have c3b0:decide (0≤x6_1)=false:=decide_eq_false c3
  clear c3
  obtain rfl:=Option.some.inj H
  go_wp2
  go_ret
  exact ⟨rf,hbx⟩
end Go.Proofs.Ythepmdlpjdlajaa.PFnExactLintImage
