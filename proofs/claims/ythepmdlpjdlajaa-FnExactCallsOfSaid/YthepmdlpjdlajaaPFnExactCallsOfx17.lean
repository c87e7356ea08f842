/- The walk of FnExactCallsOf: each Go function that the law reaches as a plain Lean function, with the proof that a call does what it says; no conditions. Written by a program for this claim. -/
import Derived.Test.YthepmdlpjdlajaaPFnExactCallsOfx0
import Derived.Shelf.Sort.Plain
import Derived.Shelf.Slices.In.SortNone
import Derived.Sort.OwnSortedInts
import Derived.Shelf.Slices.CompactI
import Derived.Test.YthepmdlpjdlajaaPFnExactCallsOfx6
import Derived.Test.YthepmdlpjdlajaaPFnExactCallsOfx10
namespace Go.Proofs.Ythepmdlpjdlajaa.PFnExactCallsOf
open Go.RowKit Go.Proofs.YthepmdlpjdlajaaW.PrintWords Go.Proofs.YthepmdlpjdlajaaW.PrintLast Go.Proofs.YthepmdlpjdlajaaW.PrintMore
attribute [local go_sem] max2_int min2_int max_two min_two max_three min_three max_four min_four   -- for this text's walks alone
set_option linter.unusedVariables false
set_option linter.unusedSimpArgs false
-- NOT PRINTED: function 128 (slices_partitionOrdered_int)
-- NOT PRINTED: function 100 (slices_pdqsortOrdered_int)
def slices_Sort_int_int.lays_ren:Go.Shelf.Ren:=⟨fun|189=>80|125=>101|257=>100|128=>129|129=>130|294=>120|295=>121|296=>122|297=>123|298=>124|299=>125|216=>126|300=>127|301=>128|328=>134|329=>135|330=>136|331=>137|332=>138|215=>139|343=>140|n=>n,fun|28=>37|3=>3|46=>84|0=>0|51=>139|53=>103|4=>4|183=>132|182=>131|131=>104|5=>5|9=>9|218=>141|222=>145|228=>147|229=>26|n=>n,fun|n=>n⟩
theorem slices_Sort_int_int.lays:Go.Proofs.Lays.n189 Try.prog slices_Sort_int_int.lays_ren:={
  mixed:=by kernel_rfl
  f125:=Try.func101.trans (congrArg some (by kernel_rfl))
  f128:=Try.func129.trans (congrArg some (by kernel_rfl))
  f129:=Try.func130.trans (congrArg some (by kernel_rfl))
  f189:=Try.func80.trans (congrArg some (by kernel_rfl))
  f215:=Try.func139.trans (congrArg some (by kernel_rfl))
  f216:=Try.func126.trans (congrArg some (by kernel_rfl))
  f257:=Try.func100.trans (congrArg some (by kernel_rfl))
  f294:=Try.func120.trans (congrArg some (by kernel_rfl))
  f295:=Try.func121.trans (congrArg some (by kernel_rfl))
  f296:=Try.func122.trans (congrArg some (by kernel_rfl))
  f297:=Try.func123.trans (congrArg some (by kernel_rfl))
  f298:=Try.func124.trans (congrArg some (by kernel_rfl))
  f299:=Try.func125.trans (congrArg some (by kernel_rfl))
  f300:=Try.func127.trans (congrArg some (by kernel_rfl))
  f301:=Try.func128.trans (congrArg some (by kernel_rfl))
  f328:=Try.func134.trans (congrArg some (by kernel_rfl))
  f329:=Try.func135.trans (congrArg some (by kernel_rfl))
  f330:=Try.func136.trans (congrArg some (by kernel_rfl))
  f331:=Try.func137.trans (congrArg some (by kernel_rfl))
  f332:=Try.func138.trans (congrArg some (by kernel_rfl))
  f343:=Try.func140.trans (congrArg some (by kernel_rfl))
  t0:=Try.underlying0
  a0:=Try.isAgg0
  z0:=Try.sizeOf0
  v0:=Try.zeroValue0
  t3:=Try.underlying3
  a3:=Try.isAgg3
  z3:=Try.sizeOf3
  v3:=Try.zeroValue3
  t4:=Try.underlying4
  a4:=Try.isAgg4
  z4:=Try.sizeOf4
  v4:=Try.zeroValue4
  t5:=Try.underlying5
  a5:=Try.isAgg5
  z5:=Try.sizeOf5
  v5:=Try.zeroValue5
  t9:=Try.underlying9
  a9:=Try.isAgg9
  z9:=Try.sizeOf9
  v9:=Try.zeroValue9
  t28:=Try.underlying37
  a28:=Try.isAgg37
  z28:=Try.sizeOf37
  v28:=Try.zeroValue37
  t46:=Try.underlying84
  a46:=Try.isAgg84
  z46:=Try.sizeOf84
  v46:=Try.zeroValue84
  t51:=Try.underlying139
  a51:=Try.isAgg139
  z51:=Try.sizeOf139
  v51:=Try.zeroValue139
  t53:=Try.underlying103
  a53:=Try.isAgg103
  z53:=Try.sizeOf103
  v53:=Try.zeroValue103
  t131:=Try.underlying104
  a131:=Try.isAgg104
  z131:=Try.sizeOf104
  v131:=Try.zeroValue104
  t182:=Try.underlying131
  a182:=Try.isAgg131
  z182:=Try.sizeOf131
  v182:=Try.zeroValue131
  t183:=Try.underlying132
  a183:=Try.isAgg132
  z183:=Try.sizeOf132
  v183:=Try.zeroValue132
  t218:=Try.underlying141
  a218:=Try.isAgg141
  z218:=Try.sizeOf141
  v218:=Try.zeroValue141
  t222:=Try.underlying145
  a222:=Try.isAgg145
  z222:=Try.sizeOf145
  v222:=Try.zeroValue145
  t228:=Try.underlying147
  a228:=Try.isAgg147
  z228:=Try.sizeOf147
  v228:=Try.zeroValue147
  t229:=Try.underlying26
  a229:=Try.isAgg26
  z229:=Try.sizeOf26
  v229:=Try.zeroValue26 }
def slices_Sort_int_int.f (l0:List Int):Option (List Int):=if l0.length < 4611686018427387904 then some (l0.mergeSort fun x y=>decide (x≤y)) else none
theorem slices_Sort_int_int.calls (P0_:Nat→Prop) (u9000_:Value) (l0:List Int) (r:List Int) (w0 w:World) (hB:Below w0.heap.size w0 w) (ho0:Kd.R (Kd.int .i64) 3 w w0.heap.size P0_ u9000_ l0) (h:slices_Sort_int_int.f l0=some r) :
    Calls Try.prog 80 #[u9000_] w fun e w'=>e=.returned (.tuple #[])∧Kd.R (Kd.int .i64) 3 w' w0.heap.size (fun k_=>(P0_ k_∨w.heap.size≤k_)) u9000_ r∧Below w0.heap.size w0 w'∧Kept w w' (fun k_=>P0_ k_):=by
 unfold slices_Sort_int_int.f at h
 split at h
 rotate_left
 ·exact absurd h (by simp)
 rename_i hsz
 obtain rfl:=Option.some.inj h
 have hP:=ho0.1
 have ho:=Kd.own_of_R ho0
 rcases ho.2 with ⟨rfl,hn⟩|⟨g,cap,cur,rfl,hg,hb,hn,hcap,hcur,htake⟩
 ·obtain rfl:l0=[]:=List.eq_nil_of_length_eq_zero hn
  refine (Any.slices_Sort_int_none slices_Sort_int_int.lays none 0 w).mono ?_
  rintro e w' ⟨rfl,rfl⟩
  exact ⟨rfl,by rw [List.mergeSort_nil];exact Kd.R_mono ho0 (fun k hk=>.inl hk),hB,Kept.refl _ _⟩
 have hgw:g < w.heap.size:=blk_lt hb
 refine (Any.slices_Sort_int slices_Sort_int_int.lays g 0 cap l0 w (Go.holds_of_blockI hb (by rw [Nat.mul_one] at htake;exact htake)) hgw hsz).mono ?_
 rintro e w' ⟨rfl,q,os,rfl⟩
 have hgr:=Go.grownBy_sortedI (w:=w) (g:=g) (n:=q) (os:=os) (l0.mergeSort fun x y=>decide (x≤y)).toArray
 refine ⟨rfl,?_,pw_below_grown hB (some g) hB.size hgr (fun k hk=>by cases hk;exact hg),Kept.of_grown hgr (Kept.refl _ _) (fun k hk=>by cases hk;exact .inl (hP g rfl))⟩
 have hl:(l0.mergeSort fun x y=>decide (x≤y)).length=l0.length:=List.length_mergeSort _
 refine Kd.R_of_own ?_ (fun k hk=>.inl (hP k hk))
 rw [hl]
 exact Go.ownsRow_sortedI (n:=q) (os:=os) hl hg hb hn hcap hcur
def slices_Compact_int_int.lays_ren:Go.Shelf.Ren:=⟨fun|20=>81|n=>n,fun|22=>37|3=>3|4=>4|0=>0|n=>n,fun|n=>n⟩
theorem slices_Compact_int_int.lays:Go.Proofs.Lays2.n20 Try.prog slices_Compact_int_int.lays_ren:={
  mixed:=by kernel_rfl
  f20:=Try.func81.trans (congrArg some (by kernel_rfl))
  t0:=Try.underlying0
  a0:=Try.isAgg0
  z0:=Try.sizeOf0
  v0:=Try.zeroValue0
  t3:=Try.underlying3
  a3:=Try.isAgg3
  z3:=Try.sizeOf3
  v3:=Try.zeroValue3
  t4:=Try.underlying4
  a4:=Try.isAgg4
  z4:=Try.sizeOf4
  v4:=Try.zeroValue4
  t22:=Try.underlying37
  a22:=Try.isAgg37
  z22:=Try.sizeOf37
  v22:=Try.zeroValue37
  i3:=by kernel_rfl }
def slices_Compact_int_int.f (l0:List Int):Option (List Int):=some (Lib.compact l0)
theorem slices_Compact_int_int.le (l:List Int):(Lib.compact l).length≤l.length:=by
 unfold Lib.compact Lib.compactUpTo
 rw [List.length_map]
 exact Nat.le_trans (List.length_filter_le _ _) (by simp)
theorem slices_Compact_int_int.calls (P0_:Nat→Prop) (u9000_:Value) (l0:List Int) (r:List Int) (w0 w:World) (hB:Below w0.heap.size w0 w) (ho0:Kd.R (Kd.int .i64) 3 w w0.heap.size P0_ u9000_ l0) (h:slices_Compact_int_int.f l0=some r) :
    Calls Try.prog 81 #[u9000_] w fun e w'=>∃ v0_:Value,e=.returned (v0_)∧Kd.R (Kd.int .i64) 3 w' w0.heap.size (fun k_=>(P0_ k_∨w.heap.size≤k_)) v0_ r∧Below w0.heap.size w0 w'∧Kept w w' (fun k_=>P0_ k_):=by
 obtain rfl:=Option.some.inj h
 have hP:=ho0.1
 have ho:=Kd.own_of_R ho0
 rcases ho.2 with ⟨rfl,hn⟩|⟨g,cap,cur,rfl,hg,hb,hn,hcap,hcur,htake⟩
 ·obtain rfl:l0=[]:=List.eq_nil_of_length_eq_zero hn
  refine (Any.slices_Compact_int_empty slices_Compact_int_int.lays none 0 w).mono ?_
  rintro e w' ⟨rfl,rfl⟩
  exact ⟨_,rfl,Kd.R_mono ho0 (fun k hk=>.inl hk),hB,Kept.refl _ _⟩
 have hgw:g < w.heap.size:=blk_lt hb
 have hle:(Lib.compact l0).length≤l0.length:=slices_Compact_int_int.le l0
 refine (Any.slices_Compact_int slices_Compact_int_int.lays g 0 cap l0 w (Go.holds_of_blockI hb (by rw [Nat.mul_one] at htake;exact htake)) (Nat.le_trans hn (Nat.le_trans hcap (by decide))) hn).mono ?_
 rintro e w' ⟨rfl,q,rfl⟩
 have hw : ∀ d:Array Int,Go.Sort.putRow (Value.int .i64) (Go.Sort.ahead w q) g 0 d=Go.Sort.grow (Go.Sort.putRow (Value.int .i64) (Go.Sort.ahead w q) g 0 d) #[]:=fun d=>(Go.Sort.grow_empty _).symm
 rw [hw]
 have hgr:=Go.grownBy_sortedI (w:=w) (g:=g) (n:=q) (os:=#[]) (Lib.compact l0 ++ List.replicate (l0.length - (Lib.compact l0).length) 0).toArray
 refine ⟨_,rfl,?_,pw_below_grown hB (some g) hB.size hgr (fun k hk=>by cases hk;exact hg),Kept.of_grown hgr (Kept.refl _ _) (fun k hk=>by cases hk;exact .inl (hP g rfl))⟩
 refine Kd.R_of_own ?_ (fun k hk=>.inl (hP k hk))
 have hl:(Lib.compact l0 ++ List.replicate (l0.length - (Lib.compact l0).length) 0).length=l0.length:=by simp;omega
 refine ⟨by simp [encs],.inr ⟨g,cap,_,rfl,hg,Go.heap_sortedI _ hb,by omega,hcap,by simpa [Go.Sort.putCells] using hcur,?_⟩⟩
 have ht:=Go.take_putCellsI cur (Lib.compact l0 ++ List.replicate (l0.length - (Lib.compact l0).length) 0) (by omega)
 have h2:=congrArg (List.take (Lib.compact l0).length) ht
 rw [List.take_take,Nat.min_eq_left (by omega),List.map_append,List.take_left' (by simp)] at h2
 rw [Nat.mul_one]
 exact h2
def impl_callsOf.l0:Nat→Int→List Int→List (S86)→Int→Int→Option (List Int)
  | 0,_,_,_,_,_=>none
  | k+1,x1,x5,x8,x9,x10=>if x10 < x9 then (if 0≤x10 then (if x10 < (x8.length:Int) then (if ((rd_T86 x8 x10).f0)=3 then (if ((rd_T86 x8 x10).f1)=1 then (if x5.length < 17592186044416 then (impl_callsOf.l0 k x1 (x5 ++ [wrap64 ((wrap64 (x1+(wrap64 (4*x10))))+((rd_T86 x8 x10).f4))]) x8 x9 (wrap64 (x10+1))) else (none)) else (impl_callsOf.l0 k x1 x5 x8 x9 (wrap64 (x10+1)))) else (impl_callsOf.l0 k x1 x5 x8 x9 (wrap64 (x10+1)))) else (none)) else (none)) else ((slices_Sort_int_int.f x5).bind fun t501=>((slices_Compact_int_int.f t501).bind fun t502=>(some t502)))
def impl_callsOf.f (k:Nat) (l0:List (S86)) (a1:Int):Option (List Int):=impl_callsOf.l0 k a1 ([]:List Int) l0 (l0.length:Int) 0
theorem impl_callsOf.mono_l : ∀ k,(∀ y0 y1 y2 y3 y4,LeO (impl_callsOf.l0 k y0 y1 y2 y3 y4) (impl_callsOf.l0 (k+1) y0 y1 y2 y3 y4))
  | 0=>fun _ _ _ _ _ r h=>by simp [impl_callsOf.l0] at h
  | k+1=>by
    have ih0:=impl_callsOf.mono_l k
    · intro y0 y1 y2 y3 y4
      unfold impl_callsOf.l0
      repeat' (with_reducible first|apply ih0|apply LeO.refl|apply LeO.none|apply LeO.ite|refine LeO.bind ?_ (fun _=>?_))
theorem impl_callsOf.mono : ∀ a0 a1 k,LeO (impl_callsOf.f k a0 a1) (impl_callsOf.f (k+1) a0 a1):=by
 intro a0 a1 k
 have ih0:=impl_callsOf.mono_l k
 unfold impl_callsOf.f
 repeat' (with_reducible first|apply ih0|apply LeO.refl|apply LeO.none|apply LeO.ite|refine LeO.bind ?_ (fun _=>?_))
set_option maxHeartbeats 8000000 in
set_option maxRecDepth 100000 in
theorem impl_callsOf.calls (k:Nat) (A0:Option Addr) (c0:Nat) (l0:List (S86)) (a1:Int) (r:List Int) (w:World) (hr0:Kd.C k86 w A0 l0.length l0) (hc0:l0.length≤c0) (h:impl_callsOf.f k l0 a1=some r) :
    Calls Try.prog 50 #[.slice A0 l0.length c0,.int .i64 a1] w fun e w'=>∃ v0_:Value,e=.returned (v0_)∧Kd.R (Kd.int .i64) 3 w' w.heap.size (fun _=>True) v0_ r∧Below w.heap.size w w':=by
 have hu86:=Try.underlying86
 have HR0:=Aside0.mk hr0
 have HC0:=Aside0.mk hc0
 clear hr0 hc0
 have HB:=Aside0.mk (Below.refl w.heap.size w)
 have H:(impl_callsOf.l0 k a1 ([]:List Int) l0 (l0.length:Int) 0)=some r:=h
 clear h
 have H':=Aside0.mk H
 clear H
 go_enter Try.func50,Try.ntmps50
 go_wp2
 go_loopg [5,10] k (fun kq v5 v10 w'=>∃ (x5_1:List Int) (x10_1:Int),v10=.int .i64 x10_1∧Aside0 (impl_callsOf.l0 kq a1 x5_1 l0 (l0.length:Int) x10_1=some r)∧Aside0 (kq≤k)∧Aside0 (Kd.R (Kd.int .i64) 3 w' w.heap.size (fun _=>True) v5 x5_1)∧Aside0 (Below w.heap.size w w'))
 case atStart=>exact ⟨(([]:List Int)),(0),(by first|rfl|(simp;done)|(simp [*];done)),H',⟨Nat.le_refl _⟩,⟨by first|exact Kd.R_nil _ _ _ _ _|exact Kd.N_nil _ _ _ _ _|exact Kd.V_nil _ _ _ _ _|exact Kd.Q_nil _ _ _ _ _|exact Kd.S_nil _ _ _ _ _⟩,⟨by repeat (with_reducible first|exact HB.out|apply Q4|apply Q5|apply Q6)⟩⟩
 clear H'
 obtain ⟨x5_1,x10_1,rfl,HA,HK1,HO_5,HB⟩:=hrel
 cases gk with
 | zero=>exact absurd HA.out (by simp [impl_callsOf.l0])
 | succ k1 =>
  have H:=HA.out
  clear HA
  simp only [impl_callsOf.l0] at H
  by_cases c3:x10_1 < (l0.length:Int)
  ·rw [if_pos c3] at H
   have c3b0:decide (x10_1 < (l0.length:Int))=true:=decide_eq_true c3
   clear c3
   by_cases c4:0≤x10_1
   ·rw [if_pos c4] at H
    have c4b0:decide (0≤x10_1)=true:=decide_eq_true c4
    clear c4
    by_cases c5:x10_1 < (l0.length:Int)
    ·rw [if_pos c5] at H
     have c5b0:decide (x10_1 < (l0.length:Int))=true:=decide_eq_true c5
     clear c5
     by_cases c6:((rd_T86 l0 x10_1).f0)=3
     ·rw [if_pos c6] at H
      obtain ⟨c6b0,c6b1⟩:=eqP c6
      clear c6
      by_cases c7:((rd_T86 l0 x10_1).f1)=1
      ·rw [if_pos c7] at H
       obtain ⟨c7b0,c7b1⟩:=eqP c7
       clear c7
       by_cases c8:x5_1.length < 17592186044416
       ·rw [if_pos c8] at H
        have LMc8:=Aside0.mk c8
        clear c8
        obtain ⟨y498,hy498⟩ : ∃ y_:List Int,y_=(x5_1 ++ [wrap64 ((wrap64 (a1+(wrap64 (4*x10_1))))+((rd_T86 l0 x10_1).f4))]):=⟨_,rfl⟩
        replace H:(impl_callsOf.l0 k1 a1 y498 l0 (l0.length:Int) (wrap64 (x10_1+1)))=some r:=by first|(rw [hy498];with_reducible exact H)|(have H2_:=(Option.bind_some _ _).symm.trans H;rw [hy498];with_reducible exact H2_)|(have H2_:=(Option.bind_some _ _).symm.trans H;with_reducible exact H2_)|with_reducible exact H|(rw [hy498];exact H)|exact H
        have Ny498:=Aside0.mk hy498
        clear hy498
        have H':=Aside0.mk H
        clear H
        have p496:0≤(x10_1:Int):=of_decide_eq_true (by first|(with_reducible assumption)|assumption)
        have q496:x10_1 < (l0.length:Int):=of_decide_eq_true (by first|(with_reducible assumption)|assumption)
        obtain ⟨ad496,e496,hx496_0,hx496_1,hx496_2,hx496_3,hx496_4⟩:=at_T86 HR0.out x10_1 p496 q496
        cases e496
        replace hx496_0:=(HB.out.cell (World.block_lt_of_cell? w _ hx496_0)).trans hx496_0
        replace hx496_1:=(HB.out.cell (World.block_lt_of_cell? w _ hx496_1)).trans hx496_1
        replace hx496_2:=(HB.out.cell (World.block_lt_of_cell? w _ hx496_2)).trans hx496_2
        replace hx496_3:=(HB.out.cell (World.block_lt_of_cell? w _ hx496_3)).trans hx496_3
        replace hx496_4:=(HB.out.cell (World.block_lt_of_cell? w _ hx496_4)).trans hx496_4
        replace p496:=eq_true p496
        replace q496:=eq_true q496
        go_wp2_with (first|((with_reducible refine gate_dst (N:=7) rfl ?_);refine box_event ?hg (N:=7) ?hd (cs:=#[.int .i64 0,.int .i64 0,.int .i64 0,.int .i64 0,.int .i64 0]) (t:=86) ?hr ?_;(case hd=>rfl);(case hg=>rfl);(case hr=>first|(go_simp;done)|(go_simp;rfl));intro gb497 hg w9 hbox hb;have n0_:=Aside0.mk (Kd.R_below (by (with_reducible repeat (first|apply Kd.R_alloc|apply Kd.R_drewN|apply Kd.R_drew));exact HO_5.out) hb);have n1_:=Aside0.mk (below_step (by repeat (with_reducible first|exact HB.out|apply Q4|apply Q5|apply Q6)) hb);have n2_:=Aside0.mk (hbox);have n3_:=Aside0.mk ((by rw [hg];exact (below_size (by repeat (with_reducible first|exact HB.out|apply Q4|apply Q5|apply Q6))):w.heap.size≤gb497));have n4_:=Aside0.mk ((by rw [hg];exact (below_size (by repeat (with_reducible first|exact HB.out|apply Q4|apply Q5|apply Q6))):w.heap.size≤gb497));clear HO_5;clear HB;have HO_5:=n0_;have HB:=n1_;have BK497:=n2_;have GW497:=n3_;have GE497:=n4_;clear n0_ n1_ n2_ n3_ n4_;clear hb hbox hg;have hcz10_0:w9.cell? ⟨gb497,0,none⟩=some (.int .i64 0):=(blk_cell BK497.out 0).trans rfl;have hcz10_1:w9.cell? ⟨gb497,1,none⟩=some (.int .i64 0):=(blk_cell BK497.out 1).trans rfl;have hcz10_2:w9.cell? ⟨gb497,2,none⟩=some (.int .i64 0):=(blk_cell BK497.out 2).trans rfl;have hcz10_3:w9.cell? ⟨gb497,3,none⟩=some (.int .i64 0):=(blk_cell BK497.out 3).trans rfl;have hcz10_4:w9.cell? ⟨gb497,4,none⟩=some (.int .i64 0):=(blk_cell BK497.out 4).trans rfl;have hfz10_0:=blk_frozen BK497.out 0;have hfz10_1:=blk_frozen BK497.out 1;have hfz10_2:=blk_frozen BK497.out 2;have hfz10_3:=blk_frozen BK497.out 3;have hfz10_4:=blk_frozen BK497.out 4)|((with_reducible refine gate_builtin (b:=.append) (xs:=#[.tmp 23,.tmp 31]) rfl ?_);at_builtin;refine Kd.R_append (Kd.int .i64) (w0:=w) w.heap.size rfl (.tmp 23) (.tmp 31) 37 3 (.int .i64 0) 8 rfl Try.underlying37 info3 rfl (by decide) (by omega) u5 x5_1 (wrap64 ((wrap64 (a1+(wrap64 (4*x10_1))))+((rd_T86 l0 x10_1).f4))) [.int .i64 (wrap64 ((wrap64 (a1+(wrap64 (4*x10_1))))+((rd_T86 l0 x10_1).f4)))] (fun _=>True) (fun _=>False) rfl (by first|(go_simp;done)|(go_simp;rfl)) ?aP (fun _ hk=>hk.elim) ?aF ?aO ?aB ?aS ?aL ?_;(case aP=>exact rfl);(case aB=>exact (by repeat (with_reducible first|exact HB.out|apply Q4|apply Q5|apply Q6|apply Q7 GE497.out)));(case aF=>exact (fun _ _=>trivial));(case aO=>exact (by (with_reducible repeat (first|apply Kd.R_alloc|apply Kd.R_drewN|apply Kd.R_drew));exact Kd.R_mono (Kd.R_far (p:=⟨gb497,4,none⟩) (Kd.R_far (p:=⟨gb497,3,none⟩) (Kd.R_far (p:=⟨gb497,2,none⟩) (Kd.R_far (p:=⟨gb497,1,none⟩) (Kd.R_far (p:=⟨gb497,0,none⟩) (Kd.R_types HO_5.out BK497.out (by decide)) (fun _ hk=>hk.2) (.int .i64 ((rd_T86 l0 x10_1).f0))) (fun _ hk=>hk.2) (.int .i64 ((rd_T86 l0 x10_1).f1))) (fun _ hk=>hk.2) (.int .i64 ((rd_T86 l0 x10_1).f2))) (fun _ hk=>hk.2) (.int .i64 ((rd_T86 l0 x10_1).f3))) (fun _ hk=>hk.2) (.int .i64 ((rd_T86 l0 x10_1).f4))) (fun _ hk=>trivial)));(case aS=>exact (below_size (by repeat (with_reducible first|exact HB.out|apply Q4|apply Q5|apply Q6|apply Q7 GE497.out))));(case aL=>have:=LMc8.out;omega);intro v499 w11 ho hb hg hat;rw [← Ny498.out] at ho;have n0_:=Aside0.mk (blk_grown (g:=gb497) (o:=.cells #[.int .i64 ((rd_T86 l0 x10_1).f0),.int .i64 ((rd_T86 l0 x10_1).f1),.int .i64 ((rd_T86 l0 x10_1).f2),.int .i64 ((rd_T86 l0 x10_1).f3),.int .i64 ((rd_T86 l0 x10_1).f4)] 86 (0,0)) (by (with_reducible repeat first|apply Q1|apply Q2|apply Q3);refine blk_put (cs:=#[.int .i64 ((rd_T86 l0 x10_1).f0),.int .i64 ((rd_T86 l0 x10_1).f1),.int .i64 ((rd_T86 l0 x10_1).f2),.int .i64 ((rd_T86 l0 x10_1).f3),.int .i64 0]) ?_ 4 _ rfl;(with_reducible repeat first|apply Q1|apply Q2|apply Q3);refine blk_put (cs:=#[.int .i64 ((rd_T86 l0 x10_1).f0),.int .i64 ((rd_T86 l0 x10_1).f1),.int .i64 ((rd_T86 l0 x10_1).f2),.int .i64 0,.int .i64 0]) ?_ 3 _ rfl;(with_reducible repeat first|apply Q1|apply Q2|apply Q3);refine blk_put (cs:=#[.int .i64 ((rd_T86 l0 x10_1).f0),.int .i64 ((rd_T86 l0 x10_1).f1),.int .i64 0,.int .i64 0,.int .i64 0]) ?_ 2 _ rfl;(with_reducible repeat first|apply Q1|apply Q2|apply Q3);refine blk_put (cs:=#[.int .i64 ((rd_T86 l0 x10_1).f0),.int .i64 0,.int .i64 0,.int .i64 0,.int .i64 0]) ?_ 1 _ rfl;(with_reducible repeat first|apply Q1|apply Q2|apply Q3);refine blk_put (cs:=#[.int .i64 0,.int .i64 0,.int .i64 0,.int .i64 0,.int .i64 0]) ?_ 0 _ rfl;(with_reducible repeat first|apply Q1|apply Q2|apply Q3);exact BK497.out) hg (Kd.R_ne HO_5.out BK497.out (by decide)));have n1_:=Aside0.mk (hb);have n2_:=Aside0.mk (ho);clear BK497;clear HB;clear HO_5;have BK497:=n0_;have HB:=n1_;have HO500:=n2_;clear n0_ n1_ n2_;clear ho hb hg hat))
        go_roundg k1
        case measure=>have:=HK1.out;omega
        case rel=>exact ⟨(y498),(wrap64 (x10_1+1)),(by first|rfl|(simp;done)|(simp [*];done)),H',⟨by have:=HK1.out;omega⟩,⟨by (with_reducible repeat (first|apply Kd.R_alloc|apply Kd.R_drewN|apply Kd.R_drew));exact HO500.out⟩,⟨by repeat (with_reducible first|exact HB.out|apply Q4|apply Q5|apply Q6|apply Q7 GE497.out)⟩⟩
       rw [if_neg c8] at H
       exact absurd H (by simp)
      rw [if_neg c7] at H
      obtain ⟨c7b0,c7b1⟩:=eqN c7
      have H':=Aside0.mk H
      clear H
      have p496:0≤(x10_1:Int):=of_decide_eq_true (by first|(with_reducible assumption)|assumption)
      have q496:x10_1 < (l0.length:Int):=of_decide_eq_true (by first|(with_reducible assumption)|assumption)
      obtain ⟨ad496,e496,hx496_0,hx496_1,hx496_2,hx496_3,hx496_4⟩:=at_T86 HR0.out x10_1 p496 q496
      cases e496
      replace hx496_0:=(HB.out.cell (World.block_lt_of_cell? w _ hx496_0)).trans hx496_0
      replace hx496_1:=(HB.out.cell (World.block_lt_of_cell? w _ hx496_1)).trans hx496_1
      replace hx496_2:=(HB.out.cell (World.block_lt_of_cell? w _ hx496_2)).trans hx496_2
      replace hx496_3:=(HB.out.cell (World.block_lt_of_cell? w _ hx496_3)).trans hx496_3
      replace hx496_4:=(HB.out.cell (World.block_lt_of_cell? w _ hx496_4)).trans hx496_4
      replace p496:=eq_true p496
      replace q496:=eq_true q496
      go_wp2_with (first|((with_reducible refine gate_dst (N:=7) rfl ?_);refine box_event ?hg (N:=7) ?hd (cs:=#[.int .i64 0,.int .i64 0,.int .i64 0,.int .i64 0,.int .i64 0]) (t:=86) ?hr ?_;(case hd=>rfl);(case hg=>rfl);(case hr=>first|(go_simp;done)|(go_simp;rfl));intro gb497 hg w12 hbox hb;have n0_:=Aside0.mk (Kd.R_below (by (with_reducible repeat (first|apply Kd.R_alloc|apply Kd.R_drewN|apply Kd.R_drew));exact HO_5.out) hb);have n1_:=Aside0.mk (below_step (by repeat (with_reducible first|exact HB.out|apply Q4|apply Q5|apply Q6)) hb);have n2_:=Aside0.mk (hbox);have n3_:=Aside0.mk ((by rw [hg];exact (below_size (by repeat (with_reducible first|exact HB.out|apply Q4|apply Q5|apply Q6))):w.heap.size≤gb497));have n4_:=Aside0.mk ((by rw [hg];exact (below_size (by repeat (with_reducible first|exact HB.out|apply Q4|apply Q5|apply Q6))):w.heap.size≤gb497));clear HO_5;clear HB;have HO_5:=n0_;have HB:=n1_;have BK497:=n2_;have GW497:=n3_;have GE497:=n4_;clear n0_ n1_ n2_ n3_ n4_;clear hb hbox hg;have hcz13_0:w12.cell? ⟨gb497,0,none⟩=some (.int .i64 0):=(blk_cell BK497.out 0).trans rfl;have hcz13_1:w12.cell? ⟨gb497,1,none⟩=some (.int .i64 0):=(blk_cell BK497.out 1).trans rfl;have hcz13_2:w12.cell? ⟨gb497,2,none⟩=some (.int .i64 0):=(blk_cell BK497.out 2).trans rfl;have hcz13_3:w12.cell? ⟨gb497,3,none⟩=some (.int .i64 0):=(blk_cell BK497.out 3).trans rfl;have hcz13_4:w12.cell? ⟨gb497,4,none⟩=some (.int .i64 0):=(blk_cell BK497.out 4).trans rfl;have hfz13_0:=blk_frozen BK497.out 0;have hfz13_1:=blk_frozen BK497.out 1;have hfz13_2:=blk_frozen BK497.out 2;have hfz13_3:=blk_frozen BK497.out 3;have hfz13_4:=blk_frozen BK497.out 4))
      go_roundg k1
      case measure=>have:=HK1.out;omega
      case rel=>exact ⟨(x5_1),(wrap64 (x10_1+1)),(by first|rfl|(simp;done)|(simp [*];done)),H',⟨by have:=HK1.out;omega⟩,⟨by (with_reducible repeat (first|apply Kd.R_alloc|apply Kd.R_drewN|apply Kd.R_drew));exact Kd.R_mono (Kd.R_far (p:=⟨gb497,4,none⟩) (Kd.R_far (p:=⟨gb497,3,none⟩) (Kd.R_far (p:=⟨gb497,2,none⟩) (Kd.R_far (p:=⟨gb497,1,none⟩) (Kd.R_far (p:=⟨gb497,0,none⟩) (Kd.R_types HO_5.out BK497.out (by decide)) (fun _ hk=>hk.2) (.int .i64 ((rd_T86 l0 x10_1).f0))) (fun _ hk=>hk.2) (.int .i64 ((rd_T86 l0 x10_1).f1))) (fun _ hk=>hk.2) (.int .i64 ((rd_T86 l0 x10_1).f2))) (fun _ hk=>hk.2) (.int .i64 ((rd_T86 l0 x10_1).f3))) (fun _ hk=>hk.2) (.int .i64 ((rd_T86 l0 x10_1).f4))) (fun _ hk=>trivial)⟩,⟨by repeat (with_reducible first|exact HB.out|apply Q4|apply Q5|apply Q6|apply Q7 GE497.out)⟩⟩
     rw [if_neg c6] at H
     obtain ⟨c6b0,c6b1⟩:=eqN c6
     have H':=Aside0.mk H
     clear H
     have p496:0≤(x10_1:Int):=of_decide_eq_true (by first|(with_reducible assumption)|assumption)
     have q496:x10_1 < (l0.length:Int):=of_decide_eq_true (by first|(with_reducible assumption)|assumption)
     obtain ⟨ad496,e496,hx496_0,hx496_1,hx496_2,hx496_3,hx496_4⟩:=at_T86 HR0.out x10_1 p496 q496
     cases e496
     replace hx496_0:=(HB.out.cell (World.block_lt_of_cell? w _ hx496_0)).trans hx496_0
     replace hx496_1:=(HB.out.cell (World.block_lt_of_cell? w _ hx496_1)).trans hx496_1
     replace hx496_2:=(HB.out.cell (World.block_lt_of_cell? w _ hx496_2)).trans hx496_2
     replace hx496_3:=(HB.out.cell (World.block_lt_of_cell? w _ hx496_3)).trans hx496_3
     replace hx496_4:=(HB.out.cell (World.block_lt_of_cell? w _ hx496_4)).trans hx496_4
     replace p496:=eq_true p496
     replace q496:=eq_true q496
     go_wp2_with (first|((with_reducible refine gate_dst (N:=7) rfl ?_);refine box_event ?hg (N:=7) ?hd (cs:=#[.int .i64 0,.int .i64 0,.int .i64 0,.int .i64 0,.int .i64 0]) (t:=86) ?hr ?_;(case hd=>rfl);(case hg=>rfl);(case hr=>first|(go_simp;done)|(go_simp;rfl));intro gb497 hg w14 hbox hb;have n0_:=Aside0.mk (Kd.R_below (by (with_reducible repeat (first|apply Kd.R_alloc|apply Kd.R_drewN|apply Kd.R_drew));exact HO_5.out) hb);have n1_:=Aside0.mk (below_step (by repeat (with_reducible first|exact HB.out|apply Q4|apply Q5|apply Q6)) hb);have n2_:=Aside0.mk (hbox);have n3_:=Aside0.mk ((by rw [hg];exact (below_size (by repeat (with_reducible first|exact HB.out|apply Q4|apply Q5|apply Q6))):w.heap.size≤gb497));have n4_:=Aside0.mk ((by rw [hg];exact (below_size (by repeat (with_reducible first|exact HB.out|apply Q4|apply Q5|apply Q6))):w.heap.size≤gb497));clear HO_5;clear HB;have HO_5:=n0_;have HB:=n1_;have BK497:=n2_;have GW497:=n3_;have GE497:=n4_;clear n0_ n1_ n2_ n3_ n4_;clear hb hbox hg;have hcz15_0:w14.cell? ⟨gb497,0,none⟩=some (.int .i64 0):=(blk_cell BK497.out 0).trans rfl;have hcz15_1:w14.cell? ⟨gb497,1,none⟩=some (.int .i64 0):=(blk_cell BK497.out 1).trans rfl;have hcz15_2:w14.cell? ⟨gb497,2,none⟩=some (.int .i64 0):=(blk_cell BK497.out 2).trans rfl;have hcz15_3:w14.cell? ⟨gb497,3,none⟩=some (.int .i64 0):=(blk_cell BK497.out 3).trans rfl;have hcz15_4:w14.cell? ⟨gb497,4,none⟩=some (.int .i64 0):=(blk_cell BK497.out 4).trans rfl;have hfz15_0:=blk_frozen BK497.out 0;have hfz15_1:=blk_frozen BK497.out 1;have hfz15_2:=blk_frozen BK497.out 2;have hfz15_3:=blk_frozen BK497.out 3;have hfz15_4:=blk_frozen BK497.out 4))
     go_roundg k1
     case measure=>have:=HK1.out;omega
     case rel=>exact ⟨(x5_1),(wrap64 (x10_1+1)),(by first|rfl|(simp;done)|(simp [*];done)),H',⟨by have:=HK1.out;omega⟩,⟨by (with_reducible repeat (first|apply Kd.R_alloc|apply Kd.R_drewN|apply Kd.R_drew));exact Kd.R_mono (Kd.R_far (p:=⟨gb497,4,none⟩) (Kd.R_far (p:=⟨gb497,3,none⟩) (Kd.R_far (p:=⟨gb497,2,none⟩) (Kd.R_far (p:=⟨gb497,1,none⟩) (Kd.R_far (p:=⟨gb497,0,none⟩) (Kd.R_types HO_5.out BK497.out (by decide)) (fun _ hk=>hk.2) (.int .i64 ((rd_T86 l0 x10_1).f0))) (fun _ hk=>hk.2) (.int .i64 ((rd_T86 l0 x10_1).f1))) (fun _ hk=>hk.2) (.int .i64 ((rd_T86 l0 x10_1).f2))) (fun _ hk=>hk.2) (.int .i64 ((rd_T86 l0 x10_1).f3))) (fun _ hk=>hk.2) (.int .i64 ((rd_T86 l0 x10_1).f4))) (fun _ hk=>trivial)⟩,⟨by repeat (with_reducible first|exact HB.out|apply Q4|apply Q5|apply Q6|apply Q7 GE497.out)⟩⟩
    rw [if_neg c5] at H
    exact absurd H (by simp)
   rw [if_neg c4] at H
   exact absurd H (by simp)
  rw [if_neg c3] at H
  have c3b0:decide (x10_1 < (l0.length:Int))=false:=decide_eq_false c3
  clear c3
  obtain ⟨t501,A16,H⟩:=bindA H
  obtain ⟨t502,A17,H⟩:=bindA H
  obtain rfl:=Option.some.inj H
  obtain ⟨Ao18,co18,eo18⟩:=Kd.R_slice HO_5.out
  subst eo18
  go_wp2_with (first|((with_reducible refine gate_callee (f:=80) rfl ?_);refine goesL_ (some 35) rfl rfl Try.func80 (by kernel_rfl) rfl #[.slice Ao18 x5_1.length co18] rfl (by (try simp only [List.map_toArray,List.map_cons,List.map_nil]);first|done|rfl|(simp only [List.length_drop,List.length_take];rfl)) ?_;(with_reducible refine (slices_Sort_int_int.calls (fun k_=>some k_=(.slice Ao18 x5_1.length co18:Value).ownBlock) (.slice Ao18 x5_1.length co18) x5_1 t501 w _ ?side1 ?side2 A16.out).mono ?_);(case side1=>repeat (first|(with_reducible first|exact HB.out|apply below_alloc|apply pw_below_drewN|apply below_drew1)|exact HB.out));(case side2=>exact Kd.R_tight rfl HO_5.out);rintro e w19 ⟨rfl,hy0,hb,hkp⟩;refine ⟨_,rfl,?_⟩;have n0_:=Aside0.mk (Kd.R_reok rfl hy0 (fun k_ e_=>HO_5.out.1 k_ e_));have n1_:=Aside0.mk (hb);clear HO_5;clear HB;have HO_5:=n0_;have HB:=n1_;clear n0_ n1_;(try clear hb);(try clear hkp);(try clear hy0))|((with_reducible refine gate_callee (f:=81) rfl ?_);refine goesL_ (some 37) rfl rfl Try.func81 (by kernel_rfl) rfl #[.slice Ao18 x5_1.length co18] rfl (by (try simp only [List.map_toArray,List.map_cons,List.map_nil]);first|done|rfl|(simp only [List.length_drop,List.length_take];rfl)) ?_;(with_reducible refine (slices_Compact_int_int.calls (fun k_=>some k_=(.slice Ao18 x5_1.length co18:Value).ownBlock) (.slice Ao18 x5_1.length co18) t501 t502 w _ ?side1 ?side2 A17.out).mono ?_);(case side1=>repeat (first|(with_reducible first|exact HB.out|apply below_alloc|apply pw_below_drewN|apply below_drew1)|exact HB.out));(case side2=>exact Kd.R_tight rfl HO_5.out);rintro e w20 ⟨v503,rfl,ho0,hb,hkp⟩;refine ⟨_,rfl,?_⟩;have n0_:=Aside0.mk (Kd.R_mono (ok':=fun k_=>True) ho0 (fun k_ hk_=>trivial));have n1_:=Aside0.mk (hb);clear HB;clear HO_5;have HO504:=n0_;have HB:=n1_;clear n0_ n1_;(try clear hb);(try clear hkp);(try clear ho0)))
  go_ret
  exact ⟨_,by first|rfl|(simp [errW_none,errW_some]<;>rfl)|(simp [*,errW_none,errW_some]<;>rfl),by (with_reducible repeat (first|apply Kd.R_alloc|apply Kd.R_drewN|apply Kd.R_drew));exact HO504.out,by repeat (with_reducible first|exact HB.out|apply Q4|apply Q5|apply Q6)⟩
def impl_CallsOf.f (k:Nat) (a0:ByteArray) (a1:Int):Option (List Int × Int):=(impl_isLong.f a0).bind fun t505=>(if t505=true then (some (([]:List Int),2)) else ((impl_isCodeAt.f a1).bind fun t506=>(if t506=true then ((impl_InstrsOf.f k a0).bind fun bt507=>(if bt507.2.2=0 then ((impl_callsOf.f k bt507.1 a1).bind fun t512=>(some (t512,0))) else (some (([]:List Int),bt507.2.2)))) else (some (([]:List Int),4)))))
theorem impl_CallsOf.mono : ∀ a0 a1 k,LeO (impl_CallsOf.f k a0 a1) (impl_CallsOf.f (k+1) a0 a1):=by
 intro a0 a1 k
 unfold impl_CallsOf.f
 repeat' (with_reducible first|apply impl_InstrsOf.mono|apply impl_callsOf.mono|apply LeO.refl|apply LeO.none|apply LeO.ite|refine LeO.bind ?_ (fun _=>?_))
set_option maxHeartbeats 8000000 in
set_option maxRecDepth 100000 in
theorem impl_CallsOf.calls (k:Nat) (a0:ByteArray) (a1:Int) (r1:List Int) (r2:Int) (w:World) (h:impl_CallsOf.f k a0 a1=some (r1,r2)) :
    Calls Try.prog 23 #[.string a0,.int .i64 a1] w fun e w'=>∃ v0_:Value,e=.returned (.tuple #[v0_,.int .i64 r2])∧Kd.R (Kd.int .i64) 3 w' w.heap.size (fun _=>True) v0_ r1∧Below w.heap.size w w':=by
 have HB:=Aside0.mk (Below.refl w.heap.size w)
 have H:((impl_isLong.f a0).bind fun t505=>(if t505=true then (some (([]:List Int),2)) else ((impl_isCodeAt.f a1).bind fun t506=>(if t506=true then ((impl_InstrsOf.f k a0).bind fun bt507=>(if bt507.2.2=0 then ((impl_callsOf.f k bt507.1 a1).bind fun t512=>(some (t512,0))) else (some (([]:List Int),bt507.2.2)))) else (some (([]:List Int),4))))))=some (r1,r2):=h
 clear h
 obtain ⟨t505,A3,H⟩:=bindA H
 by_cases c4:t505=true
 ·subst c4
  rw [if_pos rfl] at H
  simp only [Option.some.injEq,Prod.mk.injEq] at H
  obtain ⟨rfl,rfl⟩:=H
  go_enter Try.func23,Try.ntmps23
  go_wp2_with (first|((with_reducible refine gate_callee (f:=36) rfl ?_);refine goesL_ (some 10) rfl rfl Try.func36 (by kernel_rfl) rfl #[.string a0] rfl (by (try simp only [List.map_toArray,List.map_cons,List.map_nil]);first|done|rfl|(simp only [List.length_drop,List.length_take];rfl)) ?_;(with_reducible refine (impl_isLong.calls a0 true _ A3.out).mono ?_);rintro e w' ⟨rfl,⟨nd,rfl⟩⟩;refine ⟨_,rfl,?_⟩))
  go_ret2
  exact ⟨_,by first|rfl|(simp [errW_none,errW_some]<;>rfl)|(simp [*,errW_none,errW_some]<;>rfl),by first|exact Kd.R_nil _ _ _ _ _|exact Kd.N_nil _ _ _ _ _|exact Kd.V_nil _ _ _ _ _|exact Kd.Q_nil _ _ _ _ _|exact Kd.S_nil _ _ _ _ _,by repeat (with_reducible first|exact HB.out|apply Q4|apply Q5|apply Q6)⟩
 replace c4:=Bool.eq_false_iff.mpr c4
 subst c4
 rw [if_neg (show ¬ (false=true) by decide)] at H
 obtain ⟨t506,A5,H⟩:=bindA H
 by_cases c6:t506=true
 ·subst c6
  rw [if_pos rfl] at H
  obtain ⟨⟨t507,t508,t509⟩,A7,H⟩:=bindA H
  try dsimp only at H
  by_cases c8:t509=0
  ·rw [if_pos c8] at H
   obtain ⟨c8b0,c8b1⟩:=eqP c8
   clear c8
   obtain ⟨t512,A9,H⟩:=bindA H
   simp only [Option.some.injEq,Prod.mk.injEq] at H
   obtain ⟨rfl,rfl⟩:=H
   go_enter Try.func23,Try.ntmps23
   go_wp2_with (first|((with_reducible refine gate_callee (f:=36) rfl ?_);refine goesL_ (some 10) rfl rfl Try.func36 (by kernel_rfl) rfl #[.string a0] rfl (by (try simp only [List.map_toArray,List.map_cons,List.map_nil]);first|done|rfl|(simp only [List.length_drop,List.length_take];rfl)) ?_;(with_reducible refine (impl_isLong.calls a0 false _ A3.out).mono ?_);rintro e w' ⟨rfl,⟨nd,rfl⟩⟩;refine ⟨_,rfl,?_⟩)|((with_reducible refine gate_callee (f:=48) rfl ?_);refine goesL_ (some 12) rfl rfl Try.func48 (by kernel_rfl) rfl #[.int .i64 a1] rfl (by (try simp only [List.map_toArray,List.map_cons,List.map_nil]);first|done|rfl|(simp only [List.length_drop,List.length_take];rfl)) ?_;(with_reducible refine (impl_isCodeAt.calls a1 true _ A5.out).mono ?_);rintro e w' ⟨rfl,⟨nd,rfl⟩⟩;refine ⟨_,rfl,?_⟩)|((with_reducible refine gate_callee (f:=49) rfl ?_);refine goesL_ (some 16) rfl rfl Try.func49 (by kernel_rfl) rfl #[.string a0] rfl (by (try simp only [List.map_toArray,List.map_cons,List.map_nil]);first|done|rfl|(simp only [List.length_drop,List.length_take];rfl)) ?_;(with_reducible refine (impl_InstrsOf.calls k a0 t507 t508 t509 _ A7.out).mono ?_);rintro e w10 ⟨v510,rfl,ho0,hb⟩;refine ⟨_,rfl,?_⟩;have n0_:=Aside0.mk (Kd.R_lower ho0 (below_size (by repeat (with_reducible first|exact HB.out|apply Q4|apply Q5|apply Q6))));have n1_:=Aside0.mk (below_step (by repeat (with_reducible first|exact HB.out|apply Q4|apply Q5|apply Q6)) hb);clear HB;have HO511:=n0_;have HB:=n1_;clear n0_ n1_;(try clear hb);(try clear hb2);(try clear hk);(try clear hi);(try clear ho0);obtain ⟨Ao11,co11,eo11⟩:=Kd.R_slice HO511.out;subst eo11)|((with_reducible refine gate_callee (f:=50) rfl ?_);refine goesL_ (some 25) rfl rfl Try.func50 (by kernel_rfl) rfl #[.slice Ao11 t507.length co11,.int .i64 a1] rfl (by (try simp only [List.map_toArray,List.map_cons,List.map_nil]);first|done|rfl|(simp only [List.length_drop,List.length_take];rfl)) ?_;(with_reducible refine (impl_callsOf.calls k _ _ t507 a1 t512 _ ?side1 ?side2 A9.out).mono ?_);(case side1=>repeat (first|exact (Kd.R_reads' HO511.out).2.2|(with_reducible refine Kd.C_alloc ?_ _)|(with_reducible refine Kd.C_drewN ?_ _)|(with_reducible refine Kd.C_drew ?_)));(case side2=>exact (Kd.R_reads' HO511.out).2.1);rintro e w12 ⟨v513,rfl,ho0,hb⟩;refine ⟨_,rfl,?_⟩;have n0_:=Aside0.mk (Kd.R_below (by (with_reducible repeat (first|apply Kd.R_alloc|apply Kd.R_drewN|apply Kd.R_drew));exact HO511.out) hb);have n1_:=Aside0.mk (Kd.R_lower ho0 (below_size (by repeat (with_reducible first|exact HB.out|apply Q4|apply Q5|apply Q6))));have n2_:=Aside0.mk (below_step (by repeat (with_reducible first|exact HB.out|apply Q4|apply Q5|apply Q6)) hb);clear HO511;clear HB;have HO511:=n0_;have HO514:=n1_;have HB:=n2_;clear n0_ n1_ n2_;(try clear hb);(try clear hb2);(try clear hk);(try clear hi);(try clear ho0)))
   go_ret2
   exact ⟨_,by first|rfl|(simp [errW_none,errW_some]<;>rfl)|(simp [*,errW_none,errW_some]<;>rfl),by (with_reducible repeat (first|apply Kd.R_alloc|apply Kd.R_drewN|apply Kd.R_drew));exact HO514.out,by repeat (with_reducible first|exact HB.out|apply Q4|apply Q5|apply Q6)⟩
  rw [if_neg c8] at H
  obtain ⟨c8b0,c8b1⟩:=eqN c8
  simp only [Option.some.injEq,Prod.mk.injEq] at H
  obtain ⟨rfl,rfl⟩:=H
  go_enter Try.func23,Try.ntmps23
  go_wp2_with (first|((with_reducible refine gate_callee (f:=36) rfl ?_);refine goesL_ (some 10) rfl rfl Try.func36 (by kernel_rfl) rfl #[.string a0] rfl (by (try simp only [List.map_toArray,List.map_cons,List.map_nil]);first|done|rfl|(simp only [List.length_drop,List.length_take];rfl)) ?_;(with_reducible refine (impl_isLong.calls a0 false _ A3.out).mono ?_);rintro e w' ⟨rfl,⟨nd,rfl⟩⟩;refine ⟨_,rfl,?_⟩)|((with_reducible refine gate_callee (f:=48) rfl ?_);refine goesL_ (some 12) rfl rfl Try.func48 (by kernel_rfl) rfl #[.int .i64 a1] rfl (by (try simp only [List.map_toArray,List.map_cons,List.map_nil]);first|done|rfl|(simp only [List.length_drop,List.length_take];rfl)) ?_;(with_reducible refine (impl_isCodeAt.calls a1 true _ A5.out).mono ?_);rintro e w' ⟨rfl,⟨nd,rfl⟩⟩;refine ⟨_,rfl,?_⟩)|((with_reducible refine gate_callee (f:=49) rfl ?_);refine goesL_ (some 16) rfl rfl Try.func49 (by kernel_rfl) rfl #[.string a0] rfl (by (try simp only [List.map_toArray,List.map_cons,List.map_nil]);first|done|rfl|(simp only [List.length_drop,List.length_take];rfl)) ?_;(with_reducible refine (impl_InstrsOf.calls k a0 t507 t508 t509 _ A7.out).mono ?_);rintro e w13 ⟨v510,rfl,ho0,hb⟩;refine ⟨_,rfl,?_⟩;have n0_:=Aside0.mk (Kd.R_lower ho0 (below_size (by repeat (with_reducible first|exact HB.out|apply Q4|apply Q5|apply Q6))));have n1_:=Aside0.mk (below_step (by repeat (with_reducible first|exact HB.out|apply Q4|apply Q5|apply Q6)) hb);clear HB;have HO511:=n0_;have HB:=n1_;clear n0_ n1_;(try clear hb);(try clear hb2);(try clear hk);(try clear hi);(try clear ho0)))
  go_ret2
  exact ⟨_,by first|rfl|(simp [errW_none,errW_some]<;>rfl)|(simp [*,errW_none,errW_some]<;>rfl),by first|exact Kd.R_nil _ _ _ _ _|exact Kd.N_nil _ _ _ _ _|exact Kd.V_nil _ _ _ _ _|exact Kd.Q_nil _ _ _ _ _|exact Kd.S_nil _ _ _ _ _,by repeat (with_reducible first|exact HB.out|apply Q4|apply Q5|apply Q6)⟩
 replace c6:=Bool.eq_false_iff.mpr c6
 subst c6
 rw [if_neg (show ¬ (false=true) by decide)] at H
 simp only [Option.some.injEq,Prod.mk.injEq] at H
 obtain ⟨rfl,rfl⟩:=H
 go_enter Try.func23,Try.ntmps23
 go_wp2_with (first|((with_reducible refine gate_callee (f:=36) rfl ?_);refine goesL_ (some 10) rfl rfl Try.func36 (by kernel_rfl) rfl #[.string a0] rfl (by (try simp only [List.map_toArray,List.map_cons,List.map_nil]);first|done|rfl|(simp only [List.length_drop,List.length_take];rfl)) ?_;(with_reducible refine (impl_isLong.calls a0 false _ A3.out).mono ?_);rintro e w' ⟨rfl,⟨nd,rfl⟩⟩;refine ⟨_,rfl,?_⟩)|((with_reducible refine gate_callee (f:=48) rfl ?_);refine goesL_ (some 12) rfl rfl Try.func48 (by kernel_rfl) rfl #[.int .i64 a1] rfl (by (try simp only [List.map_toArray,List.map_cons,List.map_nil]);first|done|rfl|(simp only [List.length_drop,List.length_take];rfl)) ?_;(with_reducible refine (impl_isCodeAt.calls a1 false _ A5.out).mono ?_);rintro e w' ⟨rfl,⟨nd,rfl⟩⟩;refine ⟨_,rfl,?_⟩))
 go_ret2
 exact ⟨_,by first|rfl|(simp [errW_none,errW_some]<;>rfl)|(simp [*,errW_none,errW_some]<;>rfl),by first|exact Kd.R_nil _ _ _ _ _|exact Kd.N_nil _ _ _ _ _|exact Kd.V_nil _ _ _ _ _|exact Kd.Q_nil _ _ _ _ _|exact Kd.S_nil _ _ _ _ _,by repeat (with_reducible first|exact HB.out|apply Q4|apply Q5|apply Q6)⟩
def laws_markIntS.l0:Nat→List Int→Int→Int→Option (Int × List Int)
  | 0,_,_,_=>none
  | k+1,x0,x1,x5=>if x5 < (x0.length:Int) then (if 0≤x5 then (laws_markIntS.l0 k (x0.set (x5:Int).toNat x1) (wrap64 (x1+1)) (wrap64 (x5+1))) else (none)) else (some (x1,x0))
def laws_markIntS.f (k:Nat) (l0:List Int) (a1:Int):Option (Int × List Int):=laws_markIntS.l0 k l0 a1 0
theorem laws_markIntS.mono_l : ∀ k,(∀ y0 y1 y2,LeO (laws_markIntS.l0 k y0 y1 y2) (laws_markIntS.l0 (k+1) y0 y1 y2))
  | 0=>fun _ _ _ r h=>by simp [laws_markIntS.l0] at h
  | k+1=>by
    have ih0:=laws_markIntS.mono_l k
    · intro y0 y1 y2
      unfold laws_markIntS.l0
      repeat' (with_reducible first|apply ih0|apply LeO.refl|apply LeO.none|apply LeO.ite|refine LeO.bind ?_ (fun _=>?_))
theorem laws_markIntS.mono : ∀ a0 a1 k,LeO (laws_markIntS.f k a0 a1) (laws_markIntS.f (k+1) a0 a1):=by
 intro a0 a1 k
 have ih0:=laws_markIntS.mono_l k
 unfold laws_markIntS.f
 repeat' (with_reducible first|apply ih0|apply LeO.refl|apply LeO.none|apply LeO.ite|refine LeO.bind ?_ (fun _=>?_))
set_option maxHeartbeats 8000000 in
set_option maxRecDepth 100000 in
theorem laws_markIntS.calls (k:Nat) (P0_:Nat→Prop) (u9000_:Value) (l0:List Int) (a1:Int) (r1:Int) (r2:List Int) (w0 w:World) (hB:Below w0.heap.size w0 w) (ho0:Kd.R (Kd.int .i64) 3 w w0.heap.size P0_ u9000_ l0) (h:laws_markIntS.f k l0 a1=some (r1,r2)) :
    Calls Try.prog 24 #[u9000_,.int .i64 a1] w fun e w'=>e=.returned (.int .i64 r1)∧Kd.R (Kd.int .i64) 3 w' w0.heap.size (fun k_=>(P0_ k_∨w.heap.size≤k_)) u9000_ r2∧Below w0.heap.size w0 w'∧Kept w w' (fun k_=>P0_ k_):=by
 have HO0:=Aside0.mk (show Kd.R (Kd.int .i64) 3 w w0.heap.size (fun k_=>(P0_ k_∨w.heap.size≤k_)) u9000_ l0 from Kd.R_mono ho0 (fun k_ hk=>(.inl hk)))
 have HK:=Aside0.mk (Kept.refl w (fun k_=>P0_ k_))
 have HW0:=Aside0.mk hB.size
 have HB:=Aside0.mk hB
 clear hB
 have H:(laws_markIntS.l0 k l0 a1 0)=some (r1,r2):=h
 clear h
 have H':=Aside0.mk H
 clear H
 go_enter Try.func24,Try.ntmps24
 go_wp2
 go_loopg [1,5] k (fun kq v1 v5 w'=>∃ (x0_1:List Int) (x1_1:Int) (x5_1:Int),v1=.int .i64 x1_1∧v5=.int .i64 x5_1∧Aside0 (laws_markIntS.l0 kq x0_1 x1_1 x5_1=some (r1,r2))∧Aside0 (kq≤k)∧Aside0 (Kd.R (Kd.int .i64) 3 w' w0.heap.size (fun k_=>(P0_ k_∨w.heap.size≤k_)) u9000_ x0_1)∧Aside0 (Kept w w' (fun k_=>P0_ k_))∧Aside0 (Below w0.heap.size w0 w'))
 case atStart=>exact ⟨(l0),(a1),(0),(by first|rfl|(simp;done)|(simp [*];done)),(by first|rfl|(simp;done)|(simp [*];done)),H',⟨Nat.le_refl _⟩,⟨by (with_reducible repeat (first|apply Kd.R_alloc|apply Kd.R_drewN|apply Kd.R_drew));exact HO0.out⟩,⟨by repeat (first|(with_reducible first|exact HK.out|apply Kept.alloc|apply Kept.drewN|apply Kept.drew)|exact HK.out)⟩,⟨by repeat (with_reducible first|exact HB.out|apply Q4|apply Q5|apply Q6)⟩⟩
 clear H'
 obtain ⟨x0_1,x1_1,x5_1,rfl,rfl,HA,HK1,HO_0,HK,HB⟩:=hrel
 cases gk with
 | zero=>exact absurd HA.out (by simp [laws_markIntS.l0])
 | succ k1 =>
  have H:=HA.out
  clear HA
  simp only [laws_markIntS.l0] at H
  by_cases c3:x5_1 < (x0_1.length:Int)
  ·rw [if_pos c3] at H
   have c3b0:decide (x5_1 < (x0_1.length:Int))=true:=decide_eq_true c3
   clear c3
   by_cases c4:0≤x5_1
   ·rw [if_pos c4] at H
    have c4b0:decide (0≤x5_1)=true:=decide_eq_true c4
    clear c4
    obtain ⟨y515,hy515⟩ : ∃ y_:List Int,y_=(x0_1.set (x5_1:Int).toNat x1_1):=⟨_,rfl⟩
    replace H:(laws_markIntS.l0 k1 y515 (wrap64 (x1_1+1)) (wrap64 (x5_1+1)))=some (r1,r2):=by first|(rw [hy515];with_reducible exact H)|(have H2_:=(Option.bind_some _ _).symm.trans H;rw [hy515];with_reducible exact H2_)|(have H2_:=(Option.bind_some _ _).symm.trans H;with_reducible exact H2_)|with_reducible exact H|(rw [hy515];exact H)|exact H
    have Ny515:=Aside0.mk hy515
    clear hy515
    have H':=Aside0.mk H
    clear H
    obtain ⟨Ao6,co6,eo6⟩:=Kd.R_slice HO_0.out
    subst eo6
    have p5:0≤(x5_1:Int):=of_decide_eq_true (by first|(with_reducible assumption)|assumption)
    have q5:(x5_1:Int) < ((x0_1.length:Int):Int):=of_decide_eq_true (by first|(with_reducible assumption)|assumption)
    obtain ⟨go5,co5,eo5,gb5,gl5,cl5,HG5⟩:=Kd.R_form HO_0.out (by omega)
    (first|cases eo5|(injection eo5 with ea_ en_ ec_;(first|subst ea_|(injection ea_ with ea_;subst ea_));subst ec_;clear en_))
    have GB5:=Aside0.mk gb5
    have GG5:=Aside0.mk HG5
    clear gb5 gl5 HG5
    have HMgo5:=Aside0.mk (show (P0_ go5∨w.heap.size≤go5) from (HO_0.out.1 _ rfl))
    obtain ⟨hx5_0,hf5_0⟩:=Kd.R_celln 0 HO_0.out (x5_1:Int) p5 q5
    replace p5:=eq_true p5
    replace q5:=eq_true q5
    have HP7:=Kd.R_putg HO_0.out (x5_1:Int) x1_1
    go_wp2_with (first|((with_reducible refine gate_store (t:=3) (p:=15) rfl ?_);refine store_event (t:=3) (p:=15) (v:=?vo_w8) (w1:=(wr.setCell ⟨go5,(x5_1:Int).toNat,none⟩ (.int .i64 x1_1))) ?hg ?ho ?hn ?hr ?_;(case ho=>rfl);(case hg=>rfl);(case hn=>rfl);(case hr=>first|(go_simp;done)|(go_simp;rfl));intro w8 hw;have hg:wr.grownBy w8 (some go5):=(by rw [hw];exact HP7.2);have hp_:Kd.R (Kd.int .i64) 3 w8 w0.heap.size (fun k_=>(P0_ k_∨w.heap.size≤k_)) (.slice (some ⟨go5,0,none⟩) x0_1.length co6) y515:=(by rw [hw,Ny515.out];exact HP7.1);clear HP7;have n0_:=Aside0.mk (hp_);have n1_:=Aside0.mk ((by rw [hw];exact below_set (HB.out) GB5.out:Below w0.heap.size w0 w8));have n2_:=Aside0.mk (Kept.of_grown (S:=(fun k_=>P0_ k_)) hg (by repeat (first|(with_reducible first|exact HK.out|apply Kept.alloc|apply Kept.drewN|apply Kept.drew)|exact HK.out)) (fun k_ e_=>(HO_0.out.1 k_ e_)));clear HO_0;clear HB;clear HK;have HO_0:=n0_;have HB:=n1_;have HK:=n2_;clear n0_ n1_ n2_;clear hg hw hp_))
    go_roundg k1
    case measure=>have:=HK1.out;omega
    case rel=>exact ⟨(y515),(wrap64 (x1_1+1)),(wrap64 (x5_1+1)),(by first|rfl|(simp;done)|(simp [*];done)),(by first|rfl|(simp;done)|(simp [*];done)),H',⟨by have:=HK1.out;omega⟩,⟨by (with_reducible repeat (first|apply Kd.R_alloc|apply Kd.R_drewN|apply Kd.R_drew));exact HO_0.out⟩,⟨by repeat (first|(with_reducible first|exact HK.out|apply Kept.alloc|apply Kept.drewN|apply Kept.drew)|exact HK.out)⟩,⟨by repeat (with_reducible first|exact HB.out|apply Q4|apply Q5|apply Q6)⟩⟩
   rw [if_neg c4] at H
   exact absurd H (by simp)
  rw [if_neg c3] at H
  have c3b0:decide (x5_1 < (x0_1.length:Int))=false:=decide_eq_false c3
  clear c3
  simp only [Option.some.injEq,Prod.mk.injEq] at H
  obtain ⟨rfl,rfl⟩:=H
  obtain ⟨Ao9,co9,eo9⟩:=Kd.R_slice HO_0.out
  subst eo9
  go_wp2
  go_ret
  exact ⟨by first|rfl|(simp [errW_none,errW_some]<;>rfl)|(simp [*,errW_none,errW_some]<;>rfl),by (with_reducible repeat (first|apply Kd.R_alloc|apply Kd.R_drewN|apply Kd.R_drew));exact HO_0.out,by repeat (with_reducible first|exact HB.out|apply Q4|apply Q5|apply Q6),by repeat (first|(with_reducible first|exact HK.out|apply Kept.alloc|apply Kept.drewN|apply Kept.drew)|exact HK.out)⟩
def laws_heldIntS.l0:Nat→List Int→Int→Int→Option (Int)
  | 0,_,_,_=>none
  | k+1,x0,x1,x5=>if x5 < (x0.length:Int) then (if 0≤x5 then (if (rd x0 x5)=x1 then (laws_heldIntS.l0 k x0 (wrap64 (x1+1)) (wrap64 (x5+1))) else (some (-1))) else (none)) else (some x1)
def laws_heldIntS.f (k:Nat) (l0:List Int) (a1:Int):Option (Int):=laws_heldIntS.l0 k l0 a1 0
theorem laws_heldIntS.mono_l : ∀ k,(∀ y0 y1 y2,LeO (laws_heldIntS.l0 k y0 y1 y2) (laws_heldIntS.l0 (k+1) y0 y1 y2))
  | 0=>fun _ _ _ r h=>by simp [laws_heldIntS.l0] at h
  | k+1=>by
    have ih0:=laws_heldIntS.mono_l k
    · intro y0 y1 y2
      unfold laws_heldIntS.l0
      repeat' (with_reducible first|apply ih0|apply LeO.refl|apply LeO.none|apply LeO.ite|refine LeO.bind ?_ (fun _=>?_))
theorem laws_heldIntS.mono : ∀ a0 a1 k,LeO (laws_heldIntS.f k a0 a1) (laws_heldIntS.f (k+1) a0 a1):=by
 intro a0 a1 k
 have ih0:=laws_heldIntS.mono_l k
 unfold laws_heldIntS.f
 repeat' (with_reducible first|apply ih0|apply LeO.refl|apply LeO.none|apply LeO.ite|refine LeO.bind ?_ (fun _=>?_))
set_option maxHeartbeats 8000000 in
set_option maxRecDepth 100000 in
theorem laws_heldIntS.calls (k:Nat) (A0:Option Addr) (c0:Nat) (l0:List Int) (a1:Int) (r:Int) (w:World) (hr0:Kd.C (Kd.int .i64) w A0 l0.length l0) (hc0:l0.length≤c0) (h:laws_heldIntS.f k l0 a1=some r) :
    Calls Try.prog 25 #[.slice A0 l0.length c0,.int .i64 a1] w fun e w'=>e=.returned (.int .i64 r)∧Drawn0 w w':=by
 have HR0:=Aside0.mk hr0
 have HC0:=Aside0.mk hc0
 clear hr0 hc0
 have H:(laws_heldIntS.l0 k l0 a1 0)=some r:=h
 clear h
 have H':=Aside0.mk H
 clear H
 go_enter Try.func25,Try.ntmps25
 go_wp2
 go_loopg [1,5] k (fun kq v1 v5 w'=>∃ (x1_1:Int) (x5_1:Int),v1=.int .i64 x1_1∧v5=.int .i64 x5_1∧Aside0 (laws_heldIntS.l0 kq l0 x1_1 x5_1=some r)∧Aside0 (kq≤k)∧Drawn0 w w')
 case atStart=>exact ⟨(a1),(0),(by first|rfl|(simp;done)|(simp [*];done)),(by first|rfl|(simp;done)|(simp [*];done)),H',⟨Nat.le_refl _⟩,by repeat (first|exact Drawn0.refl _|apply Drawn0.step)⟩
 clear H'
 obtain ⟨x1_1,x5_1,rfl,rfl,HA,HK1,⟨m1,rfl⟩⟩:=hrel
 cases gk with
 | zero=>exact absurd HA.out (by simp [laws_heldIntS.l0])
 | succ k1 =>
  have H:=HA.out
  clear HA
  simp only [laws_heldIntS.l0] at H
  by_cases c3:x5_1 < (l0.length:Int)
  ·rw [if_pos c3] at H
   have c3b0:decide (x5_1 < (l0.length:Int))=true:=decide_eq_true c3
   clear c3
   by_cases c4:0≤x5_1
   ·rw [if_pos c4] at H
    have c4b0:decide (0≤x5_1)=true:=decide_eq_true c4
    clear c4
    by_cases c5:(rd l0 x5_1)=x1_1
    ·rw [if_pos c5] at H
     obtain ⟨c5b0,c5b1⟩:=eqP c5
     clear c5
     have H':=Aside0.mk H
     clear H
     have p516:0≤(x5_1:Int):=of_decide_eq_true (by first|(with_reducible assumption)|assumption)
     have q516:x5_1 < (l0.length:Int):=of_decide_eq_true (by first|(with_reducible assumption)|assumption)
     obtain ⟨ad516,e516,hx516_0⟩:=Kd.at_int HR0.out x5_1 p516 q516
     cases e516
     replace p516:=eq_true p516
     replace q516:=eq_true q516
     go_wp2
     go_roundg k1
     case measure=>have:=HK1.out;omega
     case rel=>exact ⟨(wrap64 (x1_1+1)),(wrap64 (x5_1+1)),(by first|rfl|(simp;done)|(simp [*];done)),(by first|rfl|(simp;done)|(simp [*];done)),H',⟨by have:=HK1.out;omega⟩,by repeat (first|exact Drawn0.refl _|apply Drawn0.step)⟩
    rw [if_neg c5] at H
    obtain ⟨c5b0,c5b1⟩:=eqN c5
    obtain rfl:=Option.some.inj H
    have p516:0≤(x5_1:Int):=of_decide_eq_true (by first|(with_reducible assumption)|assumption)
    have q516:x5_1 < (l0.length:Int):=of_decide_eq_true (by first|(with_reducible assumption)|assumption)
    obtain ⟨ad516,e516,hx516_0⟩:=Kd.at_int HR0.out x5_1 p516 q516
    cases e516
    replace p516:=eq_true p516
    replace q516:=eq_true q516
    go_wp2
    go_ret
    exact ⟨by first|rfl|(simp;done)|(simp [*];done),by repeat (first|exact Drawn0.refl _|apply Drawn0.step)⟩
   rw [if_neg c4] at H
   exact absurd H (by simp)
  rw [if_neg c3] at H
  have c3b0:decide (x5_1 < (l0.length:Int))=false:=decide_eq_false c3
  clear c3
  obtain rfl:=Option.some.inj H
  go_wp2
  go_ret
  exact ⟨by first|rfl|(simp;done)|(simp [*];done),by repeat (first|exact Drawn0.refl _|apply Drawn0.step)⟩
end Go.Proofs.Ythepmdlpjdlajaa.PFnExactCallsOf
