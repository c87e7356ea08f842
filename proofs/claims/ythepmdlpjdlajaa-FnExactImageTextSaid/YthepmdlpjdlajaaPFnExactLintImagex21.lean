-- Written by a program for this claim.
import Derived.Test.YthepmdlpjdlajaaPFnExactLintImagex0
import Derived.Test.YthepmdlpjdlajaaPFnExactLintImagex16
import Derived.Test.YthepmdlpjdlajaaPFnExactLintImagex20
namespace Go.Proofs.Ythepmdlpjdlajaa.PFnExactLintImage
open Go.RowKit Go.Proofs.YthepmdlpjdlajaaW.PrintWords Go.Proofs.YthepmdlpjdlajaaW.PrintLast Go.Proofs.YthepmdlpjdlajaaW.PrintMore
attribute [local go_sem] max2_int min2_int max_two min_two max_three min_three max_four min_four   -- for this text's walks alone
set_option linter.unusedVariables false
set_option linter.unusedSimpArgs false
theorem impl_isBranch.eq (a:Int):impl_isBranch.f a=some (decide (5≤a) && decide (a≤10)):=by simp [impl_isBranch.f,impl_within.eq]
theorem impl_isLoad.eq (a:Int):impl_isLoad.f a=some (decide (11≤a) && decide (a≤17)):=by simp [impl_isLoad.f,impl_within.eq]
theorem impl_isStore.eq (a:Int):impl_isStore.f a=some (decide (18≤a) && decide (a≤21)):=by simp [impl_isStore.f,impl_within.eq]
def impl_linting_fault.code (x0 x1 x2 x4 ev n:Int) (PB BB CB LB SB WB:Bool):Int:=
  if (x0==4)=true then (if (ev==3)=true then 0 else 18)
  else if (x0==3)=true then (if (x1==1)=true then (if CB=true then 0 else 20) else if (x1==0)=true then (if PB=true then 0 else 19) else 19)
  else if BB=true then (if PB=true then 0 else 19)
  else if ((x1==1) && !(ev==1) || (x1==2) && !(ev==2))=true then 21
  else if ((LB || SB) && (x2==2) && !(ev==1))=true then (if (WB && (Int.tmod x4 n==0))=true then 0 else 17)
  else 0
def impl_linting_fault.wid (x0:Int):Int:=match impl_widthOf.f x0 with
  | some p=>p.1
  | none=>0
theorem impl_linting_fault.wid_ok (x0:Int) (h:((decide (11≤x0) && decide (x0≤17)) || (decide (18≤x0) && decide (x0≤21)))=true) : ∃ sg,impl_widthOf.f x0=some (impl_linting_fault.wid x0,sg)∧(impl_linting_fault.wid x0==0)=false:=by
 have:x0=11∨x0=12∨x0=13∨x0=14∨x0=15∨x0=16∨x0=17∨x0=18∨x0=19∨x0=20∨x0=21:=by
  simp only [Bool.or_eq_true,Bool.and_eq_true,decide_eq_true_eq] at h
  omega
 rcases this with rfl|rfl|rfl|rfl|rfl|rfl|rfl|rfl|rfl|rfl|rfl
 iterate 4 exact ⟨true,by kernel_rfl,by kernel_rfl⟩
 all_goals exact ⟨false,by kernel_rfl,by kernel_rfl⟩
def impl_linting_fault.hit (k:Nat) (c:List Int) (x0 x1 a:Int):Option Bool:=if (x0==3)=true then (if (x1==1)=true then slices_Contains_int_int.f k c a else some true) else some true
def impl_linting_fault.f (k:Nat) (s0_0:List S86) (s0_1 s0_2:Int) (s0_3 s0_4:List Int) (a1:Int):Option (Int × Int × Int):=
  if 0≤a1 then (if a1 < (s0_0.length:Int) then (if s0_0.length=s0_4.length then
    ((impl_linting_fault.hit k s0_3 (rd_T86 s0_0 a1).f0 (rd_T86 s0_0 a1).f1 (wrap64 (wrap64 (s0_2+wrap64 (4*a1))+(rd_T86 s0_0 a1).f4))).bind fun CB=>
      some (impl_linting_fault.code (rd_T86 s0_0 a1).f0 (rd_T86 s0_0 a1).f1 (rd_T86 s0_0 a1).f2 (rd_T86 s0_0 a1).f4 (rd s0_4 a1) (impl_linting_fault.wid (rd_T86 s0_0 a1).f0) (impl_linting.perm s0_0 s0_4 a1)
        (decide (5≤(rd_T86 s0_0 a1).f0) && decide ((rd_T86 s0_0 a1).f0≤10)) CB (decide (11≤(rd_T86 s0_0 a1).f0) && decide ((rd_T86 s0_0 a1).f0≤17)) (decide (18≤(rd_T86 s0_0 a1).f0) && decide ((rd_T86 s0_0 a1).f0≤21))
        (decide (0≤(rd_T86 s0_0 a1).f4) && decide ((rd_T86 s0_0 a1).f4≤wrap64 (wrap64 (s0_1 - 8) - impl_linting_fault.wid (rd_T86 s0_0 a1).f0))),s0_1,s0_2)) else none) else none) else none
theorem impl_linting_fault.mono : ∀ s0_0 s0_1 s0_2 s0_3 s0_4 a1 k,LeO (impl_linting_fault.f k s0_0 s0_1 s0_2 s0_3 s0_4 a1) (impl_linting_fault.f (k+1) s0_0 s0_1 s0_2 s0_3 s0_4 a1):=by
 intro s0_0 s0_1 s0_2 s0_3 s0_4 a1 k
 unfold impl_linting_fault.f impl_linting_fault.hit
 repeat' (with_reducible first|apply slices_Contains_int_int.mono|apply LeO.refl|apply LeO.ite|refine LeO.bind ?_ (fun _=>?_))
theorem impl_linting_fault.keeps {k:Nat} {l:List S86} {a b:Int} {c e:List Int} {i r1 r2 r3:Int} (h:impl_linting_fault.f k l a b c e i=some (r1,r2,r3)):r2=a∧r3=b:=by
 unfold impl_linting_fault.f at h
 split at h
 ·split at h
  ·split at h
   ·obtain ⟨z,_,h⟩:=Option.bind_eq_some_iff.mp h
    simp only [Option.some.injEq,Prod.mk.injEq] at h
    exact ⟨h.2.1.symm,h.2.2.symm⟩
   exact absurd h (by simp)
  exact absurd h (by simp)
 exact absurd h (by simp)
theorem impl_linting_fault.ways (a4 v3 a3 x11 x10 PB BB CB:Bool) :
    (a4=true∧v3=true)∨(a4=true∧v3=false)∨(a4=false∧a3=true∧x11=true∧CB=true)∨(a4=false∧a3=true∧x11=true∧CB=false)
    ∨(a4=false∧a3=true∧x11=false∧x10=false)∨(a4=false∧a3=true∧x11=false∧x10=true∧PB=true)∨(a4=false∧a3=true∧x11=false∧x10=true∧PB=false)
    ∨(a4=false∧a3=false∧BB=true∧PB=true)∨(a4=false∧a3=false∧BB=true∧PB=false)∨(a4=false∧a3=false∧BB=false):=by
 cases a4<;>cases v3<;>cases a3<;>cases x11<;>cases x10<;>cases PB<;>cases BB<;>cases CB<;>simp
set_option maxRecDepth 100000 in
theorem impl_linting_fault.ways2 : ∀ (s1 v1 s2 v2 LB SB q WB m0:Bool),(s1=true∧v1=false)∨(s1=true∧v1=true∧s2=true∧v2=false)∨(s1=false∧s2=true∧v2=false)∨(s1=true∧v1=true∧s2=true∧v2=true∧LB=false∧SB=false)∨(s1=true∧v1=true∧s2=true∧v2=true∧LB=true∧q=false)∨(s1=true∧v1=true∧s2=true∧v2=true∧LB=true∧q=true)∨(s1=true∧v1=true∧s2=true∧v2=true∧LB=false∧SB=true∧q=false)∨(s1=true∧v1=true∧s2=true∧v2=true∧LB=false∧SB=true∧q=true)∨(s1=true∧v1=true∧s2=false∧LB=false∧SB=false)∨(s1=true∧v1=true∧s2=false∧LB=true∧q=false)∨(s1=true∧v1=true∧s2=false∧LB=true∧q=true)∨(s1=true∧v1=true∧s2=false∧LB=false∧SB=true∧q=false)∨(s1=true∧v1=true∧s2=false∧LB=false∧SB=true∧q=true)∨(s1=false∧s2=true∧v2=true∧LB=false∧SB=false)∨(s1=false∧s2=true∧v2=true∧LB=true∧q=false)∨(s1=false∧v1=true∧s2=true∧v2=true∧LB=true∧q=true)∨(s1=false∧v1=false∧s2=true∧v2=true∧LB=true∧q=true∧WB=false)∨(s1=false∧v1=false∧s2=true∧v2=true∧LB=true∧q=true∧WB=true∧m0=true)∨(s1=false∧v1=false∧s2=true∧v2=true∧LB=true∧q=true∧WB=true∧m0=false)∨(s1=false∧s2=true∧v2=true∧LB=false∧SB=true∧q=false)∨(s1=false∧v1=true∧s2=true∧v2=true∧LB=false∧SB=true∧q=true)∨(s1=false∧v1=false∧s2=true∧v2=true∧LB=false∧SB=true∧q=true∧WB=false)∨(s1=false∧v1=false∧s2=true∧v2=true∧LB=false∧SB=true∧q=true∧WB=true∧m0=true)∨(s1=false∧v1=false∧s2=true∧v2=true∧LB=false∧SB=true∧q=true∧WB=true∧m0=false)∨(s1=false∧s2=false∧LB=false∧SB=false)∨(s1=false∧s2=false∧LB=true∧q=false)∨(s1=false∧v1=true∧s2=false∧LB=true∧q=true)∨(s1=false∧v1=false∧s2=false∧LB=true∧q=true∧WB=false)∨(s1=false∧v1=false∧s2=false∧LB=true∧q=true∧WB=true∧m0=true)∨(s1=false∧v1=false∧s2=false∧LB=true∧q=true∧WB=true∧m0=false)∨(s1=false∧s2=false∧LB=false∧SB=true∧q=false)∨(s1=false∧v1=true∧s2=false∧LB=false∧SB=true∧q=true)∨(s1=false∧v1=false∧s2=false∧LB=false∧SB=true∧q=true∧WB=false)∨(s1=false∧v1=false∧s2=false∧LB=false∧SB=true∧q=true∧WB=true∧m0=true)∨(s1=false∧v1=false∧s2=false∧LB=false∧SB=true∧q=true∧WB=true∧m0=false):=by
 intro s1 v1 s2 v2 LB SB q WB m0
 cases s1<;>cases v1<;>cases s2<;>cases v2<;>cases LB<;>cases SB<;>cases q<;>cases WB<;>cases m0<;>simp
set_option maxHeartbeats 16000000 in
set_option maxRecDepth 100000 in
theorem impl_linting_fault.walk (k:Nat) (g:Nat) (l:List S86) (fr at_:Int) (c e:List Int) (i:Int) (W:World) (x0 x1 x2 x3 x4 ev n:Int) (PB BB CB LB SB WB sg:Bool) (hL:impl_linting.LS W g l fr at_ c e) (h0:0≤i) (h1:i < (l.length:Int)) (hl:l.length=e.length)
    (g0:(rd_T86 l i).f0=x0) (g1:(rd_T86 l i).f1=x1) (g2:(rd_T86 l i).f2=x2) (g3:(rd_T86 l i).f3=x3) (g4:(rd_T86 l i).f4=x4) (ge:rd e i=ev)
    (hP:impl_linting.perm l e i=PB) (hB:impl_isBranch.f x0=some BB) (hD:impl_isLoad.f x0=some LB) (hS:impl_isStore.f x0=some SB)
    (hC:(x0==3)=true→(x1==1)=true→slices_Contains_int_int.f k c (wrap64 (wrap64 (at_+wrap64 (4*i))+x4))=some CB)
    (hW:(LB || SB)=true→impl_widthOf.f x0=some (n,sg)∧(n==0)=false) (hI:impl_within.f x4 0 (wrap64 (wrap64 (fr - 8) - n))=some WB) :
    Calls Try.prog 75 #[.pointer (some ⟨g,0,none⟩),.int .i64 i] W fun r w'=>r=.returned (.int .i64 (impl_linting_fault.code x0 x1 x2 x4 ev n PB BB CB LB SB WB))∧Below W.heap.size W w':=by
 have HLS:=Aside0.mk hL
 obtain ⟨A0,c0,A3,c3,A4,c4,hb,r0,l0,r3,l3,r4,l4⟩:=hL
 have h4:i < (e.length:Int):=by rw [← hl];exact h1
 have z0:W.cell? ⟨g,0,none⟩=some (.slice A0 l.length c0):=(blk_cell hb 0).trans rfl
 have z1:W.cell? ⟨g,1,none⟩=some (.int .i64 fr):=(blk_cell hb 1).trans rfl
 have z2:W.cell? ⟨g,2,none⟩=some (.int .i64 at_):=(blk_cell hb 2).trans rfl
 have z3:W.cell? ⟨g,3,none⟩=some (.slice A3 c.length c3):=(blk_cell hb 3).trans rfl
 have z4:W.cell? ⟨g,4,none⟩=some (.slice A4 e.length c4):=(blk_cell hb 4).trans rfl
 obtain ⟨ad,rfl,q0,q1,q2,q3,q4⟩:=at_T86 r0 i h0 h1
 obtain ⟨ad4,rfl,y4⟩:=Kd.at_int r4 i h0 h4
 rw [g0] at q0
 rw [g1] at q1
 rw [g2] at q2
 rw [g3] at q3
 rw [g4] at q4
 rw [ge] at y4
 have hu:=Try.underlying86
 have m1:g < W.heap.size:=blk_lt hb
 have y4' : ∀ o,(W.alloc o).cell? (ad4.add i.toNat)=some (.int .i64 ev):=fun o=>(World.cell?_alloc_some W _ o (by rw [y4];rfl)).trans y4
 have R3:=Aside0.mk r3
 have L3:=Aside0.mk l3
 have HL:=Aside0.mk hl
 have P0:=Aside0.mk h0
 have P1:=Aside0.mk h1
 have HP:=Aside0.mk hP
 have HBr:=Aside0.mk hB
 have HLd:=Aside0.mk hD
 have HSt:=Aside0.mk hS
 have HWi:=Aside0.mk hI
 have p0:=eq_true h0
 have p1:=eq_true h1
 have p4:=eq_true h4
 clear hb r0 r3 r4 l0 l3 l4 hl h0 h1 h4 g0 g1 g2 g3 g4 ge hP hB hD hS hI
 obtain ⟨a4,e4⟩ : ∃ b,(x0==4)=b:=⟨_,rfl⟩
 obtain ⟨v3,f3⟩ : ∃ b,(ev==3)=b:=⟨_,rfl⟩
 obtain ⟨a3,e3⟩ : ∃ b,(x0==3)=b:=⟨_,rfl⟩
 obtain ⟨s1,e11⟩ : ∃ b,(x1==1)=b:=⟨_,rfl⟩
 obtain ⟨x10,e10⟩ : ∃ b,(x1==0)=b:=⟨_,rfl⟩
 have f3':(ev != 3)=!v3:=by rw [← f3];rfl
 have e10':(x1 != 0)=!x10:=by rw [← e10];rfl
 unfold impl_linting_fault.code
 rcases impl_linting_fault.ways a4 v3 a3 s1 x10 PB BB CB with ⟨rfl,rfl⟩|⟨rfl,rfl⟩|⟨rfl,rfl,rfl,rfl⟩|⟨rfl,rfl,rfl,rfl⟩|⟨rfl,rfl,rfl,rfl⟩|⟨rfl,rfl,rfl,rfl,rfl⟩|⟨rfl,rfl,rfl,rfl,rfl⟩|⟨rfl,rfl,rfl,rfl⟩|⟨rfl,rfl,rfl,rfl⟩|⟨rfl,rfl,rfl⟩
 rotate_right
 ·clear hC f3 f3' e10 e10' HP
  obtain ⟨v1,f1⟩ : ∃ b,(ev==1)=b:=⟨_,rfl⟩
  obtain ⟨s2,e12⟩ : ∃ b,(x1==2)=b:=⟨_,rfl⟩
  obtain ⟨v2,f2⟩ : ∃ b,(ev==2)=b:=⟨_,rfl⟩
  obtain ⟨q,e22⟩ : ∃ b,(x2==2)=b:=⟨_,rfl⟩
  obtain ⟨m0,em⟩ : ∃ b,(Int.tmod x4 n==0)=b:=⟨_,rfl⟩
  have f1':(ev != 1)=!v1:=by rw [← f1];rfl
  have f2':(ev != 2)=!v2:=by rw [← f2];rfl
  have em':(Int.tmod x4 n != 0)=!m0:=by rw [← em];rfl
  rcases impl_linting_fault.ways2 s1 v1 s2 v2 LB SB q WB m0 with ⟨rfl,rfl⟩|⟨rfl,rfl,rfl,rfl⟩|⟨rfl,rfl,rfl⟩|⟨rfl,rfl,rfl,rfl,rfl,rfl⟩|⟨rfl,rfl,rfl,rfl,rfl,rfl⟩|⟨rfl,rfl,rfl,rfl,rfl,rfl⟩|⟨rfl,rfl,rfl,rfl,rfl,rfl,rfl⟩|⟨rfl,rfl,rfl,rfl,rfl,rfl,rfl⟩|⟨rfl,rfl,rfl,rfl,rfl⟩|⟨rfl,rfl,rfl,rfl,rfl⟩|⟨rfl,rfl,rfl,rfl,rfl⟩|⟨rfl,rfl,rfl,rfl,rfl,rfl⟩|⟨rfl,rfl,rfl,rfl,rfl,rfl⟩|⟨rfl,rfl,rfl,rfl,rfl⟩|⟨rfl,rfl,rfl,rfl,rfl⟩|⟨rfl,rfl,rfl,rfl,rfl,rfl⟩|⟨rfl,rfl,rfl,rfl,rfl,rfl,rfl⟩|⟨rfl,rfl,rfl,rfl,rfl,rfl,rfl,rfl⟩|⟨rfl,rfl,rfl,rfl,rfl,rfl,rfl,rfl⟩|⟨rfl,rfl,rfl,rfl,rfl,rfl⟩|⟨rfl,rfl,rfl,rfl,rfl,rfl,rfl⟩|⟨rfl,rfl,rfl,rfl,rfl,rfl,rfl,rfl⟩|⟨rfl,rfl,rfl,rfl,rfl,rfl,rfl,rfl,rfl⟩|⟨rfl,rfl,rfl,rfl,rfl,rfl,rfl,rfl,rfl⟩|⟨rfl,rfl,rfl,rfl⟩|⟨rfl,rfl,rfl,rfl⟩|⟨rfl,rfl,rfl,rfl,rfl⟩|⟨rfl,rfl,rfl,rfl,rfl,rfl⟩|⟨rfl,rfl,rfl,rfl,rfl,rfl,rfl⟩|⟨rfl,rfl,rfl,rfl,rfl,rfl,rfl⟩|⟨rfl,rfl,rfl,rfl,rfl⟩|⟨rfl,rfl,rfl,rfl,rfl,rfl⟩|⟨rfl,rfl,rfl,rfl,rfl,rfl,rfl⟩|⟨rfl,rfl,rfl,rfl,rfl,rfl,rfl,rfl⟩|⟨rfl,rfl,rfl,rfl,rfl,rfl,rfl,rfl⟩
  all_goals
   try (obtain ⟨hwd,hn0⟩:=hW rfl;have HWd:=Aside0.mk hwd;clear hwd;have hn1:¬ n=0:=beq_eq_false_iff_ne.mp hn0;have hn2:(n != 0)=true:=bne_iff_ne.mpr hn1)
   clear hW
   simp only [e4,e3,e11,e12,e22,f1,f2,em,if_true,if_false,Bool.false_eq_true,Bool.not_true,Bool.not_false,Bool.and_true,Bool.and_false,Bool.or_true,Bool.or_false,Bool.true_and,Bool.false_and,Bool.true_or,Bool.false_or]
   go_enter Try.func75,Try.ntmps75
   go_wp2_with (first|(go_at_call 93;(with_reducible refine (impl_isBranch.calls _ _ _ HBr.out).mono ?_);rintro e w' ⟨rfl,⟨nd,rfl⟩⟩)|(go_at_call 94;(with_reducible refine (impl_isLoad.calls _ _ _ HLd.out).mono ?_);rintro e w' ⟨rfl,⟨nd,rfl⟩⟩)|(go_at_call 95;(with_reducible refine (impl_isStore.calls _ _ _ HSt.out).mono ?_);rintro e w' ⟨rfl,⟨nd,rfl⟩⟩)|(go_at_call 96;(with_reducible refine (impl_widthOf.calls _ _ _ _ HWd.out).mono ?_);rintro e w' ⟨rfl,⟨nd,rfl⟩⟩)|(go_at_call 56;(with_reducible refine (impl_within.calls _ _ _ _ _ HWi.out).mono ?_);rintro e w' ⟨rfl,⟨nd,rfl⟩⟩;(try first|exact ⟨rfl,_,World.drewN_drewN _ _ _⟩|exact ⟨rfl,_,Eq.trans (World.drewN_drewN _ _ _) (congrArg (World.drewN _) (Nat.add_assoc _ _ _))⟩))|(go_at_call 91;(with_reducible refine (slices_Contains_int_int.calls k _ _ _ _ _ _ ?side1 L3.out HC.out).mono ?_);(case side1=>exact Kd.C_below R3.out (by repeat (first|exact Below.refl _ _|apply below_alloc|apply pw_below_drewN|apply below_drew1)));rintro e w' ⟨rfl,⟨nd,rfl⟩⟩;(try first|exact ⟨rfl,_,World.drewN_drewN _ _ _⟩|exact ⟨rfl,_,Eq.trans (World.drewN_drewN _ _ _) (congrArg (World.drewN _) (Nat.add_assoc _ _ _))⟩))|(go_at_call 92;(with_reducible refine (impl_linting_permitted.calls g l fr at_ c e i _ ?side1 P0.out P1.out HL.out).mono ?_);(case side1=>exact impl_linting.LS.below HLS.out (by repeat (first|exact Below.refl _ _|apply below_alloc|apply pw_below_drewN|apply below_drew1)));rw [HP.out];rintro r w' ⟨rfl,⟨nd,rfl⟩⟩))
   repeat (go_quiet (first|(go_at_call 93;(with_reducible refine (impl_isBranch.calls _ _ _ HBr.out).mono ?_);rintro e w' ⟨rfl,⟨nd,rfl⟩⟩)|(go_at_call 94;(with_reducible refine (impl_isLoad.calls _ _ _ HLd.out).mono ?_);rintro e w' ⟨rfl,⟨nd,rfl⟩⟩)|(go_at_call 95;(with_reducible refine (impl_isStore.calls _ _ _ HSt.out).mono ?_);rintro e w' ⟨rfl,⟨nd,rfl⟩⟩)|(go_at_call 96;(with_reducible refine (impl_widthOf.calls _ _ _ _ HWd.out).mono ?_);rintro e w' ⟨rfl,⟨nd,rfl⟩⟩)|(go_at_call 56;(with_reducible refine (impl_within.calls _ _ _ _ _ HWi.out).mono ?_);rintro e w' ⟨rfl,⟨nd,rfl⟩⟩;(try first|exact ⟨rfl,_,World.drewN_drewN _ _ _⟩|exact ⟨rfl,_,Eq.trans (World.drewN_drewN _ _ _) (congrArg (World.drewN _) (Nat.add_assoc _ _ _))⟩))|(go_at_call 91;(with_reducible refine (slices_Contains_int_int.calls k _ _ _ _ _ _ ?side1 L3.out HC.out).mono ?_);(case side1=>exact Kd.C_below R3.out (by repeat (first|exact Below.refl _ _|apply below_alloc|apply pw_below_drewN|apply below_drew1)));rintro e w' ⟨rfl,⟨nd,rfl⟩⟩;(try first|exact ⟨rfl,_,World.drewN_drewN _ _ _⟩|exact ⟨rfl,_,Eq.trans (World.drewN_drewN _ _ _) (congrArg (World.drewN _) (Nat.add_assoc _ _ _))⟩))|(go_at_call 92;(with_reducible refine (impl_linting_permitted.calls g l fr at_ c e i _ ?side1 P0.out P1.out HL.out).mono ?_);(case side1=>exact impl_linting.LS.below HLS.out (by repeat (first|exact Below.refl _ _|apply below_alloc|apply pw_below_drewN|apply below_drew1)));rw [HP.out];rintro r w' ⟨rfl,⟨nd,rfl⟩⟩));try go_wp2_with (first|(go_at_call 93;(with_reducible refine (impl_isBranch.calls _ _ _ HBr.out).mono ?_);rintro e w' ⟨rfl,⟨nd,rfl⟩⟩)|(go_at_call 94;(with_reducible refine (impl_isLoad.calls _ _ _ HLd.out).mono ?_);rintro e w' ⟨rfl,⟨nd,rfl⟩⟩)|(go_at_call 95;(with_reducible refine (impl_isStore.calls _ _ _ HSt.out).mono ?_);rintro e w' ⟨rfl,⟨nd,rfl⟩⟩)|(go_at_call 96;(with_reducible refine (impl_widthOf.calls _ _ _ _ HWd.out).mono ?_);rintro e w' ⟨rfl,⟨nd,rfl⟩⟩)|(go_at_call 56;(with_reducible refine (impl_within.calls _ _ _ _ _ HWi.out).mono ?_);rintro e w' ⟨rfl,⟨nd,rfl⟩⟩;(try first|exact ⟨rfl,_,World.drewN_drewN _ _ _⟩|exact ⟨rfl,_,Eq.trans (World.drewN_drewN _ _ _) (congrArg (World.drewN _) (Nat.add_assoc _ _ _))⟩))|(go_at_call 91;(with_reducible refine (slices_Contains_int_int.calls k _ _ _ _ _ _ ?side1 L3.out HC.out).mono ?_);(case side1=>exact Kd.C_below R3.out (by repeat (first|exact Below.refl _ _|apply below_alloc|apply pw_below_drewN|apply below_drew1)));rintro e w' ⟨rfl,⟨nd,rfl⟩⟩;(try first|exact ⟨rfl,_,World.drewN_drewN _ _ _⟩|exact ⟨rfl,_,Eq.trans (World.drewN_drewN _ _ _) (congrArg (World.drewN _) (Nat.add_assoc _ _ _))⟩))|(go_at_call 92;(with_reducible refine (impl_linting_permitted.calls g l fr at_ c e i _ ?side1 P0.out P1.out HL.out).mono ?_);(case side1=>exact impl_linting.LS.below HLS.out (by repeat (first|exact Below.refl _ _|apply below_alloc|apply pw_below_drewN|apply below_drew1)));rw [HP.out];rintro r w' ⟨rfl,⟨nd,rfl⟩⟩)))
   go_ret
   exact ⟨rfl,by repeat (first|exact Below.refl _ _|apply below_alloc|apply pw_below_drewN|apply below_drew1)⟩
 all_goals
  try (have HC:=Aside0.mk (hC e3 e11))
  clear hC hW
  simp only [e4,f3,e3,e11,e10,if_true,if_false,Bool.false_eq_true]
  go_enter Try.func75,Try.ntmps75
  go_wp2_with (first|(go_at_call 93;(with_reducible refine (impl_isBranch.calls _ _ _ HBr.out).mono ?_);rintro e w' ⟨rfl,⟨nd,rfl⟩⟩)|(go_at_call 94;(with_reducible refine (impl_isLoad.calls _ _ _ HLd.out).mono ?_);rintro e w' ⟨rfl,⟨nd,rfl⟩⟩)|(go_at_call 95;(with_reducible refine (impl_isStore.calls _ _ _ HSt.out).mono ?_);rintro e w' ⟨rfl,⟨nd,rfl⟩⟩)|(go_at_call 96;(with_reducible refine (impl_widthOf.calls _ _ _ _ HWd.out).mono ?_);rintro e w' ⟨rfl,⟨nd,rfl⟩⟩)|(go_at_call 56;(with_reducible refine (impl_within.calls _ _ _ _ _ HWi.out).mono ?_);rintro e w' ⟨rfl,⟨nd,rfl⟩⟩;(try first|exact ⟨rfl,_,World.drewN_drewN _ _ _⟩|exact ⟨rfl,_,Eq.trans (World.drewN_drewN _ _ _) (congrArg (World.drewN _) (Nat.add_assoc _ _ _))⟩))|(go_at_call 91;(with_reducible refine (slices_Contains_int_int.calls k _ _ _ _ _ _ ?side1 L3.out HC.out).mono ?_);(case side1=>exact Kd.C_below R3.out (by repeat (first|exact Below.refl _ _|apply below_alloc|apply pw_below_drewN|apply below_drew1)));rintro e w' ⟨rfl,⟨nd,rfl⟩⟩;(try first|exact ⟨rfl,_,World.drewN_drewN _ _ _⟩|exact ⟨rfl,_,Eq.trans (World.drewN_drewN _ _ _) (congrArg (World.drewN _) (Nat.add_assoc _ _ _))⟩))|(go_at_call 92;(with_reducible refine (impl_linting_permitted.calls g l fr at_ c e i _ ?side1 P0.out P1.out HL.out).mono ?_);(case side1=>exact impl_linting.LS.below HLS.out (by repeat (first|exact Below.refl _ _|apply below_alloc|apply pw_below_drewN|apply below_drew1)));rw [HP.out];rintro r w' ⟨rfl,⟨nd,rfl⟩⟩))
  repeat (go_quiet (first|(go_at_call 93;(with_reducible refine (impl_isBranch.calls _ _ _ HBr.out).mono ?_);rintro e w' ⟨rfl,⟨nd,rfl⟩⟩)|(go_at_call 94;(with_reducible refine (impl_isLoad.calls _ _ _ HLd.out).mono ?_);rintro e w' ⟨rfl,⟨nd,rfl⟩⟩)|(go_at_call 95;(with_reducible refine (impl_isStore.calls _ _ _ HSt.out).mono ?_);rintro e w' ⟨rfl,⟨nd,rfl⟩⟩)|(go_at_call 96;(with_reducible refine (impl_widthOf.calls _ _ _ _ HWd.out).mono ?_);rintro e w' ⟨rfl,⟨nd,rfl⟩⟩)|(go_at_call 56;(with_reducible refine (impl_within.calls _ _ _ _ _ HWi.out).mono ?_);rintro e w' ⟨rfl,⟨nd,rfl⟩⟩;(try first|exact ⟨rfl,_,World.drewN_drewN _ _ _⟩|exact ⟨rfl,_,Eq.trans (World.drewN_drewN _ _ _) (congrArg (World.drewN _) (Nat.add_assoc _ _ _))⟩))|(go_at_call 91;(with_reducible refine (slices_Contains_int_int.calls k _ _ _ _ _ _ ?side1 L3.out HC.out).mono ?_);(case side1=>exact Kd.C_below R3.out (by repeat (first|exact Below.refl _ _|apply below_alloc|apply pw_below_drewN|apply below_drew1)));rintro e w' ⟨rfl,⟨nd,rfl⟩⟩;(try first|exact ⟨rfl,_,World.drewN_drewN _ _ _⟩|exact ⟨rfl,_,Eq.trans (World.drewN_drewN _ _ _) (congrArg (World.drewN _) (Nat.add_assoc _ _ _))⟩))|(go_at_call 92;(with_reducible refine (impl_linting_permitted.calls g l fr at_ c e i _ ?side1 P0.out P1.out HL.out).mono ?_);(case side1=>exact impl_linting.LS.below HLS.out (by repeat (first|exact Below.refl _ _|apply below_alloc|apply pw_below_drewN|apply below_drew1)));rw [HP.out];rintro r w' ⟨rfl,⟨nd,rfl⟩⟩));try go_wp2_with (first|(go_at_call 93;(with_reducible refine (impl_isBranch.calls _ _ _ HBr.out).mono ?_);rintro e w' ⟨rfl,⟨nd,rfl⟩⟩)|(go_at_call 94;(with_reducible refine (impl_isLoad.calls _ _ _ HLd.out).mono ?_);rintro e w' ⟨rfl,⟨nd,rfl⟩⟩)|(go_at_call 95;(with_reducible refine (impl_isStore.calls _ _ _ HSt.out).mono ?_);rintro e w' ⟨rfl,⟨nd,rfl⟩⟩)|(go_at_call 96;(with_reducible refine (impl_widthOf.calls _ _ _ _ HWd.out).mono ?_);rintro e w' ⟨rfl,⟨nd,rfl⟩⟩)|(go_at_call 56;(with_reducible refine (impl_within.calls _ _ _ _ _ HWi.out).mono ?_);rintro e w' ⟨rfl,⟨nd,rfl⟩⟩;(try first|exact ⟨rfl,_,World.drewN_drewN _ _ _⟩|exact ⟨rfl,_,Eq.trans (World.drewN_drewN _ _ _) (congrArg (World.drewN _) (Nat.add_assoc _ _ _))⟩))|(go_at_call 91;(with_reducible refine (slices_Contains_int_int.calls k _ _ _ _ _ _ ?side1 L3.out HC.out).mono ?_);(case side1=>exact Kd.C_below R3.out (by repeat (first|exact Below.refl _ _|apply below_alloc|apply pw_below_drewN|apply below_drew1)));rintro e w' ⟨rfl,⟨nd,rfl⟩⟩;(try first|exact ⟨rfl,_,World.drewN_drewN _ _ _⟩|exact ⟨rfl,_,Eq.trans (World.drewN_drewN _ _ _) (congrArg (World.drewN _) (Nat.add_assoc _ _ _))⟩))|(go_at_call 92;(with_reducible refine (impl_linting_permitted.calls g l fr at_ c e i _ ?side1 P0.out P1.out HL.out).mono ?_);(case side1=>exact impl_linting.LS.below HLS.out (by repeat (first|exact Below.refl _ _|apply below_alloc|apply pw_below_drewN|apply below_drew1)));rw [HP.out];rintro r w' ⟨rfl,⟨nd,rfl⟩⟩)))
  go_ret
  exact ⟨rfl,by repeat (first|exact Below.refl _ _|apply below_alloc|apply pw_below_drewN|apply below_drew1)⟩
theorem impl_linting_fault.calls (k:Nat) (g:Nat) (s0_0:List S86) (s0_1 s0_2:Int) (s0_3 s0_4:List Int) (a1:Int) (r1 r2 r3:Int) (w:World) (hL:impl_linting.LS w g s0_0 s0_1 s0_2 s0_3 s0_4) (h:impl_linting_fault.f k s0_0 s0_1 s0_2 s0_3 s0_4 a1=some (r1,r2,r3)) :
    Calls Try.prog 75 #[.pointer (some ⟨g,0,none⟩),.int .i64 a1] w fun e w'=>e=.returned (.int .i64 r1)∧Below w.heap.size w w':=by
 unfold impl_linting_fault.f at h
 split at h
 ·rename_i h0
  split at h
  ·rename_i h1
   split at h
   ·rename_i hl
    obtain ⟨CB,hC,h⟩:=Option.bind_eq_some_iff.mp h
    simp only [Option.some.injEq,Prod.mk.injEq] at h
    obtain ⟨rfl,_,_⟩:=h
    obtain ⟨sg,hsg⟩ : ∃ sg,((decide (11≤(rd_T86 s0_0 a1).f0) && decide ((rd_T86 s0_0 a1).f0≤17)) || (decide (18≤(rd_T86 s0_0 a1).f0) && decide ((rd_T86 s0_0 a1).f0≤21)))=true→impl_widthOf.f (rd_T86 s0_0 a1).f0=some (impl_linting_fault.wid (rd_T86 s0_0 a1).f0,sg)∧(impl_linting_fault.wid (rd_T86 s0_0 a1).f0==0)=false:=by
     cases hb:((decide (11≤(rd_T86 s0_0 a1).f0) && decide ((rd_T86 s0_0 a1).f0≤17)) || (decide (18≤(rd_T86 s0_0 a1).f0) && decide ((rd_T86 s0_0 a1).f0≤21))) with
     | true=>obtain ⟨sg,hs⟩:=impl_linting_fault.wid_ok _ hb;exact ⟨sg,fun _=>hs⟩
     | false=>exact ⟨true,fun hh=>absurd hh (by simp)⟩
    exact impl_linting_fault.walk k g s0_0 s0_1 s0_2 s0_3 s0_4 a1 w _ _ _ _ _ _ (impl_linting_fault.wid (rd_T86 s0_0 a1).f0) _ _ CB _ _ _ sg hL h0 h1 hl rfl rfl rfl rfl rfl rfl rfl (impl_isBranch.eq _) (impl_isLoad.eq _) (impl_isStore.eq _)
     (fun h3 h11=>by unfold impl_linting_fault.hit at hC;rw [if_pos h3,if_pos h11] at hC;exact hC) hsg (impl_within.eq _ _ _)
   exact absurd h (by simp)
  exact absurd h (by simp)
 exact absurd h (by simp)
end Go.Proofs.Ythepmdlpjdlajaa.PFnExactLintImage
