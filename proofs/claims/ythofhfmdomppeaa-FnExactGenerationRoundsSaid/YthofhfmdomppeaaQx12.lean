/- Contracts of Go functions, each with a plain Lean function of the same answers: whatever the arguments, the call comes to what the Lean function tells. Written by a program of this session. -/
import Derived.Test.YthofhfmdomppeaaQx0
import Derived.Test.YthofhfmdomppeaaQx1
import Derived.Test.YthofhfmdomppeaaQx5
import Derived.Test.YthofhfmdomppeaaQx6
import Derived.Test.YthofhfmdomppeaaQx9
import Derived.Test.YthofhfmdomppeaaQx10
import Derived.Test.YthofhfmdomppeaaQx11
namespace Go.Proofs.Ythofhfmdomppeaa.Q
open Go.RowKit Go.Proofs.YthofhfmdomppeaaW.PrintWords Go.Proofs.YthofhfmdomppeaaW.PrintLast Go.Proofs.YthofhfmdomppeaaW.PrintMore
attribute [local go_sem] max2_int min2_int max_two min_two max_three min_three max_four min_four   -- for this text's walks alone
set_option linter.unusedVariables false
set_option linter.unusedSimpArgs false

/-! ### laws_FnExactGenerationRounds: function 3 -/
def laws_FnExactGenerationRounds.f (k : Nat) (a0_0 : Int) (l0_1 : List (S102)) (l1 : List Int) : Option Bool := (if 1048576 < (l1.length : Int) then some true else ((laws_szAlgebra.f k a0_0 l0_1 1048576).bind fun b0 => (if b0 < 0 then some true else ((laws_toAlgebra.f k a0_0 l0_1).bind fun b1 => ((laws_toIntS.f k l1).bind fun b2 => ((spec_GenerationRounds.f k b1.1 b1.2 b2).bind fun b3 => ((impl_GenerationRounds.f k b1.1 b1.2 b2).bind fun b4 => ((laws_eqIntSS.f k b4.1 b3.1).bind fun b5 => (if b5 = true ∧ b4.2 = b3.2 then ((laws_eqAlgebra.f k b1.1 b1.2 b1.1 b1.2).bind fun b6 => (if b6 = true then ((laws_eqIntS.f k b2 b2).bind fun b7 => (if b7 = true then ((laws_markAlgebra.f k b1.1 b1.2 1).bind fun b8 => ((laws_markIntS.f k b2 b8.1).bind fun b9 => (if ¬ b9.1 < 0 then ((laws_markIntSS.f k b4.1 1).bind fun b10 => ((laws_heldIntSS.f k b10.2 1).bind fun b11 => (if ¬ b11 < 0 then (if b11 = b10.1 then some true else none) else none))) else none))) else none)) else none)) else none)))))))))
open Go.Proofs.Ythofhfmdomppeaa.LawKit in
set_option maxHeartbeats 16000000 in
set_option maxRecDepth 100000 in
theorem laws_FnExactGenerationRounds.calls (k : Nat) (a0_0 : Int) (A0_1 : Option Addr) (c0_1 : Nat) (l0_1 : List (S102)) (A1 : Option Addr) (c1 : Nat) (l1 : List Int) (r : Bool) (w : World) (hr0_1 : Kd.C k102 w A0_1 l0_1.length l0_1) (hc0_1 : l0_1.length ≤ c0_1) (hr1 : Kd.C (Kd.int .i64) w A1 l1.length l1) (hc1 : l1.length ≤ c1) (h : laws_FnExactGenerationRounds.f k a0_0 l0_1 l1 = some r) :
  Calls Try.prog 3 #[.agg #[.int .i64 a0_0, .slice A0_1 l0_1.length c0_1], .slice A1 l1.length c1] w fun e w' => e = .returned (.bool r) ∧ Below w.heap.size w w' := by
 have hu24 := Try.underlying24
 have hu32 := Try.underlying32
 have HR0_1 := Aside0.mk hr0_1
 have HR1 := Aside0.mk hr1
 have HC0_1 := Aside0.mk hc0_1
 have HC1 := Aside0.mk hc1
 clear hr0_1 hc0_1 hr1 hc1
 have HB := Aside0.mk (Below.refl w.heap.size w)
 have H := h
 clear h
 unfold laws_FnExactGenerationRounds.f at H
 by_cases c0 : 1048576 < (l1.length : Int)
 ·rw [if_pos c0] at H
  have c0b : decide (1048576 < (l1.length : Int)) = true := decide_eq_true c0
  have c0n : decide (1048576 < l1.length) = true := by first | exact decide_eq_true (by omega) | exact decide_eq_false (by omega)
  clear c0
  obtain rfl := Option.some.inj H
  clear H
  go_enter Try.func3, Try.ntmps3
  go_wp2
  go_ret
  exact ⟨rfl, bA (HB.out) _⟩
 rw [if_neg c0] at H
 have c0b : decide (1048576 < (l1.length : Int)) = false := decide_eq_false c0
 have c0n : decide (1048576 < l1.length) = false := by first | exact decide_eq_true (by omega) | exact decide_eq_false (by omega)
 clear c0
 replace H := Option.bind_eq_some_iff.mp H
 obtain ⟨t0_0, A0, H⟩ := H
 (try dsimp only at H)
 replace A0 := Aside0.mk A0
 by_cases c1 : t0_0 < 0
 ·rw [if_pos c1] at H
  have c1b : decide (t0_0 < 0) = true := decide_eq_true c1
  clear c1
  obtain rfl := Option.some.inj H
  clear H
  go_enter Try.func3, Try.ntmps3
  go_wp2_with fail
  refine letter_ ?_
  intro w2 eW
  have B0 := Aside0.mk (Lives.boxed eW)
  replace HB := Aside0.mk (below_at HB.out eW)
  have Z0 := Aside0.mk (size_at eW)
  clear eW
  have zB0_0 := (blk_cell B0.out.now 0).trans rfl
  have zB0_1 := (blk_cell B0.out.now 1).trans rfl
  have yB0_0 := fun o => (blk_cell (B0.out.alloc o).now 0).trans rfl
  have yB0_1 := fun o => (blk_cell (B0.out.alloc o).now 1).trans rfl
  refine (laws_szAlgebra.calls k a0_0 _ _ l0_1 1048576 t0_0 _ (Kd.C_below HR0_1.out HB.out) HC0_1.out A0.out).mono ?_
  rintro e w1 ⟨rfl, hb⟩
  clear zB0_0 yB0_0 zB0_1 yB0_1
  replace B0 := Aside0.mk (B0.out.below hb)
  have Z1 := Aside0.mk hb.size
  replace HB := Aside0.mk (below_step HB.out hb)
  clear hb
  have zB0_0 := (blk_cell B0.out.now 0).trans rfl
  have zB0_1 := (blk_cell B0.out.now 1).trans rfl
  have yB0_0 := fun o => (blk_cell (B0.out.alloc o).now 0).trans rfl
  have yB0_1 := fun o => (blk_cell (B0.out.alloc o).now 1).trans rfl
  go_wp2
  go_ret
  exact ⟨rfl, HB.out⟩
 rw [if_neg c1] at H
 have c1b : decide (t0_0 < 0) = false := decide_eq_false c1
 clear c1
 replace H := Option.bind_eq_some_iff.mp H
 obtain ⟨⟨t1_0, t1_1⟩, A1, H⟩ := H
 (try dsimp only at H)
 replace A1 := Aside0.mk A1
 replace H := Option.bind_eq_some_iff.mp H
 obtain ⟨t2_0, A2, H⟩ := H
 (try dsimp only at H)
 replace A2 := Aside0.mk A2
 replace H := Option.bind_eq_some_iff.mp H
 obtain ⟨⟨t3_0, t3_1⟩, A3, H⟩ := H
 (try dsimp only at H)
 replace A3 := Aside0.mk A3
 replace H := Option.bind_eq_some_iff.mp H
 obtain ⟨⟨t4_0, t4_1⟩, A4, H⟩ := H
 (try dsimp only at H)
 replace A4 := Aside0.mk A4
 replace H := Option.bind_eq_some_iff.mp H
 obtain ⟨t5_0, A5, H⟩ := H
 (try dsimp only at H)
 replace A5 := Aside0.mk A5
 replace H := of_ite H
 obtain ⟨⟨e2_0, e2_1⟩, H⟩ := H
 subst e2_0
 subst e2_1
 replace H := Option.bind_eq_some_iff.mp H
 obtain ⟨t6_0, A6, H⟩ := H
 (try dsimp only at H)
 replace A6 := Aside0.mk A6
 replace H := of_ite H
 obtain ⟨e3_0, H⟩ := H
 subst e3_0
 replace H := Option.bind_eq_some_iff.mp H
 obtain ⟨t7_0, A7, H⟩ := H
 (try dsimp only at H)
 replace A7 := Aside0.mk A7
 replace H := of_ite H
 obtain ⟨e4_0, H⟩ := H
 subst e4_0
 replace H := Option.bind_eq_some_iff.mp H
 obtain ⟨⟨t8_0, t8_1⟩, A8, H⟩ := H
 (try dsimp only at H)
 replace A8 := Aside0.mk A8
 replace H := Option.bind_eq_some_iff.mp H
 obtain ⟨⟨t9_0, t9_1⟩, A9, H⟩ := H
 (try dsimp only at H)
 replace A9 := Aside0.mk A9
 replace H := of_ite H
 obtain ⟨e5_0, H⟩ := H
 have e5_0b : decide (t9_0 < 0) = false := decide_eq_false e5_0
 clear e5_0
 replace H := Option.bind_eq_some_iff.mp H
 obtain ⟨⟨t10_0, t10_1⟩, A10, H⟩ := H
 (try dsimp only at H)
 replace A10 := Aside0.mk A10
 replace H := Option.bind_eq_some_iff.mp H
 obtain ⟨t11_0, A11, H⟩ := H
 (try dsimp only at H)
 replace A11 := Aside0.mk A11
 replace H := of_ite H
 obtain ⟨e6_0, H⟩ := H
 have e6_0b : decide (t11_0 < 0) = false := decide_eq_false e6_0
 clear e6_0
 replace H := of_ite H
 obtain ⟨e7_0, H⟩ := H
 subst e7_0
 obtain rfl := Option.some.inj H
 clear H
 go_enter Try.func3, Try.ntmps3
 go_wp2_with fail
 refine letter_ ?_
 intro w2 eW
 have B0 := Aside0.mk (Lives.boxed eW)
 replace HB := Aside0.mk (below_at HB.out eW)
 have Z0 := Aside0.mk (size_at eW)
 clear eW
 have zB0_0 := (blk_cell B0.out.now 0).trans rfl
 have zB0_1 := (blk_cell B0.out.now 1).trans rfl
 have yB0_0 := fun o => (blk_cell (B0.out.alloc o).now 0).trans rfl
 have yB0_1 := fun o => (blk_cell (B0.out.alloc o).now 1).trans rfl
 refine (laws_szAlgebra.calls k a0_0 _ _ l0_1 1048576 t0_0 _ (Kd.C_below HR0_1.out HB.out) HC0_1.out A0.out).mono ?_
 rintro e w1 ⟨rfl, hb⟩
 clear zB0_0 yB0_0 zB0_1 yB0_1
 replace B0 := Aside0.mk (B0.out.below hb)
 have Z1 := Aside0.mk hb.size
 replace HB := Aside0.mk (below_step HB.out hb)
 clear hb
 have zB0_0 := (blk_cell B0.out.now 0).trans rfl
 have zB0_1 := (blk_cell B0.out.now 1).trans rfl
 have yB0_0 := fun o => (blk_cell (B0.out.alloc o).now 0).trans rfl
 have yB0_1 := fun o => (blk_cell (B0.out.alloc o).now 1).trans rfl
 go_wp2_with fail
 refine (laws_toAlgebra.calls k a0_0 _ _ l0_1 t1_0 t1_1 _ (Kd.C_below HR0_1.out HB.out) HC0_1.out A1.out).mono ?_
 rintro e w3 ⟨v1, rfl, ho1, hb⟩
 clear zB0_0 yB0_0 zB0_1 yB0_1
 replace B0 := Aside0.mk (B0.out.below hb)
 have Z2 := Aside0.mk hb.size
 obtain ⟨AR0, cR0, rfl⟩ := Kd.S_slice ho1
 have R0 := Aside0.mk (Lives.rowS (base := w.heap.size) ho1 hb.size HB.out.size)
 replace HB := Aside0.mk (below_step HB.out hb)
 clear hb ho1
 have zB0_0 := (blk_cell B0.out.now 0).trans rfl
 have zB0_1 := (blk_cell B0.out.now 1).trans rfl
 have yB0_0 := fun o => (blk_cell (B0.out.alloc o).now 0).trans rfl
 have yB0_1 := fun o => (blk_cell (B0.out.alloc o).now 1).trans rfl
 go_wp2_with fail
 refine (laws_toIntS.calls k _ _ l1 t2_0 _ (Kd.C_below HR1.out HB.out) HC1.out A2.out).mono ?_
 rintro e w4 ⟨v0, rfl, ho0, hb⟩
 clear zB0_0 yB0_0 zB0_1 yB0_1
 replace B0 := Aside0.mk (B0.out.below hb)
 replace R0 := Aside0.mk (R0.out.below hb)
 have Z3 := Aside0.mk hb.size
 obtain ⟨AR1, cR1, rfl⟩ := Kd.R_slice ho0
 have R1 := Aside0.mk (Lives.row (base := w.heap.size) ho0 hb.size HB.out.size)
 replace HB := Aside0.mk (below_step HB.out hb)
 clear hb ho0
 have zB0_0 := (blk_cell B0.out.now 0).trans rfl
 have zB0_1 := (blk_cell B0.out.now 1).trans rfl
 have yB0_0 := fun o => (blk_cell (B0.out.alloc o).now 0).trans rfl
 have yB0_1 := fun o => (blk_cell (B0.out.alloc o).now 1).trans rfl
 go_wp2_with fail
 refine (spec_GenerationRounds.calls k t1_0 _ _ t1_1 _ _ t2_0 t3_0 t4_1 _ (Kd.S_reads' R0.out.now).2.2 (Kd.S_reads' R0.out.now).2.1 (Kd.R_reads' R1.out.now).2.2 (Kd.R_reads' R1.out.now).2.1 A3.out).mono ?_
 rintro e w5 ⟨v0, rfl, ho0, hb⟩
 clear zB0_0 yB0_0 zB0_1 yB0_1
 replace B0 := Aside0.mk (B0.out.below hb)
 replace R0 := Aside0.mk (R0.out.below hb)
 replace R1 := Aside0.mk (R1.out.below hb)
 have Z4 := Aside0.mk hb.size
 obtain ⟨AR2, cR2, rfl⟩ := Kd.S_slice ho0
 have R2 := Aside0.mk (Lives.rowS (base := w.heap.size) ho0 hb.size HB.out.size)
 replace HB := Aside0.mk (below_step HB.out hb)
 clear hb ho0
 have zB0_0 := (blk_cell B0.out.now 0).trans rfl
 have zB0_1 := (blk_cell B0.out.now 1).trans rfl
 have yB0_0 := fun o => (blk_cell (B0.out.alloc o).now 0).trans rfl
 have yB0_1 := fun o => (blk_cell (B0.out.alloc o).now 1).trans rfl
 go_wp2_with fail
 refine (laws_toAlgebra.calls k a0_0 _ _ l0_1 t1_0 t1_1 _ (Kd.C_below HR0_1.out HB.out) HC0_1.out A1.out).mono ?_
 rintro e w6 ⟨v1, rfl, ho1, hb⟩
 clear zB0_0 yB0_0 zB0_1 yB0_1
 replace B0 := Aside0.mk (B0.out.below hb)
 replace R0 := Aside0.mk (R0.out.below hb)
 replace R1 := Aside0.mk (R1.out.below hb)
 replace R2 := Aside0.mk (R2.out.below hb)
 have Z5 := Aside0.mk hb.size
 obtain ⟨AR3, cR3, rfl⟩ := Kd.S_slice ho1
 have R3 := Aside0.mk (Lives.rowS (base := w.heap.size) ho1 hb.size HB.out.size)
 replace HB := Aside0.mk (below_step HB.out hb)
 clear hb ho1
 have zB0_0 := (blk_cell B0.out.now 0).trans rfl
 have zB0_1 := (blk_cell B0.out.now 1).trans rfl
 have yB0_0 := fun o => (blk_cell (B0.out.alloc o).now 0).trans rfl
 have yB0_1 := fun o => (blk_cell (B0.out.alloc o).now 1).trans rfl
 go_wp2_with fail
 clear zB0_0 yB0_0 zB0_1 yB0_1
 refine letter_ ?_
 intro w8 eW
 replace B0 := Aside0.mk (B0.out.at eW)
 replace R0 := Aside0.mk (R0.out.at eW)
 replace R1 := Aside0.mk (R1.out.at eW)
 replace R2 := Aside0.mk (R2.out.at eW)
 replace R3 := Aside0.mk (R3.out.at eW)
 have B1 := Aside0.mk (Lives.boxed eW)
 replace HB := Aside0.mk (below_at HB.out eW)
 have Z6 := Aside0.mk (size_at eW)
 clear eW
 have zB0_0 := (blk_cell B0.out.now 0).trans rfl
 have zB0_1 := (blk_cell B0.out.now 1).trans rfl
 have yB0_0 := fun o => (blk_cell (B0.out.alloc o).now 0).trans rfl
 have yB0_1 := fun o => (blk_cell (B0.out.alloc o).now 1).trans rfl
 have zB1_0 := (blk_cell B1.out.now 0).trans rfl
 have zB1_1 := (blk_cell B1.out.now 1).trans rfl
 have yB1_0 := fun o => (blk_cell (B1.out.alloc o).now 0).trans rfl
 have yB1_1 := fun o => (blk_cell (B1.out.alloc o).now 1).trans rfl
 refine (laws_toIntS.calls k _ _ l1 t2_0 _ (Kd.C_below HR1.out HB.out) HC1.out A2.out).mono ?_
 rintro e w7 ⟨v0, rfl, ho0, hb⟩
 clear zB0_0 yB0_0 zB0_1 yB0_1 zB1_0 yB1_0 zB1_1 yB1_1
 replace B0 := Aside0.mk (B0.out.below hb)
 replace R0 := Aside0.mk (R0.out.below hb)
 replace R1 := Aside0.mk (R1.out.below hb)
 replace R2 := Aside0.mk (R2.out.below hb)
 replace R3 := Aside0.mk (R3.out.below hb)
 replace B1 := Aside0.mk (B1.out.below hb)
 have Z7 := Aside0.mk hb.size
 obtain ⟨AR4, cR4, rfl⟩ := Kd.R_slice ho0
 have R4 := Aside0.mk (Lives.row (base := w.heap.size) ho0 hb.size HB.out.size)
 replace HB := Aside0.mk (below_step HB.out hb)
 clear hb ho0
 have zB0_0 := (blk_cell B0.out.now 0).trans rfl
 have zB0_1 := (blk_cell B0.out.now 1).trans rfl
 have yB0_0 := fun o => (blk_cell (B0.out.alloc o).now 0).trans rfl
 have yB0_1 := fun o => (blk_cell (B0.out.alloc o).now 1).trans rfl
 have zB1_0 := (blk_cell B1.out.now 0).trans rfl
 have zB1_1 := (blk_cell B1.out.now 1).trans rfl
 have yB1_0 := fun o => (blk_cell (B1.out.alloc o).now 0).trans rfl
 have yB1_1 := fun o => (blk_cell (B1.out.alloc o).now 1).trans rfl
 go_wp2_with fail
 refine (impl_GenerationRounds.calls k t1_0 _ _ t1_1 _ _ t2_0 t4_0 t4_1 _ (Kd.S_reads' R3.out.now).2.2 (Kd.S_reads' R3.out.now).2.1 (Kd.R_reads' R4.out.now).2.2 (Kd.R_reads' R4.out.now).2.1 A4.out).mono ?_
 rintro e w9 ⟨v0, rfl, ho0, hb⟩
 clear zB0_0 yB0_0 zB0_1 yB0_1 zB1_0 yB1_0 zB1_1 yB1_1
 replace B0 := Aside0.mk (B0.out.below hb)
 replace R0 := Aside0.mk (R0.out.below hb)
 replace R1 := Aside0.mk (R1.out.below hb)
 replace R2 := Aside0.mk (R2.out.below hb)
 replace R3 := Aside0.mk (R3.out.below hb)
 replace B1 := Aside0.mk (B1.out.below hb)
 replace R4 := Aside0.mk (R4.out.below hb)
 have Z8 := Aside0.mk hb.size
 obtain ⟨AR5, cR5, rfl⟩ := Kd.S_slice ho0
 have R5 := Aside0.mk (Lives.rowS (base := w.heap.size) ho0 hb.size HB.out.size)
 replace HB := Aside0.mk (below_step HB.out hb)
 clear hb ho0
 have zB0_0 := (blk_cell B0.out.now 0).trans rfl
 have zB0_1 := (blk_cell B0.out.now 1).trans rfl
 have yB0_0 := fun o => (blk_cell (B0.out.alloc o).now 0).trans rfl
 have yB0_1 := fun o => (blk_cell (B0.out.alloc o).now 1).trans rfl
 have zB1_0 := (blk_cell B1.out.now 0).trans rfl
 have zB1_1 := (blk_cell B1.out.now 1).trans rfl
 have yB1_0 := fun o => (blk_cell (B1.out.alloc o).now 0).trans rfl
 have yB1_1 := fun o => (blk_cell (B1.out.alloc o).now 1).trans rfl
 go_wp2_with fail
 refine (laws_eqIntSS.calls k _ _ t4_0 _ _ t3_0 true _ (Kd.S_reads' R5.out.now).2.2 (Kd.S_reads' R5.out.now).2.1 (Kd.S_reads' R2.out.now).2.2 (Kd.S_reads' R2.out.now).2.1 A5.out).mono ?_
 rintro e w10 ⟨rfl, hd⟩
 have hb := below_drawn hd
 clear hd
 clear zB0_0 yB0_0 zB0_1 yB0_1 zB1_0 yB1_0 zB1_1 yB1_1
 replace B0 := Aside0.mk (B0.out.below hb)
 replace R0 := Aside0.mk (R0.out.below hb)
 replace R1 := Aside0.mk (R1.out.below hb)
 replace R2 := Aside0.mk (R2.out.below hb)
 replace R3 := Aside0.mk (R3.out.below hb)
 replace B1 := Aside0.mk (B1.out.below hb)
 replace R4 := Aside0.mk (R4.out.below hb)
 replace R5 := Aside0.mk (R5.out.below hb)
 have Z9 := Aside0.mk hb.size
 replace HB := Aside0.mk (below_step HB.out hb)
 clear hb
 have zB0_0 := (blk_cell B0.out.now 0).trans rfl
 have zB0_1 := (blk_cell B0.out.now 1).trans rfl
 have yB0_0 := fun o => (blk_cell (B0.out.alloc o).now 0).trans rfl
 have yB0_1 := fun o => (blk_cell (B0.out.alloc o).now 1).trans rfl
 have zB1_0 := (blk_cell B1.out.now 0).trans rfl
 have zB1_1 := (blk_cell B1.out.now 1).trans rfl
 have yB1_0 := fun o => (blk_cell (B1.out.alloc o).now 0).trans rfl
 have yB1_1 := fun o => (blk_cell (B1.out.alloc o).now 1).trans rfl
 try go_wp2_with fail
 clear zB0_0 yB0_0 zB0_1 yB0_1 zB1_0 yB1_0 zB1_1 yB1_1
 replace B0 := Aside0.mk B0.out.drew
 replace R0 := Aside0.mk R0.out.drew
 replace R1 := Aside0.mk R1.out.drew
 replace R2 := Aside0.mk R2.out.drew
 replace R3 := Aside0.mk R3.out.drew
 replace B1 := Aside0.mk B1.out.drew
 replace R4 := Aside0.mk R4.out.drew
 replace R5 := Aside0.mk R5.out.drew
 replace HB := Aside0.mk (bD HB.out)
 have Z10 := Aside0.mk (show w10.heap.size ≤ w10.drew.heap.size from Nat.le_refl _)
 refine start_ (n := 5) (S := fun w' => w'.cell? ⟨w.heap.size, 0, none⟩ = some (.int .i64 a0_0) ∧ w'.cell? ⟨w.heap.size, 1, none⟩ = some (.slice A0_1 l0_1.length c0_1) ∧ w'.cell? ⟨w6.heap.size, 0, none⟩ = some (.int .i64 t1_0) ∧ w'.cell? ⟨w6.heap.size, 1, none⟩ = some (.slice AR3 t1_1.length cR3)) (ds := []) #[false, false, false, false, false] (by kernel_rfl) rfl rfl ⟨(blk_cell B0.out.now 0).trans rfl, (blk_cell B0.out.now 1).trans rfl, (blk_cell B1.out.now 0).trans rfl, (blk_cell B1.out.now 1).trans rfl⟩ (fun hHeld => ?_)
 generalize w10.drew = w11 at B0 R0 R1 R2 R3 B1 R4 R5 HB Z10 hHeld ⊢
 refine take_ (i := 0) (N := (some 52)) (v := ?_) (a' := ?_) #[true, false, false, false, false] rfl rfl (by kernel_rfl) (fun _ _ _ h => h) (Or.inl ⟨by rfl, ?_⟩) hHeld ?_ ?_
 rotate_left
 ·rintro w' ⟨s0, s1, s2, s3⟩
  go_simp
  with_reducible rfl
 rotate_left
 ·simp only [Act.put, lS, lZ, lT, i64_w, i32_w]
  rfl
 refine take_ (i := 1) (N := (some 53)) (v := ?_) (a' := ?_) #[true, true, false, false, false] rfl rfl (by kernel_rfl) (fun _ _ _ h => h) (Or.inl ⟨by rfl, ?_⟩) hHeld ?_ ?_
 rotate_left
 ·rintro w' ⟨s0, s1, s2, s3⟩
  go_simp
  with_reducible rfl
 rotate_left
 ·simp only [Act.put, lS, lZ, lT, i64_w, i32_w]
  rfl
 refine one_ (i := 2) (N := (some 54)) #[true, true, true, false, false] rfl rfl (by kernel_rfl) (by decide) (fun K hK => ?_)
 refine goes_ Try.func11 (by kernel_rfl) rfl #[.agg #[.int .i64 a0_0, .slice A0_1 l0_1.length c0_1]] (by rfl) rfl rfl (by (try simp only [List.map_toArray, List.map_cons, List.map_nil]); first | done | rfl | (simp only [List.length_drop, List.length_take]; rfl)) ?_
 refine (laws_toAlgebra.calls k a0_0 _ _ l0_1 t1_0 t1_1 _ (Kd.C_below HR0_1.out HB.out) HC0_1.out A1.out).mono ?_
 rintro e w12 ⟨v1, rfl, ho1, hb⟩
 refine ⟨_, rfl, ?_⟩
 replace B0 := Aside0.mk (B0.out.below hb)
 replace R0 := Aside0.mk (R0.out.below hb)
 replace R1 := Aside0.mk (R1.out.below hb)
 replace R2 := Aside0.mk (R2.out.below hb)
 replace R3 := Aside0.mk (R3.out.below hb)
 replace B1 := Aside0.mk (B1.out.below hb)
 replace R4 := Aside0.mk (R4.out.below hb)
 replace R5 := Aside0.mk (R5.out.below hb)
 have Z11 := Aside0.mk hb.size
 obtain ⟨AR6, cR6, rfl⟩ := Kd.S_slice ho1
 have R6 := Aside0.mk (Lives.rowS (base := w.heap.size) ho1 hb.size HB.out.size)
 replace HB := Aside0.mk (below_step HB.out hb)
 clear hb ho1
 have zB0_0 := (blk_cell B0.out.now 0).trans rfl
 have zB0_1 := (blk_cell B0.out.now 1).trans rfl
 have yB0_0 := fun o => (blk_cell (B0.out.alloc o).now 0).trans rfl
 have yB0_1 := fun o => (blk_cell (B0.out.alloc o).now 1).trans rfl
 have zB1_0 := (blk_cell B1.out.now 0).trans rfl
 have zB1_1 := (blk_cell B1.out.now 1).trans rfl
 have yB1_0 := fun o => (blk_cell (B1.out.alloc o).now 0).trans rfl
 have yB1_1 := fun o => (blk_cell (B1.out.alloc o).now 1).trans rfl
 clear zB0_0 yB0_0 zB0_1 yB0_1 zB1_0 yB1_0 zB1_1 yB1_1
 refine hK.out _ _ ⟨(blk_cell B0.out.now 0).trans rfl, (blk_cell B0.out.now 1).trans rfl, (blk_cell B1.out.now 0).trans rfl, (blk_cell B1.out.now 1).trans rfl⟩ (fun hHeld => ?_)
 clear hK K
 refine norm_ (a' := ?_) ?_ ?_
 rotate_left
 ·show Act.put _ (some 54) _ = _
  simp only [Act.put, lS, lZ, lT, i64_w, i32_w]
  rfl
 refine one_ (i := 3) (N := (some 55)) #[true, true, true, true, false] rfl rfl (by kernel_rfl) (by decide) (fun K hK => ?_)
 refine goes_ Try.func15 (by kernel_rfl) rfl #[.agg #[.int .i64 t1_0, .slice AR3 t1_1.length cR3], .agg #[.int .i64 t1_0, .slice AR6 t1_1.length cR6]] (by rfl) rfl rfl (by (try simp only [List.map_toArray, List.map_cons, List.map_nil]); first | done | rfl | (simp only [List.length_drop, List.length_take]; rfl)) ?_
 refine (laws_eqAlgebra.calls k t1_0 _ _ t1_1 t1_0 _ _ t1_1 true _ (Kd.S_reads' R3.out.now).2.2 (Kd.S_reads' R3.out.now).2.1 (Kd.S_reads' R6.out.now).2.2 (Kd.S_reads' R6.out.now).2.1 A6.out).mono ?_
 rintro e w13 ⟨rfl, hb⟩
 refine ⟨_, rfl, ?_⟩
 replace B0 := Aside0.mk (B0.out.below hb)
 replace R0 := Aside0.mk (R0.out.below hb)
 replace R1 := Aside0.mk (R1.out.below hb)
 replace R2 := Aside0.mk (R2.out.below hb)
 replace R3 := Aside0.mk (R3.out.below hb)
 replace B1 := Aside0.mk (B1.out.below hb)
 replace R4 := Aside0.mk (R4.out.below hb)
 replace R5 := Aside0.mk (R5.out.below hb)
 replace R6 := Aside0.mk (R6.out.below hb)
 have Z12 := Aside0.mk hb.size
 replace HB := Aside0.mk (below_step HB.out hb)
 clear hb
 have zB0_0 := (blk_cell B0.out.now 0).trans rfl
 have zB0_1 := (blk_cell B0.out.now 1).trans rfl
 have yB0_0 := fun o => (blk_cell (B0.out.alloc o).now 0).trans rfl
 have yB0_1 := fun o => (blk_cell (B0.out.alloc o).now 1).trans rfl
 have zB1_0 := (blk_cell B1.out.now 0).trans rfl
 have zB1_1 := (blk_cell B1.out.now 1).trans rfl
 have yB1_0 := fun o => (blk_cell (B1.out.alloc o).now 0).trans rfl
 have yB1_1 := fun o => (blk_cell (B1.out.alloc o).now 1).trans rfl
 clear zB0_0 yB0_0 zB0_1 yB0_1 zB1_0 yB1_0 zB1_1 yB1_1
 refine hK.out _ _ ⟨(blk_cell B0.out.now 0).trans rfl, (blk_cell B0.out.now 1).trans rfl, (blk_cell B1.out.now 0).trans rfl, (blk_cell B1.out.now 1).trans rfl⟩ (fun hHeld => ?_)
 clear hK K
 refine norm_ (a' := ?_) ?_ ?_
 rotate_left
 ·show Act.put _ (some 55) _ = _
  simp only [Act.put, lS, lZ, lT, i64_w, i32_w]
  rfl
 refine pure_ (i := 4) (N := (some 56)) (v := ?_) (a' := ?_) #[true, true, true, true, true] rfl rfl (by kernel_rfl) (fun _ _ _ h => h) (Or.inl ⟨by rfl, ?_⟩) ?_ ?_
 rotate_left
 ·intro w'
  go_simp
  with_reducible rfl
 rotate_left
 ·simp only [Act.put, lS, lZ, lT, i64_w, i32_w]
  rfl
 refine done_ (by kernel_rfl) ?_
 have zB0_0 := (blk_cell B0.out.now 0).trans rfl
 have zB0_1 := (blk_cell B0.out.now 1).trans rfl
 have yB0_0 := fun o => (blk_cell (B0.out.alloc o).now 0).trans rfl
 have yB0_1 := fun o => (blk_cell (B0.out.alloc o).now 1).trans rfl
 have zB1_0 := (blk_cell B1.out.now 0).trans rfl
 have zB1_1 := (blk_cell B1.out.now 1).trans rfl
 have yB1_0 := fun o => (blk_cell (B1.out.alloc o).now 0).trans rfl
 have yB1_1 := fun o => (blk_cell (B1.out.alloc o).now 1).trans rfl
 go_wp2_with fail
 refine (laws_toIntS.calls k _ _ l1 t2_0 _ (Kd.C_below HR1.out HB.out) HC1.out A2.out).mono ?_
 rintro e w14 ⟨v0, rfl, ho0, hb⟩
 clear zB0_0 yB0_0 zB0_1 yB0_1 zB1_0 yB1_0 zB1_1 yB1_1
 replace B0 := Aside0.mk (B0.out.below hb)
 replace R0 := Aside0.mk (R0.out.below hb)
 replace R1 := Aside0.mk (R1.out.below hb)
 replace R2 := Aside0.mk (R2.out.below hb)
 replace R3 := Aside0.mk (R3.out.below hb)
 replace B1 := Aside0.mk (B1.out.below hb)
 replace R4 := Aside0.mk (R4.out.below hb)
 replace R5 := Aside0.mk (R5.out.below hb)
 replace R6 := Aside0.mk (R6.out.below hb)
 have Z13 := Aside0.mk hb.size
 obtain ⟨AR7, cR7, rfl⟩ := Kd.R_slice ho0
 have R7 := Aside0.mk (Lives.row (base := w.heap.size) ho0 hb.size HB.out.size)
 replace HB := Aside0.mk (below_step HB.out hb)
 clear hb ho0
 have zB0_0 := (blk_cell B0.out.now 0).trans rfl
 have zB0_1 := (blk_cell B0.out.now 1).trans rfl
 have yB0_0 := fun o => (blk_cell (B0.out.alloc o).now 0).trans rfl
 have yB0_1 := fun o => (blk_cell (B0.out.alloc o).now 1).trans rfl
 have zB1_0 := (blk_cell B1.out.now 0).trans rfl
 have zB1_1 := (blk_cell B1.out.now 1).trans rfl
 have yB1_0 := fun o => (blk_cell (B1.out.alloc o).now 0).trans rfl
 have yB1_1 := fun o => (blk_cell (B1.out.alloc o).now 1).trans rfl
 go_wp2_with fail
 refine (laws_eqIntS.calls k _ _ t2_0 _ _ t2_0 true _ (Kd.R_reads' R4.out.now).2.2 (Kd.R_reads' R4.out.now).2.1 (Kd.R_reads' R7.out.now).2.2 (Kd.R_reads' R7.out.now).2.1 A7.out).mono ?_
 rintro e w15 ⟨rfl, hd⟩
 have hb := below_drawn hd
 clear hd
 clear zB0_0 yB0_0 zB0_1 yB0_1 zB1_0 yB1_0 zB1_1 yB1_1
 replace B0 := Aside0.mk (B0.out.below hb)
 replace R0 := Aside0.mk (R0.out.below hb)
 replace R1 := Aside0.mk (R1.out.below hb)
 replace R2 := Aside0.mk (R2.out.below hb)
 replace R3 := Aside0.mk (R3.out.below hb)
 replace B1 := Aside0.mk (B1.out.below hb)
 replace R4 := Aside0.mk (R4.out.below hb)
 replace R5 := Aside0.mk (R5.out.below hb)
 replace R6 := Aside0.mk (R6.out.below hb)
 replace R7 := Aside0.mk (R7.out.below hb)
 have Z14 := Aside0.mk hb.size
 replace HB := Aside0.mk (below_step HB.out hb)
 clear hb
 have zB0_0 := (blk_cell B0.out.now 0).trans rfl
 have zB0_1 := (blk_cell B0.out.now 1).trans rfl
 have yB0_0 := fun o => (blk_cell (B0.out.alloc o).now 0).trans rfl
 have yB0_1 := fun o => (blk_cell (B0.out.alloc o).now 1).trans rfl
 have zB1_0 := (blk_cell B1.out.now 0).trans rfl
 have zB1_1 := (blk_cell B1.out.now 1).trans rfl
 have yB1_0 := fun o => (blk_cell (B1.out.alloc o).now 0).trans rfl
 have yB1_1 := fun o => (blk_cell (B1.out.alloc o).now 1).trans rfl
 go_wp2_with fail
 refine (laws_markAlgebra.calls k (fun k_ => w5.heap.size ≤ k_ ∧ k_ < w6.heap.size) t1_0 _ t1_1 1 t8_0 t8_1 w _ HB.out R3.out.now A8.out).mono ?_
 rintro e w16 ⟨rfl, ho, hb, hk⟩
 clear zB0_0 yB0_0 zB0_1 yB0_1 zB1_0 yB1_0 zB1_1 yB1_1
 have Z15 := Aside0.mk hk.1
 replace B0 := Aside0.mk (B0.out.kept hk (by have := Z0.out; have := Z1.out; have := Z2.out; have := Z3.out; have := Z4.out; have := Z5.out; have := Z6.out; have := Z7.out; have := Z8.out; have := Z9.out; have := Z10.out; have := Z11.out; have := Z12.out; have := Z13.out; have := Z14.out; omega))
 replace R0 := Aside0.mk (R0.out.kept hk (by have := Z0.out; have := Z1.out; have := Z2.out; have := Z3.out; have := Z4.out; have := Z5.out; have := Z6.out; have := Z7.out; have := Z8.out; have := Z9.out; have := Z10.out; have := Z11.out; have := Z12.out; have := Z13.out; have := Z14.out; omega))
 replace R1 := Aside0.mk (R1.out.kept hk (by have := Z0.out; have := Z1.out; have := Z2.out; have := Z3.out; have := Z4.out; have := Z5.out; have := Z6.out; have := Z7.out; have := Z8.out; have := Z9.out; have := Z10.out; have := Z11.out; have := Z12.out; have := Z13.out; have := Z14.out; omega))
 replace R2 := Aside0.mk (R2.out.kept hk (by have := Z0.out; have := Z1.out; have := Z2.out; have := Z3.out; have := Z4.out; have := Z5.out; have := Z6.out; have := Z7.out; have := Z8.out; have := Z9.out; have := Z10.out; have := Z11.out; have := Z12.out; have := Z13.out; have := Z14.out; omega))
 replace R3 := Aside0.mk (R3.out.markedS ho hk.1)
 replace B1 := Aside0.mk (B1.out.kept hk (by have := Z0.out; have := Z1.out; have := Z2.out; have := Z3.out; have := Z4.out; have := Z5.out; have := Z6.out; have := Z7.out; have := Z8.out; have := Z9.out; have := Z10.out; have := Z11.out; have := Z12.out; have := Z13.out; have := Z14.out; omega))
 replace R4 := Aside0.mk (R4.out.kept hk (by have := Z0.out; have := Z1.out; have := Z2.out; have := Z3.out; have := Z4.out; have := Z5.out; have := Z6.out; have := Z7.out; have := Z8.out; have := Z9.out; have := Z10.out; have := Z11.out; have := Z12.out; have := Z13.out; have := Z14.out; omega))
 replace R5 := Aside0.mk (R5.out.kept hk (by have := Z0.out; have := Z1.out; have := Z2.out; have := Z3.out; have := Z4.out; have := Z5.out; have := Z6.out; have := Z7.out; have := Z8.out; have := Z9.out; have := Z10.out; have := Z11.out; have := Z12.out; have := Z13.out; have := Z14.out; omega))
 replace R6 := Aside0.mk (R6.out.kept hk (by have := Z0.out; have := Z1.out; have := Z2.out; have := Z3.out; have := Z4.out; have := Z5.out; have := Z6.out; have := Z7.out; have := Z8.out; have := Z9.out; have := Z10.out; have := Z11.out; have := Z12.out; have := Z13.out; have := Z14.out; omega))
 replace R7 := Aside0.mk (R7.out.kept hk (by have := Z0.out; have := Z1.out; have := Z2.out; have := Z3.out; have := Z4.out; have := Z5.out; have := Z6.out; have := Z7.out; have := Z8.out; have := Z9.out; have := Z10.out; have := Z11.out; have := Z12.out; have := Z13.out; have := Z14.out; omega))
 have LR3 := Aside0.mk (Kd.S_reads' ho).1
 replace HB := Aside0.mk hb
 clear ho hb hk
 have zB0_0 := (blk_cell B0.out.now 0).trans rfl
 have zB0_1 := (blk_cell B0.out.now 1).trans rfl
 have yB0_0 := fun o => (blk_cell (B0.out.alloc o).now 0).trans rfl
 have yB0_1 := fun o => (blk_cell (B0.out.alloc o).now 1).trans rfl
 have zB1_0 := (blk_cell B1.out.now 0).trans rfl
 have zB1_1 := (blk_cell B1.out.now 1).trans rfl
 have yB1_0 := fun o => (blk_cell (B1.out.alloc o).now 0).trans rfl
 have yB1_1 := fun o => (blk_cell (B1.out.alloc o).now 1).trans rfl
 go_wp2_with fail
 refine (laws_markIntS.calls k (fun k_ => w8.heap.size ≤ k_ ∧ k_ < w7.heap.size) _ t2_0 t8_0 t9_0 t9_1 w _ HB.out R4.out.now A9.out).mono ?_
 rintro e w17 ⟨rfl, ho, hb, hk⟩
 clear zB0_0 yB0_0 zB0_1 yB0_1 zB1_0 yB1_0 zB1_1 yB1_1
 have Z16 := Aside0.mk hk.1
 replace B0 := Aside0.mk (B0.out.kept hk (by have := Z0.out; have := Z1.out; have := Z2.out; have := Z3.out; have := Z4.out; have := Z5.out; have := Z6.out; have := Z7.out; have := Z8.out; have := Z9.out; have := Z10.out; have := Z11.out; have := Z12.out; have := Z13.out; have := Z14.out; have := Z15.out; omega))
 replace R0 := Aside0.mk (R0.out.kept hk (by have := Z0.out; have := Z1.out; have := Z2.out; have := Z3.out; have := Z4.out; have := Z5.out; have := Z6.out; have := Z7.out; have := Z8.out; have := Z9.out; have := Z10.out; have := Z11.out; have := Z12.out; have := Z13.out; have := Z14.out; have := Z15.out; omega))
 replace R1 := Aside0.mk (R1.out.kept hk (by have := Z0.out; have := Z1.out; have := Z2.out; have := Z3.out; have := Z4.out; have := Z5.out; have := Z6.out; have := Z7.out; have := Z8.out; have := Z9.out; have := Z10.out; have := Z11.out; have := Z12.out; have := Z13.out; have := Z14.out; have := Z15.out; omega))
 replace R2 := Aside0.mk (R2.out.kept hk (by have := Z0.out; have := Z1.out; have := Z2.out; have := Z3.out; have := Z4.out; have := Z5.out; have := Z6.out; have := Z7.out; have := Z8.out; have := Z9.out; have := Z10.out; have := Z11.out; have := Z12.out; have := Z13.out; have := Z14.out; have := Z15.out; omega))
 replace R3 := Aside0.mk (R3.out.kept hk (by have := Z0.out; have := Z1.out; have := Z2.out; have := Z3.out; have := Z4.out; have := Z5.out; have := Z6.out; have := Z7.out; have := Z8.out; have := Z9.out; have := Z10.out; have := Z11.out; have := Z12.out; have := Z13.out; have := Z14.out; have := Z15.out; omega))
 replace B1 := Aside0.mk (B1.out.kept hk (by have := Z0.out; have := Z1.out; have := Z2.out; have := Z3.out; have := Z4.out; have := Z5.out; have := Z6.out; have := Z7.out; have := Z8.out; have := Z9.out; have := Z10.out; have := Z11.out; have := Z12.out; have := Z13.out; have := Z14.out; have := Z15.out; omega))
 replace R4 := Aside0.mk (R4.out.marked rfl ho hk.1)
 replace R5 := Aside0.mk (R5.out.kept hk (by have := Z0.out; have := Z1.out; have := Z2.out; have := Z3.out; have := Z4.out; have := Z5.out; have := Z6.out; have := Z7.out; have := Z8.out; have := Z9.out; have := Z10.out; have := Z11.out; have := Z12.out; have := Z13.out; have := Z14.out; have := Z15.out; omega))
 replace R6 := Aside0.mk (R6.out.kept hk (by have := Z0.out; have := Z1.out; have := Z2.out; have := Z3.out; have := Z4.out; have := Z5.out; have := Z6.out; have := Z7.out; have := Z8.out; have := Z9.out; have := Z10.out; have := Z11.out; have := Z12.out; have := Z13.out; have := Z14.out; have := Z15.out; omega))
 replace R7 := Aside0.mk (R7.out.kept hk (by have := Z0.out; have := Z1.out; have := Z2.out; have := Z3.out; have := Z4.out; have := Z5.out; have := Z6.out; have := Z7.out; have := Z8.out; have := Z9.out; have := Z10.out; have := Z11.out; have := Z12.out; have := Z13.out; have := Z14.out; have := Z15.out; omega))
 have LR4 := Aside0.mk (Kd.R_reads' ho).1
 replace HB := Aside0.mk hb
 clear ho hb hk
 have zB0_0 := (blk_cell B0.out.now 0).trans rfl
 have zB0_1 := (blk_cell B0.out.now 1).trans rfl
 have yB0_0 := fun o => (blk_cell (B0.out.alloc o).now 0).trans rfl
 have yB0_1 := fun o => (blk_cell (B0.out.alloc o).now 1).trans rfl
 have zB1_0 := (blk_cell B1.out.now 0).trans rfl
 have zB1_1 := (blk_cell B1.out.now 1).trans rfl
 have yB1_0 := fun o => (blk_cell (B1.out.alloc o).now 0).trans rfl
 have yB1_1 := fun o => (blk_cell (B1.out.alloc o).now 1).trans rfl
 go_wp2_with fail
 refine (laws_eqIntSS.calls k _ _ t4_0 _ _ t3_0 true _ (Kd.S_reads' R5.out.now).2.2 (Kd.S_reads' R5.out.now).2.1 (Kd.S_reads' R2.out.now).2.2 (Kd.S_reads' R2.out.now).2.1 A5.out).mono ?_
 rintro e w18 ⟨rfl, hd⟩
 have hb := below_drawn hd
 clear hd
 clear zB0_0 yB0_0 zB0_1 yB0_1 zB1_0 yB1_0 zB1_1 yB1_1
 replace B0 := Aside0.mk (B0.out.below hb)
 replace R0 := Aside0.mk (R0.out.below hb)
 replace R1 := Aside0.mk (R1.out.below hb)
 replace R2 := Aside0.mk (R2.out.below hb)
 replace R3 := Aside0.mk (R3.out.below hb)
 replace B1 := Aside0.mk (B1.out.below hb)
 replace R4 := Aside0.mk (R4.out.below hb)
 replace R5 := Aside0.mk (R5.out.below hb)
 replace R6 := Aside0.mk (R6.out.below hb)
 replace R7 := Aside0.mk (R7.out.below hb)
 have Z17 := Aside0.mk hb.size
 replace HB := Aside0.mk (below_step HB.out hb)
 clear hb
 have zB0_0 := (blk_cell B0.out.now 0).trans rfl
 have zB0_1 := (blk_cell B0.out.now 1).trans rfl
 have yB0_0 := fun o => (blk_cell (B0.out.alloc o).now 0).trans rfl
 have yB0_1 := fun o => (blk_cell (B0.out.alloc o).now 1).trans rfl
 have zB1_0 := (blk_cell B1.out.now 0).trans rfl
 have zB1_1 := (blk_cell B1.out.now 1).trans rfl
 have yB1_0 := fun o => (blk_cell (B1.out.alloc o).now 0).trans rfl
 have yB1_1 := fun o => (blk_cell (B1.out.alloc o).now 1).trans rfl
 go_wp2_with fail
 refine (laws_markIntSS.calls k (fun k_ => w7.heap.size ≤ k_ ∧ k_ < w9.heap.size) _ t4_0 1 t11_0 t10_1 w _ HB.out R5.out.now A10.out).mono ?_
 rintro e w19 ⟨rfl, ho, hb, hk⟩
 clear zB0_0 yB0_0 zB0_1 yB0_1 zB1_0 yB1_0 zB1_1 yB1_1
 have Z18 := Aside0.mk hk.1
 replace B0 := Aside0.mk (B0.out.kept hk (by have := Z0.out; have := Z1.out; have := Z2.out; have := Z3.out; have := Z4.out; have := Z5.out; have := Z6.out; have := Z7.out; have := Z8.out; have := Z9.out; have := Z10.out; have := Z11.out; have := Z12.out; have := Z13.out; have := Z14.out; have := Z15.out; have := Z16.out; have := Z17.out; omega))
 replace R0 := Aside0.mk (R0.out.kept hk (by have := Z0.out; have := Z1.out; have := Z2.out; have := Z3.out; have := Z4.out; have := Z5.out; have := Z6.out; have := Z7.out; have := Z8.out; have := Z9.out; have := Z10.out; have := Z11.out; have := Z12.out; have := Z13.out; have := Z14.out; have := Z15.out; have := Z16.out; have := Z17.out; omega))
 replace R1 := Aside0.mk (R1.out.kept hk (by have := Z0.out; have := Z1.out; have := Z2.out; have := Z3.out; have := Z4.out; have := Z5.out; have := Z6.out; have := Z7.out; have := Z8.out; have := Z9.out; have := Z10.out; have := Z11.out; have := Z12.out; have := Z13.out; have := Z14.out; have := Z15.out; have := Z16.out; have := Z17.out; omega))
 replace R2 := Aside0.mk (R2.out.kept hk (by have := Z0.out; have := Z1.out; have := Z2.out; have := Z3.out; have := Z4.out; have := Z5.out; have := Z6.out; have := Z7.out; have := Z8.out; have := Z9.out; have := Z10.out; have := Z11.out; have := Z12.out; have := Z13.out; have := Z14.out; have := Z15.out; have := Z16.out; have := Z17.out; omega))
 replace R3 := Aside0.mk (R3.out.kept hk (by have := Z0.out; have := Z1.out; have := Z2.out; have := Z3.out; have := Z4.out; have := Z5.out; have := Z6.out; have := Z7.out; have := Z8.out; have := Z9.out; have := Z10.out; have := Z11.out; have := Z12.out; have := Z13.out; have := Z14.out; have := Z15.out; have := Z16.out; have := Z17.out; omega))
 replace B1 := Aside0.mk (B1.out.kept hk (by have := Z0.out; have := Z1.out; have := Z2.out; have := Z3.out; have := Z4.out; have := Z5.out; have := Z6.out; have := Z7.out; have := Z8.out; have := Z9.out; have := Z10.out; have := Z11.out; have := Z12.out; have := Z13.out; have := Z14.out; have := Z15.out; have := Z16.out; have := Z17.out; omega))
 replace R4 := Aside0.mk (R4.out.kept hk (by have := Z0.out; have := Z1.out; have := Z2.out; have := Z3.out; have := Z4.out; have := Z5.out; have := Z6.out; have := Z7.out; have := Z8.out; have := Z9.out; have := Z10.out; have := Z11.out; have := Z12.out; have := Z13.out; have := Z14.out; have := Z15.out; have := Z16.out; have := Z17.out; omega))
 replace R5 := Aside0.mk (R5.out.markedS ho hk.1)
 replace R6 := Aside0.mk (R6.out.kept hk (by have := Z0.out; have := Z1.out; have := Z2.out; have := Z3.out; have := Z4.out; have := Z5.out; have := Z6.out; have := Z7.out; have := Z8.out; have := Z9.out; have := Z10.out; have := Z11.out; have := Z12.out; have := Z13.out; have := Z14.out; have := Z15.out; have := Z16.out; have := Z17.out; omega))
 replace R7 := Aside0.mk (R7.out.kept hk (by have := Z0.out; have := Z1.out; have := Z2.out; have := Z3.out; have := Z4.out; have := Z5.out; have := Z6.out; have := Z7.out; have := Z8.out; have := Z9.out; have := Z10.out; have := Z11.out; have := Z12.out; have := Z13.out; have := Z14.out; have := Z15.out; have := Z16.out; have := Z17.out; omega))
 have LR5 := Aside0.mk (Kd.S_reads' ho).1
 replace HB := Aside0.mk hb
 clear ho hb hk
 have zB0_0 := (blk_cell B0.out.now 0).trans rfl
 have zB0_1 := (blk_cell B0.out.now 1).trans rfl
 have yB0_0 := fun o => (blk_cell (B0.out.alloc o).now 0).trans rfl
 have yB0_1 := fun o => (blk_cell (B0.out.alloc o).now 1).trans rfl
 have zB1_0 := (blk_cell B1.out.now 0).trans rfl
 have zB1_1 := (blk_cell B1.out.now 1).trans rfl
 have yB1_0 := fun o => (blk_cell (B1.out.alloc o).now 0).trans rfl
 have yB1_1 := fun o => (blk_cell (B1.out.alloc o).now 1).trans rfl
 go_wp2_with fail
 refine calls_of_args (args' := #[.slice AR5 t10_1.length cR5, .int .i64 1]) (by first | rw [LR5.out] | rw [← LR5.out]) ?_
 refine (laws_heldIntSS.calls k _ _ t10_1 1 t11_0 _ (Kd.S_reads' R5.out.now).2.2 (by have h_ := (Kd.S_reads' R5.out.now).2.1; have e_ := LR5.out; omega) A11.out).mono ?_
 rintro e w20 ⟨rfl, hd⟩
 have hb := below_drawn hd
 clear hd
 clear zB0_0 yB0_0 zB0_1 yB0_1 zB1_0 yB1_0 zB1_1 yB1_1
 replace B0 := Aside0.mk (B0.out.below hb)
 replace R0 := Aside0.mk (R0.out.below hb)
 replace R1 := Aside0.mk (R1.out.below hb)
 replace R2 := Aside0.mk (R2.out.below hb)
 replace R3 := Aside0.mk (R3.out.below hb)
 replace B1 := Aside0.mk (B1.out.below hb)
 replace R4 := Aside0.mk (R4.out.below hb)
 replace R5 := Aside0.mk (R5.out.below hb)
 replace R6 := Aside0.mk (R6.out.below hb)
 replace R7 := Aside0.mk (R7.out.below hb)
 have Z19 := Aside0.mk hb.size
 replace HB := Aside0.mk (below_step HB.out hb)
 clear hb
 have zB0_0 := (blk_cell B0.out.now 0).trans rfl
 have zB0_1 := (blk_cell B0.out.now 1).trans rfl
 have yB0_0 := fun o => (blk_cell (B0.out.alloc o).now 0).trans rfl
 have yB0_1 := fun o => (blk_cell (B0.out.alloc o).now 1).trans rfl
 have zB1_0 := (blk_cell B1.out.now 0).trans rfl
 have zB1_1 := (blk_cell B1.out.now 1).trans rfl
 have yB1_0 := fun o => (blk_cell (B1.out.alloc o).now 0).trans rfl
 have yB1_1 := fun o => (blk_cell (B1.out.alloc o).now 1).trans rfl
 go_wp2_with fail
 refine (laws_toAlgebra.calls k a0_0 _ _ l0_1 t1_0 t1_1 _ (Kd.C_below HR0_1.out HB.out) HC0_1.out A1.out).mono ?_
 rintro e w21 ⟨v1, rfl, ho1, hb⟩
 clear zB0_0 yB0_0 zB0_1 yB0_1 zB1_0 yB1_0 zB1_1 yB1_1
 replace B0 := Aside0.mk (B0.out.below hb)
 replace R0 := Aside0.mk (R0.out.below hb)
 replace R1 := Aside0.mk (R1.out.below hb)
 replace R2 := Aside0.mk (R2.out.below hb)
 replace R3 := Aside0.mk (R3.out.below hb)
 replace B1 := Aside0.mk (B1.out.below hb)
 replace R4 := Aside0.mk (R4.out.below hb)
 replace R5 := Aside0.mk (R5.out.below hb)
 replace R6 := Aside0.mk (R6.out.below hb)
 replace R7 := Aside0.mk (R7.out.below hb)
 have Z20 := Aside0.mk hb.size
 obtain ⟨AR8, cR8, rfl⟩ := Kd.S_slice ho1
 have R8 := Aside0.mk (Lives.rowS (base := w.heap.size) ho1 hb.size HB.out.size)
 replace HB := Aside0.mk (below_step HB.out hb)
 clear hb ho1
 have zB0_0 := (blk_cell B0.out.now 0).trans rfl
 have zB0_1 := (blk_cell B0.out.now 1).trans rfl
 have yB0_0 := fun o => (blk_cell (B0.out.alloc o).now 0).trans rfl
 have yB0_1 := fun o => (blk_cell (B0.out.alloc o).now 1).trans rfl
 have zB1_0 := (blk_cell B1.out.now 0).trans rfl
 have zB1_1 := (blk_cell B1.out.now 1).trans rfl
 have yB1_0 := fun o => (blk_cell (B1.out.alloc o).now 0).trans rfl
 have yB1_1 := fun o => (blk_cell (B1.out.alloc o).now 1).trans rfl
 go_wp2_with fail
 refine (laws_toIntS.calls k _ _ l1 t2_0 _ (Kd.C_below HR1.out HB.out) HC1.out A2.out).mono ?_
 rintro e w22 ⟨v0, rfl, ho0, hb⟩
 clear zB0_0 yB0_0 zB0_1 yB0_1 zB1_0 yB1_0 zB1_1 yB1_1
 replace B0 := Aside0.mk (B0.out.below hb)
 replace R0 := Aside0.mk (R0.out.below hb)
 replace R1 := Aside0.mk (R1.out.below hb)
 replace R2 := Aside0.mk (R2.out.below hb)
 replace R3 := Aside0.mk (R3.out.below hb)
 replace B1 := Aside0.mk (B1.out.below hb)
 replace R4 := Aside0.mk (R4.out.below hb)
 replace R5 := Aside0.mk (R5.out.below hb)
 replace R6 := Aside0.mk (R6.out.below hb)
 replace R7 := Aside0.mk (R7.out.below hb)
 replace R8 := Aside0.mk (R8.out.below hb)
 have Z21 := Aside0.mk hb.size
 obtain ⟨AR9, cR9, rfl⟩ := Kd.R_slice ho0
 have R9 := Aside0.mk (Lives.row (base := w.heap.size) ho0 hb.size HB.out.size)
 replace HB := Aside0.mk (below_step HB.out hb)
 clear hb ho0
 have zB0_0 := (blk_cell B0.out.now 0).trans rfl
 have zB0_1 := (blk_cell B0.out.now 1).trans rfl
 have yB0_0 := fun o => (blk_cell (B0.out.alloc o).now 0).trans rfl
 have yB0_1 := fun o => (blk_cell (B0.out.alloc o).now 1).trans rfl
 have zB1_0 := (blk_cell B1.out.now 0).trans rfl
 have zB1_1 := (blk_cell B1.out.now 1).trans rfl
 have yB1_0 := fun o => (blk_cell (B1.out.alloc o).now 0).trans rfl
 have yB1_1 := fun o => (blk_cell (B1.out.alloc o).now 1).trans rfl
 go_wp2_with fail
 refine (impl_GenerationRounds.calls k t1_0 _ _ t1_1 _ _ t2_0 t4_0 t4_1 _ (Kd.S_reads' R8.out.now).2.2 (Kd.S_reads' R8.out.now).2.1 (Kd.R_reads' R9.out.now).2.2 (Kd.R_reads' R9.out.now).2.1 A4.out).mono ?_
 rintro e w23 ⟨v0, rfl, ho0, hb⟩
 clear zB0_0 yB0_0 zB0_1 yB0_1 zB1_0 yB1_0 zB1_1 yB1_1
 replace B0 := Aside0.mk (B0.out.below hb)
 replace R0 := Aside0.mk (R0.out.below hb)
 replace R1 := Aside0.mk (R1.out.below hb)
 replace R2 := Aside0.mk (R2.out.below hb)
 replace R3 := Aside0.mk (R3.out.below hb)
 replace B1 := Aside0.mk (B1.out.below hb)
 replace R4 := Aside0.mk (R4.out.below hb)
 replace R5 := Aside0.mk (R5.out.below hb)
 replace R6 := Aside0.mk (R6.out.below hb)
 replace R7 := Aside0.mk (R7.out.below hb)
 replace R8 := Aside0.mk (R8.out.below hb)
 replace R9 := Aside0.mk (R9.out.below hb)
 have Z22 := Aside0.mk hb.size
 obtain ⟨AR10, cR10, rfl⟩ := Kd.S_slice ho0
 have R10 := Aside0.mk (Lives.rowS (base := w.heap.size) ho0 hb.size HB.out.size)
 replace HB := Aside0.mk (below_step HB.out hb)
 clear hb ho0
 have zB0_0 := (blk_cell B0.out.now 0).trans rfl
 have zB0_1 := (blk_cell B0.out.now 1).trans rfl
 have yB0_0 := fun o => (blk_cell (B0.out.alloc o).now 0).trans rfl
 have yB0_1 := fun o => (blk_cell (B0.out.alloc o).now 1).trans rfl
 have zB1_0 := (blk_cell B1.out.now 0).trans rfl
 have zB1_1 := (blk_cell B1.out.now 1).trans rfl
 have yB1_0 := fun o => (blk_cell (B1.out.alloc o).now 0).trans rfl
 have yB1_1 := fun o => (blk_cell (B1.out.alloc o).now 1).trans rfl
 go_wp2_with fail
 refine (laws_eqIntSS.calls k _ _ t4_0 _ _ t3_0 true _ (Kd.S_reads' R10.out.now).2.2 (Kd.S_reads' R10.out.now).2.1 (Kd.S_reads' R2.out.now).2.2 (Kd.S_reads' R2.out.now).2.1 A5.out).mono ?_
 rintro e w24 ⟨rfl, hd⟩
 have hb := below_drawn hd
 clear hd
 clear zB0_0 yB0_0 zB0_1 yB0_1 zB1_0 yB1_0 zB1_1 yB1_1
 replace B0 := Aside0.mk (B0.out.below hb)
 replace R0 := Aside0.mk (R0.out.below hb)
 replace R1 := Aside0.mk (R1.out.below hb)
 replace R2 := Aside0.mk (R2.out.below hb)
 replace R3 := Aside0.mk (R3.out.below hb)
 replace B1 := Aside0.mk (B1.out.below hb)
 replace R4 := Aside0.mk (R4.out.below hb)
 replace R5 := Aside0.mk (R5.out.below hb)
 replace R6 := Aside0.mk (R6.out.below hb)
 replace R7 := Aside0.mk (R7.out.below hb)
 replace R8 := Aside0.mk (R8.out.below hb)
 replace R9 := Aside0.mk (R9.out.below hb)
 replace R10 := Aside0.mk (R10.out.below hb)
 have Z23 := Aside0.mk hb.size
 replace HB := Aside0.mk (below_step HB.out hb)
 clear hb
 have zB0_0 := (blk_cell B0.out.now 0).trans rfl
 have zB0_1 := (blk_cell B0.out.now 1).trans rfl
 have yB0_0 := fun o => (blk_cell (B0.out.alloc o).now 0).trans rfl
 have yB0_1 := fun o => (blk_cell (B0.out.alloc o).now 1).trans rfl
 have zB1_0 := (blk_cell B1.out.now 0).trans rfl
 have zB1_1 := (blk_cell B1.out.now 1).trans rfl
 have yB1_0 := fun o => (blk_cell (B1.out.alloc o).now 0).trans rfl
 have yB1_1 := fun o => (blk_cell (B1.out.alloc o).now 1).trans rfl
 go_wp2_with fail
 refine calls_of_args (args' := #[.slice AR5 t10_1.length cR5, .int .i64 1]) (by first | rw [LR5.out] | rw [← LR5.out]) ?_
 refine (laws_heldIntSS.calls k _ _ t10_1 1 t11_0 _ (Kd.S_reads' R5.out.now).2.2 (by have h_ := (Kd.S_reads' R5.out.now).2.1; have e_ := LR5.out; omega) A11.out).mono ?_
 rintro e w25 ⟨rfl, hd⟩
 have hb := below_drawn hd
 clear hd
 clear zB0_0 yB0_0 zB0_1 yB0_1 zB1_0 yB1_0 zB1_1 yB1_1
 replace B0 := Aside0.mk (B0.out.below hb)
 replace R0 := Aside0.mk (R0.out.below hb)
 replace R1 := Aside0.mk (R1.out.below hb)
 replace R2 := Aside0.mk (R2.out.below hb)
 replace R3 := Aside0.mk (R3.out.below hb)
 replace B1 := Aside0.mk (B1.out.below hb)
 replace R4 := Aside0.mk (R4.out.below hb)
 replace R5 := Aside0.mk (R5.out.below hb)
 replace R6 := Aside0.mk (R6.out.below hb)
 replace R7 := Aside0.mk (R7.out.below hb)
 replace R8 := Aside0.mk (R8.out.below hb)
 replace R9 := Aside0.mk (R9.out.below hb)
 replace R10 := Aside0.mk (R10.out.below hb)
 have Z24 := Aside0.mk hb.size
 replace HB := Aside0.mk (below_step HB.out hb)
 clear hb
 have zB0_0 := (blk_cell B0.out.now 0).trans rfl
 have zB0_1 := (blk_cell B0.out.now 1).trans rfl
 have yB0_0 := fun o => (blk_cell (B0.out.alloc o).now 0).trans rfl
 have yB0_1 := fun o => (blk_cell (B0.out.alloc o).now 1).trans rfl
 have zB1_0 := (blk_cell B1.out.now 0).trans rfl
 have zB1_1 := (blk_cell B1.out.now 1).trans rfl
 have yB1_0 := fun o => (blk_cell (B1.out.alloc o).now 0).trans rfl
 have yB1_1 := fun o => (blk_cell (B1.out.alloc o).now 1).trans rfl
 go_wp2
 go_ret
 exact ⟨rfl, HB.out⟩

end Go.Proofs.Ythofhfmdomppeaa.Q
