/- Contracts of Go functions, each with a plain Lean function of the same answers: whatever the arguments, the call comes to what the Lean function tells. Written by a program of this session. -/
import Derived.Test.YtcgkgimkpndhmabQx0
import Derived.Test.YtcgkgimkpndhmabQx1
import Derived.Test.YtcgkgimkpndhmabQx2
import Derived.Test.YtcgkgimkpndhmabQx3
import Derived.Test.YtcgkgimkpndhmabQx11
import Derived.Test.YtcgkgimkpndhmabQx12
import Derived.Test.YtcgkgimkpndhmabQx19
import Derived.Test.YtcgkgimkpndhmabQx20
namespace Go.Proofs.Ytcgkgimkpndhmab.Q
open Go.RowKit Go.Proofs.YtcgkgimkpndhmabW.PrintWords Go.Proofs.YtcgkgimkpndhmabW.PrintLast Go.Proofs.YtcgkgimkpndhmabW.PrintMore
attribute [local go_sem] max2_int min2_int max_two min_two max_three min_three max_four min_four   -- for this text's walks alone
set_option linter.unusedVariables false
set_option linter.unusedSimpArgs false

/-! ### laws_FnExactFirstBroken: function 6 -/
def laws_FnExactFirstBroken.f (k : Nat) (a0_0 : Int) (l0_1 : List (S79)) (l1 : List (S40)) : Option Bool := ((laws_szAlgebra.f k a0_0 l0_1 1048576).bind fun b0 => (if b0 < 0 then some true else ((laws_szIdentityS.f k l1 b0).bind fun b1 => (if b1 < 0 then some true else ((laws_toAlgebra.f k a0_0 l0_1).bind fun b2 => ((laws_toIdentityS.f k l1).bind fun b3 => ((spec_FirstBroken.f k b2.1 b2.2 b3).bind fun b4 => ((impl_FirstBroken.f k b2.1 b2.2 b3).bind fun b5 => (if b5.1 = b4.1 ∧ b5.2 = b4.2 then ((laws_eqAlgebra.f k b2.1 b2.2 b2.1 b2.2).bind fun b6 => (if b6 = true then ((laws_eqIdentityS.f k b3 b3).bind fun b7 => (if b7 = true then some true else none)) else none)) else none)))))))))
open Go.Proofs.Ytcgkgimkpndhmab.LawKit in
set_option maxHeartbeats 16000000 in
set_option maxRecDepth 100000 in
theorem laws_FnExactFirstBroken.calls (k : Nat) (a0_0 : Int) (A0_1 : Option Addr) (c0_1 : Nat) (l0_1 : List (S79)) (A1 : Option Addr) (c1 : Nat) (l1 : List (S40)) (r : Bool) (w : World) (hr0_1 : Kd.C k79 w A0_1 l0_1.length l0_1) (hc0_1 : l0_1.length ≤ c0_1) (hr1 : Kd.C k40 w A1 l1.length l1) (hc1 : l1.length ≤ c1) (h : laws_FnExactFirstBroken.f k a0_0 l0_1 l1 = some r) :
  Calls Try.prog 6 #[.agg #[.int .i64 a0_0, .slice A0_1 l0_1.length c0_1], .slice A1 l1.length c1] w fun e w' => e = .returned (.bool r) ∧ Below w.heap.size w w' := by
 have hu24 := Try.underlying24
 have hu31 := Try.underlying31
 have HR0_1 := Aside0.mk hr0_1
 have HR1 := Aside0.mk hr1
 have HC0_1 := Aside0.mk hc0_1
 have HC1 := Aside0.mk hc1
 clear hr0_1 hc0_1 hr1 hc1
 have HB := Aside0.mk (Below.refl w.heap.size w)
 have H := h
 clear h
 unfold laws_FnExactFirstBroken.f at H
 replace H := Option.bind_eq_some_iff.mp H
 obtain ⟨t0_0, A0, H⟩ := H
 (try dsimp only at H)
 replace A0 := Aside0.mk A0
 by_cases c0 : t0_0 < 0
 ·rw [if_pos c0] at H
  have c0b : decide (t0_0 < 0) = true := decide_eq_true c0
  clear c0
  obtain rfl := Option.some.inj H
  clear H
  go_enter Try.func6, Try.ntmps6
  go_wp2_with fail
  refine letter_ ?_
  intro w2 eW
  have B0 := Aside0.mk (Lives.boxed eW)
  replace HB := Aside0.mk (below_at HB.out eW)
  have Z0 := Aside0.mk (size_at eW)
  clear eW
  have zB0_0 := (blk_cell B0.out.now 0).trans rfl
  have zB0_1 := (blk_cell B0.out.now 1).trans rfl
  have yB0_0 := fun o => (blk_cell (B0.out.alloc o).now 0).trans rfl
  have yB0_1 := fun o => (blk_cell (B0.out.alloc o).now 1).trans rfl
  refine (laws_szAlgebra.calls k a0_0 _ _ l0_1 1048576 t0_0 _ (Kd.C_below HR0_1.out HB.out) HC0_1.out A0.out).mono ?_
  rintro e w1 ⟨rfl, hb⟩
  clear zB0_0 yB0_0 zB0_1 yB0_1
  replace B0 := Aside0.mk (B0.out.below hb)
  have Z1 := Aside0.mk hb.size
  replace HB := Aside0.mk (below_step HB.out hb)
  clear hb
  have zB0_0 := (blk_cell B0.out.now 0).trans rfl
  have zB0_1 := (blk_cell B0.out.now 1).trans rfl
  have yB0_0 := fun o => (blk_cell (B0.out.alloc o).now 0).trans rfl
  have yB0_1 := fun o => (blk_cell (B0.out.alloc o).now 1).trans rfl
  go_wp2
  go_ret
  exact ⟨rfl, HB.out⟩
 rw [if_neg c0] at H
 have c0b : decide (t0_0 < 0) = false := decide_eq_false c0
 clear c0
 replace H := Option.bind_eq_some_iff.mp H
 obtain ⟨t1_0, A1, H⟩ := H
 (try dsimp only at H)
 replace A1 := Aside0.mk A1
 by_cases c1 : t1_0 < 0
 ·rw [if_pos c1] at H
  have c1b : decide (t1_0 < 0) = true := decide_eq_true c1
  clear c1
  obtain rfl := Option.some.inj H
  clear H
  go_enter Try.func6, Try.ntmps6
  go_wp2_with fail
  refine letter_ ?_
  intro w2 eW
  have B0 := Aside0.mk (Lives.boxed eW)
  replace HB := Aside0.mk (below_at HB.out eW)
  have Z0 := Aside0.mk (size_at eW)
  clear eW
  have zB0_0 := (blk_cell B0.out.now 0).trans rfl
  have zB0_1 := (blk_cell B0.out.now 1).trans rfl
  have yB0_0 := fun o => (blk_cell (B0.out.alloc o).now 0).trans rfl
  have yB0_1 := fun o => (blk_cell (B0.out.alloc o).now 1).trans rfl
  refine (laws_szAlgebra.calls k a0_0 _ _ l0_1 1048576 t0_0 _ (Kd.C_below HR0_1.out HB.out) HC0_1.out A0.out).mono ?_
  rintro e w1 ⟨rfl, hb⟩
  clear zB0_0 yB0_0 zB0_1 yB0_1
  replace B0 := Aside0.mk (B0.out.below hb)
  have Z1 := Aside0.mk hb.size
  replace HB := Aside0.mk (below_step HB.out hb)
  clear hb
  have zB0_0 := (blk_cell B0.out.now 0).trans rfl
  have zB0_1 := (blk_cell B0.out.now 1).trans rfl
  have yB0_0 := fun o => (blk_cell (B0.out.alloc o).now 0).trans rfl
  have yB0_1 := fun o => (blk_cell (B0.out.alloc o).now 1).trans rfl
  go_wp2_with fail
  refine (laws_szIdentityS.calls k _ _ l1 t0_0 t1_0 _ (Kd.C_below HR1.out HB.out) HC1.out A1.out).mono ?_
  rintro e w3 ⟨rfl, hb⟩
  clear zB0_0 yB0_0 zB0_1 yB0_1
  replace B0 := Aside0.mk (B0.out.below hb)
  have Z2 := Aside0.mk hb.size
  replace HB := Aside0.mk (below_step HB.out hb)
  clear hb
  have zB0_0 := (blk_cell B0.out.now 0).trans rfl
  have zB0_1 := (blk_cell B0.out.now 1).trans rfl
  have yB0_0 := fun o => (blk_cell (B0.out.alloc o).now 0).trans rfl
  have yB0_1 := fun o => (blk_cell (B0.out.alloc o).now 1).trans rfl
  go_wp2
  go_ret
  exact ⟨rfl, HB.out⟩
 rw [if_neg c1] at H
 have c1b : decide (t1_0 < 0) = false := decide_eq_false c1
 clear c1
 replace H := Option.bind_eq_some_iff.mp H
 obtain ⟨⟨t2_0, t2_1⟩, A2, H⟩ := H
 (try dsimp only at H)
 replace A2 := Aside0.mk A2
 replace H := Option.bind_eq_some_iff.mp H
 obtain ⟨t3_0, A3, H⟩ := H
 (try dsimp only at H)
 replace A3 := Aside0.mk A3
 replace H := Option.bind_eq_some_iff.mp H
 obtain ⟨⟨t4_0, t4_1⟩, A4, H⟩ := H
 (try dsimp only at H)
 replace A4 := Aside0.mk A4
 replace H := Option.bind_eq_some_iff.mp H
 obtain ⟨⟨t5_0, t5_1⟩, A5, H⟩ := H
 (try dsimp only at H)
 replace A5 := Aside0.mk A5
 replace H := of_ite H
 obtain ⟨⟨e2_0, e2_1⟩, H⟩ := H
 subst e2_0
 subst e2_1
 replace H := Option.bind_eq_some_iff.mp H
 obtain ⟨t6_0, A6, H⟩ := H
 (try dsimp only at H)
 replace A6 := Aside0.mk A6
 replace H := of_ite H
 obtain ⟨e3_0, H⟩ := H
 subst e3_0
 replace H := Option.bind_eq_some_iff.mp H
 obtain ⟨t7_0, A7, H⟩ := H
 (try dsimp only at H)
 replace A7 := Aside0.mk A7
 replace H := of_ite H
 obtain ⟨e4_0, H⟩ := H
 subst e4_0
 obtain rfl := Option.some.inj H
 clear H
 go_enter Try.func6, Try.ntmps6
 go_wp2_with fail
 refine letter_ ?_
 intro w2 eW
 have B0 := Aside0.mk (Lives.boxed eW)
 replace HB := Aside0.mk (below_at HB.out eW)
 have Z0 := Aside0.mk (size_at eW)
 clear eW
 have zB0_0 := (blk_cell B0.out.now 0).trans rfl
 have zB0_1 := (blk_cell B0.out.now 1).trans rfl
 have yB0_0 := fun o => (blk_cell (B0.out.alloc o).now 0).trans rfl
 have yB0_1 := fun o => (blk_cell (B0.out.alloc o).now 1).trans rfl
 refine (laws_szAlgebra.calls k a0_0 _ _ l0_1 1048576 t0_0 _ (Kd.C_below HR0_1.out HB.out) HC0_1.out A0.out).mono ?_
 rintro e w1 ⟨rfl, hb⟩
 clear zB0_0 yB0_0 zB0_1 yB0_1
 replace B0 := Aside0.mk (B0.out.below hb)
 have Z1 := Aside0.mk hb.size
 replace HB := Aside0.mk (below_step HB.out hb)
 clear hb
 have zB0_0 := (blk_cell B0.out.now 0).trans rfl
 have zB0_1 := (blk_cell B0.out.now 1).trans rfl
 have yB0_0 := fun o => (blk_cell (B0.out.alloc o).now 0).trans rfl
 have yB0_1 := fun o => (blk_cell (B0.out.alloc o).now 1).trans rfl
 go_wp2_with fail
 refine (laws_szIdentityS.calls k _ _ l1 t0_0 t1_0 _ (Kd.C_below HR1.out HB.out) HC1.out A1.out).mono ?_
 rintro e w3 ⟨rfl, hb⟩
 clear zB0_0 yB0_0 zB0_1 yB0_1
 replace B0 := Aside0.mk (B0.out.below hb)
 have Z2 := Aside0.mk hb.size
 replace HB := Aside0.mk (below_step HB.out hb)
 clear hb
 have zB0_0 := (blk_cell B0.out.now 0).trans rfl
 have zB0_1 := (blk_cell B0.out.now 1).trans rfl
 have yB0_0 := fun o => (blk_cell (B0.out.alloc o).now 0).trans rfl
 have yB0_1 := fun o => (blk_cell (B0.out.alloc o).now 1).trans rfl
 go_wp2_with fail
 refine (laws_toAlgebra.calls k a0_0 _ _ l0_1 t2_0 t2_1 _ (Kd.C_below HR0_1.out HB.out) HC0_1.out A2.out).mono ?_
 rintro e w4 ⟨v1, rfl, ho1, hb⟩
 clear zB0_0 yB0_0 zB0_1 yB0_1
 replace B0 := Aside0.mk (B0.out.below hb)
 have Z3 := Aside0.mk hb.size
 obtain ⟨AR0, cR0, rfl⟩ := Kd.S_slice ho1
 have R0 := Aside0.mk (Lives.rowS (base := w.heap.size) ho1 hb.size HB.out.size)
 replace HB := Aside0.mk (below_step HB.out hb)
 clear hb ho1
 have zB0_0 := (blk_cell B0.out.now 0).trans rfl
 have zB0_1 := (blk_cell B0.out.now 1).trans rfl
 have yB0_0 := fun o => (blk_cell (B0.out.alloc o).now 0).trans rfl
 have yB0_1 := fun o => (blk_cell (B0.out.alloc o).now 1).trans rfl
 go_wp2_with fail
 refine (laws_toIdentityS.calls k _ _ l1 t3_0 _ (Kd.C_below HR1.out HB.out) HC1.out A3.out).mono ?_
 rintro e w5 ⟨v0, rfl, ho0, hb⟩
 clear zB0_0 yB0_0 zB0_1 yB0_1
 replace B0 := Aside0.mk (B0.out.below hb)
 replace R0 := Aside0.mk (R0.out.below hb)
 have Z4 := Aside0.mk hb.size
 obtain ⟨AR1, cR1, rfl⟩ := Kd.S_slice ho0
 have R1 := Aside0.mk (Lives.rowS (base := w.heap.size) ho0 hb.size HB.out.size)
 replace HB := Aside0.mk (below_step HB.out hb)
 clear hb ho0
 have zB0_0 := (blk_cell B0.out.now 0).trans rfl
 have zB0_1 := (blk_cell B0.out.now 1).trans rfl
 have yB0_0 := fun o => (blk_cell (B0.out.alloc o).now 0).trans rfl
 have yB0_1 := fun o => (blk_cell (B0.out.alloc o).now 1).trans rfl
 go_wp2_with fail
 refine (spec_FirstBroken.calls k t2_0 _ _ t2_1 _ _ t3_0 t5_0 t5_1 _ (Kd.S_reads' R0.out.now).2.2 (Kd.S_reads' R0.out.now).2.1 (Kd.S_reads' R1.out.now).2.2 (Kd.S_reads' R1.out.now).2.1 A4.out).mono ?_
 rintro e w6 ⟨rfl, hb⟩
 clear zB0_0 yB0_0 zB0_1 yB0_1
 replace B0 := Aside0.mk (B0.out.below hb)
 replace R0 := Aside0.mk (R0.out.below hb)
 replace R1 := Aside0.mk (R1.out.below hb)
 have Z5 := Aside0.mk hb.size
 replace HB := Aside0.mk (below_step HB.out hb)
 clear hb
 have zB0_0 := (blk_cell B0.out.now 0).trans rfl
 have zB0_1 := (blk_cell B0.out.now 1).trans rfl
 have yB0_0 := fun o => (blk_cell (B0.out.alloc o).now 0).trans rfl
 have yB0_1 := fun o => (blk_cell (B0.out.alloc o).now 1).trans rfl
 go_wp2_with fail
 refine (laws_toAlgebra.calls k a0_0 _ _ l0_1 t2_0 t2_1 _ (Kd.C_below HR0_1.out HB.out) HC0_1.out A2.out).mono ?_
 rintro e w7 ⟨v1, rfl, ho1, hb⟩
 clear zB0_0 yB0_0 zB0_1 yB0_1
 replace B0 := Aside0.mk (B0.out.below hb)
 replace R0 := Aside0.mk (R0.out.below hb)
 replace R1 := Aside0.mk (R1.out.below hb)
 have Z6 := Aside0.mk hb.size
 obtain ⟨AR2, cR2, rfl⟩ := Kd.S_slice ho1
 have R2 := Aside0.mk (Lives.rowS (base := w.heap.size) ho1 hb.size HB.out.size)
 replace HB := Aside0.mk (below_step HB.out hb)
 clear hb ho1
 have zB0_0 := (blk_cell B0.out.now 0).trans rfl
 have zB0_1 := (blk_cell B0.out.now 1).trans rfl
 have yB0_0 := fun o => (blk_cell (B0.out.alloc o).now 0).trans rfl
 have yB0_1 := fun o => (blk_cell (B0.out.alloc o).now 1).trans rfl
 go_wp2_with fail
 clear zB0_0 yB0_0 zB0_1 yB0_1
 refine letter_ ?_
 intro w9 eW
 replace B0 := Aside0.mk (B0.out.at eW)
 replace R0 := Aside0.mk (R0.out.at eW)
 replace R1 := Aside0.mk (R1.out.at eW)
 replace R2 := Aside0.mk (R2.out.at eW)
 have B1 := Aside0.mk (Lives.boxed eW)
 replace HB := Aside0.mk (below_at HB.out eW)
 have Z7 := Aside0.mk (size_at eW)
 clear eW
 have zB0_0 := (blk_cell B0.out.now 0).trans rfl
 have zB0_1 := (blk_cell B0.out.now 1).trans rfl
 have yB0_0 := fun o => (blk_cell (B0.out.alloc o).now 0).trans rfl
 have yB0_1 := fun o => (blk_cell (B0.out.alloc o).now 1).trans rfl
 have zB1_0 := (blk_cell B1.out.now 0).trans rfl
 have zB1_1 := (blk_cell B1.out.now 1).trans rfl
 have yB1_0 := fun o => (blk_cell (B1.out.alloc o).now 0).trans rfl
 have yB1_1 := fun o => (blk_cell (B1.out.alloc o).now 1).trans rfl
 refine (laws_toIdentityS.calls k _ _ l1 t3_0 _ (Kd.C_below HR1.out HB.out) HC1.out A3.out).mono ?_
 rintro e w8 ⟨v0, rfl, ho0, hb⟩
 clear zB0_0 yB0_0 zB0_1 yB0_1 zB1_0 yB1_0 zB1_1 yB1_1
 replace B0 := Aside0.mk (B0.out.below hb)
 replace R0 := Aside0.mk (R0.out.below hb)
 replace R1 := Aside0.mk (R1.out.below hb)
 replace R2 := Aside0.mk (R2.out.below hb)
 replace B1 := Aside0.mk (B1.out.below hb)
 have Z8 := Aside0.mk hb.size
 obtain ⟨AR3, cR3, rfl⟩ := Kd.S_slice ho0
 have R3 := Aside0.mk (Lives.rowS (base := w.heap.size) ho0 hb.size HB.out.size)
 replace HB := Aside0.mk (below_step HB.out hb)
 clear hb ho0
 have zB0_0 := (blk_cell B0.out.now 0).trans rfl
 have zB0_1 := (blk_cell B0.out.now 1).trans rfl
 have yB0_0 := fun o => (blk_cell (B0.out.alloc o).now 0).trans rfl
 have yB0_1 := fun o => (blk_cell (B0.out.alloc o).now 1).trans rfl
 have zB1_0 := (blk_cell B1.out.now 0).trans rfl
 have zB1_1 := (blk_cell B1.out.now 1).trans rfl
 have yB1_0 := fun o => (blk_cell (B1.out.alloc o).now 0).trans rfl
 have yB1_1 := fun o => (blk_cell (B1.out.alloc o).now 1).trans rfl
 go_wp2_with fail
 refine (impl_FirstBroken.calls k t2_0 _ _ t2_1 _ _ t3_0 t5_0 t5_1 _ (Kd.S_reads' R2.out.now).2.2 (Kd.S_reads' R2.out.now).2.1 (Kd.S_reads' R3.out.now).2.2 (Kd.S_reads' R3.out.now).2.1 A5.out).mono ?_
 rintro e w10 ⟨rfl, hb⟩
 clear zB0_0 yB0_0 zB0_1 yB0_1 zB1_0 yB1_0 zB1_1 yB1_1
 replace B0 := Aside0.mk (B0.out.below hb)
 replace R0 := Aside0.mk (R0.out.below hb)
 replace R1 := Aside0.mk (R1.out.below hb)
 replace R2 := Aside0.mk (R2.out.below hb)
 replace B1 := Aside0.mk (B1.out.below hb)
 replace R3 := Aside0.mk (R3.out.below hb)
 have Z9 := Aside0.mk hb.size
 replace HB := Aside0.mk (below_step HB.out hb)
 clear hb
 have zB0_0 := (blk_cell B0.out.now 0).trans rfl
 have zB0_1 := (blk_cell B0.out.now 1).trans rfl
 have yB0_0 := fun o => (blk_cell (B0.out.alloc o).now 0).trans rfl
 have yB0_1 := fun o => (blk_cell (B0.out.alloc o).now 1).trans rfl
 have zB1_0 := (blk_cell B1.out.now 0).trans rfl
 have zB1_1 := (blk_cell B1.out.now 1).trans rfl
 have yB1_0 := fun o => (blk_cell (B1.out.alloc o).now 0).trans rfl
 have yB1_1 := fun o => (blk_cell (B1.out.alloc o).now 1).trans rfl
 try go_wp2_with fail
 clear zB0_0 yB0_0 zB0_1 yB0_1 zB1_0 yB1_0 zB1_1 yB1_1
 replace B0 := Aside0.mk B0.out.drew
 replace R0 := Aside0.mk R0.out.drew
 replace R1 := Aside0.mk R1.out.drew
 replace R2 := Aside0.mk R2.out.drew
 replace B1 := Aside0.mk B1.out.drew
 replace R3 := Aside0.mk R3.out.drew
 replace HB := Aside0.mk (bD HB.out)
 have Z10 := Aside0.mk (show w10.heap.size ≤ w10.drew.heap.size from Nat.le_refl _)
 refine start_ (n := 5) (S := fun w' => w'.cell? ⟨w.heap.size, 0, none⟩ = some (.int .i64 a0_0) ∧ w'.cell? ⟨w.heap.size, 1, none⟩ = some (.slice A0_1 l0_1.length c0_1) ∧ w'.cell? ⟨w7.heap.size, 0, none⟩ = some (.int .i64 t2_0) ∧ w'.cell? ⟨w7.heap.size, 1, none⟩ = some (.slice AR2 t2_1.length cR2)) (ds := []) #[false, false, false, false, false] (by kernel_rfl) rfl rfl ⟨(blk_cell B0.out.now 0).trans rfl, (blk_cell B0.out.now 1).trans rfl, (blk_cell B1.out.now 0).trans rfl, (blk_cell B1.out.now 1).trans rfl⟩ (fun hHeld => ?_)
 generalize w10.drew = w11 at B0 R0 R1 R2 B1 R3 HB Z10 hHeld ⊢
 refine take_ (i := 0) (N := (some 48)) (v := ?_) (a' := ?_) #[true, false, false, false, false] rfl rfl (by kernel_rfl) (fun _ _ _ h => h) (Or.inl ⟨by rfl, ?_⟩) hHeld ?_ ?_
 rotate_left
 ·rintro w' ⟨s0, s1, s2, s3⟩
  go_simp
  with_reducible rfl
 rotate_left
 ·simp only [Act.put, lS, lZ, lT, i64_w, i32_w]
  rfl
 refine take_ (i := 1) (N := (some 49)) (v := ?_) (a' := ?_) #[true, true, false, false, false] rfl rfl (by kernel_rfl) (fun _ _ _ h => h) (Or.inl ⟨by rfl, ?_⟩) hHeld ?_ ?_
 rotate_left
 ·rintro w' ⟨s0, s1, s2, s3⟩
  go_simp
  with_reducible rfl
 rotate_left
 ·simp only [Act.put, lS, lZ, lT, i64_w, i32_w]
  rfl
 refine one_ (i := 2) (N := (some 50)) #[true, true, true, false, false] rfl rfl (by kernel_rfl) (by decide) (fun K hK => ?_)
 refine goes_ Try.func11 (by kernel_rfl) rfl #[.agg #[.int .i64 a0_0, .slice A0_1 l0_1.length c0_1]] (by rfl) rfl rfl (by (try simp only [List.map_toArray, List.map_cons, List.map_nil]); first | done | rfl | (simp only [List.length_drop, List.length_take]; rfl)) ?_
 refine (laws_toAlgebra.calls k a0_0 _ _ l0_1 t2_0 t2_1 _ (Kd.C_below HR0_1.out HB.out) HC0_1.out A2.out).mono ?_
 rintro e w12 ⟨v1, rfl, ho1, hb⟩
 refine ⟨_, rfl, ?_⟩
 replace B0 := Aside0.mk (B0.out.below hb)
 replace R0 := Aside0.mk (R0.out.below hb)
 replace R1 := Aside0.mk (R1.out.below hb)
 replace R2 := Aside0.mk (R2.out.below hb)
 replace B1 := Aside0.mk (B1.out.below hb)
 replace R3 := Aside0.mk (R3.out.below hb)
 have Z11 := Aside0.mk hb.size
 obtain ⟨AR4, cR4, rfl⟩ := Kd.S_slice ho1
 have R4 := Aside0.mk (Lives.rowS (base := w.heap.size) ho1 hb.size HB.out.size)
 replace HB := Aside0.mk (below_step HB.out hb)
 clear hb ho1
 have zB0_0 := (blk_cell B0.out.now 0).trans rfl
 have zB0_1 := (blk_cell B0.out.now 1).trans rfl
 have yB0_0 := fun o => (blk_cell (B0.out.alloc o).now 0).trans rfl
 have yB0_1 := fun o => (blk_cell (B0.out.alloc o).now 1).trans rfl
 have zB1_0 := (blk_cell B1.out.now 0).trans rfl
 have zB1_1 := (blk_cell B1.out.now 1).trans rfl
 have yB1_0 := fun o => (blk_cell (B1.out.alloc o).now 0).trans rfl
 have yB1_1 := fun o => (blk_cell (B1.out.alloc o).now 1).trans rfl
 clear zB0_0 yB0_0 zB0_1 yB0_1 zB1_0 yB1_0 zB1_1 yB1_1
 refine hK.out _ _ ⟨(blk_cell B0.out.now 0).trans rfl, (blk_cell B0.out.now 1).trans rfl, (blk_cell B1.out.now 0).trans rfl, (blk_cell B1.out.now 1).trans rfl⟩ (fun hHeld => ?_)
 clear hK K
 refine norm_ (a' := ?_) ?_ ?_
 rotate_left
 ·show Act.put _ (some 50) _ = _
  simp only [Act.put, lS, lZ, lT, i64_w, i32_w]
  rfl
 refine one_ (i := 3) (N := (some 51)) #[true, true, true, true, false] rfl rfl (by kernel_rfl) (by decide) (fun K hK => ?_)
 refine goes_ Try.func15 (by kernel_rfl) rfl #[.agg #[.int .i64 t2_0, .slice AR2 t2_1.length cR2], .agg #[.int .i64 t2_0, .slice AR4 t2_1.length cR4]] (by rfl) rfl rfl (by (try simp only [List.map_toArray, List.map_cons, List.map_nil]); first | done | rfl | (simp only [List.length_drop, List.length_take]; rfl)) ?_
 refine (laws_eqAlgebra.calls k t2_0 _ _ t2_1 t2_0 _ _ t2_1 true _ (Kd.S_reads' R2.out.now).2.2 (Kd.S_reads' R2.out.now).2.1 (Kd.S_reads' R4.out.now).2.2 (Kd.S_reads' R4.out.now).2.1 A6.out).mono ?_
 rintro e w13 ⟨rfl, hb⟩
 refine ⟨_, rfl, ?_⟩
 replace B0 := Aside0.mk (B0.out.below hb)
 replace R0 := Aside0.mk (R0.out.below hb)
 replace R1 := Aside0.mk (R1.out.below hb)
 replace R2 := Aside0.mk (R2.out.below hb)
 replace B1 := Aside0.mk (B1.out.below hb)
 replace R3 := Aside0.mk (R3.out.below hb)
 replace R4 := Aside0.mk (R4.out.below hb)
 have Z12 := Aside0.mk hb.size
 replace HB := Aside0.mk (below_step HB.out hb)
 clear hb
 have zB0_0 := (blk_cell B0.out.now 0).trans rfl
 have zB0_1 := (blk_cell B0.out.now 1).trans rfl
 have yB0_0 := fun o => (blk_cell (B0.out.alloc o).now 0).trans rfl
 have yB0_1 := fun o => (blk_cell (B0.out.alloc o).now 1).trans rfl
 have zB1_0 := (blk_cell B1.out.now 0).trans rfl
 have zB1_1 := (blk_cell B1.out.now 1).trans rfl
 have yB1_0 := fun o => (blk_cell (B1.out.alloc o).now 0).trans rfl
 have yB1_1 := fun o => (blk_cell (B1.out.alloc o).now 1).trans rfl
 clear zB0_0 yB0_0 zB0_1 yB0_1 zB1_0 yB1_0 zB1_1 yB1_1
 refine hK.out _ _ ⟨(blk_cell B0.out.now 0).trans rfl, (blk_cell B0.out.now 1).trans rfl, (blk_cell B1.out.now 0).trans rfl, (blk_cell B1.out.now 1).trans rfl⟩ (fun hHeld => ?_)
 clear hK K
 refine norm_ (a' := ?_) ?_ ?_
 rotate_left
 ·show Act.put _ (some 51) _ = _
  simp only [Act.put, lS, lZ, lT, i64_w, i32_w]
  rfl
 refine pure_ (i := 4) (N := (some 52)) (v := ?_) (a' := ?_) #[true, true, true, true, true] rfl rfl (by kernel_rfl) (fun _ _ _ h => h) (Or.inl ⟨by rfl, ?_⟩) ?_ ?_
 rotate_left
 ·intro w'
  go_simp
  with_reducible rfl
 rotate_left
 ·simp only [Act.put, lS, lZ, lT, i64_w, i32_w]
  rfl
 refine done_ (by kernel_rfl) ?_
 have zB0_0 := (blk_cell B0.out.now 0).trans rfl
 have zB0_1 := (blk_cell B0.out.now 1).trans rfl
 have yB0_0 := fun o => (blk_cell (B0.out.alloc o).now 0).trans rfl
 have yB0_1 := fun o => (blk_cell (B0.out.alloc o).now 1).trans rfl
 have zB1_0 := (blk_cell B1.out.now 0).trans rfl
 have zB1_1 := (blk_cell B1.out.now 1).trans rfl
 have yB1_0 := fun o => (blk_cell (B1.out.alloc o).now 0).trans rfl
 have yB1_1 := fun o => (blk_cell (B1.out.alloc o).now 1).trans rfl
 go_wp2_with fail
 refine (laws_toIdentityS.calls k _ _ l1 t3_0 _ (Kd.C_below HR1.out HB.out) HC1.out A3.out).mono ?_
 rintro e w14 ⟨v0, rfl, ho0, hb⟩
 clear zB0_0 yB0_0 zB0_1 yB0_1 zB1_0 yB1_0 zB1_1 yB1_1
 replace B0 := Aside0.mk (B0.out.below hb)
 replace R0 := Aside0.mk (R0.out.below hb)
 replace R1 := Aside0.mk (R1.out.below hb)
 replace R2 := Aside0.mk (R2.out.below hb)
 replace B1 := Aside0.mk (B1.out.below hb)
 replace R3 := Aside0.mk (R3.out.below hb)
 replace R4 := Aside0.mk (R4.out.below hb)
 have Z13 := Aside0.mk hb.size
 obtain ⟨AR5, cR5, rfl⟩ := Kd.S_slice ho0
 have R5 := Aside0.mk (Lives.rowS (base := w.heap.size) ho0 hb.size HB.out.size)
 replace HB := Aside0.mk (below_step HB.out hb)
 clear hb ho0
 have zB0_0 := (blk_cell B0.out.now 0).trans rfl
 have zB0_1 := (blk_cell B0.out.now 1).trans rfl
 have yB0_0 := fun o => (blk_cell (B0.out.alloc o).now 0).trans rfl
 have yB0_1 := fun o => (blk_cell (B0.out.alloc o).now 1).trans rfl
 have zB1_0 := (blk_cell B1.out.now 0).trans rfl
 have zB1_1 := (blk_cell B1.out.now 1).trans rfl
 have yB1_0 := fun o => (blk_cell (B1.out.alloc o).now 0).trans rfl
 have yB1_1 := fun o => (blk_cell (B1.out.alloc o).now 1).trans rfl
 go_wp2_with fail
 refine (laws_eqIdentityS.calls k _ _ t3_0 _ _ t3_0 true _ (Kd.S_reads' R3.out.now).2.2 (Kd.S_reads' R3.out.now).2.1 (Kd.S_reads' R5.out.now).2.2 (Kd.S_reads' R5.out.now).2.1 A7.out).mono ?_
 rintro e w15 ⟨rfl, hb⟩
 clear zB0_0 yB0_0 zB0_1 yB0_1 zB1_0 yB1_0 zB1_1 yB1_1
 replace B0 := Aside0.mk (B0.out.below hb)
 replace R0 := Aside0.mk (R0.out.below hb)
 replace R1 := Aside0.mk (R1.out.below hb)
 replace R2 := Aside0.mk (R2.out.below hb)
 replace B1 := Aside0.mk (B1.out.below hb)
 replace R3 := Aside0.mk (R3.out.below hb)
 replace R4 := Aside0.mk (R4.out.below hb)
 replace R5 := Aside0.mk (R5.out.below hb)
 have Z14 := Aside0.mk hb.size
 replace HB := Aside0.mk (below_step HB.out hb)
 clear hb
 have zB0_0 := (blk_cell B0.out.now 0).trans rfl
 have zB0_1 := (blk_cell B0.out.now 1).trans rfl
 have yB0_0 := fun o => (blk_cell (B0.out.alloc o).now 0).trans rfl
 have yB0_1 := fun o => (blk_cell (B0.out.alloc o).now 1).trans rfl
 have zB1_0 := (blk_cell B1.out.now 0).trans rfl
 have zB1_1 := (blk_cell B1.out.now 1).trans rfl
 have yB1_0 := fun o => (blk_cell (B1.out.alloc o).now 0).trans rfl
 have yB1_1 := fun o => (blk_cell (B1.out.alloc o).now 1).trans rfl
 go_wp2
 go_ret
 exact ⟨rfl, HB.out⟩

end Go.Proofs.Ytcgkgimkpndhmab.Q
