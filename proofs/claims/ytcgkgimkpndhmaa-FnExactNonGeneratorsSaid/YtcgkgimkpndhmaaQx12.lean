/- Contracts of Go functions, each with a plain Lean function of the same answers: whatever the arguments, the call comes to what the Lean function tells. Written by a program of this session. -/
import Derived.Test.YtcgkgimkpndhmaaQx0
import Derived.Test.YtcgkgimkpndhmaaQx1
import Derived.Test.YtcgkgimkpndhmaaQx2
import Derived.Test.YtcgkgimkpndhmaaQx3
import Derived.Test.YtcgkgimkpndhmaaQx7
import Derived.Test.YtcgkgimkpndhmaaQx11
namespace Go.Proofs.Ytcgkgimkpndhmaa.Q
open Go.RowKit Go.Proofs.YtcgkgimkpndhmaaW.PrintWords Go.Proofs.YtcgkgimkpndhmaaW.PrintLast Go.Proofs.YtcgkgimkpndhmaaW.PrintMore
attribute [local go_sem] max2_int min2_int max_two min_two max_three min_three max_four min_four   -- for this text's walks alone
set_option linter.unusedVariables false
set_option linter.unusedSimpArgs false

/-! ### laws_FnExactNonGenerators: function 8 -/
def laws_FnExactNonGenerators.f (k : Nat) (a0_0 : Int) (l0_1 : List (S64)) : Option Bool := ((laws_szAlgebra.f k a0_0 l0_1 1048576).bind fun b0 => (if b0 < 0 then some true else ((laws_toAlgebra.f k a0_0 l0_1).bind fun b1 => ((spec_NonGenerators.f k b1.1 b1.2).bind fun b2 => ((impl_NonGenerators.f k b1.1 b1.2).bind fun b3 => ((laws_eqIntS.f k b3.1 b2.1).bind fun b4 => (if b4 = true ∧ b3.2 = b2.2 then ((laws_eqAlgebra.f k b1.1 b1.2 b1.1 b1.2).bind fun b5 => (if b5 = true then ((laws_markAlgebra.f k b1.1 b1.2 1).bind fun b6 => (if ¬ b6.1 < 0 then ((laws_markIntS.f k b3.1 1).bind fun b7 => ((laws_heldIntS.f k b7.2 1).bind fun b8 => (if ¬ b8 < 0 then (if b8 = b7.1 then some true else none) else none))) else none)) else none)) else none)))))))
open Go.Proofs.Ytcgkgimkpndhmaa.LawKit in
set_option maxHeartbeats 16000000 in
set_option maxRecDepth 100000 in
theorem laws_FnExactNonGenerators.calls (k : Nat) (a0_0 : Int) (A0_1 : Option Addr) (c0_1 : Nat) (l0_1 : List (S64)) (r : Bool) (w : World) (hr0_1 : Kd.C k64 w A0_1 l0_1.length l0_1) (hc0_1 : l0_1.length ≤ c0_1) (h : laws_FnExactNonGenerators.f k a0_0 l0_1 = some r) :
    Calls Try.prog 8 #[.agg #[.int .i64 a0_0, .slice A0_1 l0_1.length c0_1]] w fun e w' => e = .returned (.bool r) ∧ Below w.heap.size w w' := by
  have hu24 := Try.underlying24
  have hu33 := Try.underlying33
  have HR0_1 := Aside0.mk hr0_1
  have HC0_1 := Aside0.mk hc0_1
  clear hr0_1 hc0_1
  have HB := Aside0.mk (Below.refl w.heap.size w)
  have H := h
  clear h
  unfold laws_FnExactNonGenerators.f at H
  replace H := Option.bind_eq_some_iff.mp H
  obtain ⟨t0_0, A0, H⟩ := H
  (try dsimp only at H)
  replace A0 := Aside0.mk A0
  by_cases c0 : t0_0 < 0
  · rw [if_pos c0] at H
    have c0b : decide (t0_0 < 0) = true := decide_eq_true c0
    clear c0
    obtain rfl := Option.some.inj H
    clear H
    go_enter Try.func8, Try.ntmps8
    go_wp2_with fail
    refine letter_ ?_
    intro w2 eW
    have B0 := Aside0.mk (Lives.boxed eW)
    replace HB := Aside0.mk (below_at HB.out eW)
    have Z0 := Aside0.mk (size_at eW)
    clear eW
    have zB0_0 := (blk_cell B0.out.now 0).trans rfl
    have zB0_1 := (blk_cell B0.out.now 1).trans rfl
    have yB0_0 := fun o => (blk_cell (B0.out.alloc o).now 0).trans rfl
    have yB0_1 := fun o => (blk_cell (B0.out.alloc o).now 1).trans rfl
    refine (laws_szAlgebra.calls k a0_0 _ _ l0_1 1048576 t0_0 _ (Kd.C_below HR0_1.out HB.out) HC0_1.out A0.out).mono ?_
    rintro e w1 ⟨rfl, hb⟩
    clear zB0_0 yB0_0 zB0_1 yB0_1
    replace B0 := Aside0.mk (B0.out.below hb)
    have Z1 := Aside0.mk hb.size
    replace HB := Aside0.mk (below_step HB.out hb)
    clear hb
    have zB0_0 := (blk_cell B0.out.now 0).trans rfl
    have zB0_1 := (blk_cell B0.out.now 1).trans rfl
    have yB0_0 := fun o => (blk_cell (B0.out.alloc o).now 0).trans rfl
    have yB0_1 := fun o => (blk_cell (B0.out.alloc o).now 1).trans rfl
    go_wp2
    go_ret
    exact ⟨rfl, HB.out⟩
  rw [if_neg c0] at H
  have c0b : decide (t0_0 < 0) = false := decide_eq_false c0
  clear c0
  replace H := Option.bind_eq_some_iff.mp H
  obtain ⟨⟨t1_0, t1_1⟩, A1, H⟩ := H
  (try dsimp only at H)
  replace A1 := Aside0.mk A1
  replace H := Option.bind_eq_some_iff.mp H
  obtain ⟨⟨t2_0, t2_1⟩, A2, H⟩ := H
  (try dsimp only at H)
  replace A2 := Aside0.mk A2
  replace H := Option.bind_eq_some_iff.mp H
  obtain ⟨⟨t3_0, t3_1⟩, A3, H⟩ := H
  (try dsimp only at H)
  replace A3 := Aside0.mk A3
  replace H := Option.bind_eq_some_iff.mp H
  obtain ⟨t4_0, A4, H⟩ := H
  (try dsimp only at H)
  replace A4 := Aside0.mk A4
  replace H := of_ite H
  obtain ⟨⟨e1_0, e1_1⟩, H⟩ := H
  subst e1_0
  subst e1_1
  replace H := Option.bind_eq_some_iff.mp H
  obtain ⟨t5_0, A5, H⟩ := H
  (try dsimp only at H)
  replace A5 := Aside0.mk A5
  replace H := of_ite H
  obtain ⟨e2_0, H⟩ := H
  subst e2_0
  replace H := Option.bind_eq_some_iff.mp H
  obtain ⟨⟨t6_0, t6_1⟩, A6, H⟩ := H
  (try dsimp only at H)
  replace A6 := Aside0.mk A6
  replace H := of_ite H
  obtain ⟨e3_0, H⟩ := H
  have e3_0b : decide (t6_0 < 0) = false := decide_eq_false e3_0
  clear e3_0
  replace H := Option.bind_eq_some_iff.mp H
  obtain ⟨⟨t7_0, t7_1⟩, A7, H⟩ := H
  (try dsimp only at H)
  replace A7 := Aside0.mk A7
  replace H := Option.bind_eq_some_iff.mp H
  obtain ⟨t8_0, A8, H⟩ := H
  (try dsimp only at H)
  replace A8 := Aside0.mk A8
  replace H := of_ite H
  obtain ⟨e4_0, H⟩ := H
  have e4_0b : decide (t8_0 < 0) = false := decide_eq_false e4_0
  clear e4_0
  replace H := of_ite H
  obtain ⟨e5_0, H⟩ := H
  subst e5_0
  obtain rfl := Option.some.inj H
  clear H
  go_enter Try.func8, Try.ntmps8
  go_wp2_with fail
  refine letter_ ?_
  intro w2 eW
  have B0 := Aside0.mk (Lives.boxed eW)
  replace HB := Aside0.mk (below_at HB.out eW)
  have Z0 := Aside0.mk (size_at eW)
  clear eW
  have zB0_0 := (blk_cell B0.out.now 0).trans rfl
  have zB0_1 := (blk_cell B0.out.now 1).trans rfl
  have yB0_0 := fun o => (blk_cell (B0.out.alloc o).now 0).trans rfl
  have yB0_1 := fun o => (blk_cell (B0.out.alloc o).now 1).trans rfl
  refine (laws_szAlgebra.calls k a0_0 _ _ l0_1 1048576 t0_0 _ (Kd.C_below HR0_1.out HB.out) HC0_1.out A0.out).mono ?_
  rintro e w1 ⟨rfl, hb⟩
  clear zB0_0 yB0_0 zB0_1 yB0_1
  replace B0 := Aside0.mk (B0.out.below hb)
  have Z1 := Aside0.mk hb.size
  replace HB := Aside0.mk (below_step HB.out hb)
  clear hb
  have zB0_0 := (blk_cell B0.out.now 0).trans rfl
  have zB0_1 := (blk_cell B0.out.now 1).trans rfl
  have yB0_0 := fun o => (blk_cell (B0.out.alloc o).now 0).trans rfl
  have yB0_1 := fun o => (blk_cell (B0.out.alloc o).now 1).trans rfl
  go_wp2_with fail
  refine (laws_toAlgebra.calls k a0_0 _ _ l0_1 t1_0 t1_1 _ (Kd.C_below HR0_1.out HB.out) HC0_1.out A1.out).mono ?_
  rintro e w3 ⟨v1, rfl, ho1, hb⟩
  clear zB0_0 yB0_0 zB0_1 yB0_1
  replace B0 := Aside0.mk (B0.out.below hb)
  have Z2 := Aside0.mk hb.size
  obtain ⟨AR0, cR0, rfl⟩ := Kd.S_slice ho1
  have R0 := Aside0.mk (Lives.rowS (base := w.heap.size) ho1 hb.size HB.out.size)
  replace HB := Aside0.mk (below_step HB.out hb)
  clear hb ho1
  have zB0_0 := (blk_cell B0.out.now 0).trans rfl
  have zB0_1 := (blk_cell B0.out.now 1).trans rfl
  have yB0_0 := fun o => (blk_cell (B0.out.alloc o).now 0).trans rfl
  have yB0_1 := fun o => (blk_cell (B0.out.alloc o).now 1).trans rfl
  go_wp2_with fail
  refine (spec_NonGenerators.calls k t1_0 _ _ t1_1 t2_0 t3_1 _ (Kd.S_reads' R0.out.now).2.2 (Kd.S_reads' R0.out.now).2.1 A2.out).mono ?_
  rintro e w4 ⟨v0, rfl, ho0, hb⟩
  clear zB0_0 yB0_0 zB0_1 yB0_1
  replace B0 := Aside0.mk (B0.out.below hb)
  replace R0 := Aside0.mk (R0.out.below hb)
  have Z3 := Aside0.mk hb.size
  obtain ⟨AR1, cR1, rfl⟩ := Kd.R_slice ho0
  have R1 := Aside0.mk (Lives.row (base := w.heap.size) ho0 hb.size HB.out.size)
  replace HB := Aside0.mk (below_step HB.out hb)
  clear hb ho0
  have zB0_0 := (blk_cell B0.out.now 0).trans rfl
  have zB0_1 := (blk_cell B0.out.now 1).trans rfl
  have yB0_0 := fun o => (blk_cell (B0.out.alloc o).now 0).trans rfl
  have yB0_1 := fun o => (blk_cell (B0.out.alloc o).now 1).trans rfl
  go_wp2_with fail
  refine (laws_toAlgebra.calls k a0_0 _ _ l0_1 t1_0 t1_1 _ (Kd.C_below HR0_1.out HB.out) HC0_1.out A1.out).mono ?_
  rintro e w5 ⟨v1, rfl, ho1, hb⟩
  clear zB0_0 yB0_0 zB0_1 yB0_1
  replace B0 := Aside0.mk (B0.out.below hb)
  replace R0 := Aside0.mk (R0.out.below hb)
  replace R1 := Aside0.mk (R1.out.below hb)
  have Z4 := Aside0.mk hb.size
  obtain ⟨AR2, cR2, rfl⟩ := Kd.S_slice ho1
  have R2 := Aside0.mk (Lives.rowS (base := w.heap.size) ho1 hb.size HB.out.size)
  replace HB := Aside0.mk (below_step HB.out hb)
  clear hb ho1
  have zB0_0 := (blk_cell B0.out.now 0).trans rfl
  have zB0_1 := (blk_cell B0.out.now 1).trans rfl
  have yB0_0 := fun o => (blk_cell (B0.out.alloc o).now 0).trans rfl
  have yB0_1 := fun o => (blk_cell (B0.out.alloc o).now 1).trans rfl
  go_wp2_with fail
  clear zB0_0 yB0_0 zB0_1 yB0_1
  refine letter_ ?_
  intro w7 eW
  replace B0 := Aside0.mk (B0.out.at eW)
  replace R0 := Aside0.mk (R0.out.at eW)
  replace R1 := Aside0.mk (R1.out.at eW)
  replace R2 := Aside0.mk (R2.out.at eW)
  have B1 := Aside0.mk (Lives.boxed eW)
  replace HB := Aside0.mk (below_at HB.out eW)
  have Z5 := Aside0.mk (size_at eW)
  clear eW
  have zB0_0 := (blk_cell B0.out.now 0).trans rfl
  have zB0_1 := (blk_cell B0.out.now 1).trans rfl
  have yB0_0 := fun o => (blk_cell (B0.out.alloc o).now 0).trans rfl
  have yB0_1 := fun o => (blk_cell (B0.out.alloc o).now 1).trans rfl
  have zB1_0 := (blk_cell B1.out.now 0).trans rfl
  have zB1_1 := (blk_cell B1.out.now 1).trans rfl
  have yB1_0 := fun o => (blk_cell (B1.out.alloc o).now 0).trans rfl
  have yB1_1 := fun o => (blk_cell (B1.out.alloc o).now 1).trans rfl
  refine (impl_NonGenerators.calls k t1_0 _ _ t1_1 t3_0 t3_1 _ (Kd.S_reads' R2.out.now).2.2 (Kd.S_reads' R2.out.now).2.1 A3.out).mono ?_
  rintro e w6 ⟨v0, rfl, ho0, hb⟩
  clear zB0_0 yB0_0 zB0_1 yB0_1 zB1_0 yB1_0 zB1_1 yB1_1
  replace B0 := Aside0.mk (B0.out.below hb)
  replace R0 := Aside0.mk (R0.out.below hb)
  replace R1 := Aside0.mk (R1.out.below hb)
  replace R2 := Aside0.mk (R2.out.below hb)
  replace B1 := Aside0.mk (B1.out.below hb)
  have Z6 := Aside0.mk hb.size
  obtain ⟨AR3, cR3, rfl⟩ := Kd.R_slice ho0
  have R3 := Aside0.mk (Lives.row (base := w.heap.size) ho0 hb.size HB.out.size)
  replace HB := Aside0.mk (below_step HB.out hb)
  clear hb ho0
  have zB0_0 := (blk_cell B0.out.now 0).trans rfl
  have zB0_1 := (blk_cell B0.out.now 1).trans rfl
  have yB0_0 := fun o => (blk_cell (B0.out.alloc o).now 0).trans rfl
  have yB0_1 := fun o => (blk_cell (B0.out.alloc o).now 1).trans rfl
  have zB1_0 := (blk_cell B1.out.now 0).trans rfl
  have zB1_1 := (blk_cell B1.out.now 1).trans rfl
  have yB1_0 := fun o => (blk_cell (B1.out.alloc o).now 0).trans rfl
  have yB1_1 := fun o => (blk_cell (B1.out.alloc o).now 1).trans rfl
  go_wp2_with fail
  refine (laws_eqIntS.calls k _ _ t3_0 _ _ t2_0 true _ (Kd.R_reads' R3.out.now).2.2 (Kd.R_reads' R3.out.now).2.1 (Kd.R_reads' R1.out.now).2.2 (Kd.R_reads' R1.out.now).2.1 A4.out).mono ?_
  rintro e w8 ⟨rfl, hd⟩
  have hb := below_drawn hd
  clear hd
  clear zB0_0 yB0_0 zB0_1 yB0_1 zB1_0 yB1_0 zB1_1 yB1_1
  replace B0 := Aside0.mk (B0.out.below hb)
  replace R0 := Aside0.mk (R0.out.below hb)
  replace R1 := Aside0.mk (R1.out.below hb)
  replace R2 := Aside0.mk (R2.out.below hb)
  replace B1 := Aside0.mk (B1.out.below hb)
  replace R3 := Aside0.mk (R3.out.below hb)
  have Z7 := Aside0.mk hb.size
  replace HB := Aside0.mk (below_step HB.out hb)
  clear hb
  have zB0_0 := (blk_cell B0.out.now 0).trans rfl
  have zB0_1 := (blk_cell B0.out.now 1).trans rfl
  have yB0_0 := fun o => (blk_cell (B0.out.alloc o).now 0).trans rfl
  have yB0_1 := fun o => (blk_cell (B0.out.alloc o).now 1).trans rfl
  have zB1_0 := (blk_cell B1.out.now 0).trans rfl
  have zB1_1 := (blk_cell B1.out.now 1).trans rfl
  have yB1_0 := fun o => (blk_cell (B1.out.alloc o).now 0).trans rfl
  have yB1_1 := fun o => (blk_cell (B1.out.alloc o).now 1).trans rfl
  try go_wp2_with fail
  clear zB0_0 yB0_0 zB0_1 yB0_1 zB1_0 yB1_0 zB1_1 yB1_1
  replace B0 := Aside0.mk B0.out.drew
  replace R0 := Aside0.mk R0.out.drew
  replace R1 := Aside0.mk R1.out.drew
  replace R2 := Aside0.mk R2.out.drew
  replace B1 := Aside0.mk B1.out.drew
  replace R3 := Aside0.mk R3.out.drew
  replace HB := Aside0.mk (below_drew1 HB.out)
  have Z8 := Aside0.mk (show w8.heap.size ≤ w8.drew.heap.size from Nat.le_refl _)
  refine start_ (n := 5) (S := fun w' => w'.cell? ⟨w.heap.size, 0, none⟩ = some (.int .i64 a0_0) ∧ w'.cell? ⟨w.heap.size, 1, none⟩ = some (.slice A0_1 l0_1.length c0_1) ∧ w'.cell? ⟨w5.heap.size, 0, none⟩ = some (.int .i64 t1_0) ∧ w'.cell? ⟨w5.heap.size, 1, none⟩ = some (.slice AR2 t1_1.length cR2)) (ds := []) #[false, false, false, false, false] (by kernel_rfl) rfl rfl ⟨(blk_cell B0.out.now 0).trans rfl, (blk_cell B0.out.now 1).trans rfl, (blk_cell B1.out.now 0).trans rfl, (blk_cell B1.out.now 1).trans rfl⟩ (fun hHeld => ?_)
  generalize w8.drew = w9 at B0 R0 R1 R2 B1 R3 HB Z8 hHeld ⊢
  refine take_ (i := 0) (N := (some 41)) (v := ?_) (a' := ?_) #[true, false, false, false, false] rfl rfl (by kernel_rfl) (fun _ _ _ h => h) (Or.inl ⟨by rfl, ?_⟩) hHeld ?_ ?_
  rotate_left
  · rintro w' ⟨s0, s1, s2, s3⟩
    go_simp
    with_reducible rfl
  rotate_left
  · simp only [Act.put, List.setIfInBounds_toArray, List.set_cons_zero, List.set_cons_succ, i64_w, i32_w]
    rfl
  refine take_ (i := 1) (N := (some 42)) (v := ?_) (a' := ?_) #[true, true, false, false, false] rfl rfl (by kernel_rfl) (fun _ _ _ h => h) (Or.inl ⟨by rfl, ?_⟩) hHeld ?_ ?_
  rotate_left
  · rintro w' ⟨s0, s1, s2, s3⟩
    go_simp
    with_reducible rfl
  rotate_left
  · simp only [Act.put, List.setIfInBounds_toArray, List.set_cons_zero, List.set_cons_succ, i64_w, i32_w]
    rfl
  refine one_ (i := 2) (N := (some 43)) #[true, true, true, false, false] rfl rfl (by kernel_rfl) (by decide) (fun K hK => ?_)
  refine goes_ Try.func12 (by kernel_rfl) rfl #[.agg #[.int .i64 a0_0, .slice A0_1 l0_1.length c0_1]] (by rfl) rfl rfl (by (try simp only [List.map_toArray, List.map_cons, List.map_nil]); first | done | rfl | (simp only [List.length_drop, List.length_take]; rfl)) ?_
  refine (laws_toAlgebra.calls k a0_0 _ _ l0_1 t1_0 t1_1 _ (Kd.C_below HR0_1.out HB.out) HC0_1.out A1.out).mono ?_
  rintro e w10 ⟨v1, rfl, ho1, hb⟩
  refine ⟨_, rfl, ?_⟩
  replace B0 := Aside0.mk (B0.out.below hb)
  replace R0 := Aside0.mk (R0.out.below hb)
  replace R1 := Aside0.mk (R1.out.below hb)
  replace R2 := Aside0.mk (R2.out.below hb)
  replace B1 := Aside0.mk (B1.out.below hb)
  replace R3 := Aside0.mk (R3.out.below hb)
  have Z9 := Aside0.mk hb.size
  obtain ⟨AR4, cR4, rfl⟩ := Kd.S_slice ho1
  have R4 := Aside0.mk (Lives.rowS (base := w.heap.size) ho1 hb.size HB.out.size)
  replace HB := Aside0.mk (below_step HB.out hb)
  clear hb ho1
  have zB0_0 := (blk_cell B0.out.now 0).trans rfl
  have zB0_1 := (blk_cell B0.out.now 1).trans rfl
  have yB0_0 := fun o => (blk_cell (B0.out.alloc o).now 0).trans rfl
  have yB0_1 := fun o => (blk_cell (B0.out.alloc o).now 1).trans rfl
  have zB1_0 := (blk_cell B1.out.now 0).trans rfl
  have zB1_1 := (blk_cell B1.out.now 1).trans rfl
  have yB1_0 := fun o => (blk_cell (B1.out.alloc o).now 0).trans rfl
  have yB1_1 := fun o => (blk_cell (B1.out.alloc o).now 1).trans rfl
  clear zB0_0 yB0_0 zB0_1 yB0_1 zB1_0 yB1_0 zB1_1 yB1_1
  refine hK.out _ _ ⟨(blk_cell B0.out.now 0).trans rfl, (blk_cell B0.out.now 1).trans rfl, (blk_cell B1.out.now 0).trans rfl, (blk_cell B1.out.now 1).trans rfl⟩ (fun hHeld => ?_)
  clear hK K
  refine norm_ (a' := ?_) ?_ ?_
  rotate_left
  · show Act.put _ (some 43) _ = _
    simp only [Act.put, List.setIfInBounds_toArray, List.set_cons_zero, List.set_cons_succ, i64_w, i32_w]
    rfl
  refine one_ (i := 3) (N := (some 44)) #[true, true, true, true, false] rfl rfl (by kernel_rfl) (by decide) (fun K hK => ?_)
  refine goes_ Try.func17 (by kernel_rfl) rfl #[.agg #[.int .i64 t1_0, .slice AR2 t1_1.length cR2], .agg #[.int .i64 t1_0, .slice AR4 t1_1.length cR4]] (by rfl) rfl rfl (by (try simp only [List.map_toArray, List.map_cons, List.map_nil]); first | done | rfl | (simp only [List.length_drop, List.length_take]; rfl)) ?_
  refine (laws_eqAlgebra.calls k t1_0 _ _ t1_1 t1_0 _ _ t1_1 true _ (Kd.S_reads' R2.out.now).2.2 (Kd.S_reads' R2.out.now).2.1 (Kd.S_reads' R4.out.now).2.2 (Kd.S_reads' R4.out.now).2.1 A5.out).mono ?_
  rintro e w11 ⟨rfl, hb⟩
  refine ⟨_, rfl, ?_⟩
  replace B0 := Aside0.mk (B0.out.below hb)
  replace R0 := Aside0.mk (R0.out.below hb)
  replace R1 := Aside0.mk (R1.out.below hb)
  replace R2 := Aside0.mk (R2.out.below hb)
  replace B1 := Aside0.mk (B1.out.below hb)
  replace R3 := Aside0.mk (R3.out.below hb)
  replace R4 := Aside0.mk (R4.out.below hb)
  have Z10 := Aside0.mk hb.size
  replace HB := Aside0.mk (below_step HB.out hb)
  clear hb
  have zB0_0 := (blk_cell B0.out.now 0).trans rfl
  have zB0_1 := (blk_cell B0.out.now 1).trans rfl
  have yB0_0 := fun o => (blk_cell (B0.out.alloc o).now 0).trans rfl
  have yB0_1 := fun o => (blk_cell (B0.out.alloc o).now 1).trans rfl
  have zB1_0 := (blk_cell B1.out.now 0).trans rfl
  have zB1_1 := (blk_cell B1.out.now 1).trans rfl
  have yB1_0 := fun o => (blk_cell (B1.out.alloc o).now 0).trans rfl
  have yB1_1 := fun o => (blk_cell (B1.out.alloc o).now 1).trans rfl
  clear zB0_0 yB0_0 zB0_1 yB0_1 zB1_0 yB1_0 zB1_1 yB1_1
  refine hK.out _ _ ⟨(blk_cell B0.out.now 0).trans rfl, (blk_cell B0.out.now 1).trans rfl, (blk_cell B1.out.now 0).trans rfl, (blk_cell B1.out.now 1).trans rfl⟩ (fun hHeld => ?_)
  clear hK K
  refine norm_ (a' := ?_) ?_ ?_
  rotate_left
  · show Act.put _ (some 44) _ = _
    simp only [Act.put, List.setIfInBounds_toArray, List.set_cons_zero, List.set_cons_succ, i64_w, i32_w]
    rfl
  refine pure_ (i := 4) (N := (some 45)) (v := ?_) (a' := ?_) #[true, true, true, true, true] rfl rfl (by kernel_rfl) (fun _ _ _ h => h) (Or.inl ⟨by rfl, ?_⟩) ?_ ?_
  rotate_left
  · intro w'
    go_simp
    with_reducible rfl
  rotate_left
  · simp only [Act.put, List.setIfInBounds_toArray, List.set_cons_zero, List.set_cons_succ, i64_w, i32_w]
    rfl
  refine done_ (by kernel_rfl) ?_
  have zB0_0 := (blk_cell B0.out.now 0).trans rfl
  have zB0_1 := (blk_cell B0.out.now 1).trans rfl
  have yB0_0 := fun o => (blk_cell (B0.out.alloc o).now 0).trans rfl
  have yB0_1 := fun o => (blk_cell (B0.out.alloc o).now 1).trans rfl
  have zB1_0 := (blk_cell B1.out.now 0).trans rfl
  have zB1_1 := (blk_cell B1.out.now 1).trans rfl
  have yB1_0 := fun o => (blk_cell (B1.out.alloc o).now 0).trans rfl
  have yB1_1 := fun o => (blk_cell (B1.out.alloc o).now 1).trans rfl
  go_wp2_with fail
  refine (laws_markAlgebra.calls k (fun k_ => w4.heap.size ≤ k_ ∧ k_ < w5.heap.size) t1_0 _ t1_1 1 t6_0 t6_1 w _ HB.out R2.out.now A6.out).mono ?_
  rintro e w12 ⟨rfl, ho, hb, hk⟩
  clear zB0_0 yB0_0 zB0_1 yB0_1 zB1_0 yB1_0 zB1_1 yB1_1
  have Z11 := Aside0.mk hk.1
  replace B0 := Aside0.mk (B0.out.kept hk (by have := Z0.out; have := Z1.out; have := Z2.out; have := Z3.out; have := Z4.out; have := Z5.out; have := Z6.out; have := Z7.out; have := Z8.out; have := Z9.out; have := Z10.out; omega))
  replace R0 := Aside0.mk (R0.out.kept hk (by have := Z0.out; have := Z1.out; have := Z2.out; have := Z3.out; have := Z4.out; have := Z5.out; have := Z6.out; have := Z7.out; have := Z8.out; have := Z9.out; have := Z10.out; omega))
  replace R1 := Aside0.mk (R1.out.kept hk (by have := Z0.out; have := Z1.out; have := Z2.out; have := Z3.out; have := Z4.out; have := Z5.out; have := Z6.out; have := Z7.out; have := Z8.out; have := Z9.out; have := Z10.out; omega))
  replace R2 := Aside0.mk (R2.out.markedS ho hk.1)
  replace B1 := Aside0.mk (B1.out.kept hk (by have := Z0.out; have := Z1.out; have := Z2.out; have := Z3.out; have := Z4.out; have := Z5.out; have := Z6.out; have := Z7.out; have := Z8.out; have := Z9.out; have := Z10.out; omega))
  replace R3 := Aside0.mk (R3.out.kept hk (by have := Z0.out; have := Z1.out; have := Z2.out; have := Z3.out; have := Z4.out; have := Z5.out; have := Z6.out; have := Z7.out; have := Z8.out; have := Z9.out; have := Z10.out; omega))
  replace R4 := Aside0.mk (R4.out.kept hk (by have := Z0.out; have := Z1.out; have := Z2.out; have := Z3.out; have := Z4.out; have := Z5.out; have := Z6.out; have := Z7.out; have := Z8.out; have := Z9.out; have := Z10.out; omega))
  have LR2 := Aside0.mk (Kd.S_reads' ho).1
  replace HB := Aside0.mk hb
  clear ho hb hk
  have zB0_0 := (blk_cell B0.out.now 0).trans rfl
  have zB0_1 := (blk_cell B0.out.now 1).trans rfl
  have yB0_0 := fun o => (blk_cell (B0.out.alloc o).now 0).trans rfl
  have yB0_1 := fun o => (blk_cell (B0.out.alloc o).now 1).trans rfl
  have zB1_0 := (blk_cell B1.out.now 0).trans rfl
  have zB1_1 := (blk_cell B1.out.now 1).trans rfl
  have yB1_0 := fun o => (blk_cell (B1.out.alloc o).now 0).trans rfl
  have yB1_1 := fun o => (blk_cell (B1.out.alloc o).now 1).trans rfl
  go_wp2_with fail
  refine (laws_eqIntS.calls k _ _ t3_0 _ _ t2_0 true _ (Kd.R_reads' R3.out.now).2.2 (Kd.R_reads' R3.out.now).2.1 (Kd.R_reads' R1.out.now).2.2 (Kd.R_reads' R1.out.now).2.1 A4.out).mono ?_
  rintro e w13 ⟨rfl, hd⟩
  have hb := below_drawn hd
  clear hd
  clear zB0_0 yB0_0 zB0_1 yB0_1 zB1_0 yB1_0 zB1_1 yB1_1
  replace B0 := Aside0.mk (B0.out.below hb)
  replace R0 := Aside0.mk (R0.out.below hb)
  replace R1 := Aside0.mk (R1.out.below hb)
  replace R2 := Aside0.mk (R2.out.below hb)
  replace B1 := Aside0.mk (B1.out.below hb)
  replace R3 := Aside0.mk (R3.out.below hb)
  replace R4 := Aside0.mk (R4.out.below hb)
  have Z12 := Aside0.mk hb.size
  replace HB := Aside0.mk (below_step HB.out hb)
  clear hb
  have zB0_0 := (blk_cell B0.out.now 0).trans rfl
  have zB0_1 := (blk_cell B0.out.now 1).trans rfl
  have yB0_0 := fun o => (blk_cell (B0.out.alloc o).now 0).trans rfl
  have yB0_1 := fun o => (blk_cell (B0.out.alloc o).now 1).trans rfl
  have zB1_0 := (blk_cell B1.out.now 0).trans rfl
  have zB1_1 := (blk_cell B1.out.now 1).trans rfl
  have yB1_0 := fun o => (blk_cell (B1.out.alloc o).now 0).trans rfl
  have yB1_1 := fun o => (blk_cell (B1.out.alloc o).now 1).trans rfl
  go_wp2_with fail
  refine (laws_markIntS.calls k (fun k_ => w7.heap.size ≤ k_ ∧ k_ < w6.heap.size) _ t3_0 1 t8_0 t7_1 w _ HB.out R3.out.now A7.out).mono ?_
  rintro e w14 ⟨rfl, ho, hb, hk⟩
  clear zB0_0 yB0_0 zB0_1 yB0_1 zB1_0 yB1_0 zB1_1 yB1_1
  have Z13 := Aside0.mk hk.1
  replace B0 := Aside0.mk (B0.out.kept hk (by have := Z0.out; have := Z1.out; have := Z2.out; have := Z3.out; have := Z4.out; have := Z5.out; have := Z6.out; have := Z7.out; have := Z8.out; have := Z9.out; have := Z10.out; have := Z11.out; have := Z12.out; omega))
  replace R0 := Aside0.mk (R0.out.kept hk (by have := Z0.out; have := Z1.out; have := Z2.out; have := Z3.out; have := Z4.out; have := Z5.out; have := Z6.out; have := Z7.out; have := Z8.out; have := Z9.out; have := Z10.out; have := Z11.out; have := Z12.out; omega))
  replace R1 := Aside0.mk (R1.out.kept hk (by have := Z0.out; have := Z1.out; have := Z2.out; have := Z3.out; have := Z4.out; have := Z5.out; have := Z6.out; have := Z7.out; have := Z8.out; have := Z9.out; have := Z10.out; have := Z11.out; have := Z12.out; omega))
  replace R2 := Aside0.mk (R2.out.kept hk (by have := Z0.out; have := Z1.out; have := Z2.out; have := Z3.out; have := Z4.out; have := Z5.out; have := Z6.out; have := Z7.out; have := Z8.out; have := Z9.out; have := Z10.out; have := Z11.out; have := Z12.out; omega))
  replace B1 := Aside0.mk (B1.out.kept hk (by have := Z0.out; have := Z1.out; have := Z2.out; have := Z3.out; have := Z4.out; have := Z5.out; have := Z6.out; have := Z7.out; have := Z8.out; have := Z9.out; have := Z10.out; have := Z11.out; have := Z12.out; omega))
  replace R3 := Aside0.mk (R3.out.marked rfl ho hk.1)
  replace R4 := Aside0.mk (R4.out.kept hk (by have := Z0.out; have := Z1.out; have := Z2.out; have := Z3.out; have := Z4.out; have := Z5.out; have := Z6.out; have := Z7.out; have := Z8.out; have := Z9.out; have := Z10.out; have := Z11.out; have := Z12.out; omega))
  have LR3 := Aside0.mk (Kd.R_reads' ho).1
  replace HB := Aside0.mk hb
  clear ho hb hk
  have zB0_0 := (blk_cell B0.out.now 0).trans rfl
  have zB0_1 := (blk_cell B0.out.now 1).trans rfl
  have yB0_0 := fun o => (blk_cell (B0.out.alloc o).now 0).trans rfl
  have yB0_1 := fun o => (blk_cell (B0.out.alloc o).now 1).trans rfl
  have zB1_0 := (blk_cell B1.out.now 0).trans rfl
  have zB1_1 := (blk_cell B1.out.now 1).trans rfl
  have yB1_0 := fun o => (blk_cell (B1.out.alloc o).now 0).trans rfl
  have yB1_1 := fun o => (blk_cell (B1.out.alloc o).now 1).trans rfl
  go_wp2_with fail
  refine calls_of_args (args' := #[.slice AR3 t7_1.length cR3, .int .i64 1]) (by first | rw [LR3.out] | rw [← LR3.out]) ?_
  refine (laws_heldIntS.calls k _ _ t7_1 1 t8_0 _ (Kd.R_reads' R3.out.now).2.2 (by have h_ := (Kd.R_reads' R3.out.now).2.1; have e_ := LR3.out; omega) A8.out).mono ?_
  rintro e w15 ⟨rfl, hd⟩
  have hb := below_drawn hd
  clear hd
  clear zB0_0 yB0_0 zB0_1 yB0_1 zB1_0 yB1_0 zB1_1 yB1_1
  replace B0 := Aside0.mk (B0.out.below hb)
  replace R0 := Aside0.mk (R0.out.below hb)
  replace R1 := Aside0.mk (R1.out.below hb)
  replace R2 := Aside0.mk (R2.out.below hb)
  replace B1 := Aside0.mk (B1.out.below hb)
  replace R3 := Aside0.mk (R3.out.below hb)
  replace R4 := Aside0.mk (R4.out.below hb)
  have Z14 := Aside0.mk hb.size
  replace HB := Aside0.mk (below_step HB.out hb)
  clear hb
  have zB0_0 := (blk_cell B0.out.now 0).trans rfl
  have zB0_1 := (blk_cell B0.out.now 1).trans rfl
  have yB0_0 := fun o => (blk_cell (B0.out.alloc o).now 0).trans rfl
  have yB0_1 := fun o => (blk_cell (B0.out.alloc o).now 1).trans rfl
  have zB1_0 := (blk_cell B1.out.now 0).trans rfl
  have zB1_1 := (blk_cell B1.out.now 1).trans rfl
  have yB1_0 := fun o => (blk_cell (B1.out.alloc o).now 0).trans rfl
  have yB1_1 := fun o => (blk_cell (B1.out.alloc o).now 1).trans rfl
  go_wp2_with fail
  refine (laws_toAlgebra.calls k a0_0 _ _ l0_1 t1_0 t1_1 _ (Kd.C_below HR0_1.out HB.out) HC0_1.out A1.out).mono ?_
  rintro e w16 ⟨v1, rfl, ho1, hb⟩
  clear zB0_0 yB0_0 zB0_1 yB0_1 zB1_0 yB1_0 zB1_1 yB1_1
  replace B0 := Aside0.mk (B0.out.below hb)
  replace R0 := Aside0.mk (R0.out.below hb)
  replace R1 := Aside0.mk (R1.out.below hb)
  replace R2 := Aside0.mk (R2.out.below hb)
  replace B1 := Aside0.mk (B1.out.below hb)
  replace R3 := Aside0.mk (R3.out.below hb)
  replace R4 := Aside0.mk (R4.out.below hb)
  have Z15 := Aside0.mk hb.size
  obtain ⟨AR5, cR5, rfl⟩ := Kd.S_slice ho1
  have R5 := Aside0.mk (Lives.rowS (base := w.heap.size) ho1 hb.size HB.out.size)
  replace HB := Aside0.mk (below_step HB.out hb)
  clear hb ho1
  have zB0_0 := (blk_cell B0.out.now 0).trans rfl
  have zB0_1 := (blk_cell B0.out.now 1).trans rfl
  have yB0_0 := fun o => (blk_cell (B0.out.alloc o).now 0).trans rfl
  have yB0_1 := fun o => (blk_cell (B0.out.alloc o).now 1).trans rfl
  have zB1_0 := (blk_cell B1.out.now 0).trans rfl
  have zB1_1 := (blk_cell B1.out.now 1).trans rfl
  have yB1_0 := fun o => (blk_cell (B1.out.alloc o).now 0).trans rfl
  have yB1_1 := fun o => (blk_cell (B1.out.alloc o).now 1).trans rfl
  go_wp2_with fail
  refine (impl_NonGenerators.calls k t1_0 _ _ t1_1 t3_0 t3_1 _ (Kd.S_reads' R5.out.now).2.2 (Kd.S_reads' R5.out.now).2.1 A3.out).mono ?_
  rintro e w17 ⟨v0, rfl, ho0, hb⟩
  clear zB0_0 yB0_0 zB0_1 yB0_1 zB1_0 yB1_0 zB1_1 yB1_1
  replace B0 := Aside0.mk (B0.out.below hb)
  replace R0 := Aside0.mk (R0.out.below hb)
  replace R1 := Aside0.mk (R1.out.below hb)
  replace R2 := Aside0.mk (R2.out.below hb)
  replace B1 := Aside0.mk (B1.out.below hb)
  replace R3 := Aside0.mk (R3.out.below hb)
  replace R4 := Aside0.mk (R4.out.below hb)
  replace R5 := Aside0.mk (R5.out.below hb)
  have Z16 := Aside0.mk hb.size
  obtain ⟨AR6, cR6, rfl⟩ := Kd.R_slice ho0
  have R6 := Aside0.mk (Lives.row (base := w.heap.size) ho0 hb.size HB.out.size)
  replace HB := Aside0.mk (below_step HB.out hb)
  clear hb ho0
  have zB0_0 := (blk_cell B0.out.now 0).trans rfl
  have zB0_1 := (blk_cell B0.out.now 1).trans rfl
  have yB0_0 := fun o => (blk_cell (B0.out.alloc o).now 0).trans rfl
  have yB0_1 := fun o => (blk_cell (B0.out.alloc o).now 1).trans rfl
  have zB1_0 := (blk_cell B1.out.now 0).trans rfl
  have zB1_1 := (blk_cell B1.out.now 1).trans rfl
  have yB1_0 := fun o => (blk_cell (B1.out.alloc o).now 0).trans rfl
  have yB1_1 := fun o => (blk_cell (B1.out.alloc o).now 1).trans rfl
  go_wp2_with fail
  refine (laws_eqIntS.calls k _ _ t3_0 _ _ t2_0 true _ (Kd.R_reads' R6.out.now).2.2 (Kd.R_reads' R6.out.now).2.1 (Kd.R_reads' R1.out.now).2.2 (Kd.R_reads' R1.out.now).2.1 A4.out).mono ?_
  rintro e w18 ⟨rfl, hd⟩
  have hb := below_drawn hd
  clear hd
  clear zB0_0 yB0_0 zB0_1 yB0_1 zB1_0 yB1_0 zB1_1 yB1_1
  replace B0 := Aside0.mk (B0.out.below hb)
  replace R0 := Aside0.mk (R0.out.below hb)
  replace R1 := Aside0.mk (R1.out.below hb)
  replace R2 := Aside0.mk (R2.out.below hb)
  replace B1 := Aside0.mk (B1.out.below hb)
  replace R3 := Aside0.mk (R3.out.below hb)
  replace R4 := Aside0.mk (R4.out.below hb)
  replace R5 := Aside0.mk (R5.out.below hb)
  replace R6 := Aside0.mk (R6.out.below hb)
  have Z17 := Aside0.mk hb.size
  replace HB := Aside0.mk (below_step HB.out hb)
  clear hb
  have zB0_0 := (blk_cell B0.out.now 0).trans rfl
  have zB0_1 := (blk_cell B0.out.now 1).trans rfl
  have yB0_0 := fun o => (blk_cell (B0.out.alloc o).now 0).trans rfl
  have yB0_1 := fun o => (blk_cell (B0.out.alloc o).now 1).trans rfl
  have zB1_0 := (blk_cell B1.out.now 0).trans rfl
  have zB1_1 := (blk_cell B1.out.now 1).trans rfl
  have yB1_0 := fun o => (blk_cell (B1.out.alloc o).now 0).trans rfl
  have yB1_1 := fun o => (blk_cell (B1.out.alloc o).now 1).trans rfl
  go_wp2_with fail
  refine calls_of_args (args' := #[.slice AR3 t7_1.length cR3, .int .i64 1]) (by first | rw [LR3.out] | rw [← LR3.out]) ?_
  refine (laws_heldIntS.calls k _ _ t7_1 1 t8_0 _ (Kd.R_reads' R3.out.now).2.2 (by have h_ := (Kd.R_reads' R3.out.now).2.1; have e_ := LR3.out; omega) A8.out).mono ?_
  rintro e w19 ⟨rfl, hd⟩
  have hb := below_drawn hd
  clear hd
  clear zB0_0 yB0_0 zB0_1 yB0_1 zB1_0 yB1_0 zB1_1 yB1_1
  replace B0 := Aside0.mk (B0.out.below hb)
  replace R0 := Aside0.mk (R0.out.below hb)
  replace R1 := Aside0.mk (R1.out.below hb)
  replace R2 := Aside0.mk (R2.out.below hb)
  replace B1 := Aside0.mk (B1.out.below hb)
  replace R3 := Aside0.mk (R3.out.below hb)
  replace R4 := Aside0.mk (R4.out.below hb)
  replace R5 := Aside0.mk (R5.out.below hb)
  replace R6 := Aside0.mk (R6.out.below hb)
  have Z18 := Aside0.mk hb.size
  replace HB := Aside0.mk (below_step HB.out hb)
  clear hb
  have zB0_0 := (blk_cell B0.out.now 0).trans rfl
  have zB0_1 := (blk_cell B0.out.now 1).trans rfl
  have yB0_0 := fun o => (blk_cell (B0.out.alloc o).now 0).trans rfl
  have yB0_1 := fun o => (blk_cell (B0.out.alloc o).now 1).trans rfl
  have zB1_0 := (blk_cell B1.out.now 0).trans rfl
  have zB1_1 := (blk_cell B1.out.now 1).trans rfl
  have yB1_0 := fun o => (blk_cell (B1.out.alloc o).now 0).trans rfl
  have yB1_1 := fun o => (blk_cell (B1.out.alloc o).now 1).trans rfl
  go_wp2
  go_ret
  exact ⟨rfl, HB.out⟩

end Go.Proofs.Ytcgkgimkpndhmaa.Q
