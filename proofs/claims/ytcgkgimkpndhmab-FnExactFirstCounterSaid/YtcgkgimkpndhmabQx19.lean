/- Contracts of Go functions, each with a plain Lean function of the same answers: whatever the arguments, the call comes to what the Lean function tells. Written by a program of this session. -/
import Derived.Test.YtcgkgimkpndhmabQx0
import Derived.Test.YtcgkgimkpndhmabQx1
import Derived.Test.YtcgkgimkpndhmabQx2
import Derived.Test.YtcgkgimkpndhmabQx3
import Derived.Test.YtcgkgimkpndhmabQx4
import Derived.Test.YtcgkgimkpndhmabQx12
import Derived.Test.YtcgkgimkpndhmabQx18
namespace Go.Proofs.Ytcgkgimkpndhmab.Q
open Go.RowKit Go.Proofs.YtcgkgimkpndhmabW.PrintWords Go.Proofs.YtcgkgimkpndhmabW.PrintLast Go.Proofs.YtcgkgimkpndhmabW.PrintMore
attribute [local go_sem] max2_int min2_int max_two min_two max_three min_three max_four min_four   -- for this text's walks alone
set_option linter.unusedVariables false
set_option linter.unusedSimpArgs false

/-! ### laws_FnExactFirstCounter: function 7 -/
def laws_FnExactFirstCounter.f (k : Nat) (a0_0 : Int) (l0_1 : List (S79)) (l1_0 : List Int) (l1_1 : List Int) : Option Bool := ((laws_szAlgebra.f k a0_0 l0_1 1048576).bind fun b0 => (if b0 < 0 then some true else ((laws_szIdentity.f l1_0 l1_1 b0).bind fun b1 => (if b1 < 0 then some true else ((laws_toAlgebra.f k a0_0 l0_1).bind fun b2 => ((laws_toIdentity.f k l1_0 l1_1).bind fun b3 => ((spec_FirstCounter.f k b2.1 b2.2 b3.1 b3.2).bind fun b4 => ((impl_FirstCounter.f k b2.1 b2.2 b3.1 b3.2).bind fun b5 => ((laws_eqIntS.f k b5.1 b4.1).bind fun b6 => (if b6 = true ∧ b5.2 = b4.2 then ((laws_eqAlgebra.f k b2.1 b2.2 b2.1 b2.2).bind fun b7 => (if b7 = true then ((laws_eqIdentity.f k b3.1 b3.2 b3.1 b3.2).bind fun b8 => (if b8 = true then ((laws_markAlgebra.f k b2.1 b2.2 1).bind fun b9 => ((laws_markIdentity.f k b3.1 b3.2 b9.1).bind fun b10 => (if ¬ b10.1 < 0 then ((laws_markIntS.f k b5.1 1).bind fun b11 => ((laws_heldIntS.f k b11.2 1).bind fun b12 => (if ¬ b12 < 0 then (if b12 = b11.1 then some true else none) else none))) else none))) else none)) else none)) else none))))))))))
open Go.Proofs.Ytcgkgimkpndhmab.LawKit in
set_option maxHeartbeats 16000000 in
set_option maxRecDepth 100000 in
theorem laws_FnExactFirstCounter.calls (k : Nat) (a0_0 : Int) (A0_1 : Option Addr) (c0_1 : Nat) (l0_1 : List (S79)) (A1_0 : Option Addr) (c1_0 : Nat) (l1_0 : List Int) (A1_1 : Option Addr) (c1_1 : Nat) (l1_1 : List Int) (r : Bool) (w : World) (hr0_1 : Kd.C k79 w A0_1 l0_1.length l0_1) (hc0_1 : l0_1.length ≤ c0_1) (hr1_0 : Kd.C (Kd.int .i64) w A1_0 l1_0.length l1_0) (hc1_0 : l1_0.length ≤ c1_0) (hr1_1 : Kd.C (Kd.int .i64) w A1_1 l1_1.length l1_1) (hc1_1 : l1_1.length ≤ c1_1) (h : laws_FnExactFirstCounter.f k a0_0 l0_1 l1_0 l1_1 = some r) :
  Calls Try.prog 7 #[.agg #[.int .i64 a0_0, .slice A0_1 l0_1.length c0_1], .agg #[.slice A1_0 l1_0.length c1_0, .slice A1_1 l1_1.length c1_1]] w fun e w' => e = .returned (.bool r) ∧ Below w.heap.size w w' := by
 have hu24 := Try.underlying24
 have hu31 := Try.underlying31
 have hu40 := Try.underlying40
 have hu44 := Try.underlying44
 have HR0_1 := Aside0.mk hr0_1
 have HR1_0 := Aside0.mk hr1_0
 have HR1_1 := Aside0.mk hr1_1
 have HC0_1 := Aside0.mk hc0_1
 have HC1_0 := Aside0.mk hc1_0
 have HC1_1 := Aside0.mk hc1_1
 clear hr0_1 hc0_1 hr1_0 hc1_0 hr1_1 hc1_1
 have HB := Aside0.mk (Below.refl w.heap.size w)
 have H := h
 clear h
 unfold laws_FnExactFirstCounter.f at H
 replace H := Option.bind_eq_some_iff.mp H
 obtain ⟨t0_0, A0, H⟩ := H
 (try dsimp only at H)
 replace A0 := Aside0.mk A0
 by_cases c0 : t0_0 < 0
 ·rw [if_pos c0] at H
  have c0b : decide (t0_0 < 0) = true := decide_eq_true c0
  clear c0
  obtain rfl := Option.some.inj H
  clear H
  go_enter Try.func7, Try.ntmps7
  go_wp2_with fail
  refine letter2_ ?_
  intro w2 w3 eW eV
  have B0 := Aside0.mk ((Lives.boxed eW).at eV)
  have B1 := Aside0.mk (Lives.boxed eV)
  replace HB := Aside0.mk (below_at (below_at HB.out eW) eV)
  have Z0 := Aside0.mk (size_at eW)
  have Z1 := Aside0.mk (size_at eV)
  (try simp only [← eW])
  (try simp only [← size_at eW])
  clear eW eV
  have zB0_0 := (blk_cell B0.out.now 0).trans rfl
  have zB0_1 := (blk_cell B0.out.now 1).trans rfl
  have yB0_0 := fun o => (blk_cell (B0.out.alloc o).now 0).trans rfl
  have yB0_1 := fun o => (blk_cell (B0.out.alloc o).now 1).trans rfl
  have zB1_0 := (blk_cell B1.out.now 0).trans rfl
  have zB1_1 := (blk_cell B1.out.now 1).trans rfl
  have yB1_0 := fun o => (blk_cell (B1.out.alloc o).now 0).trans rfl
  have yB1_1 := fun o => (blk_cell (B1.out.alloc o).now 1).trans rfl
  refine (laws_szAlgebra.calls k a0_0 _ _ l0_1 1048576 t0_0 _ (Kd.C_below HR0_1.out HB.out) HC0_1.out A0.out).mono ?_
  rintro e w1 ⟨rfl, hb⟩
  clear zB0_0 yB0_0 zB0_1 yB0_1 zB1_0 yB1_0 zB1_1 yB1_1
  replace B0 := Aside0.mk (B0.out.below hb)
  replace B1 := Aside0.mk (B1.out.below hb)
  have Z2 := Aside0.mk hb.size
  replace HB := Aside0.mk (below_step HB.out hb)
  clear hb
  have zB0_0 := (blk_cell B0.out.now 0).trans rfl
  have zB0_1 := (blk_cell B0.out.now 1).trans rfl
  have yB0_0 := fun o => (blk_cell (B0.out.alloc o).now 0).trans rfl
  have yB0_1 := fun o => (blk_cell (B0.out.alloc o).now 1).trans rfl
  have zB1_0 := (blk_cell B1.out.now 0).trans rfl
  have zB1_1 := (blk_cell B1.out.now 1).trans rfl
  have yB1_0 := fun o => (blk_cell (B1.out.alloc o).now 0).trans rfl
  have yB1_1 := fun o => (blk_cell (B1.out.alloc o).now 1).trans rfl
  go_wp2
  go_ret
  exact ⟨rfl, HB.out⟩
 rw [if_neg c0] at H
 have c0b : decide (t0_0 < 0) = false := decide_eq_false c0
 clear c0
 replace H := Option.bind_eq_some_iff.mp H
 obtain ⟨t1_0, A1, H⟩ := H
 (try dsimp only at H)
 replace A1 := Aside0.mk A1
 by_cases c1 : t1_0 < 0
 ·rw [if_pos c1] at H
  have c1b : decide (t1_0 < 0) = true := decide_eq_true c1
  clear c1
  obtain rfl := Option.some.inj H
  clear H
  go_enter Try.func7, Try.ntmps7
  go_wp2_with fail
  refine letter2_ ?_
  intro w2 w3 eW eV
  have B0 := Aside0.mk ((Lives.boxed eW).at eV)
  have B1 := Aside0.mk (Lives.boxed eV)
  replace HB := Aside0.mk (below_at (below_at HB.out eW) eV)
  have Z0 := Aside0.mk (size_at eW)
  have Z1 := Aside0.mk (size_at eV)
  (try simp only [← eW])
  (try simp only [← size_at eW])
  clear eW eV
  have zB0_0 := (blk_cell B0.out.now 0).trans rfl
  have zB0_1 := (blk_cell B0.out.now 1).trans rfl
  have yB0_0 := fun o => (blk_cell (B0.out.alloc o).now 0).trans rfl
  have yB0_1 := fun o => (blk_cell (B0.out.alloc o).now 1).trans rfl
  have zB1_0 := (blk_cell B1.out.now 0).trans rfl
  have zB1_1 := (blk_cell B1.out.now 1).trans rfl
  have yB1_0 := fun o => (blk_cell (B1.out.alloc o).now 0).trans rfl
  have yB1_1 := fun o => (blk_cell (B1.out.alloc o).now 1).trans rfl
  refine (laws_szAlgebra.calls k a0_0 _ _ l0_1 1048576 t0_0 _ (Kd.C_below HR0_1.out HB.out) HC0_1.out A0.out).mono ?_
  rintro e w1 ⟨rfl, hb⟩
  clear zB0_0 yB0_0 zB0_1 yB0_1 zB1_0 yB1_0 zB1_1 yB1_1
  replace B0 := Aside0.mk (B0.out.below hb)
  replace B1 := Aside0.mk (B1.out.below hb)
  have Z2 := Aside0.mk hb.size
  replace HB := Aside0.mk (below_step HB.out hb)
  clear hb
  have zB0_0 := (blk_cell B0.out.now 0).trans rfl
  have zB0_1 := (blk_cell B0.out.now 1).trans rfl
  have yB0_0 := fun o => (blk_cell (B0.out.alloc o).now 0).trans rfl
  have yB0_1 := fun o => (blk_cell (B0.out.alloc o).now 1).trans rfl
  have zB1_0 := (blk_cell B1.out.now 0).trans rfl
  have zB1_1 := (blk_cell B1.out.now 1).trans rfl
  have yB1_0 := fun o => (blk_cell (B1.out.alloc o).now 0).trans rfl
  have yB1_1 := fun o => (blk_cell (B1.out.alloc o).now 1).trans rfl
  go_wp2_with fail
  refine (laws_szIdentity.calls _ _ l1_0 _ _ l1_1 t0_0 t1_0 _ (Kd.C_below HR1_0.out HB.out) HC1_0.out (Kd.C_below HR1_1.out HB.out) HC1_1.out A1.out).mono ?_
  rintro e w4 ⟨rfl, hb⟩
  clear zB0_0 yB0_0 zB0_1 yB0_1 zB1_0 yB1_0 zB1_1 yB1_1
  replace B0 := Aside0.mk (B0.out.below hb)
  replace B1 := Aside0.mk (B1.out.below hb)
  have Z3 := Aside0.mk hb.size
  replace HB := Aside0.mk (below_step HB.out hb)
  clear hb
  have zB0_0 := (blk_cell B0.out.now 0).trans rfl
  have zB0_1 := (blk_cell B0.out.now 1).trans rfl
  have yB0_0 := fun o => (blk_cell (B0.out.alloc o).now 0).trans rfl
  have yB0_1 := fun o => (blk_cell (B0.out.alloc o).now 1).trans rfl
  have zB1_0 := (blk_cell B1.out.now 0).trans rfl
  have zB1_1 := (blk_cell B1.out.now 1).trans rfl
  have yB1_0 := fun o => (blk_cell (B1.out.alloc o).now 0).trans rfl
  have yB1_1 := fun o => (blk_cell (B1.out.alloc o).now 1).trans rfl
  go_wp2
  go_ret
  exact ⟨rfl, HB.out⟩
 rw [if_neg c1] at H
 have c1b : decide (t1_0 < 0) = false := decide_eq_false c1
 clear c1
 replace H := Option.bind_eq_some_iff.mp H
 obtain ⟨⟨t2_0, t2_1⟩, A2, H⟩ := H
 (try dsimp only at H)
 replace A2 := Aside0.mk A2
 replace H := Option.bind_eq_some_iff.mp H
 obtain ⟨⟨t3_0, t3_1⟩, A3, H⟩ := H
 (try dsimp only at H)
 replace A3 := Aside0.mk A3
 replace H := Option.bind_eq_some_iff.mp H
 obtain ⟨⟨t4_0, t4_1⟩, A4, H⟩ := H
 (try dsimp only at H)
 replace A4 := Aside0.mk A4
 replace H := Option.bind_eq_some_iff.mp H
 obtain ⟨⟨t5_0, t5_1⟩, A5, H⟩ := H
 (try dsimp only at H)
 replace A5 := Aside0.mk A5
 replace H := Option.bind_eq_some_iff.mp H
 obtain ⟨t6_0, A6, H⟩ := H
 (try dsimp only at H)
 replace A6 := Aside0.mk A6
 replace H := of_ite H
 obtain ⟨⟨e2_0, e2_1⟩, H⟩ := H
 subst e2_0
 subst e2_1
 replace H := Option.bind_eq_some_iff.mp H
 obtain ⟨t7_0, A7, H⟩ := H
 (try dsimp only at H)
 replace A7 := Aside0.mk A7
 replace H := of_ite H
 obtain ⟨e3_0, H⟩ := H
 subst e3_0
 replace H := Option.bind_eq_some_iff.mp H
 obtain ⟨t8_0, A8, H⟩ := H
 (try dsimp only at H)
 replace A8 := Aside0.mk A8
 replace H := of_ite H
 obtain ⟨e4_0, H⟩ := H
 subst e4_0
 replace H := Option.bind_eq_some_iff.mp H
 obtain ⟨⟨t9_0, t9_1⟩, A9, H⟩ := H
 (try dsimp only at H)
 replace A9 := Aside0.mk A9
 replace H := Option.bind_eq_some_iff.mp H
 obtain ⟨⟨t10_0, t10_1, t10_2⟩, A10, H⟩ := H
 (try dsimp only at H)
 replace A10 := Aside0.mk A10
 replace H := of_ite H
 obtain ⟨e5_0, H⟩ := H
 have e5_0b : decide (t10_0 < 0) = false := decide_eq_false e5_0
 clear e5_0
 replace H := Option.bind_eq_some_iff.mp H
 obtain ⟨⟨t11_0, t11_1⟩, A11, H⟩ := H
 (try dsimp only at H)
 replace A11 := Aside0.mk A11
 replace H := Option.bind_eq_some_iff.mp H
 obtain ⟨t12_0, A12, H⟩ := H
 (try dsimp only at H)
 replace A12 := Aside0.mk A12
 replace H := of_ite H
 obtain ⟨e6_0, H⟩ := H
 have e6_0b : decide (t12_0 < 0) = false := decide_eq_false e6_0
 clear e6_0
 replace H := of_ite H
 obtain ⟨e7_0, H⟩ := H
 subst e7_0
 obtain rfl := Option.some.inj H
 clear H
 go_enter Try.func7, Try.ntmps7
 go_wp2_with fail
 refine letter2_ ?_
 intro w2 w3 eW eV
 have B0 := Aside0.mk ((Lives.boxed eW).at eV)
 have B1 := Aside0.mk (Lives.boxed eV)
 replace HB := Aside0.mk (below_at (below_at HB.out eW) eV)
 have Z0 := Aside0.mk (size_at eW)
 have Z1 := Aside0.mk (size_at eV)
 (try simp only [← eW])
 (try simp only [← size_at eW])
 clear eW eV
 have zB0_0 := (blk_cell B0.out.now 0).trans rfl
 have zB0_1 := (blk_cell B0.out.now 1).trans rfl
 have yB0_0 := fun o => (blk_cell (B0.out.alloc o).now 0).trans rfl
 have yB0_1 := fun o => (blk_cell (B0.out.alloc o).now 1).trans rfl
 have zB1_0 := (blk_cell B1.out.now 0).trans rfl
 have zB1_1 := (blk_cell B1.out.now 1).trans rfl
 have yB1_0 := fun o => (blk_cell (B1.out.alloc o).now 0).trans rfl
 have yB1_1 := fun o => (blk_cell (B1.out.alloc o).now 1).trans rfl
 refine (laws_szAlgebra.calls k a0_0 _ _ l0_1 1048576 t0_0 _ (Kd.C_below HR0_1.out HB.out) HC0_1.out A0.out).mono ?_
 rintro e w1 ⟨rfl, hb⟩
 clear zB0_0 yB0_0 zB0_1 yB0_1 zB1_0 yB1_0 zB1_1 yB1_1
 replace B0 := Aside0.mk (B0.out.below hb)
 replace B1 := Aside0.mk (B1.out.below hb)
 have Z2 := Aside0.mk hb.size
 replace HB := Aside0.mk (below_step HB.out hb)
 clear hb
 have zB0_0 := (blk_cell B0.out.now 0).trans rfl
 have zB0_1 := (blk_cell B0.out.now 1).trans rfl
 have yB0_0 := fun o => (blk_cell (B0.out.alloc o).now 0).trans rfl
 have yB0_1 := fun o => (blk_cell (B0.out.alloc o).now 1).trans rfl
 have zB1_0 := (blk_cell B1.out.now 0).trans rfl
 have zB1_1 := (blk_cell B1.out.now 1).trans rfl
 have yB1_0 := fun o => (blk_cell (B1.out.alloc o).now 0).trans rfl
 have yB1_1 := fun o => (blk_cell (B1.out.alloc o).now 1).trans rfl
 go_wp2_with fail
 refine (laws_szIdentity.calls _ _ l1_0 _ _ l1_1 t0_0 t1_0 _ (Kd.C_below HR1_0.out HB.out) HC1_0.out (Kd.C_below HR1_1.out HB.out) HC1_1.out A1.out).mono ?_
 rintro e w4 ⟨rfl, hb⟩
 clear zB0_0 yB0_0 zB0_1 yB0_1 zB1_0 yB1_0 zB1_1 yB1_1
 replace B0 := Aside0.mk (B0.out.below hb)
 replace B1 := Aside0.mk (B1.out.below hb)
 have Z3 := Aside0.mk hb.size
 replace HB := Aside0.mk (below_step HB.out hb)
 clear hb
 have zB0_0 := (blk_cell B0.out.now 0).trans rfl
 have zB0_1 := (blk_cell B0.out.now 1).trans rfl
 have yB0_0 := fun o => (blk_cell (B0.out.alloc o).now 0).trans rfl
 have yB0_1 := fun o => (blk_cell (B0.out.alloc o).now 1).trans rfl
 have zB1_0 := (blk_cell B1.out.now 0).trans rfl
 have zB1_1 := (blk_cell B1.out.now 1).trans rfl
 have yB1_0 := fun o => (blk_cell (B1.out.alloc o).now 0).trans rfl
 have yB1_1 := fun o => (blk_cell (B1.out.alloc o).now 1).trans rfl
 try go_wp2_with fail
 clear zB0_0 yB0_0 zB0_1 yB0_1 zB1_0 yB1_0 zB1_1 yB1_1
 replace B0 := Aside0.mk B0.out.drew
 replace B1 := Aside0.mk B1.out.drew
 replace HB := Aside0.mk (bD HB.out)
 have Z4 := Aside0.mk (show w4.heap.size ≤ w4.drew.heap.size from Nat.le_refl _)
 refine start_ (n := 10) (S := fun w' => w'.cell? ⟨w.heap.size, 0, none⟩ = some (.int .i64 a0_0) ∧ w'.cell? ⟨w.heap.size, 1, none⟩ = some (.slice A0_1 l0_1.length c0_1) ∧ w'.cell? ⟨w2.heap.size, 0, none⟩ = some (.slice A1_0 l1_0.length c1_0) ∧ w'.cell? ⟨w2.heap.size, 1, none⟩ = some (.slice A1_1 l1_1.length c1_1)) (ds := []) #[false, false, false, false, false, false, false, false, false, false] (by kernel_rfl) rfl rfl ⟨(blk_cell B0.out.now 0).trans rfl, (blk_cell B0.out.now 1).trans rfl, (blk_cell B1.out.now 0).trans rfl, (blk_cell B1.out.now 1).trans rfl⟩ (fun hHeld => ?_)
 generalize w4.drew = w5 at B0 B1 HB Z4 hHeld ⊢
 refine take_ (i := 0) (N := (some 28)) (v := ?_) (a' := ?_) #[true, false, false, false, false, false, false, false, false, false] rfl rfl (by kernel_rfl) (fun _ _ _ h => h) (Or.inl ⟨by rfl, ?_⟩) hHeld ?_ ?_
 rotate_left
 ·rintro w' ⟨s0, s1, s2, s3⟩
  go_simp
  with_reducible rfl
 rotate_left
 ·simp only [Act.put, lS, lZ, lT, i64_w, i32_w]
  rfl
 refine take_ (i := 2) (N := (some 30)) (v := ?_) (a' := ?_) #[true, false, true, false, false, false, false, false, false, false] rfl rfl (by kernel_rfl) (fun _ _ _ h => h) (Or.inl ⟨by rfl, ?_⟩) hHeld ?_ ?_
 rotate_left
 ·rintro w' ⟨s0, s1, s2, s3⟩
  go_simp
  with_reducible rfl
 rotate_left
 ·simp only [Act.put, lS, lZ, lT, i64_w, i32_w]
  rfl
 refine one_ (i := 1) (N := (some 29)) #[true, true, true, false, false, false, false, false, false, false] rfl rfl (by kernel_rfl) (by decide) (fun K hK => ?_)
 refine goes_ Try.func11 (by kernel_rfl) rfl #[.agg #[.int .i64 a0_0, .slice A0_1 l0_1.length c0_1]] (by rfl) rfl rfl (by (try simp only [List.map_toArray, List.map_cons, List.map_nil]); first | done | rfl | (simp only [List.length_drop, List.length_take]; rfl)) ?_
 refine (laws_toAlgebra.calls k a0_0 _ _ l0_1 t2_0 t2_1 _ (Kd.C_below HR0_1.out HB.out) HC0_1.out A2.out).mono ?_
 rintro e w6 ⟨v1, rfl, ho1, hb⟩
 refine ⟨_, rfl, ?_⟩
 replace B0 := Aside0.mk (B0.out.below hb)
 replace B1 := Aside0.mk (B1.out.below hb)
 have Z5 := Aside0.mk hb.size
 obtain ⟨AR0, cR0, rfl⟩ := Kd.S_slice ho1
 have R0 := Aside0.mk (Lives.rowS (base := w.heap.size) ho1 hb.size HB.out.size)
 replace HB := Aside0.mk (below_step HB.out hb)
 clear hb ho1
 have zB0_0 := (blk_cell B0.out.now 0).trans rfl
 have zB0_1 := (blk_cell B0.out.now 1).trans rfl
 have yB0_0 := fun o => (blk_cell (B0.out.alloc o).now 0).trans rfl
 have yB0_1 := fun o => (blk_cell (B0.out.alloc o).now 1).trans rfl
 have zB1_0 := (blk_cell B1.out.now 0).trans rfl
 have zB1_1 := (blk_cell B1.out.now 1).trans rfl
 have yB1_0 := fun o => (blk_cell (B1.out.alloc o).now 0).trans rfl
 have yB1_1 := fun o => (blk_cell (B1.out.alloc o).now 1).trans rfl
 clear zB0_0 yB0_0 zB0_1 yB0_1 zB1_0 yB1_0 zB1_1 yB1_1
 refine hK.out _ _ ⟨(blk_cell B0.out.now 0).trans rfl, (blk_cell B0.out.now 1).trans rfl, (blk_cell B1.out.now 0).trans rfl, (blk_cell B1.out.now 1).trans rfl⟩ (fun hHeld => ?_)
 clear hK K
 refine norm_ (a' := ?_) ?_ ?_
 rotate_left
 ·show Act.put _ (some 29) _ = _
  simp only [Act.put, lS, lZ, lT, i64_w, i32_w]
  rfl
 refine one_ (i := 3) (N := (some 31)) #[true, true, true, true, false, false, false, false, false, false] rfl rfl (by kernel_rfl) (by decide) (fun K hK => ?_)
 refine goes_ Try.func23 (by kernel_rfl) rfl #[.agg #[.slice A1_0 l1_0.length c1_0, .slice A1_1 l1_1.length c1_1]] (by rfl) rfl rfl (by (try simp only [List.map_toArray, List.map_cons, List.map_nil]); first | done | rfl | (simp only [List.length_drop, List.length_take]; rfl)) ?_
 refine (laws_toIdentity.calls k _ _ l1_0 _ _ l1_1 t3_0 t3_1 _ (Kd.C_below HR1_0.out HB.out) HC1_0.out (Kd.C_below HR1_1.out HB.out) HC1_1.out A3.out).mono ?_
 rintro e w7 ⟨v0, v1, rfl, ho0, ho1, hb⟩
 refine ⟨_, rfl, ?_⟩
 replace B0 := Aside0.mk (B0.out.below hb)
 replace B1 := Aside0.mk (B1.out.below hb)
 replace R0 := Aside0.mk (R0.out.below hb)
 have Z6 := Aside0.mk hb.size
 obtain ⟨AR1, cR1, rfl⟩ := Kd.R_slice ho0
 have R1 := Aside0.mk (Lives.row (base := w.heap.size) (Kd.R_mono ho0 (fun _ _ => trivial)) hb.size HB.out.size)
 obtain ⟨AR2, cR2, rfl⟩ := Kd.R_slice ho1
 have DR1 : ∀ k_ : Nat, some k_ = (.slice AR1 t3_0.length cR1 : Value).ownBlock → ¬ some k_ = (.slice AR2 t3_1.length cR2 : Value).ownBlock := fun k_ h_ => ho0.1 k_ h_.symm
 have R2 := Aside0.mk (Lives.row (base := w.heap.size) (Kd.R_mono ho1 (fun _ _ => trivial)) hb.size HB.out.size)
 replace HB := Aside0.mk (below_step HB.out hb)
 clear hb ho0 ho1
 have zB0_0 := (blk_cell B0.out.now 0).trans rfl
 have zB0_1 := (blk_cell B0.out.now 1).trans rfl
 have yB0_0 := fun o => (blk_cell (B0.out.alloc o).now 0).trans rfl
 have yB0_1 := fun o => (blk_cell (B0.out.alloc o).now 1).trans rfl
 have zB1_0 := (blk_cell B1.out.now 0).trans rfl
 have zB1_1 := (blk_cell B1.out.now 1).trans rfl
 have yB1_0 := fun o => (blk_cell (B1.out.alloc o).now 0).trans rfl
 have yB1_1 := fun o => (blk_cell (B1.out.alloc o).now 1).trans rfl
 clear zB0_0 yB0_0 zB0_1 yB0_1 zB1_0 yB1_0 zB1_1 yB1_1
 refine hK.out _ _ ⟨(blk_cell B0.out.now 0).trans rfl, (blk_cell B0.out.now 1).trans rfl, (blk_cell B1.out.now 0).trans rfl, (blk_cell B1.out.now 1).trans rfl⟩ (fun hHeld => ?_)
 clear hK K
 refine norm_ (a' := ?_) ?_ ?_
 rotate_left
 ·show Act.put _ (some 31) _ = _
  simp only [Act.put, lS, lZ, lT, i64_w, i32_w]
  rfl
 refine one_ (i := 4) (N := (some 32)) #[true, true, true, true, true, false, false, false, false, false] rfl rfl (by kernel_rfl) (by decide) (fun K hK => ?_)
 refine goes_ Try.func31 (by kernel_rfl) rfl #[.agg #[.int .i64 t2_0, .slice AR0 t2_1.length cR0], .agg #[.slice AR1 t3_0.length cR1, .slice AR2 t3_1.length cR2]] (by rfl) rfl rfl (by (try simp only [List.map_toArray, List.map_cons, List.map_nil]); first | done | rfl | (simp only [List.length_drop, List.length_take]; rfl)) ?_
 refine (spec_FirstCounter.calls k t2_0 _ _ t2_1 _ _ t3_0 _ _ t3_1 t4_0 t5_1 _ (Kd.S_reads' R0.out.now).2.2 (Kd.S_reads' R0.out.now).2.1 (Kd.R_reads' R1.out.now).2.2 (Kd.R_reads' R1.out.now).2.1 (Kd.R_reads' R2.out.now).2.2 (Kd.R_reads' R2.out.now).2.1 A4.out).mono ?_
 rintro e w8 ⟨v0, rfl, ho0, hb⟩
 refine ⟨_, rfl, ?_⟩
 replace B0 := Aside0.mk (B0.out.below hb)
 replace B1 := Aside0.mk (B1.out.below hb)
 replace R0 := Aside0.mk (R0.out.below hb)
 replace R1 := Aside0.mk (R1.out.below hb)
 replace R2 := Aside0.mk (R2.out.below hb)
 have Z7 := Aside0.mk hb.size
 obtain ⟨AR3, cR3, rfl⟩ := Kd.R_slice ho0
 have R3 := Aside0.mk (Lives.row (base := w.heap.size) ho0 hb.size HB.out.size)
 replace HB := Aside0.mk (below_step HB.out hb)
 clear hb ho0
 have zB0_0 := (blk_cell B0.out.now 0).trans rfl
 have zB0_1 := (blk_cell B0.out.now 1).trans rfl
 have yB0_0 := fun o => (blk_cell (B0.out.alloc o).now 0).trans rfl
 have yB0_1 := fun o => (blk_cell (B0.out.alloc o).now 1).trans rfl
 have zB1_0 := (blk_cell B1.out.now 0).trans rfl
 have zB1_1 := (blk_cell B1.out.now 1).trans rfl
 have yB1_0 := fun o => (blk_cell (B1.out.alloc o).now 0).trans rfl
 have yB1_1 := fun o => (blk_cell (B1.out.alloc o).now 1).trans rfl
 clear zB0_0 yB0_0 zB0_1 yB0_1 zB1_0 yB1_0 zB1_1 yB1_1
 refine hK.out _ _ ⟨(blk_cell B0.out.now 0).trans rfl, (blk_cell B0.out.now 1).trans rfl, (blk_cell B1.out.now 0).trans rfl, (blk_cell B1.out.now 1).trans rfl⟩ (fun hHeld => ?_)
 clear hK K
 refine norm_ (a' := ?_) ?_ ?_
 rotate_left
 ·show Act.put _ (some 32) _ = _
  simp only [Act.put, lS, lZ, lT, i64_w, i32_w]
  rfl
 refine pure_ (i := 5) (N := (some 27)) (v := ?_) (a' := ?_) #[true, true, true, true, true, true, false, false, false, false] rfl rfl (by kernel_rfl) (fun _ _ _ h => h) (Or.inl ⟨by rfl, ?_⟩) ?_ ?_
 rotate_left
 ·intro w'
  go_simp
  with_reducible rfl
 rotate_left
 ·simp only [Act.put, lS, lZ, lT, i64_w, i32_w]
  rfl
 refine pure_ (i := 6) (N := (some 33)) (v := ?_) (a' := ?_) #[true, true, true, true, true, true, true, false, false, false] rfl rfl (by kernel_rfl) (fun _ _ _ h => h) (Or.inl ⟨by rfl, ?_⟩) ?_ ?_
 rotate_left
 ·intro w'
  go_simp
  with_reducible rfl
 rotate_left
 ·simp only [Act.put, lS, lZ, lT, i64_w, i32_w]
  rfl
 refine pure_ (i := 7) (N := (some 34)) (v := ?_) (a' := ?_) #[true, true, true, true, true, true, true, true, false, false] rfl rfl (by kernel_rfl) (fun _ _ _ h => h) (Or.inl ⟨by rfl, ?_⟩) ?_ ?_
 rotate_left
 ·intro w'
  go_simp
  with_reducible rfl
 rotate_left
 ·simp only [Act.put, lS, lZ, lT, i64_w, i32_w]
  rfl
 refine pure_ (i := 8) (N := (some 6)) (v := ?_) (a' := ?_) #[true, true, true, true, true, true, true, true, true, false] rfl rfl (by kernel_rfl) (fun _ _ _ h => h) (Or.inl ⟨by rfl, ?_⟩) ?_ ?_
 rotate_left
 ·intro w'
  go_simp
  with_reducible rfl
 rotate_left
 ·simp only [Act.put, lS, lZ, lT, i64_w, i32_w]
  rfl
 refine pure_ (i := 9) (N := (some 7)) (v := ?_) (a' := ?_) #[true, true, true, true, true, true, true, true, true, true] rfl rfl (by kernel_rfl) (fun _ _ _ h => h) (Or.inl ⟨by rfl, ?_⟩) ?_ ?_
 rotate_left
 ·intro w'
  go_simp
  with_reducible rfl
 rotate_left
 ·simp only [Act.put, lS, lZ, lT, i64_w, i32_w]
  rfl
 refine done_ (by kernel_rfl) ?_
 have zB0_0 := (blk_cell B0.out.now 0).trans rfl
 have zB0_1 := (blk_cell B0.out.now 1).trans rfl
 have yB0_0 := fun o => (blk_cell (B0.out.alloc o).now 0).trans rfl
 have yB0_1 := fun o => (blk_cell (B0.out.alloc o).now 1).trans rfl
 have zB1_0 := (blk_cell B1.out.now 0).trans rfl
 have zB1_1 := (blk_cell B1.out.now 1).trans rfl
 have yB1_0 := fun o => (blk_cell (B1.out.alloc o).now 0).trans rfl
 have yB1_1 := fun o => (blk_cell (B1.out.alloc o).now 1).trans rfl
 go_wp2_with fail
 refine (laws_toAlgebra.calls k a0_0 _ _ l0_1 t2_0 t2_1 _ (Kd.C_below HR0_1.out HB.out) HC0_1.out A2.out).mono ?_
 rintro e w9 ⟨v1, rfl, ho1, hb⟩
 clear zB0_0 yB0_0 zB0_1 yB0_1 zB1_0 yB1_0 zB1_1 yB1_1
 replace B0 := Aside0.mk (B0.out.below hb)
 replace B1 := Aside0.mk (B1.out.below hb)
 replace R0 := Aside0.mk (R0.out.below hb)
 replace R1 := Aside0.mk (R1.out.below hb)
 replace R2 := Aside0.mk (R2.out.below hb)
 replace R3 := Aside0.mk (R3.out.below hb)
 have Z8 := Aside0.mk hb.size
 obtain ⟨AR4, cR4, rfl⟩ := Kd.S_slice ho1
 have R4 := Aside0.mk (Lives.rowS (base := w.heap.size) ho1 hb.size HB.out.size)
 replace HB := Aside0.mk (below_step HB.out hb)
 clear hb ho1
 have zB0_0 := (blk_cell B0.out.now 0).trans rfl
 have zB0_1 := (blk_cell B0.out.now 1).trans rfl
 have yB0_0 := fun o => (blk_cell (B0.out.alloc o).now 0).trans rfl
 have yB0_1 := fun o => (blk_cell (B0.out.alloc o).now 1).trans rfl
 have zB1_0 := (blk_cell B1.out.now 0).trans rfl
 have zB1_1 := (blk_cell B1.out.now 1).trans rfl
 have yB1_0 := fun o => (blk_cell (B1.out.alloc o).now 0).trans rfl
 have yB1_1 := fun o => (blk_cell (B1.out.alloc o).now 1).trans rfl
 go_wp2_with fail
 clear zB0_0 yB0_0 zB0_1 yB0_1 zB1_0 yB1_0 zB1_1 yB1_1
 refine letter_ ?_
 intro w11 eW
 replace B0 := Aside0.mk (B0.out.at eW)
 replace B1 := Aside0.mk (B1.out.at eW)
 replace R0 := Aside0.mk (R0.out.at eW)
 replace R1 := Aside0.mk (R1.out.at eW)
 replace R2 := Aside0.mk (R2.out.at eW)
 replace R3 := Aside0.mk (R3.out.at eW)
 replace R4 := Aside0.mk (R4.out.at eW)
 have B2 := Aside0.mk (Lives.boxed eW)
 replace HB := Aside0.mk (below_at HB.out eW)
 have Z9 := Aside0.mk (size_at eW)
 clear eW
 have zB0_0 := (blk_cell B0.out.now 0).trans rfl
 have zB0_1 := (blk_cell B0.out.now 1).trans rfl
 have yB0_0 := fun o => (blk_cell (B0.out.alloc o).now 0).trans rfl
 have yB0_1 := fun o => (blk_cell (B0.out.alloc o).now 1).trans rfl
 have zB1_0 := (blk_cell B1.out.now 0).trans rfl
 have zB1_1 := (blk_cell B1.out.now 1).trans rfl
 have yB1_0 := fun o => (blk_cell (B1.out.alloc o).now 0).trans rfl
 have yB1_1 := fun o => (blk_cell (B1.out.alloc o).now 1).trans rfl
 have zB2_0 := (blk_cell B2.out.now 0).trans rfl
 have zB2_1 := (blk_cell B2.out.now 1).trans rfl
 have yB2_0 := fun o => (blk_cell (B2.out.alloc o).now 0).trans rfl
 have yB2_1 := fun o => (blk_cell (B2.out.alloc o).now 1).trans rfl
 refine (laws_toIdentity.calls k _ _ l1_0 _ _ l1_1 t3_0 t3_1 _ (Kd.C_below HR1_0.out HB.out) HC1_0.out (Kd.C_below HR1_1.out HB.out) HC1_1.out A3.out).mono ?_
 rintro e w10 ⟨v0, v1, rfl, ho0, ho1, hb⟩
 clear zB0_0 yB0_0 zB0_1 yB0_1 zB1_0 yB1_0 zB1_1 yB1_1 zB2_0 yB2_0 zB2_1 yB2_1
 replace B0 := Aside0.mk (B0.out.below hb)
 replace B1 := Aside0.mk (B1.out.below hb)
 replace R0 := Aside0.mk (R0.out.below hb)
 replace R1 := Aside0.mk (R1.out.below hb)
 replace R2 := Aside0.mk (R2.out.below hb)
 replace R3 := Aside0.mk (R3.out.below hb)
 replace R4 := Aside0.mk (R4.out.below hb)
 replace B2 := Aside0.mk (B2.out.below hb)
 have Z10 := Aside0.mk hb.size
 obtain ⟨AR5, cR5, rfl⟩ := Kd.R_slice ho0
 have R5 := Aside0.mk (Lives.row (base := w.heap.size) (Kd.R_mono ho0 (fun _ _ => trivial)) hb.size HB.out.size)
 obtain ⟨AR6, cR6, rfl⟩ := Kd.R_slice ho1
 have DR5 : ∀ k_ : Nat, some k_ = (.slice AR5 t3_0.length cR5 : Value).ownBlock → ¬ some k_ = (.slice AR6 t3_1.length cR6 : Value).ownBlock := fun k_ h_ => ho0.1 k_ h_.symm
 have R6 := Aside0.mk (Lives.row (base := w.heap.size) (Kd.R_mono ho1 (fun _ _ => trivial)) hb.size HB.out.size)
 replace HB := Aside0.mk (below_step HB.out hb)
 clear hb ho0 ho1
 have zB0_0 := (blk_cell B0.out.now 0).trans rfl
 have zB0_1 := (blk_cell B0.out.now 1).trans rfl
 have yB0_0 := fun o => (blk_cell (B0.out.alloc o).now 0).trans rfl
 have yB0_1 := fun o => (blk_cell (B0.out.alloc o).now 1).trans rfl
 have zB1_0 := (blk_cell B1.out.now 0).trans rfl
 have zB1_1 := (blk_cell B1.out.now 1).trans rfl
 have yB1_0 := fun o => (blk_cell (B1.out.alloc o).now 0).trans rfl
 have yB1_1 := fun o => (blk_cell (B1.out.alloc o).now 1).trans rfl
 have zB2_0 := (blk_cell B2.out.now 0).trans rfl
 have zB2_1 := (blk_cell B2.out.now 1).trans rfl
 have yB2_0 := fun o => (blk_cell (B2.out.alloc o).now 0).trans rfl
 have yB2_1 := fun o => (blk_cell (B2.out.alloc o).now 1).trans rfl
 go_wp2_with fail
 clear zB0_0 yB0_0 zB0_1 yB0_1 zB1_0 yB1_0 zB1_1 yB1_1 zB2_0 yB2_0 zB2_1 yB2_1
 refine letter_ ?_
 intro w13 eW
 replace B0 := Aside0.mk (B0.out.at eW)
 replace B1 := Aside0.mk (B1.out.at eW)
 replace R0 := Aside0.mk (R0.out.at eW)
 replace R1 := Aside0.mk (R1.out.at eW)
 replace R2 := Aside0.mk (R2.out.at eW)
 replace R3 := Aside0.mk (R3.out.at eW)
 replace R4 := Aside0.mk (R4.out.at eW)
 replace B2 := Aside0.mk (B2.out.at eW)
 replace R5 := Aside0.mk (R5.out.at eW)
 replace R6 := Aside0.mk (R6.out.at eW)
 have B3 := Aside0.mk (Lives.boxed eW)
 replace HB := Aside0.mk (below_at HB.out eW)
 have Z11 := Aside0.mk (size_at eW)
 clear eW
 have zB0_0 := (blk_cell B0.out.now 0).trans rfl
 have zB0_1 := (blk_cell B0.out.now 1).trans rfl
 have yB0_0 := fun o => (blk_cell (B0.out.alloc o).now 0).trans rfl
 have yB0_1 := fun o => (blk_cell (B0.out.alloc o).now 1).trans rfl
 have zB1_0 := (blk_cell B1.out.now 0).trans rfl
 have zB1_1 := (blk_cell B1.out.now 1).trans rfl
 have yB1_0 := fun o => (blk_cell (B1.out.alloc o).now 0).trans rfl
 have yB1_1 := fun o => (blk_cell (B1.out.alloc o).now 1).trans rfl
 have zB2_0 := (blk_cell B2.out.now 0).trans rfl
 have zB2_1 := (blk_cell B2.out.now 1).trans rfl
 have yB2_0 := fun o => (blk_cell (B2.out.alloc o).now 0).trans rfl
 have yB2_1 := fun o => (blk_cell (B2.out.alloc o).now 1).trans rfl
 have zB3_0 := (blk_cell B3.out.now 0).trans rfl
 have zB3_1 := (blk_cell B3.out.now 1).trans rfl
 have yB3_0 := fun o => (blk_cell (B3.out.alloc o).now 0).trans rfl
 have yB3_1 := fun o => (blk_cell (B3.out.alloc o).now 1).trans rfl
 refine (impl_FirstCounter.calls k t2_0 _ _ t2_1 _ _ t3_0 _ _ t3_1 t5_0 t5_1 _ (Kd.S_reads' R4.out.now).2.2 (Kd.S_reads' R4.out.now).2.1 (Kd.R_reads' R5.out.now).2.2 (Kd.R_reads' R5.out.now).2.1 (Kd.R_reads' R6.out.now).2.2 (Kd.R_reads' R6.out.now).2.1 A5.out).mono ?_
 rintro e w12 ⟨v0, rfl, ho0, hb⟩
 clear zB0_0 yB0_0 zB0_1 yB0_1 zB1_0 yB1_0 zB1_1 yB1_1 zB2_0 yB2_0 zB2_1 yB2_1 zB3_0 yB3_0 zB3_1 yB3_1
 replace B0 := Aside0.mk (B0.out.below hb)
 replace B1 := Aside0.mk (B1.out.below hb)
 replace R0 := Aside0.mk (R0.out.below hb)
 replace R1 := Aside0.mk (R1.out.below hb)
 replace R2 := Aside0.mk (R2.out.below hb)
 replace R3 := Aside0.mk (R3.out.below hb)
 replace R4 := Aside0.mk (R4.out.below hb)
 replace B2 := Aside0.mk (B2.out.below hb)
 replace R5 := Aside0.mk (R5.out.below hb)
 replace R6 := Aside0.mk (R6.out.below hb)
 replace B3 := Aside0.mk (B3.out.below hb)
 have Z12 := Aside0.mk hb.size
 obtain ⟨AR7, cR7, rfl⟩ := Kd.R_slice ho0
 have R7 := Aside0.mk (Lives.row (base := w.heap.size) ho0 hb.size HB.out.size)
 replace HB := Aside0.mk (below_step HB.out hb)
 clear hb ho0
 have zB0_0 := (blk_cell B0.out.now 0).trans rfl
 have zB0_1 := (blk_cell B0.out.now 1).trans rfl
 have yB0_0 := fun o => (blk_cell (B0.out.alloc o).now 0).trans rfl
 have yB0_1 := fun o => (blk_cell (B0.out.alloc o).now 1).trans rfl
 have zB1_0 := (blk_cell B1.out.now 0).trans rfl
 have zB1_1 := (blk_cell B1.out.now 1).trans rfl
 have yB1_0 := fun o => (blk_cell (B1.out.alloc o).now 0).trans rfl
 have yB1_1 := fun o => (blk_cell (B1.out.alloc o).now 1).trans rfl
 have zB2_0 := (blk_cell B2.out.now 0).trans rfl
 have zB2_1 := (blk_cell B2.out.now 1).trans rfl
 have yB2_0 := fun o => (blk_cell (B2.out.alloc o).now 0).trans rfl
 have yB2_1 := fun o => (blk_cell (B2.out.alloc o).now 1).trans rfl
 have zB3_0 := (blk_cell B3.out.now 0).trans rfl
 have zB3_1 := (blk_cell B3.out.now 1).trans rfl
 have yB3_0 := fun o => (blk_cell (B3.out.alloc o).now 0).trans rfl
 have yB3_1 := fun o => (blk_cell (B3.out.alloc o).now 1).trans rfl
 go_wp2_with fail
 refine (laws_eqIntS.calls k _ _ t5_0 _ _ t4_0 true _ (Kd.R_reads' R7.out.now).2.2 (Kd.R_reads' R7.out.now).2.1 (Kd.R_reads' R3.out.now).2.2 (Kd.R_reads' R3.out.now).2.1 A6.out).mono ?_
 rintro e w14 ⟨rfl, hd⟩
 have hb := below_drawn hd
 clear hd
 clear zB0_0 yB0_0 zB0_1 yB0_1 zB1_0 yB1_0 zB1_1 yB1_1 zB2_0 yB2_0 zB2_1 yB2_1 zB3_0 yB3_0 zB3_1 yB3_1
 replace B0 := Aside0.mk (B0.out.below hb)
 replace B1 := Aside0.mk (B1.out.below hb)
 replace R0 := Aside0.mk (R0.out.below hb)
 replace R1 := Aside0.mk (R1.out.below hb)
 replace R2 := Aside0.mk (R2.out.below hb)
 replace R3 := Aside0.mk (R3.out.below hb)
 replace R4 := Aside0.mk (R4.out.below hb)
 replace B2 := Aside0.mk (B2.out.below hb)
 replace R5 := Aside0.mk (R5.out.below hb)
 replace R6 := Aside0.mk (R6.out.below hb)
 replace B3 := Aside0.mk (B3.out.below hb)
 replace R7 := Aside0.mk (R7.out.below hb)
 have Z13 := Aside0.mk hb.size
 replace HB := Aside0.mk (below_step HB.out hb)
 clear hb
 have zB0_0 := (blk_cell B0.out.now 0).trans rfl
 have zB0_1 := (blk_cell B0.out.now 1).trans rfl
 have yB0_0 := fun o => (blk_cell (B0.out.alloc o).now 0).trans rfl
 have yB0_1 := fun o => (blk_cell (B0.out.alloc o).now 1).trans rfl
 have zB1_0 := (blk_cell B1.out.now 0).trans rfl
 have zB1_1 := (blk_cell B1.out.now 1).trans rfl
 have yB1_0 := fun o => (blk_cell (B1.out.alloc o).now 0).trans rfl
 have yB1_1 := fun o => (blk_cell (B1.out.alloc o).now 1).trans rfl
 have zB2_0 := (blk_cell B2.out.now 0).trans rfl
 have zB2_1 := (blk_cell B2.out.now 1).trans rfl
 have yB2_0 := fun o => (blk_cell (B2.out.alloc o).now 0).trans rfl
 have yB2_1 := fun o => (blk_cell (B2.out.alloc o).now 1).trans rfl
 have zB3_0 := (blk_cell B3.out.now 0).trans rfl
 have zB3_1 := (blk_cell B3.out.now 1).trans rfl
 have yB3_0 := fun o => (blk_cell (B3.out.alloc o).now 0).trans rfl
 have yB3_1 := fun o => (blk_cell (B3.out.alloc o).now 1).trans rfl
 try go_wp2_with fail
 clear zB0_0 yB0_0 zB0_1 yB0_1 zB1_0 yB1_0 zB1_1 yB1_1 zB2_0 yB2_0 zB2_1 yB2_1 zB3_0 yB3_0 zB3_1 yB3_1
 replace B0 := Aside0.mk B0.out.drew
 replace B1 := Aside0.mk B1.out.drew
 replace R0 := Aside0.mk R0.out.drew
 replace R1 := Aside0.mk R1.out.drew
 replace R2 := Aside0.mk R2.out.drew
 replace R3 := Aside0.mk R3.out.drew
 replace R4 := Aside0.mk R4.out.drew
 replace B2 := Aside0.mk B2.out.drew
 replace R5 := Aside0.mk R5.out.drew
 replace R6 := Aside0.mk R6.out.drew
 replace B3 := Aside0.mk B3.out.drew
 replace R7 := Aside0.mk R7.out.drew
 replace HB := Aside0.mk (bD HB.out)
 have Z14 := Aside0.mk (show w14.heap.size ≤ w14.drew.heap.size from Nat.le_refl _)
 refine start_ (n := 5) (S := fun w' => w'.cell? ⟨w.heap.size, 0, none⟩ = some (.int .i64 a0_0) ∧ w'.cell? ⟨w.heap.size, 1, none⟩ = some (.slice A0_1 l0_1.length c0_1) ∧ w'.cell? ⟨w2.heap.size, 0, none⟩ = some (.slice A1_0 l1_0.length c1_0) ∧ w'.cell? ⟨w2.heap.size, 1, none⟩ = some (.slice A1_1 l1_1.length c1_1) ∧ w'.cell? ⟨w9.heap.size, 0, none⟩ = some (.int .i64 t2_0) ∧ w'.cell? ⟨w9.heap.size, 1, none⟩ = some (.slice AR4 t2_1.length cR4) ∧ w'.cell? ⟨w10.heap.size, 0, none⟩ = some (.slice AR5 t3_0.length cR5) ∧ w'.cell? ⟨w10.heap.size, 1, none⟩ = some (.slice AR6 t3_1.length cR6)) (ds := []) #[false, false, false, false, false] (by kernel_rfl) rfl rfl ⟨(blk_cell B0.out.now 0).trans rfl, (blk_cell B0.out.now 1).trans rfl, (blk_cell B1.out.now 0).trans rfl, (blk_cell B1.out.now 1).trans rfl, (blk_cell B2.out.now 0).trans rfl, (blk_cell B2.out.now 1).trans rfl, (blk_cell B3.out.now 0).trans rfl, (blk_cell B3.out.now 1).trans rfl⟩ (fun hHeld => ?_)
 generalize w14.drew = w15 at B0 B1 R0 R1 R2 R3 R4 B2 R5 R6 B3 R7 HB Z14 hHeld ⊢
 refine take_ (i := 0) (N := (some 54)) (v := ?_) (a' := ?_) #[true, false, false, false, false] rfl rfl (by kernel_rfl) (fun _ _ _ h => h) (Or.inl ⟨by rfl, ?_⟩) hHeld ?_ ?_
 rotate_left
 ·rintro w' ⟨s0, s1, s2, s3, s4, s5, s6, s7⟩
  go_simp
  with_reducible rfl
 rotate_left
 ·simp only [Act.put, lS, lZ, lT, i64_w, i32_w]
  rfl
 refine take_ (i := 1) (N := (some 55)) (v := ?_) (a' := ?_) #[true, true, false, false, false] rfl rfl (by kernel_rfl) (fun _ _ _ h => h) (Or.inl ⟨by rfl, ?_⟩) hHeld ?_ ?_
 rotate_left
 ·rintro w' ⟨s0, s1, s2, s3, s4, s5, s6, s7⟩
  go_simp
  with_reducible rfl
 rotate_left
 ·simp only [Act.put, lS, lZ, lT, i64_w, i32_w]
  rfl
 refine one_ (i := 2) (N := (some 56)) #[true, true, true, false, false] rfl rfl (by kernel_rfl) (by decide) (fun K hK => ?_)
 refine goes_ Try.func11 (by kernel_rfl) rfl #[.agg #[.int .i64 a0_0, .slice A0_1 l0_1.length c0_1]] (by rfl) rfl rfl (by (try simp only [List.map_toArray, List.map_cons, List.map_nil]); first | done | rfl | (simp only [List.length_drop, List.length_take]; rfl)) ?_
 refine (laws_toAlgebra.calls k a0_0 _ _ l0_1 t2_0 t2_1 _ (Kd.C_below HR0_1.out HB.out) HC0_1.out A2.out).mono ?_
 rintro e w16 ⟨v1, rfl, ho1, hb⟩
 refine ⟨_, rfl, ?_⟩
 replace B0 := Aside0.mk (B0.out.below hb)
 replace B1 := Aside0.mk (B1.out.below hb)
 replace R0 := Aside0.mk (R0.out.below hb)
 replace R1 := Aside0.mk (R1.out.below hb)
 replace R2 := Aside0.mk (R2.out.below hb)
 replace R3 := Aside0.mk (R3.out.below hb)
 replace R4 := Aside0.mk (R4.out.below hb)
 replace B2 := Aside0.mk (B2.out.below hb)
 replace R5 := Aside0.mk (R5.out.below hb)
 replace R6 := Aside0.mk (R6.out.below hb)
 replace B3 := Aside0.mk (B3.out.below hb)
 replace R7 := Aside0.mk (R7.out.below hb)
 have Z15 := Aside0.mk hb.size
 obtain ⟨AR8, cR8, rfl⟩ := Kd.S_slice ho1
 have R8 := Aside0.mk (Lives.rowS (base := w.heap.size) ho1 hb.size HB.out.size)
 replace HB := Aside0.mk (below_step HB.out hb)
 clear hb ho1
 have zB0_0 := (blk_cell B0.out.now 0).trans rfl
 have zB0_1 := (blk_cell B0.out.now 1).trans rfl
 have yB0_0 := fun o => (blk_cell (B0.out.alloc o).now 0).trans rfl
 have yB0_1 := fun o => (blk_cell (B0.out.alloc o).now 1).trans rfl
 have zB1_0 := (blk_cell B1.out.now 0).trans rfl
 have zB1_1 := (blk_cell B1.out.now 1).trans rfl
 have yB1_0 := fun o => (blk_cell (B1.out.alloc o).now 0).trans rfl
 have yB1_1 := fun o => (blk_cell (B1.out.alloc o).now 1).trans rfl
 have zB2_0 := (blk_cell B2.out.now 0).trans rfl
 have zB2_1 := (blk_cell B2.out.now 1).trans rfl
 have yB2_0 := fun o => (blk_cell (B2.out.alloc o).now 0).trans rfl
 have yB2_1 := fun o => (blk_cell (B2.out.alloc o).now 1).trans rfl
 have zB3_0 := (blk_cell B3.out.now 0).trans rfl
 have zB3_1 := (blk_cell B3.out.now 1).trans rfl
 have yB3_0 := fun o => (blk_cell (B3.out.alloc o).now 0).trans rfl
 have yB3_1 := fun o => (blk_cell (B3.out.alloc o).now 1).trans rfl
 clear zB0_0 yB0_0 zB0_1 yB0_1 zB1_0 yB1_0 zB1_1 yB1_1 zB2_0 yB2_0 zB2_1 yB2_1 zB3_0 yB3_0 zB3_1 yB3_1
 refine hK.out _ _ ⟨(blk_cell B0.out.now 0).trans rfl, (blk_cell B0.out.now 1).trans rfl, (blk_cell B1.out.now 0).trans rfl, (blk_cell B1.out.now 1).trans rfl, (blk_cell B2.out.now 0).trans rfl, (blk_cell B2.out.now 1).trans rfl, (blk_cell B3.out.now 0).trans rfl, (blk_cell B3.out.now 1).trans rfl⟩ (fun hHeld => ?_)
 clear hK K
 refine norm_ (a' := ?_) ?_ ?_
 rotate_left
 ·show Act.put _ (some 56) _ = _
  simp only [Act.put, lS, lZ, lT, i64_w, i32_w]
  rfl
 refine one_ (i := 3) (N := (some 57)) #[true, true, true, true, false] rfl rfl (by kernel_rfl) (by decide) (fun K hK => ?_)
 refine goes_ Try.func15 (by kernel_rfl) rfl #[.agg #[.int .i64 t2_0, .slice AR4 t2_1.length cR4], .agg #[.int .i64 t2_0, .slice AR8 t2_1.length cR8]] (by rfl) rfl rfl (by (try simp only [List.map_toArray, List.map_cons, List.map_nil]); first | done | rfl | (simp only [List.length_drop, List.length_take]; rfl)) ?_
 refine (laws_eqAlgebra.calls k t2_0 _ _ t2_1 t2_0 _ _ t2_1 true _ (Kd.S_reads' R4.out.now).2.2 (Kd.S_reads' R4.out.now).2.1 (Kd.S_reads' R8.out.now).2.2 (Kd.S_reads' R8.out.now).2.1 A7.out).mono ?_
 rintro e w17 ⟨rfl, hb⟩
 refine ⟨_, rfl, ?_⟩
 replace B0 := Aside0.mk (B0.out.below hb)
 replace B1 := Aside0.mk (B1.out.below hb)
 replace R0 := Aside0.mk (R0.out.below hb)
 replace R1 := Aside0.mk (R1.out.below hb)
 replace R2 := Aside0.mk (R2.out.below hb)
 replace R3 := Aside0.mk (R3.out.below hb)
 replace R4 := Aside0.mk (R4.out.below hb)
 replace B2 := Aside0.mk (B2.out.below hb)
 replace R5 := Aside0.mk (R5.out.below hb)
 replace R6 := Aside0.mk (R6.out.below hb)
 replace B3 := Aside0.mk (B3.out.below hb)
 replace R7 := Aside0.mk (R7.out.below hb)
 replace R8 := Aside0.mk (R8.out.below hb)
 have Z16 := Aside0.mk hb.size
 replace HB := Aside0.mk (below_step HB.out hb)
 clear hb
 have zB0_0 := (blk_cell B0.out.now 0).trans rfl
 have zB0_1 := (blk_cell B0.out.now 1).trans rfl
 have yB0_0 := fun o => (blk_cell (B0.out.alloc o).now 0).trans rfl
 have yB0_1 := fun o => (blk_cell (B0.out.alloc o).now 1).trans rfl
 have zB1_0 := (blk_cell B1.out.now 0).trans rfl
 have zB1_1 := (blk_cell B1.out.now 1).trans rfl
 have yB1_0 := fun o => (blk_cell (B1.out.alloc o).now 0).trans rfl
 have yB1_1 := fun o => (blk_cell (B1.out.alloc o).now 1).trans rfl
 have zB2_0 := (blk_cell B2.out.now 0).trans rfl
 have zB2_1 := (blk_cell B2.out.now 1).trans rfl
 have yB2_0 := fun o => (blk_cell (B2.out.alloc o).now 0).trans rfl
 have yB2_1 := fun o => (blk_cell (B2.out.alloc o).now 1).trans rfl
 have zB3_0 := (blk_cell B3.out.now 0).trans rfl
 have zB3_1 := (blk_cell B3.out.now 1).trans rfl
 have yB3_0 := fun o => (blk_cell (B3.out.alloc o).now 0).trans rfl
 have yB3_1 := fun o => (blk_cell (B3.out.alloc o).now 1).trans rfl
 clear zB0_0 yB0_0 zB0_1 yB0_1 zB1_0 yB1_0 zB1_1 yB1_1 zB2_0 yB2_0 zB2_1 yB2_1 zB3_0 yB3_0 zB3_1 yB3_1
 refine hK.out _ _ ⟨(blk_cell B0.out.now 0).trans rfl, (blk_cell B0.out.now 1).trans rfl, (blk_cell B1.out.now 0).trans rfl, (blk_cell B1.out.now 1).trans rfl, (blk_cell B2.out.now 0).trans rfl, (blk_cell B2.out.now 1).trans rfl, (blk_cell B3.out.now 0).trans rfl, (blk_cell B3.out.now 1).trans rfl⟩ (fun hHeld => ?_)
 clear hK K
 refine norm_ (a' := ?_) ?_ ?_
 rotate_left
 ·show Act.put _ (some 57) _ = _
  simp only [Act.put, lS, lZ, lT, i64_w, i32_w]
  rfl
 refine pure_ (i := 4) (N := (some 58)) (v := ?_) (a' := ?_) #[true, true, true, true, true] rfl rfl (by kernel_rfl) (fun _ _ _ h => h) (Or.inl ⟨by rfl, ?_⟩) ?_ ?_
 rotate_left
 ·intro w'
  go_simp
  with_reducible rfl
 rotate_left
 ·simp only [Act.put, lS, lZ, lT, i64_w, i32_w]
  rfl
 refine done_ (by kernel_rfl) ?_
 have zB0_0 := (blk_cell B0.out.now 0).trans rfl
 have zB0_1 := (blk_cell B0.out.now 1).trans rfl
 have yB0_0 := fun o => (blk_cell (B0.out.alloc o).now 0).trans rfl
 have yB0_1 := fun o => (blk_cell (B0.out.alloc o).now 1).trans rfl
 have zB1_0 := (blk_cell B1.out.now 0).trans rfl
 have zB1_1 := (blk_cell B1.out.now 1).trans rfl
 have yB1_0 := fun o => (blk_cell (B1.out.alloc o).now 0).trans rfl
 have yB1_1 := fun o => (blk_cell (B1.out.alloc o).now 1).trans rfl
 have zB2_0 := (blk_cell B2.out.now 0).trans rfl
 have zB2_1 := (blk_cell B2.out.now 1).trans rfl
 have yB2_0 := fun o => (blk_cell (B2.out.alloc o).now 0).trans rfl
 have yB2_1 := fun o => (blk_cell (B2.out.alloc o).now 1).trans rfl
 have zB3_0 := (blk_cell B3.out.now 0).trans rfl
 have zB3_1 := (blk_cell B3.out.now 1).trans rfl
 have yB3_0 := fun o => (blk_cell (B3.out.alloc o).now 0).trans rfl
 have yB3_1 := fun o => (blk_cell (B3.out.alloc o).now 1).trans rfl
 try go_wp2_with fail
 clear zB0_0 yB0_0 zB0_1 yB0_1 zB1_0 yB1_0 zB1_1 yB1_1 zB2_0 yB2_0 zB2_1 yB2_1 zB3_0 yB3_0 zB3_1 yB3_1
 replace B0 := Aside0.mk B0.out.drew
 replace B1 := Aside0.mk B1.out.drew
 replace R0 := Aside0.mk R0.out.drew
 replace R1 := Aside0.mk R1.out.drew
 replace R2 := Aside0.mk R2.out.drew
 replace R3 := Aside0.mk R3.out.drew
 replace R4 := Aside0.mk R4.out.drew
 replace B2 := Aside0.mk B2.out.drew
 replace R5 := Aside0.mk R5.out.drew
 replace R6 := Aside0.mk R6.out.drew
 replace B3 := Aside0.mk B3.out.drew
 replace R7 := Aside0.mk R7.out.drew
 replace R8 := Aside0.mk R8.out.drew
 replace HB := Aside0.mk (bD HB.out)
 have Z17 := Aside0.mk (show w17.heap.size ≤ w17.drew.heap.size from Nat.le_refl _)
 refine start_ (n := 5) (S := fun w' => w'.cell? ⟨w.heap.size, 0, none⟩ = some (.int .i64 a0_0) ∧ w'.cell? ⟨w.heap.size, 1, none⟩ = some (.slice A0_1 l0_1.length c0_1) ∧ w'.cell? ⟨w2.heap.size, 0, none⟩ = some (.slice A1_0 l1_0.length c1_0) ∧ w'.cell? ⟨w2.heap.size, 1, none⟩ = some (.slice A1_1 l1_1.length c1_1) ∧ w'.cell? ⟨w9.heap.size, 0, none⟩ = some (.int .i64 t2_0) ∧ w'.cell? ⟨w9.heap.size, 1, none⟩ = some (.slice AR4 t2_1.length cR4) ∧ w'.cell? ⟨w10.heap.size, 0, none⟩ = some (.slice AR5 t3_0.length cR5) ∧ w'.cell? ⟨w10.heap.size, 1, none⟩ = some (.slice AR6 t3_1.length cR6)) (ds := []) #[false, false, false, false, false] (by kernel_rfl) rfl rfl ⟨(blk_cell B0.out.now 0).trans rfl, (blk_cell B0.out.now 1).trans rfl, (blk_cell B1.out.now 0).trans rfl, (blk_cell B1.out.now 1).trans rfl, (blk_cell B2.out.now 0).trans rfl, (blk_cell B2.out.now 1).trans rfl, (blk_cell B3.out.now 0).trans rfl, (blk_cell B3.out.now 1).trans rfl⟩ (fun hHeld => ?_)
 generalize w17.drew = w18 at B0 B1 R0 R1 R2 R3 R4 B2 R5 R6 B3 R7 R8 HB Z17 hHeld ⊢
 refine take_ (i := 0) (N := (some 59)) (v := ?_) (a' := ?_) #[true, false, false, false, false] rfl rfl (by kernel_rfl) (fun _ _ _ h => h) (Or.inl ⟨by rfl, ?_⟩) hHeld ?_ ?_
 rotate_left
 ·rintro w' ⟨s0, s1, s2, s3, s4, s5, s6, s7⟩
  go_simp
  with_reducible rfl
 rotate_left
 ·simp only [Act.put, lS, lZ, lT, i64_w, i32_w]
  rfl
 refine take_ (i := 1) (N := (some 60)) (v := ?_) (a' := ?_) #[true, true, false, false, false] rfl rfl (by kernel_rfl) (fun _ _ _ h => h) (Or.inl ⟨by rfl, ?_⟩) hHeld ?_ ?_
 rotate_left
 ·rintro w' ⟨s0, s1, s2, s3, s4, s5, s6, s7⟩
  go_simp
  with_reducible rfl
 rotate_left
 ·simp only [Act.put, lS, lZ, lT, i64_w, i32_w]
  rfl
 refine one_ (i := 2) (N := (some 61)) #[true, true, true, false, false] rfl rfl (by kernel_rfl) (by decide) (fun K hK => ?_)
 refine goes_ Try.func23 (by kernel_rfl) rfl #[.agg #[.slice A1_0 l1_0.length c1_0, .slice A1_1 l1_1.length c1_1]] (by rfl) rfl rfl (by (try simp only [List.map_toArray, List.map_cons, List.map_nil]); first | done | rfl | (simp only [List.length_drop, List.length_take]; rfl)) ?_
 refine (laws_toIdentity.calls k _ _ l1_0 _ _ l1_1 t3_0 t3_1 _ (Kd.C_below HR1_0.out HB.out) HC1_0.out (Kd.C_below HR1_1.out HB.out) HC1_1.out A3.out).mono ?_
 rintro e w19 ⟨v0, v1, rfl, ho0, ho1, hb⟩
 refine ⟨_, rfl, ?_⟩
 replace B0 := Aside0.mk (B0.out.below hb)
 replace B1 := Aside0.mk (B1.out.below hb)
 replace R0 := Aside0.mk (R0.out.below hb)
 replace R1 := Aside0.mk (R1.out.below hb)
 replace R2 := Aside0.mk (R2.out.below hb)
 replace R3 := Aside0.mk (R3.out.below hb)
 replace R4 := Aside0.mk (R4.out.below hb)
 replace B2 := Aside0.mk (B2.out.below hb)
 replace R5 := Aside0.mk (R5.out.below hb)
 replace R6 := Aside0.mk (R6.out.below hb)
 replace B3 := Aside0.mk (B3.out.below hb)
 replace R7 := Aside0.mk (R7.out.below hb)
 replace R8 := Aside0.mk (R8.out.below hb)
 have Z18 := Aside0.mk hb.size
 obtain ⟨AR9, cR9, rfl⟩ := Kd.R_slice ho0
 have R9 := Aside0.mk (Lives.row (base := w.heap.size) (Kd.R_mono ho0 (fun _ _ => trivial)) hb.size HB.out.size)
 obtain ⟨AR10, cR10, rfl⟩ := Kd.R_slice ho1
 have DR9 : ∀ k_ : Nat, some k_ = (.slice AR9 t3_0.length cR9 : Value).ownBlock → ¬ some k_ = (.slice AR10 t3_1.length cR10 : Value).ownBlock := fun k_ h_ => ho0.1 k_ h_.symm
 have R10 := Aside0.mk (Lives.row (base := w.heap.size) (Kd.R_mono ho1 (fun _ _ => trivial)) hb.size HB.out.size)
 replace HB := Aside0.mk (below_step HB.out hb)
 clear hb ho0 ho1
 have zB0_0 := (blk_cell B0.out.now 0).trans rfl
 have zB0_1 := (blk_cell B0.out.now 1).trans rfl
 have yB0_0 := fun o => (blk_cell (B0.out.alloc o).now 0).trans rfl
 have yB0_1 := fun o => (blk_cell (B0.out.alloc o).now 1).trans rfl
 have zB1_0 := (blk_cell B1.out.now 0).trans rfl
 have zB1_1 := (blk_cell B1.out.now 1).trans rfl
 have yB1_0 := fun o => (blk_cell (B1.out.alloc o).now 0).trans rfl
 have yB1_1 := fun o => (blk_cell (B1.out.alloc o).now 1).trans rfl
 have zB2_0 := (blk_cell B2.out.now 0).trans rfl
 have zB2_1 := (blk_cell B2.out.now 1).trans rfl
 have yB2_0 := fun o => (blk_cell (B2.out.alloc o).now 0).trans rfl
 have yB2_1 := fun o => (blk_cell (B2.out.alloc o).now 1).trans rfl
 have zB3_0 := (blk_cell B3.out.now 0).trans rfl
 have zB3_1 := (blk_cell B3.out.now 1).trans rfl
 have yB3_0 := fun o => (blk_cell (B3.out.alloc o).now 0).trans rfl
 have yB3_1 := fun o => (blk_cell (B3.out.alloc o).now 1).trans rfl
 clear zB0_0 yB0_0 zB0_1 yB0_1 zB1_0 yB1_0 zB1_1 yB1_1 zB2_0 yB2_0 zB2_1 yB2_1 zB3_0 yB3_0 zB3_1 yB3_1
 refine hK.out _ _ ⟨(blk_cell B0.out.now 0).trans rfl, (blk_cell B0.out.now 1).trans rfl, (blk_cell B1.out.now 0).trans rfl, (blk_cell B1.out.now 1).trans rfl, (blk_cell B2.out.now 0).trans rfl, (blk_cell B2.out.now 1).trans rfl, (blk_cell B3.out.now 0).trans rfl, (blk_cell B3.out.now 1).trans rfl⟩ (fun hHeld => ?_)
 clear hK K
 refine norm_ (a' := ?_) ?_ ?_
 rotate_left
 ·show Act.put _ (some 61) _ = _
  simp only [Act.put, lS, lZ, lT, i64_w, i32_w]
  rfl
 refine one_ (i := 3) (N := (some 62)) #[true, true, true, true, false] rfl rfl (by kernel_rfl) (by decide) (fun K hK => ?_)
 refine goes_ Try.func25 (by kernel_rfl) rfl #[.agg #[.slice AR5 t3_0.length cR5, .slice AR6 t3_1.length cR6], .agg #[.slice AR9 t3_0.length cR9, .slice AR10 t3_1.length cR10]] (by rfl) rfl rfl (by (try simp only [List.map_toArray, List.map_cons, List.map_nil]); first | done | rfl | (simp only [List.length_drop, List.length_take]; rfl)) ?_
 refine (laws_eqIdentity.calls k _ _ t3_0 _ _ t3_1 _ _ t3_0 _ _ t3_1 true _ (Kd.R_reads' R5.out.now).2.2 (Kd.R_reads' R5.out.now).2.1 (Kd.R_reads' R6.out.now).2.2 (Kd.R_reads' R6.out.now).2.1 (Kd.R_reads' R9.out.now).2.2 (Kd.R_reads' R9.out.now).2.1 (Kd.R_reads' R10.out.now).2.2 (Kd.R_reads' R10.out.now).2.1 A8.out).mono ?_
 rintro e w20 ⟨rfl, hb⟩
 refine ⟨_, rfl, ?_⟩
 replace B0 := Aside0.mk (B0.out.below hb)
 replace B1 := Aside0.mk (B1.out.below hb)
 replace R0 := Aside0.mk (R0.out.below hb)
 replace R1 := Aside0.mk (R1.out.below hb)
 replace R2 := Aside0.mk (R2.out.below hb)
 replace R3 := Aside0.mk (R3.out.below hb)
 replace R4 := Aside0.mk (R4.out.below hb)
 replace B2 := Aside0.mk (B2.out.below hb)
 replace R5 := Aside0.mk (R5.out.below hb)
 replace R6 := Aside0.mk (R6.out.below hb)
 replace B3 := Aside0.mk (B3.out.below hb)
 replace R7 := Aside0.mk (R7.out.below hb)
 replace R8 := Aside0.mk (R8.out.below hb)
 replace R9 := Aside0.mk (R9.out.below hb)
 replace R10 := Aside0.mk (R10.out.below hb)
 have Z19 := Aside0.mk hb.size
 replace HB := Aside0.mk (below_step HB.out hb)
 clear hb
 have zB0_0 := (blk_cell B0.out.now 0).trans rfl
 have zB0_1 := (blk_cell B0.out.now 1).trans rfl
 have yB0_0 := fun o => (blk_cell (B0.out.alloc o).now 0).trans rfl
 have yB0_1 := fun o => (blk_cell (B0.out.alloc o).now 1).trans rfl
 have zB1_0 := (blk_cell B1.out.now 0).trans rfl
 have zB1_1 := (blk_cell B1.out.now 1).trans rfl
 have yB1_0 := fun o => (blk_cell (B1.out.alloc o).now 0).trans rfl
 have yB1_1 := fun o => (blk_cell (B1.out.alloc o).now 1).trans rfl
 have zB2_0 := (blk_cell B2.out.now 0).trans rfl
 have zB2_1 := (blk_cell B2.out.now 1).trans rfl
 have yB2_0 := fun o => (blk_cell (B2.out.alloc o).now 0).trans rfl
 have yB2_1 := fun o => (blk_cell (B2.out.alloc o).now 1).trans rfl
 have zB3_0 := (blk_cell B3.out.now 0).trans rfl
 have zB3_1 := (blk_cell B3.out.now 1).trans rfl
 have yB3_0 := fun o => (blk_cell (B3.out.alloc o).now 0).trans rfl
 have yB3_1 := fun o => (blk_cell (B3.out.alloc o).now 1).trans rfl
 clear zB0_0 yB0_0 zB0_1 yB0_1 zB1_0 yB1_0 zB1_1 yB1_1 zB2_0 yB2_0 zB2_1 yB2_1 zB3_0 yB3_0 zB3_1 yB3_1
 refine hK.out _ _ ⟨(blk_cell B0.out.now 0).trans rfl, (blk_cell B0.out.now 1).trans rfl, (blk_cell B1.out.now 0).trans rfl, (blk_cell B1.out.now 1).trans rfl, (blk_cell B2.out.now 0).trans rfl, (blk_cell B2.out.now 1).trans rfl, (blk_cell B3.out.now 0).trans rfl, (blk_cell B3.out.now 1).trans rfl⟩ (fun hHeld => ?_)
 clear hK K
 refine norm_ (a' := ?_) ?_ ?_
 rotate_left
 ·show Act.put _ (some 62) _ = _
  simp only [Act.put, lS, lZ, lT, i64_w, i32_w]
  rfl
 refine pure_ (i := 4) (N := (some 63)) (v := ?_) (a' := ?_) #[true, true, true, true, true] rfl rfl (by kernel_rfl) (fun _ _ _ h => h) (Or.inl ⟨by rfl, ?_⟩) ?_ ?_
 rotate_left
 ·intro w'
  go_simp
  with_reducible rfl
 rotate_left
 ·simp only [Act.put, lS, lZ, lT, i64_w, i32_w]
  rfl
 refine done_ (by kernel_rfl) ?_
 have zB0_0 := (blk_cell B0.out.now 0).trans rfl
 have zB0_1 := (blk_cell B0.out.now 1).trans rfl
 have yB0_0 := fun o => (blk_cell (B0.out.alloc o).now 0).trans rfl
 have yB0_1 := fun o => (blk_cell (B0.out.alloc o).now 1).trans rfl
 have zB1_0 := (blk_cell B1.out.now 0).trans rfl
 have zB1_1 := (blk_cell B1.out.now 1).trans rfl
 have yB1_0 := fun o => (blk_cell (B1.out.alloc o).now 0).trans rfl
 have yB1_1 := fun o => (blk_cell (B1.out.alloc o).now 1).trans rfl
 have zB2_0 := (blk_cell B2.out.now 0).trans rfl
 have zB2_1 := (blk_cell B2.out.now 1).trans rfl
 have yB2_0 := fun o => (blk_cell (B2.out.alloc o).now 0).trans rfl
 have yB2_1 := fun o => (blk_cell (B2.out.alloc o).now 1).trans rfl
 have zB3_0 := (blk_cell B3.out.now 0).trans rfl
 have zB3_1 := (blk_cell B3.out.now 1).trans rfl
 have yB3_0 := fun o => (blk_cell (B3.out.alloc o).now 0).trans rfl
 have yB3_1 := fun o => (blk_cell (B3.out.alloc o).now 1).trans rfl
 go_wp2_with fail
 refine (laws_markAlgebra.calls k (fun k_ => w8.heap.size ≤ k_ ∧ k_ < w9.heap.size) t2_0 _ t2_1 1 t9_0 t9_1 w _ HB.out R4.out.now A9.out).mono ?_
 rintro e w21 ⟨rfl, ho, hb, hk⟩
 clear zB0_0 yB0_0 zB0_1 yB0_1 zB1_0 yB1_0 zB1_1 yB1_1 zB2_0 yB2_0 zB2_1 yB2_1 zB3_0 yB3_0 zB3_1 yB3_1
 have Z20 := Aside0.mk hk.1
 replace B0 := Aside0.mk (B0.out.kept hk (by have := Z0.out; have := Z1.out; have := Z2.out; have := Z3.out; have := Z4.out; have := Z5.out; have := Z6.out; have := Z7.out; have := Z8.out; have := Z9.out; have := Z10.out; have := Z11.out; have := Z12.out; have := Z13.out; have := Z14.out; have := Z15.out; have := Z16.out; have := Z17.out; have := Z18.out; have := Z19.out; omega))
 replace B1 := Aside0.mk (B1.out.kept hk (by have := Z0.out; have := Z1.out; have := Z2.out; have := Z3.out; have := Z4.out; have := Z5.out; have := Z6.out; have := Z7.out; have := Z8.out; have := Z9.out; have := Z10.out; have := Z11.out; have := Z12.out; have := Z13.out; have := Z14.out; have := Z15.out; have := Z16.out; have := Z17.out; have := Z18.out; have := Z19.out; omega))
 replace R0 := Aside0.mk (R0.out.kept hk (by have := Z0.out; have := Z1.out; have := Z2.out; have := Z3.out; have := Z4.out; have := Z5.out; have := Z6.out; have := Z7.out; have := Z8.out; have := Z9.out; have := Z10.out; have := Z11.out; have := Z12.out; have := Z13.out; have := Z14.out; have := Z15.out; have := Z16.out; have := Z17.out; have := Z18.out; have := Z19.out; omega))
 replace R1 := Aside0.mk (R1.out.kept hk (by have := Z0.out; have := Z1.out; have := Z2.out; have := Z3.out; have := Z4.out; have := Z5.out; have := Z6.out; have := Z7.out; have := Z8.out; have := Z9.out; have := Z10.out; have := Z11.out; have := Z12.out; have := Z13.out; have := Z14.out; have := Z15.out; have := Z16.out; have := Z17.out; have := Z18.out; have := Z19.out; omega))
 replace R2 := Aside0.mk (R2.out.kept hk (by have := Z0.out; have := Z1.out; have := Z2.out; have := Z3.out; have := Z4.out; have := Z5.out; have := Z6.out; have := Z7.out; have := Z8.out; have := Z9.out; have := Z10.out; have := Z11.out; have := Z12.out; have := Z13.out; have := Z14.out; have := Z15.out; have := Z16.out; have := Z17.out; have := Z18.out; have := Z19.out; omega))
 replace R3 := Aside0.mk (R3.out.kept hk (by have := Z0.out; have := Z1.out; have := Z2.out; have := Z3.out; have := Z4.out; have := Z5.out; have := Z6.out; have := Z7.out; have := Z8.out; have := Z9.out; have := Z10.out; have := Z11.out; have := Z12.out; have := Z13.out; have := Z14.out; have := Z15.out; have := Z16.out; have := Z17.out; have := Z18.out; have := Z19.out; omega))
 replace R4 := Aside0.mk (R4.out.markedS ho hk.1)
 replace B2 := Aside0.mk (B2.out.kept hk (by have := Z0.out; have := Z1.out; have := Z2.out; have := Z3.out; have := Z4.out; have := Z5.out; have := Z6.out; have := Z7.out; have := Z8.out; have := Z9.out; have := Z10.out; have := Z11.out; have := Z12.out; have := Z13.out; have := Z14.out; have := Z15.out; have := Z16.out; have := Z17.out; have := Z18.out; have := Z19.out; omega))
 replace R5 := Aside0.mk (R5.out.kept hk (by have := Z0.out; have := Z1.out; have := Z2.out; have := Z3.out; have := Z4.out; have := Z5.out; have := Z6.out; have := Z7.out; have := Z8.out; have := Z9.out; have := Z10.out; have := Z11.out; have := Z12.out; have := Z13.out; have := Z14.out; have := Z15.out; have := Z16.out; have := Z17.out; have := Z18.out; have := Z19.out; omega))
 replace R6 := Aside0.mk (R6.out.kept hk (by have := Z0.out; have := Z1.out; have := Z2.out; have := Z3.out; have := Z4.out; have := Z5.out; have := Z6.out; have := Z7.out; have := Z8.out; have := Z9.out; have := Z10.out; have := Z11.out; have := Z12.out; have := Z13.out; have := Z14.out; have := Z15.out; have := Z16.out; have := Z17.out; have := Z18.out; have := Z19.out; omega))
 replace B3 := Aside0.mk (B3.out.kept hk (by have := Z0.out; have := Z1.out; have := Z2.out; have := Z3.out; have := Z4.out; have := Z5.out; have := Z6.out; have := Z7.out; have := Z8.out; have := Z9.out; have := Z10.out; have := Z11.out; have := Z12.out; have := Z13.out; have := Z14.out; have := Z15.out; have := Z16.out; have := Z17.out; have := Z18.out; have := Z19.out; omega))
 replace R7 := Aside0.mk (R7.out.kept hk (by have := Z0.out; have := Z1.out; have := Z2.out; have := Z3.out; have := Z4.out; have := Z5.out; have := Z6.out; have := Z7.out; have := Z8.out; have := Z9.out; have := Z10.out; have := Z11.out; have := Z12.out; have := Z13.out; have := Z14.out; have := Z15.out; have := Z16.out; have := Z17.out; have := Z18.out; have := Z19.out; omega))
 replace R8 := Aside0.mk (R8.out.kept hk (by have := Z0.out; have := Z1.out; have := Z2.out; have := Z3.out; have := Z4.out; have := Z5.out; have := Z6.out; have := Z7.out; have := Z8.out; have := Z9.out; have := Z10.out; have := Z11.out; have := Z12.out; have := Z13.out; have := Z14.out; have := Z15.out; have := Z16.out; have := Z17.out; have := Z18.out; have := Z19.out; omega))
 replace R9 := Aside0.mk (R9.out.kept hk (by have := Z0.out; have := Z1.out; have := Z2.out; have := Z3.out; have := Z4.out; have := Z5.out; have := Z6.out; have := Z7.out; have := Z8.out; have := Z9.out; have := Z10.out; have := Z11.out; have := Z12.out; have := Z13.out; have := Z14.out; have := Z15.out; have := Z16.out; have := Z17.out; have := Z18.out; have := Z19.out; omega))
 replace R10 := Aside0.mk (R10.out.kept hk (by have := Z0.out; have := Z1.out; have := Z2.out; have := Z3.out; have := Z4.out; have := Z5.out; have := Z6.out; have := Z7.out; have := Z8.out; have := Z9.out; have := Z10.out; have := Z11.out; have := Z12.out; have := Z13.out; have := Z14.out; have := Z15.out; have := Z16.out; have := Z17.out; have := Z18.out; have := Z19.out; omega))
 have LR4 := Aside0.mk (Kd.S_reads' ho).1
 replace HB := Aside0.mk hb
 clear ho hb hk
 have zB0_0 := (blk_cell B0.out.now 0).trans rfl
 have zB0_1 := (blk_cell B0.out.now 1).trans rfl
 have yB0_0 := fun o => (blk_cell (B0.out.alloc o).now 0).trans rfl
 have yB0_1 := fun o => (blk_cell (B0.out.alloc o).now 1).trans rfl
 have zB1_0 := (blk_cell B1.out.now 0).trans rfl
 have zB1_1 := (blk_cell B1.out.now 1).trans rfl
 have yB1_0 := fun o => (blk_cell (B1.out.alloc o).now 0).trans rfl
 have yB1_1 := fun o => (blk_cell (B1.out.alloc o).now 1).trans rfl
 have zB2_0 := (blk_cell B2.out.now 0).trans rfl
 have zB2_1 := (blk_cell B2.out.now 1).trans rfl
 have yB2_0 := fun o => (blk_cell (B2.out.alloc o).now 0).trans rfl
 have yB2_1 := fun o => (blk_cell (B2.out.alloc o).now 1).trans rfl
 have zB3_0 := (blk_cell B3.out.now 0).trans rfl
 have zB3_1 := (blk_cell B3.out.now 1).trans rfl
 have yB3_0 := fun o => (blk_cell (B3.out.alloc o).now 0).trans rfl
 have yB3_1 := fun o => (blk_cell (B3.out.alloc o).now 1).trans rfl
 go_wp2_with fail
 refine (laws_markIdentity.calls k (fun k_ => some k_ = (.slice AR5 t3_0.length cR5 : Value).ownBlock) _ t3_0 (fun k_ => some k_ = (.slice AR6 t3_1.length cR6 : Value).ownBlock) _ t3_1 t9_0 t10_0 t10_1 t10_2 w _ HB.out (Kd.R_mono (Kd.R_tight rfl R5.out.now) (fun _ h_ => h_)) (fun k_ h_ h2_ => DR5 k_ h_ h2_) (Kd.R_mono (Kd.R_tight rfl R6.out.now) (fun _ h_ => h_)) (fun k_ h_ h2_ => DR5 k_ h2_ h_) A10.out).mono ?_
 rintro e w22 ⟨rfl, ho, ho2, hb, hk⟩
 replace hk := Kept.mono (S' := fun k_ => w11.heap.size ≤ k_ ∧ k_ < w10.heap.size) hk (fun k_ h_ => h_.elim (fun e_ => R5.out.now.1 k_ e_.symm) (fun e_ => R6.out.now.1 k_ e_.symm))
 clear zB0_0 yB0_0 zB0_1 yB0_1 zB1_0 yB1_0 zB1_1 yB1_1 zB2_0 yB2_0 zB2_1 yB2_1 zB3_0 yB3_0 zB3_1 yB3_1
 have Z21 := Aside0.mk hk.1
 replace B0 := Aside0.mk (B0.out.kept hk (by have := Z0.out; have := Z1.out; have := Z2.out; have := Z3.out; have := Z4.out; have := Z5.out; have := Z6.out; have := Z7.out; have := Z8.out; have := Z9.out; have := Z10.out; have := Z11.out; have := Z12.out; have := Z13.out; have := Z14.out; have := Z15.out; have := Z16.out; have := Z17.out; have := Z18.out; have := Z19.out; have := Z20.out; omega))
 replace B1 := Aside0.mk (B1.out.kept hk (by have := Z0.out; have := Z1.out; have := Z2.out; have := Z3.out; have := Z4.out; have := Z5.out; have := Z6.out; have := Z7.out; have := Z8.out; have := Z9.out; have := Z10.out; have := Z11.out; have := Z12.out; have := Z13.out; have := Z14.out; have := Z15.out; have := Z16.out; have := Z17.out; have := Z18.out; have := Z19.out; have := Z20.out; omega))
 replace R0 := Aside0.mk (R0.out.kept hk (by have := Z0.out; have := Z1.out; have := Z2.out; have := Z3.out; have := Z4.out; have := Z5.out; have := Z6.out; have := Z7.out; have := Z8.out; have := Z9.out; have := Z10.out; have := Z11.out; have := Z12.out; have := Z13.out; have := Z14.out; have := Z15.out; have := Z16.out; have := Z17.out; have := Z18.out; have := Z19.out; have := Z20.out; omega))
 replace R1 := Aside0.mk (R1.out.kept hk (by have := Z0.out; have := Z1.out; have := Z2.out; have := Z3.out; have := Z4.out; have := Z5.out; have := Z6.out; have := Z7.out; have := Z8.out; have := Z9.out; have := Z10.out; have := Z11.out; have := Z12.out; have := Z13.out; have := Z14.out; have := Z15.out; have := Z16.out; have := Z17.out; have := Z18.out; have := Z19.out; have := Z20.out; omega))
 replace R2 := Aside0.mk (R2.out.kept hk (by have := Z0.out; have := Z1.out; have := Z2.out; have := Z3.out; have := Z4.out; have := Z5.out; have := Z6.out; have := Z7.out; have := Z8.out; have := Z9.out; have := Z10.out; have := Z11.out; have := Z12.out; have := Z13.out; have := Z14.out; have := Z15.out; have := Z16.out; have := Z17.out; have := Z18.out; have := Z19.out; have := Z20.out; omega))
 replace R3 := Aside0.mk (R3.out.kept hk (by have := Z0.out; have := Z1.out; have := Z2.out; have := Z3.out; have := Z4.out; have := Z5.out; have := Z6.out; have := Z7.out; have := Z8.out; have := Z9.out; have := Z10.out; have := Z11.out; have := Z12.out; have := Z13.out; have := Z14.out; have := Z15.out; have := Z16.out; have := Z17.out; have := Z18.out; have := Z19.out; have := Z20.out; omega))
 replace R4 := Aside0.mk (R4.out.kept hk (by have := Z0.out; have := Z1.out; have := Z2.out; have := Z3.out; have := Z4.out; have := Z5.out; have := Z6.out; have := Z7.out; have := Z8.out; have := Z9.out; have := Z10.out; have := Z11.out; have := Z12.out; have := Z13.out; have := Z14.out; have := Z15.out; have := Z16.out; have := Z17.out; have := Z18.out; have := Z19.out; have := Z20.out; omega))
 replace B2 := Aside0.mk (B2.out.kept hk (by have := Z0.out; have := Z1.out; have := Z2.out; have := Z3.out; have := Z4.out; have := Z5.out; have := Z6.out; have := Z7.out; have := Z8.out; have := Z9.out; have := Z10.out; have := Z11.out; have := Z12.out; have := Z13.out; have := Z14.out; have := Z15.out; have := Z16.out; have := Z17.out; have := Z18.out; have := Z19.out; have := Z20.out; omega))
 replace R5 := Aside0.mk (R5.out.marked rfl ho hk.1)
 replace R6 := Aside0.mk (R6.out.marked rfl ho2 hk.1)
 replace B3 := Aside0.mk (B3.out.kept hk (by have := Z0.out; have := Z1.out; have := Z2.out; have := Z3.out; have := Z4.out; have := Z5.out; have := Z6.out; have := Z7.out; have := Z8.out; have := Z9.out; have := Z10.out; have := Z11.out; have := Z12.out; have := Z13.out; have := Z14.out; have := Z15.out; have := Z16.out; have := Z17.out; have := Z18.out; have := Z19.out; have := Z20.out; omega))
 replace R7 := Aside0.mk (R7.out.kept hk (by have := Z0.out; have := Z1.out; have := Z2.out; have := Z3.out; have := Z4.out; have := Z5.out; have := Z6.out; have := Z7.out; have := Z8.out; have := Z9.out; have := Z10.out; have := Z11.out; have := Z12.out; have := Z13.out; have := Z14.out; have := Z15.out; have := Z16.out; have := Z17.out; have := Z18.out; have := Z19.out; have := Z20.out; omega))
 replace R8 := Aside0.mk (R8.out.kept hk (by have := Z0.out; have := Z1.out; have := Z2.out; have := Z3.out; have := Z4.out; have := Z5.out; have := Z6.out; have := Z7.out; have := Z8.out; have := Z9.out; have := Z10.out; have := Z11.out; have := Z12.out; have := Z13.out; have := Z14.out; have := Z15.out; have := Z16.out; have := Z17.out; have := Z18.out; have := Z19.out; have := Z20.out; omega))
 replace R9 := Aside0.mk (R9.out.kept hk (by have := Z0.out; have := Z1.out; have := Z2.out; have := Z3.out; have := Z4.out; have := Z5.out; have := Z6.out; have := Z7.out; have := Z8.out; have := Z9.out; have := Z10.out; have := Z11.out; have := Z12.out; have := Z13.out; have := Z14.out; have := Z15.out; have := Z16.out; have := Z17.out; have := Z18.out; have := Z19.out; have := Z20.out; omega))
 replace R10 := Aside0.mk (R10.out.kept hk (by have := Z0.out; have := Z1.out; have := Z2.out; have := Z3.out; have := Z4.out; have := Z5.out; have := Z6.out; have := Z7.out; have := Z8.out; have := Z9.out; have := Z10.out; have := Z11.out; have := Z12.out; have := Z13.out; have := Z14.out; have := Z15.out; have := Z16.out; have := Z17.out; have := Z18.out; have := Z19.out; have := Z20.out; omega))
 have LR5 := Aside0.mk (Kd.R_reads' ho).1
 have LR6 := Aside0.mk (Kd.R_reads' ho2).1
 clear ho2
 replace HB := Aside0.mk hb
 clear ho hb hk
 have zB0_0 := (blk_cell B0.out.now 0).trans rfl
 have zB0_1 := (blk_cell B0.out.now 1).trans rfl
 have yB0_0 := fun o => (blk_cell (B0.out.alloc o).now 0).trans rfl
 have yB0_1 := fun o => (blk_cell (B0.out.alloc o).now 1).trans rfl
 have zB1_0 := (blk_cell B1.out.now 0).trans rfl
 have zB1_1 := (blk_cell B1.out.now 1).trans rfl
 have yB1_0 := fun o => (blk_cell (B1.out.alloc o).now 0).trans rfl
 have yB1_1 := fun o => (blk_cell (B1.out.alloc o).now 1).trans rfl
 have zB2_0 := (blk_cell B2.out.now 0).trans rfl
 have zB2_1 := (blk_cell B2.out.now 1).trans rfl
 have yB2_0 := fun o => (blk_cell (B2.out.alloc o).now 0).trans rfl
 have yB2_1 := fun o => (blk_cell (B2.out.alloc o).now 1).trans rfl
 have zB3_0 := (blk_cell B3.out.now 0).trans rfl
 have zB3_1 := (blk_cell B3.out.now 1).trans rfl
 have yB3_0 := fun o => (blk_cell (B3.out.alloc o).now 0).trans rfl
 have yB3_1 := fun o => (blk_cell (B3.out.alloc o).now 1).trans rfl
 go_wp2_with fail
 refine (laws_eqIntS.calls k _ _ t5_0 _ _ t4_0 true _ (Kd.R_reads' R7.out.now).2.2 (Kd.R_reads' R7.out.now).2.1 (Kd.R_reads' R3.out.now).2.2 (Kd.R_reads' R3.out.now).2.1 A6.out).mono ?_
 rintro e w23 ⟨rfl, hd⟩
 have hb := below_drawn hd
 clear hd
 clear zB0_0 yB0_0 zB0_1 yB0_1 zB1_0 yB1_0 zB1_1 yB1_1 zB2_0 yB2_0 zB2_1 yB2_1 zB3_0 yB3_0 zB3_1 yB3_1
 replace B0 := Aside0.mk (B0.out.below hb)
 replace B1 := Aside0.mk (B1.out.below hb)
 replace R0 := Aside0.mk (R0.out.below hb)
 replace R1 := Aside0.mk (R1.out.below hb)
 replace R2 := Aside0.mk (R2.out.below hb)
 replace R3 := Aside0.mk (R3.out.below hb)
 replace R4 := Aside0.mk (R4.out.below hb)
 replace B2 := Aside0.mk (B2.out.below hb)
 replace R5 := Aside0.mk (R5.out.below hb)
 replace R6 := Aside0.mk (R6.out.below hb)
 replace B3 := Aside0.mk (B3.out.below hb)
 replace R7 := Aside0.mk (R7.out.below hb)
 replace R8 := Aside0.mk (R8.out.below hb)
 replace R9 := Aside0.mk (R9.out.below hb)
 replace R10 := Aside0.mk (R10.out.below hb)
 have Z22 := Aside0.mk hb.size
 replace HB := Aside0.mk (below_step HB.out hb)
 clear hb
 have zB0_0 := (blk_cell B0.out.now 0).trans rfl
 have zB0_1 := (blk_cell B0.out.now 1).trans rfl
 have yB0_0 := fun o => (blk_cell (B0.out.alloc o).now 0).trans rfl
 have yB0_1 := fun o => (blk_cell (B0.out.alloc o).now 1).trans rfl
 have zB1_0 := (blk_cell B1.out.now 0).trans rfl
 have zB1_1 := (blk_cell B1.out.now 1).trans rfl
 have yB1_0 := fun o => (blk_cell (B1.out.alloc o).now 0).trans rfl
 have yB1_1 := fun o => (blk_cell (B1.out.alloc o).now 1).trans rfl
 have zB2_0 := (blk_cell B2.out.now 0).trans rfl
 have zB2_1 := (blk_cell B2.out.now 1).trans rfl
 have yB2_0 := fun o => (blk_cell (B2.out.alloc o).now 0).trans rfl
 have yB2_1 := fun o => (blk_cell (B2.out.alloc o).now 1).trans rfl
 have zB3_0 := (blk_cell B3.out.now 0).trans rfl
 have zB3_1 := (blk_cell B3.out.now 1).trans rfl
 have yB3_0 := fun o => (blk_cell (B3.out.alloc o).now 0).trans rfl
 have yB3_1 := fun o => (blk_cell (B3.out.alloc o).now 1).trans rfl
 go_wp2_with fail
 refine (laws_markIntS.calls k (fun k_ => w13.heap.size ≤ k_ ∧ k_ < w12.heap.size) _ t5_0 1 t12_0 t11_1 w _ HB.out R7.out.now A11.out).mono ?_
 rintro e w24 ⟨rfl, ho, hb, hk⟩
 clear zB0_0 yB0_0 zB0_1 yB0_1 zB1_0 yB1_0 zB1_1 yB1_1 zB2_0 yB2_0 zB2_1 yB2_1 zB3_0 yB3_0 zB3_1 yB3_1
 have Z23 := Aside0.mk hk.1
 replace B0 := Aside0.mk (B0.out.kept hk (by have := Z0.out; have := Z1.out; have := Z2.out; have := Z3.out; have := Z4.out; have := Z5.out; have := Z6.out; have := Z7.out; have := Z8.out; have := Z9.out; have := Z10.out; have := Z11.out; have := Z12.out; have := Z13.out; have := Z14.out; have := Z15.out; have := Z16.out; have := Z17.out; have := Z18.out; have := Z19.out; have := Z20.out; have := Z21.out; have := Z22.out; omega))
 replace B1 := Aside0.mk (B1.out.kept hk (by have := Z0.out; have := Z1.out; have := Z2.out; have := Z3.out; have := Z4.out; have := Z5.out; have := Z6.out; have := Z7.out; have := Z8.out; have := Z9.out; have := Z10.out; have := Z11.out; have := Z12.out; have := Z13.out; have := Z14.out; have := Z15.out; have := Z16.out; have := Z17.out; have := Z18.out; have := Z19.out; have := Z20.out; have := Z21.out; have := Z22.out; omega))
 replace R0 := Aside0.mk (R0.out.kept hk (by have := Z0.out; have := Z1.out; have := Z2.out; have := Z3.out; have := Z4.out; have := Z5.out; have := Z6.out; have := Z7.out; have := Z8.out; have := Z9.out; have := Z10.out; have := Z11.out; have := Z12.out; have := Z13.out; have := Z14.out; have := Z15.out; have := Z16.out; have := Z17.out; have := Z18.out; have := Z19.out; have := Z20.out; have := Z21.out; have := Z22.out; omega))
 replace R1 := Aside0.mk (R1.out.kept hk (by have := Z0.out; have := Z1.out; have := Z2.out; have := Z3.out; have := Z4.out; have := Z5.out; have := Z6.out; have := Z7.out; have := Z8.out; have := Z9.out; have := Z10.out; have := Z11.out; have := Z12.out; have := Z13.out; have := Z14.out; have := Z15.out; have := Z16.out; have := Z17.out; have := Z18.out; have := Z19.out; have := Z20.out; have := Z21.out; have := Z22.out; omega))
 replace R2 := Aside0.mk (R2.out.kept hk (by have := Z0.out; have := Z1.out; have := Z2.out; have := Z3.out; have := Z4.out; have := Z5.out; have := Z6.out; have := Z7.out; have := Z8.out; have := Z9.out; have := Z10.out; have := Z11.out; have := Z12.out; have := Z13.out; have := Z14.out; have := Z15.out; have := Z16.out; have := Z17.out; have := Z18.out; have := Z19.out; have := Z20.out; have := Z21.out; have := Z22.out; omega))
 replace R3 := Aside0.mk (R3.out.kept hk (by have := Z0.out; have := Z1.out; have := Z2.out; have := Z3.out; have := Z4.out; have := Z5.out; have := Z6.out; have := Z7.out; have := Z8.out; have := Z9.out; have := Z10.out; have := Z11.out; have := Z12.out; have := Z13.out; have := Z14.out; have := Z15.out; have := Z16.out; have := Z17.out; have := Z18.out; have := Z19.out; have := Z20.out; have := Z21.out; have := Z22.out; omega))
 replace R4 := Aside0.mk (R4.out.kept hk (by have := Z0.out; have := Z1.out; have := Z2.out; have := Z3.out; have := Z4.out; have := Z5.out; have := Z6.out; have := Z7.out; have := Z8.out; have := Z9.out; have := Z10.out; have := Z11.out; have := Z12.out; have := Z13.out; have := Z14.out; have := Z15.out; have := Z16.out; have := Z17.out; have := Z18.out; have := Z19.out; have := Z20.out; have := Z21.out; have := Z22.out; omega))
 replace B2 := Aside0.mk (B2.out.kept hk (by have := Z0.out; have := Z1.out; have := Z2.out; have := Z3.out; have := Z4.out; have := Z5.out; have := Z6.out; have := Z7.out; have := Z8.out; have := Z9.out; have := Z10.out; have := Z11.out; have := Z12.out; have := Z13.out; have := Z14.out; have := Z15.out; have := Z16.out; have := Z17.out; have := Z18.out; have := Z19.out; have := Z20.out; have := Z21.out; have := Z22.out; omega))
 replace R5 := Aside0.mk (R5.out.kept hk (by have := Z0.out; have := Z1.out; have := Z2.out; have := Z3.out; have := Z4.out; have := Z5.out; have := Z6.out; have := Z7.out; have := Z8.out; have := Z9.out; have := Z10.out; have := Z11.out; have := Z12.out; have := Z13.out; have := Z14.out; have := Z15.out; have := Z16.out; have := Z17.out; have := Z18.out; have := Z19.out; have := Z20.out; have := Z21.out; have := Z22.out; omega))
 replace R6 := Aside0.mk (R6.out.kept hk (by have := Z0.out; have := Z1.out; have := Z2.out; have := Z3.out; have := Z4.out; have := Z5.out; have := Z6.out; have := Z7.out; have := Z8.out; have := Z9.out; have := Z10.out; have := Z11.out; have := Z12.out; have := Z13.out; have := Z14.out; have := Z15.out; have := Z16.out; have := Z17.out; have := Z18.out; have := Z19.out; have := Z20.out; have := Z21.out; have := Z22.out; omega))
 replace B3 := Aside0.mk (B3.out.kept hk (by have := Z0.out; have := Z1.out; have := Z2.out; have := Z3.out; have := Z4.out; have := Z5.out; have := Z6.out; have := Z7.out; have := Z8.out; have := Z9.out; have := Z10.out; have := Z11.out; have := Z12.out; have := Z13.out; have := Z14.out; have := Z15.out; have := Z16.out; have := Z17.out; have := Z18.out; have := Z19.out; have := Z20.out; have := Z21.out; have := Z22.out; omega))
 replace R7 := Aside0.mk (R7.out.marked rfl ho hk.1)
 replace R8 := Aside0.mk (R8.out.kept hk (by have := Z0.out; have := Z1.out; have := Z2.out; have := Z3.out; have := Z4.out; have := Z5.out; have := Z6.out; have := Z7.out; have := Z8.out; have := Z9.out; have := Z10.out; have := Z11.out; have := Z12.out; have := Z13.out; have := Z14.out; have := Z15.out; have := Z16.out; have := Z17.out; have := Z18.out; have := Z19.out; have := Z20.out; have := Z21.out; have := Z22.out; omega))
 replace R9 := Aside0.mk (R9.out.kept hk (by have := Z0.out; have := Z1.out; have := Z2.out; have := Z3.out; have := Z4.out; have := Z5.out; have := Z6.out; have := Z7.out; have := Z8.out; have := Z9.out; have := Z10.out; have := Z11.out; have := Z12.out; have := Z13.out; have := Z14.out; have := Z15.out; have := Z16.out; have := Z17.out; have := Z18.out; have := Z19.out; have := Z20.out; have := Z21.out; have := Z22.out; omega))
 replace R10 := Aside0.mk (R10.out.kept hk (by have := Z0.out; have := Z1.out; have := Z2.out; have := Z3.out; have := Z4.out; have := Z5.out; have := Z6.out; have := Z7.out; have := Z8.out; have := Z9.out; have := Z10.out; have := Z11.out; have := Z12.out; have := Z13.out; have := Z14.out; have := Z15.out; have := Z16.out; have := Z17.out; have := Z18.out; have := Z19.out; have := Z20.out; have := Z21.out; have := Z22.out; omega))
 have LR7 := Aside0.mk (Kd.R_reads' ho).1
 replace HB := Aside0.mk hb
 clear ho hb hk
 have zB0_0 := (blk_cell B0.out.now 0).trans rfl
 have zB0_1 := (blk_cell B0.out.now 1).trans rfl
 have yB0_0 := fun o => (blk_cell (B0.out.alloc o).now 0).trans rfl
 have yB0_1 := fun o => (blk_cell (B0.out.alloc o).now 1).trans rfl
 have zB1_0 := (blk_cell B1.out.now 0).trans rfl
 have zB1_1 := (blk_cell B1.out.now 1).trans rfl
 have yB1_0 := fun o => (blk_cell (B1.out.alloc o).now 0).trans rfl
 have yB1_1 := fun o => (blk_cell (B1.out.alloc o).now 1).trans rfl
 have zB2_0 := (blk_cell B2.out.now 0).trans rfl
 have zB2_1 := (blk_cell B2.out.now 1).trans rfl
 have yB2_0 := fun o => (blk_cell (B2.out.alloc o).now 0).trans rfl
 have yB2_1 := fun o => (blk_cell (B2.out.alloc o).now 1).trans rfl
 have zB3_0 := (blk_cell B3.out.now 0).trans rfl
 have zB3_1 := (blk_cell B3.out.now 1).trans rfl
 have yB3_0 := fun o => (blk_cell (B3.out.alloc o).now 0).trans rfl
 have yB3_1 := fun o => (blk_cell (B3.out.alloc o).now 1).trans rfl
 go_wp2_with fail
 refine calls_of_args (args' := #[.slice AR7 t11_1.length cR7, .int .i64 1]) (by first | rw [LR7.out] | rw [← LR7.out]) ?_
 refine (laws_heldIntS.calls k _ _ t11_1 1 t12_0 _ (Kd.R_reads' R7.out.now).2.2 (by have h_ := (Kd.R_reads' R7.out.now).2.1; have e_ := LR7.out; omega) A12.out).mono ?_
 rintro e w25 ⟨rfl, hd⟩
 have hb := below_drawn hd
 clear hd
 clear zB0_0 yB0_0 zB0_1 yB0_1 zB1_0 yB1_0 zB1_1 yB1_1 zB2_0 yB2_0 zB2_1 yB2_1 zB3_0 yB3_0 zB3_1 yB3_1
 replace B0 := Aside0.mk (B0.out.below hb)
 replace B1 := Aside0.mk (B1.out.below hb)
 replace R0 := Aside0.mk (R0.out.below hb)
 replace R1 := Aside0.mk (R1.out.below hb)
 replace R2 := Aside0.mk (R2.out.below hb)
 replace R3 := Aside0.mk (R3.out.below hb)
 replace R4 := Aside0.mk (R4.out.below hb)
 replace B2 := Aside0.mk (B2.out.below hb)
 replace R5 := Aside0.mk (R5.out.below hb)
 replace R6 := Aside0.mk (R6.out.below hb)
 replace B3 := Aside0.mk (B3.out.below hb)
 replace R7 := Aside0.mk (R7.out.below hb)
 replace R8 := Aside0.mk (R8.out.below hb)
 replace R9 := Aside0.mk (R9.out.below hb)
 replace R10 := Aside0.mk (R10.out.below hb)
 have Z24 := Aside0.mk hb.size
 replace HB := Aside0.mk (below_step HB.out hb)
 clear hb
 have zB0_0 := (blk_cell B0.out.now 0).trans rfl
 have zB0_1 := (blk_cell B0.out.now 1).trans rfl
 have yB0_0 := fun o => (blk_cell (B0.out.alloc o).now 0).trans rfl
 have yB0_1 := fun o => (blk_cell (B0.out.alloc o).now 1).trans rfl
 have zB1_0 := (blk_cell B1.out.now 0).trans rfl
 have zB1_1 := (blk_cell B1.out.now 1).trans rfl
 have yB1_0 := fun o => (blk_cell (B1.out.alloc o).now 0).trans rfl
 have yB1_1 := fun o => (blk_cell (B1.out.alloc o).now 1).trans rfl
 have zB2_0 := (blk_cell B2.out.now 0).trans rfl
 have zB2_1 := (blk_cell B2.out.now 1).trans rfl
 have yB2_0 := fun o => (blk_cell (B2.out.alloc o).now 0).trans rfl
 have yB2_1 := fun o => (blk_cell (B2.out.alloc o).now 1).trans rfl
 have zB3_0 := (blk_cell B3.out.now 0).trans rfl
 have zB3_1 := (blk_cell B3.out.now 1).trans rfl
 have yB3_0 := fun o => (blk_cell (B3.out.alloc o).now 0).trans rfl
 have yB3_1 := fun o => (blk_cell (B3.out.alloc o).now 1).trans rfl
 try go_wp2_with fail
 clear zB0_0 yB0_0 zB0_1 yB0_1 zB1_0 yB1_0 zB1_1 yB1_1 zB2_0 yB2_0 zB2_1 yB2_1 zB3_0 yB3_0 zB3_1 yB3_1
 replace B0 := Aside0.mk B0.out.drew
 replace B1 := Aside0.mk B1.out.drew
 replace R0 := Aside0.mk R0.out.drew
 replace R1 := Aside0.mk R1.out.drew
 replace R2 := Aside0.mk R2.out.drew
 replace R3 := Aside0.mk R3.out.drew
 replace R4 := Aside0.mk R4.out.drew
 replace B2 := Aside0.mk B2.out.drew
 replace R5 := Aside0.mk R5.out.drew
 replace R6 := Aside0.mk R6.out.drew
 replace B3 := Aside0.mk B3.out.drew
 replace R7 := Aside0.mk R7.out.drew
 replace R8 := Aside0.mk R8.out.drew
 replace R9 := Aside0.mk R9.out.drew
 replace R10 := Aside0.mk R10.out.drew
 replace HB := Aside0.mk (bD HB.out)
 have Z25 := Aside0.mk (show w25.heap.size ≤ w25.drew.heap.size from Nat.le_refl _)
 refine start_ (n := 10) (S := fun w' => w'.cell? ⟨w.heap.size, 0, none⟩ = some (.int .i64 a0_0) ∧ w'.cell? ⟨w.heap.size, 1, none⟩ = some (.slice A0_1 l0_1.length c0_1) ∧ w'.cell? ⟨w2.heap.size, 0, none⟩ = some (.slice A1_0 l1_0.length c1_0) ∧ w'.cell? ⟨w2.heap.size, 1, none⟩ = some (.slice A1_1 l1_1.length c1_1) ∧ w'.cell? ⟨w9.heap.size, 0, none⟩ = some (.int .i64 t2_0) ∧ w'.cell? ⟨w9.heap.size, 1, none⟩ = some (.slice AR4 t2_1.length cR4) ∧ w'.cell? ⟨w10.heap.size, 0, none⟩ = some (.slice AR5 t3_0.length cR5) ∧ w'.cell? ⟨w10.heap.size, 1, none⟩ = some (.slice AR6 t3_1.length cR6)) (ds := []) #[false, false, false, false, false, false, false, false, false, false] (by kernel_rfl) rfl rfl ⟨(blk_cell B0.out.now 0).trans rfl, (blk_cell B0.out.now 1).trans rfl, (blk_cell B1.out.now 0).trans rfl, (blk_cell B1.out.now 1).trans rfl, (blk_cell B2.out.now 0).trans rfl, (blk_cell B2.out.now 1).trans rfl, (blk_cell B3.out.now 0).trans rfl, (blk_cell B3.out.now 1).trans rfl⟩ (fun hHeld => ?_)
 generalize w25.drew = w26 at B0 B1 R0 R1 R2 R3 R4 B2 R5 R6 B3 R7 R8 R9 R10 HB Z25 hHeld ⊢
 refine take_ (i := 0) (N := (some 95)) (v := ?_) (a' := ?_) #[true, false, false, false, false, false, false, false, false, false] rfl rfl (by kernel_rfl) (fun _ _ _ h => h) (Or.inl ⟨by rfl, ?_⟩) hHeld ?_ ?_
 rotate_left
 ·rintro w' ⟨s0, s1, s2, s3, s4, s5, s6, s7⟩
  go_simp
  with_reducible rfl
 rotate_left
 ·simp only [Act.put, lS, lZ, lT, i64_w, i32_w]
  rfl
 refine take_ (i := 2) (N := (some 97)) (v := ?_) (a' := ?_) #[true, false, true, false, false, false, false, false, false, false] rfl rfl (by kernel_rfl) (fun _ _ _ h => h) (Or.inl ⟨by rfl, ?_⟩) hHeld ?_ ?_
 rotate_left
 ·rintro w' ⟨s0, s1, s2, s3, s4, s5, s6, s7⟩
  go_simp
  with_reducible rfl
 rotate_left
 ·simp only [Act.put, lS, lZ, lT, i64_w, i32_w]
  rfl
 refine one_ (i := 1) (N := (some 96)) #[true, true, true, false, false, false, false, false, false, false] rfl rfl (by kernel_rfl) (by decide) (fun K hK => ?_)
 refine goes_ Try.func11 (by kernel_rfl) rfl #[.agg #[.int .i64 a0_0, .slice A0_1 l0_1.length c0_1]] (by rfl) rfl rfl (by (try simp only [List.map_toArray, List.map_cons, List.map_nil]); first | done | rfl | (simp only [List.length_drop, List.length_take]; rfl)) ?_
 refine (laws_toAlgebra.calls k a0_0 _ _ l0_1 t2_0 t2_1 _ (Kd.C_below HR0_1.out HB.out) HC0_1.out A2.out).mono ?_
 rintro e w27 ⟨v1, rfl, ho1, hb⟩
 refine ⟨_, rfl, ?_⟩
 replace B0 := Aside0.mk (B0.out.below hb)
 replace B1 := Aside0.mk (B1.out.below hb)
 replace R0 := Aside0.mk (R0.out.below hb)
 replace R1 := Aside0.mk (R1.out.below hb)
 replace R2 := Aside0.mk (R2.out.below hb)
 replace R3 := Aside0.mk (R3.out.below hb)
 replace R4 := Aside0.mk (R4.out.below hb)
 replace B2 := Aside0.mk (B2.out.below hb)
 replace R5 := Aside0.mk (R5.out.below hb)
 replace R6 := Aside0.mk (R6.out.below hb)
 replace B3 := Aside0.mk (B3.out.below hb)
 replace R7 := Aside0.mk (R7.out.below hb)
 replace R8 := Aside0.mk (R8.out.below hb)
 replace R9 := Aside0.mk (R9.out.below hb)
 replace R10 := Aside0.mk (R10.out.below hb)
 have Z26 := Aside0.mk hb.size
 obtain ⟨AR11, cR11, rfl⟩ := Kd.S_slice ho1
 have R11 := Aside0.mk (Lives.rowS (base := w.heap.size) ho1 hb.size HB.out.size)
 replace HB := Aside0.mk (below_step HB.out hb)
 clear hb ho1
 have zB0_0 := (blk_cell B0.out.now 0).trans rfl
 have zB0_1 := (blk_cell B0.out.now 1).trans rfl
 have yB0_0 := fun o => (blk_cell (B0.out.alloc o).now 0).trans rfl
 have yB0_1 := fun o => (blk_cell (B0.out.alloc o).now 1).trans rfl
 have zB1_0 := (blk_cell B1.out.now 0).trans rfl
 have zB1_1 := (blk_cell B1.out.now 1).trans rfl
 have yB1_0 := fun o => (blk_cell (B1.out.alloc o).now 0).trans rfl
 have yB1_1 := fun o => (blk_cell (B1.out.alloc o).now 1).trans rfl
 have zB2_0 := (blk_cell B2.out.now 0).trans rfl
 have zB2_1 := (blk_cell B2.out.now 1).trans rfl
 have yB2_0 := fun o => (blk_cell (B2.out.alloc o).now 0).trans rfl
 have yB2_1 := fun o => (blk_cell (B2.out.alloc o).now 1).trans rfl
 have zB3_0 := (blk_cell B3.out.now 0).trans rfl
 have zB3_1 := (blk_cell B3.out.now 1).trans rfl
 have yB3_0 := fun o => (blk_cell (B3.out.alloc o).now 0).trans rfl
 have yB3_1 := fun o => (blk_cell (B3.out.alloc o).now 1).trans rfl
 clear zB0_0 yB0_0 zB0_1 yB0_1 zB1_0 yB1_0 zB1_1 yB1_1 zB2_0 yB2_0 zB2_1 yB2_1 zB3_0 yB3_0 zB3_1 yB3_1
 refine hK.out _ _ ⟨(blk_cell B0.out.now 0).trans rfl, (blk_cell B0.out.now 1).trans rfl, (blk_cell B1.out.now 0).trans rfl, (blk_cell B1.out.now 1).trans rfl, (blk_cell B2.out.now 0).trans rfl, (blk_cell B2.out.now 1).trans rfl, (blk_cell B3.out.now 0).trans rfl, (blk_cell B3.out.now 1).trans rfl⟩ (fun hHeld => ?_)
 clear hK K
 refine norm_ (a' := ?_) ?_ ?_
 rotate_left
 ·show Act.put _ (some 96) _ = _
  simp only [Act.put, lS, lZ, lT, i64_w, i32_w]
  rfl
 refine one_ (i := 3) (N := (some 98)) #[true, true, true, true, false, false, false, false, false, false] rfl rfl (by kernel_rfl) (by decide) (fun K hK => ?_)
 refine goes_ Try.func23 (by kernel_rfl) rfl #[.agg #[.slice A1_0 l1_0.length c1_0, .slice A1_1 l1_1.length c1_1]] (by rfl) rfl rfl (by (try simp only [List.map_toArray, List.map_cons, List.map_nil]); first | done | rfl | (simp only [List.length_drop, List.length_take]; rfl)) ?_
 refine (laws_toIdentity.calls k _ _ l1_0 _ _ l1_1 t3_0 t3_1 _ (Kd.C_below HR1_0.out HB.out) HC1_0.out (Kd.C_below HR1_1.out HB.out) HC1_1.out A3.out).mono ?_
 rintro e w28 ⟨v0, v1, rfl, ho0, ho1, hb⟩
 refine ⟨_, rfl, ?_⟩
 replace B0 := Aside0.mk (B0.out.below hb)
 replace B1 := Aside0.mk (B1.out.below hb)
 replace R0 := Aside0.mk (R0.out.below hb)
 replace R1 := Aside0.mk (R1.out.below hb)
 replace R2 := Aside0.mk (R2.out.below hb)
 replace R3 := Aside0.mk (R3.out.below hb)
 replace R4 := Aside0.mk (R4.out.below hb)
 replace B2 := Aside0.mk (B2.out.below hb)
 replace R5 := Aside0.mk (R5.out.below hb)
 replace R6 := Aside0.mk (R6.out.below hb)
 replace B3 := Aside0.mk (B3.out.below hb)
 replace R7 := Aside0.mk (R7.out.below hb)
 replace R8 := Aside0.mk (R8.out.below hb)
 replace R9 := Aside0.mk (R9.out.below hb)
 replace R10 := Aside0.mk (R10.out.below hb)
 replace R11 := Aside0.mk (R11.out.below hb)
 have Z27 := Aside0.mk hb.size
 obtain ⟨AR12, cR12, rfl⟩ := Kd.R_slice ho0
 have R12 := Aside0.mk (Lives.row (base := w.heap.size) (Kd.R_mono ho0 (fun _ _ => trivial)) hb.size HB.out.size)
 obtain ⟨AR13, cR13, rfl⟩ := Kd.R_slice ho1
 have DR12 : ∀ k_ : Nat, some k_ = (.slice AR12 t3_0.length cR12 : Value).ownBlock → ¬ some k_ = (.slice AR13 t3_1.length cR13 : Value).ownBlock := fun k_ h_ => ho0.1 k_ h_.symm
 have R13 := Aside0.mk (Lives.row (base := w.heap.size) (Kd.R_mono ho1 (fun _ _ => trivial)) hb.size HB.out.size)
 replace HB := Aside0.mk (below_step HB.out hb)
 clear hb ho0 ho1
 have zB0_0 := (blk_cell B0.out.now 0).trans rfl
 have zB0_1 := (blk_cell B0.out.now 1).trans rfl
 have yB0_0 := fun o => (blk_cell (B0.out.alloc o).now 0).trans rfl
 have yB0_1 := fun o => (blk_cell (B0.out.alloc o).now 1).trans rfl
 have zB1_0 := (blk_cell B1.out.now 0).trans rfl
 have zB1_1 := (blk_cell B1.out.now 1).trans rfl
 have yB1_0 := fun o => (blk_cell (B1.out.alloc o).now 0).trans rfl
 have yB1_1 := fun o => (blk_cell (B1.out.alloc o).now 1).trans rfl
 have zB2_0 := (blk_cell B2.out.now 0).trans rfl
 have zB2_1 := (blk_cell B2.out.now 1).trans rfl
 have yB2_0 := fun o => (blk_cell (B2.out.alloc o).now 0).trans rfl
 have yB2_1 := fun o => (blk_cell (B2.out.alloc o).now 1).trans rfl
 have zB3_0 := (blk_cell B3.out.now 0).trans rfl
 have zB3_1 := (blk_cell B3.out.now 1).trans rfl
 have yB3_0 := fun o => (blk_cell (B3.out.alloc o).now 0).trans rfl
 have yB3_1 := fun o => (blk_cell (B3.out.alloc o).now 1).trans rfl
 clear zB0_0 yB0_0 zB0_1 yB0_1 zB1_0 yB1_0 zB1_1 yB1_1 zB2_0 yB2_0 zB2_1 yB2_1 zB3_0 yB3_0 zB3_1 yB3_1
 refine hK.out _ _ ⟨(blk_cell B0.out.now 0).trans rfl, (blk_cell B0.out.now 1).trans rfl, (blk_cell B1.out.now 0).trans rfl, (blk_cell B1.out.now 1).trans rfl, (blk_cell B2.out.now 0).trans rfl, (blk_cell B2.out.now 1).trans rfl, (blk_cell B3.out.now 0).trans rfl, (blk_cell B3.out.now 1).trans rfl⟩ (fun hHeld => ?_)
 clear hK K
 refine norm_ (a' := ?_) ?_ ?_
 rotate_left
 ·show Act.put _ (some 98) _ = _
  simp only [Act.put, lS, lZ, lT, i64_w, i32_w]
  rfl
 refine one_ (i := 4) (N := (some 99)) #[true, true, true, true, true, false, false, false, false, false] rfl rfl (by kernel_rfl) (by decide) (fun K hK => ?_)
 refine goes_ Try.func32 (by kernel_rfl) rfl #[.agg #[.int .i64 t2_0, .slice AR11 t2_1.length cR11], .agg #[.slice AR12 t3_0.length cR12, .slice AR13 t3_1.length cR13]] (by rfl) rfl rfl (by (try simp only [List.map_toArray, List.map_cons, List.map_nil]); first | done | rfl | (simp only [List.length_drop, List.length_take]; rfl)) ?_
 refine (impl_FirstCounter.calls k t2_0 _ _ t2_1 _ _ t3_0 _ _ t3_1 t5_0 t5_1 _ (Kd.S_reads' R11.out.now).2.2 (Kd.S_reads' R11.out.now).2.1 (Kd.R_reads' R12.out.now).2.2 (Kd.R_reads' R12.out.now).2.1 (Kd.R_reads' R13.out.now).2.2 (Kd.R_reads' R13.out.now).2.1 A5.out).mono ?_
 rintro e w29 ⟨v0, rfl, ho0, hb⟩
 refine ⟨_, rfl, ?_⟩
 replace B0 := Aside0.mk (B0.out.below hb)
 replace B1 := Aside0.mk (B1.out.below hb)
 replace R0 := Aside0.mk (R0.out.below hb)
 replace R1 := Aside0.mk (R1.out.below hb)
 replace R2 := Aside0.mk (R2.out.below hb)
 replace R3 := Aside0.mk (R3.out.below hb)
 replace R4 := Aside0.mk (R4.out.below hb)
 replace B2 := Aside0.mk (B2.out.below hb)
 replace R5 := Aside0.mk (R5.out.below hb)
 replace R6 := Aside0.mk (R6.out.below hb)
 replace B3 := Aside0.mk (B3.out.below hb)
 replace R7 := Aside0.mk (R7.out.below hb)
 replace R8 := Aside0.mk (R8.out.below hb)
 replace R9 := Aside0.mk (R9.out.below hb)
 replace R10 := Aside0.mk (R10.out.below hb)
 replace R11 := Aside0.mk (R11.out.below hb)
 replace R12 := Aside0.mk (R12.out.below hb)
 replace R13 := Aside0.mk (R13.out.below hb)
 have Z28 := Aside0.mk hb.size
 obtain ⟨AR14, cR14, rfl⟩ := Kd.R_slice ho0
 have R14 := Aside0.mk (Lives.row (base := w.heap.size) ho0 hb.size HB.out.size)
 replace HB := Aside0.mk (below_step HB.out hb)
 clear hb ho0
 have zB0_0 := (blk_cell B0.out.now 0).trans rfl
 have zB0_1 := (blk_cell B0.out.now 1).trans rfl
 have yB0_0 := fun o => (blk_cell (B0.out.alloc o).now 0).trans rfl
 have yB0_1 := fun o => (blk_cell (B0.out.alloc o).now 1).trans rfl
 have zB1_0 := (blk_cell B1.out.now 0).trans rfl
 have zB1_1 := (blk_cell B1.out.now 1).trans rfl
 have yB1_0 := fun o => (blk_cell (B1.out.alloc o).now 0).trans rfl
 have yB1_1 := fun o => (blk_cell (B1.out.alloc o).now 1).trans rfl
 have zB2_0 := (blk_cell B2.out.now 0).trans rfl
 have zB2_1 := (blk_cell B2.out.now 1).trans rfl
 have yB2_0 := fun o => (blk_cell (B2.out.alloc o).now 0).trans rfl
 have yB2_1 := fun o => (blk_cell (B2.out.alloc o).now 1).trans rfl
 have zB3_0 := (blk_cell B3.out.now 0).trans rfl
 have zB3_1 := (blk_cell B3.out.now 1).trans rfl
 have yB3_0 := fun o => (blk_cell (B3.out.alloc o).now 0).trans rfl
 have yB3_1 := fun o => (blk_cell (B3.out.alloc o).now 1).trans rfl
 clear zB0_0 yB0_0 zB0_1 yB0_1 zB1_0 yB1_0 zB1_1 yB1_1 zB2_0 yB2_0 zB2_1 yB2_1 zB3_0 yB3_0 zB3_1 yB3_1
 refine hK.out _ _ ⟨(blk_cell B0.out.now 0).trans rfl, (blk_cell B0.out.now 1).trans rfl, (blk_cell B1.out.now 0).trans rfl, (blk_cell B1.out.now 1).trans rfl, (blk_cell B2.out.now 0).trans rfl, (blk_cell B2.out.now 1).trans rfl, (blk_cell B3.out.now 0).trans rfl, (blk_cell B3.out.now 1).trans rfl⟩ (fun hHeld => ?_)
 clear hK K
 refine norm_ (a' := ?_) ?_ ?_
 rotate_left
 ·show Act.put _ (some 99) _ = _
  simp only [Act.put, lS, lZ, lT, i64_w, i32_w]
  rfl
 refine pure_ (i := 5) (N := (some 94)) (v := ?_) (a' := ?_) #[true, true, true, true, true, true, false, false, false, false] rfl rfl (by kernel_rfl) (fun _ _ _ h => h) (Or.inl ⟨by rfl, ?_⟩) ?_ ?_
 rotate_left
 ·intro w'
  go_simp
  with_reducible rfl
 rotate_left
 ·simp only [Act.put, lS, lZ, lT, i64_w, i32_w]
  rfl
 refine pure_ (i := 6) (N := (some 100)) (v := ?_) (a' := ?_) #[true, true, true, true, true, true, true, false, false, false] rfl rfl (by kernel_rfl) (fun _ _ _ h => h) (Or.inl ⟨by rfl, ?_⟩) ?_ ?_
 rotate_left
 ·intro w'
  go_simp
  with_reducible rfl
 rotate_left
 ·simp only [Act.put, lS, lZ, lT, i64_w, i32_w]
  rfl
 refine pure_ (i := 7) (N := (some 101)) (v := ?_) (a' := ?_) #[true, true, true, true, true, true, true, true, false, false] rfl rfl (by kernel_rfl) (fun _ _ _ h => h) (Or.inl ⟨by rfl, ?_⟩) ?_ ?_
 rotate_left
 ·intro w'
  go_simp
  with_reducible rfl
 rotate_left
 ·simp only [Act.put, lS, lZ, lT, i64_w, i32_w]
  rfl
 refine pure_ (i := 8) (N := (some 15)) (v := ?_) (a' := ?_) #[true, true, true, true, true, true, true, true, true, false] rfl rfl (by kernel_rfl) (fun _ _ _ h => h) (Or.inl ⟨by rfl, ?_⟩) ?_ ?_
 rotate_left
 ·intro w'
  go_simp
  with_reducible rfl
 rotate_left
 ·simp only [Act.put, lS, lZ, lT, i64_w, i32_w]
  rfl
 refine pure_ (i := 9) (N := (some 16)) (v := ?_) (a' := ?_) #[true, true, true, true, true, true, true, true, true, true] rfl rfl (by kernel_rfl) (fun _ _ _ h => h) (Or.inl ⟨by rfl, ?_⟩) ?_ ?_
 rotate_left
 ·intro w'
  go_simp
  with_reducible rfl
 rotate_left
 ·simp only [Act.put, lS, lZ, lT, i64_w, i32_w]
  rfl
 refine done_ (by kernel_rfl) ?_
 have zB0_0 := (blk_cell B0.out.now 0).trans rfl
 have zB0_1 := (blk_cell B0.out.now 1).trans rfl
 have yB0_0 := fun o => (blk_cell (B0.out.alloc o).now 0).trans rfl
 have yB0_1 := fun o => (blk_cell (B0.out.alloc o).now 1).trans rfl
 have zB1_0 := (blk_cell B1.out.now 0).trans rfl
 have zB1_1 := (blk_cell B1.out.now 1).trans rfl
 have yB1_0 := fun o => (blk_cell (B1.out.alloc o).now 0).trans rfl
 have yB1_1 := fun o => (blk_cell (B1.out.alloc o).now 1).trans rfl
 have zB2_0 := (blk_cell B2.out.now 0).trans rfl
 have zB2_1 := (blk_cell B2.out.now 1).trans rfl
 have yB2_0 := fun o => (blk_cell (B2.out.alloc o).now 0).trans rfl
 have yB2_1 := fun o => (blk_cell (B2.out.alloc o).now 1).trans rfl
 have zB3_0 := (blk_cell B3.out.now 0).trans rfl
 have zB3_1 := (blk_cell B3.out.now 1).trans rfl
 have yB3_0 := fun o => (blk_cell (B3.out.alloc o).now 0).trans rfl
 have yB3_1 := fun o => (blk_cell (B3.out.alloc o).now 1).trans rfl
 go_wp2_with fail
 refine (laws_eqIntS.calls k _ _ t5_0 _ _ t4_0 true _ (Kd.R_reads' R14.out.now).2.2 (Kd.R_reads' R14.out.now).2.1 (Kd.R_reads' R3.out.now).2.2 (Kd.R_reads' R3.out.now).2.1 A6.out).mono ?_
 rintro e w30 ⟨rfl, hd⟩
 have hb := below_drawn hd
 clear hd
 clear zB0_0 yB0_0 zB0_1 yB0_1 zB1_0 yB1_0 zB1_1 yB1_1 zB2_0 yB2_0 zB2_1 yB2_1 zB3_0 yB3_0 zB3_1 yB3_1
 replace B0 := Aside0.mk (B0.out.below hb)
 replace B1 := Aside0.mk (B1.out.below hb)
 replace R0 := Aside0.mk (R0.out.below hb)
 replace R1 := Aside0.mk (R1.out.below hb)
 replace R2 := Aside0.mk (R2.out.below hb)
 replace R3 := Aside0.mk (R3.out.below hb)
 replace R4 := Aside0.mk (R4.out.below hb)
 replace B2 := Aside0.mk (B2.out.below hb)
 replace R5 := Aside0.mk (R5.out.below hb)
 replace R6 := Aside0.mk (R6.out.below hb)
 replace B3 := Aside0.mk (B3.out.below hb)
 replace R7 := Aside0.mk (R7.out.below hb)
 replace R8 := Aside0.mk (R8.out.below hb)
 replace R9 := Aside0.mk (R9.out.below hb)
 replace R10 := Aside0.mk (R10.out.below hb)
 replace R11 := Aside0.mk (R11.out.below hb)
 replace R12 := Aside0.mk (R12.out.below hb)
 replace R13 := Aside0.mk (R13.out.below hb)
 replace R14 := Aside0.mk (R14.out.below hb)
 have Z29 := Aside0.mk hb.size
 replace HB := Aside0.mk (below_step HB.out hb)
 clear hb
 have zB0_0 := (blk_cell B0.out.now 0).trans rfl
 have zB0_1 := (blk_cell B0.out.now 1).trans rfl
 have yB0_0 := fun o => (blk_cell (B0.out.alloc o).now 0).trans rfl
 have yB0_1 := fun o => (blk_cell (B0.out.alloc o).now 1).trans rfl
 have zB1_0 := (blk_cell B1.out.now 0).trans rfl
 have zB1_1 := (blk_cell B1.out.now 1).trans rfl
 have yB1_0 := fun o => (blk_cell (B1.out.alloc o).now 0).trans rfl
 have yB1_1 := fun o => (blk_cell (B1.out.alloc o).now 1).trans rfl
 have zB2_0 := (blk_cell B2.out.now 0).trans rfl
 have zB2_1 := (blk_cell B2.out.now 1).trans rfl
 have yB2_0 := fun o => (blk_cell (B2.out.alloc o).now 0).trans rfl
 have yB2_1 := fun o => (blk_cell (B2.out.alloc o).now 1).trans rfl
 have zB3_0 := (blk_cell B3.out.now 0).trans rfl
 have zB3_1 := (blk_cell B3.out.now 1).trans rfl
 have yB3_0 := fun o => (blk_cell (B3.out.alloc o).now 0).trans rfl
 have yB3_1 := fun o => (blk_cell (B3.out.alloc o).now 1).trans rfl
 go_wp2_with fail
 refine calls_of_args (args' := #[.slice AR7 t11_1.length cR7, .int .i64 1]) (by first | rw [LR7.out] | rw [← LR7.out]) ?_
 refine (laws_heldIntS.calls k _ _ t11_1 1 t12_0 _ (Kd.R_reads' R7.out.now).2.2 (by have h_ := (Kd.R_reads' R7.out.now).2.1; have e_ := LR7.out; omega) A12.out).mono ?_
 rintro e w31 ⟨rfl, hd⟩
 have hb := below_drawn hd
 clear hd
 clear zB0_0 yB0_0 zB0_1 yB0_1 zB1_0 yB1_0 zB1_1 yB1_1 zB2_0 yB2_0 zB2_1 yB2_1 zB3_0 yB3_0 zB3_1 yB3_1
 replace B0 := Aside0.mk (B0.out.below hb)
 replace B1 := Aside0.mk (B1.out.below hb)
 replace R0 := Aside0.mk (R0.out.below hb)
 replace R1 := Aside0.mk (R1.out.below hb)
 replace R2 := Aside0.mk (R2.out.below hb)
 replace R3 := Aside0.mk (R3.out.below hb)
 replace R4 := Aside0.mk (R4.out.below hb)
 replace B2 := Aside0.mk (B2.out.below hb)
 replace R5 := Aside0.mk (R5.out.below hb)
 replace R6 := Aside0.mk (R6.out.below hb)
 replace B3 := Aside0.mk (B3.out.below hb)
 replace R7 := Aside0.mk (R7.out.below hb)
 replace R8 := Aside0.mk (R8.out.below hb)
 replace R9 := Aside0.mk (R9.out.below hb)
 replace R10 := Aside0.mk (R10.out.below hb)
 replace R11 := Aside0.mk (R11.out.below hb)
 replace R12 := Aside0.mk (R12.out.below hb)
 replace R13 := Aside0.mk (R13.out.below hb)
 replace R14 := Aside0.mk (R14.out.below hb)
 have Z30 := Aside0.mk hb.size
 replace HB := Aside0.mk (below_step HB.out hb)
 clear hb
 have zB0_0 := (blk_cell B0.out.now 0).trans rfl
 have zB0_1 := (blk_cell B0.out.now 1).trans rfl
 have yB0_0 := fun o => (blk_cell (B0.out.alloc o).now 0).trans rfl
 have yB0_1 := fun o => (blk_cell (B0.out.alloc o).now 1).trans rfl
 have zB1_0 := (blk_cell B1.out.now 0).trans rfl
 have zB1_1 := (blk_cell B1.out.now 1).trans rfl
 have yB1_0 := fun o => (blk_cell (B1.out.alloc o).now 0).trans rfl
 have yB1_1 := fun o => (blk_cell (B1.out.alloc o).now 1).trans rfl
 have zB2_0 := (blk_cell B2.out.now 0).trans rfl
 have zB2_1 := (blk_cell B2.out.now 1).trans rfl
 have yB2_0 := fun o => (blk_cell (B2.out.alloc o).now 0).trans rfl
 have yB2_1 := fun o => (blk_cell (B2.out.alloc o).now 1).trans rfl
 have zB3_0 := (blk_cell B3.out.now 0).trans rfl
 have zB3_1 := (blk_cell B3.out.now 1).trans rfl
 have yB3_0 := fun o => (blk_cell (B3.out.alloc o).now 0).trans rfl
 have yB3_1 := fun o => (blk_cell (B3.out.alloc o).now 1).trans rfl
 go_wp2
 go_ret
 exact ⟨rfl, HB.out⟩

end Go.Proofs.Ytcgkgimkpndhmab.Q
