/- Contracts of Go functions, each with a plain Lean function of the same answers: whatever the arguments, the call comes to what the Lean function tells. Written by a program of this session. -/
import Derived.Test.YtcgkgimkpndhmabQx0
import Derived.Test.YtcgkgimkpndhmabQx13
import Derived.Test.YtcgkgimkpndhmabQx18
namespace Go.Proofs.Ytcgkgimkpndhmab.Q
open Go.RowKit Go.Proofs.YtcgkgimkpndhmabW.PrintWords Go.Proofs.YtcgkgimkpndhmabW.PrintLast Go.Proofs.YtcgkgimkpndhmabW.PrintMore
attribute [local go_sem] max2_int min2_int max_two min_two max_three min_three max_four min_four   -- for this text's walks alone
set_option linter.unusedVariables false
set_option linter.unusedSimpArgs false

/-! ### impl_FirstBroken: function 29 -/
mutual
def impl_FirstBroken.j0 : Nat → List (S44) → Bool → Int → List (S75) → Option (Int × Bool)
 | 0, _, _, _, _ => none
 | k + 1, x1, x18, x437000, x437001 => if x18 = true then (some (0, false)) else (impl_FirstBroken.l0 k (-1) x1 (x1.length : Int) 0 x437000 x437001)
def impl_FirstBroken.l0 : Nat → Int → List (S44) → Int → Int → Int → List (S75) → Option (Int × Bool)
 | 0, _, _, _, _, _, _ => none
 | k + 1, x6, x19, x20, x21, x437000, x437001 => if x21 < x20 then (if 0 ≤ x21 then (if x21 < (x19.length : Int) then ((impl_DoesHold.f k x437000 x437001 ((rd_T44 x19 x21).f0) ((rd_T44 x19 x21).f1)).bind fun bt440 => (if bt440.2 = true then (if bt440.1 = true then (impl_FirstBroken.l0 k x6 x19 x20 (wrap64 (x21 + 1)) x437000 x437001) else (if x6 < 0 then (impl_FirstBroken.l0 k x21 x19 x20 (wrap64 (x21 + 1)) x437000 x437001) else (impl_FirstBroken.l0 k x6 x19 x20 (wrap64 (x21 + 1)) x437000 x437001))) else (some (0, false)))) else (none)) else (none)) else (some (x6, true))
end
def impl_FirstBroken.f (k : Nat) (a0_0 : Int) (l0_1 : List (S75)) (l1 : List (S44)) : Option (Int × Bool) := (impl_IsAlgebra.f k a0_0 l0_1).bind fun t437 => (if t437 = true then (impl_FirstBroken.j0 k l1 (decide ((l1.length : Int) > 20)) a0_0 l0_1) else (impl_FirstBroken.j0 k l1 true a0_0 l0_1))
set_option maxHeartbeats 8000000 in
set_option maxRecDepth 100000 in
theorem impl_FirstBroken.calls (k : Nat) (a0_0 : Int) (A0_1 : Option Addr) (c0_1 : Nat) (l0_1 : List (S75)) (A1 : Option Addr) (c1 : Nat) (l1 : List (S44)) (r1 : Int) (r2 : Bool) (w : World) (hr0_1 : Kd.C k75 w A0_1 l0_1.length l0_1) (hc0_1 : l0_1.length ≤ c0_1) (hr1 : Kd.C k44 w A1 l1.length l1) (hc1 : l1.length ≤ c1) (h : impl_FirstBroken.f k a0_0 l0_1 l1 = some (r1, r2)) :
  Calls Try.prog 29 #[.agg #[.int .i64 a0_0, .slice A0_1 l0_1.length c0_1], .slice A1 l1.length c1] w fun e w' => e = .returned (.tuple #[.int .i64 r1, .bool r2]) ∧ Below w.heap.size w w' := by
 have hu31 := Try.underlying31
 have hu44 := Try.underlying44
 have HR0_1 := Aside0.mk hr0_1
 have HC0_1 := Aside0.mk hc0_1
 clear hr0_1 hc0_1
 have HR1 := Aside0.mk hr1
 have HC1 := Aside0.mk hc1
 clear hr1 hc1
 have HB := Aside0.mk (Below.refl w.heap.size w)
 have H : ((impl_IsAlgebra.f k a0_0 l0_1).bind fun t437 => (if t437 = true then (impl_FirstBroken.j0 k l1 (decide ((l1.length : Int) > 20)) a0_0 l0_1) else (impl_FirstBroken.j0 k l1 true a0_0 l0_1))) = some (r1, r2) := h
 clear h
 have HC3 := Aside0.mk H
 clear H
 go_enter Try.func29, Try.ntmps29
 go_upto_region 1 with (first | ((with_reducible refine gate_dst (N := 2) rfl ?_); (try (refine gate_guard (by rfl) ?_; dsimp only)); refine box_event ?hg (N := 2) ?hd (cs := #[.int .i64 a0_0, .slice A0_1 l0_1.length c0_1]) (t := 31) ?hr ?_; (case hd => rfl); (case hg => rfl); (case hr => first | (go_simp; done) | (go_simp; rfl)); intro gb436 hg w4 hbox hb; have n0_ := Aside0.mk (below_step (by repeat (first | (with_reducible first | exact HB.out | apply bA | apply bN | apply bD) | exact HB.out)) hb); have n1_ := Aside0.mk (hbox); have n2_ := Aside0.mk ((by rw [hg]; exact (below_size (by repeat (first | (with_reducible first | exact HB.out | apply bA | apply bN | apply bD) | exact HB.out))) : w.heap.size ≤ gb436)); have n3_ := Aside0.mk ((by rw [hg]; exact (below_size (by repeat (first | (with_reducible first | exact HB.out | apply bA | apply bN | apply bD) | exact HB.out))) : w.heap.size ≤ gb436)); clear HB; have HB := n0_; have BK436 := n1_; have GW436 := n2_; have GE436 := n3_; clear n0_ n1_ n2_ n3_; clear hb hbox hg))
 (try simp only [Act.put, lS, lZ, lT])
 go_cut [18] (fun v18 wc => ∃ (kq : Nat) (x18_2 : Bool), v18 = .bool x18_2 ∧ Aside0 (impl_FirstBroken.j0 kq l1 x18_2 a0_0 l0_1 = some (r1, r2)) ∧ Aside0 (kq ≤ k) ∧ Aside0 (wc.heap[gb436]? = some (.cells #[.int .i64 a0_0, (.slice A0_1 l0_1.length c0_1)] 31 (0, 0))) ∧ Aside0 (Below w.heap.size w wc))
 case first =>
  have H := HC3.out
  clear HC3
  replace H := Option.bind_eq_some_iff.mp H
  obtain ⟨t437, A50, H⟩ := H
  replace H : (if t437 = true then (impl_FirstBroken.j0 k l1 (decide ((l1.length : Int) > 20)) a0_0 l0_1) else (impl_FirstBroken.j0 k l1 true a0_0 l0_1)) = some (r1, r2) := H
  have A5 := Aside0.mk A50
  clear A50
  by_cases c6 : t437 = true
  ·subst c6
   have H1 : (impl_FirstBroken.j0 k l1 (decide ((l1.length : Int) > 20)) a0_0 l0_1) = some (r1, r2) := by rw [if_pos rfl] at H; exact H
   clear H
   have H := H1
   clear H1
   have H' := Aside0.mk H
   clear H
   have hcz7_0 : w4.cell? ⟨gb436, 0, none⟩ = some (.int .i64 a0_0) := (blk_cell BK436.out 0).trans rfl
   have hcz7_1 : w4.cell? ⟨gb436, 1, none⟩ = some (.slice A0_1 l0_1.length c0_1) := (blk_cell BK436.out 1).trans rfl
   have hfz7_0 := blk_frozen BK436.out 0
   have hfz7_1 := blk_frozen BK436.out 1
   go_wp2_with (first | ((with_reducible refine gate_callee (f := 53) rfl ?_); refine goesL_ (some 12) rfl rfl Try.func53 (by kernel_rfl) rfl #[.agg #[.int .i64 a0_0, .slice A0_1 l0_1.length c0_1]] rfl (by (try simp only [List.map_toArray, List.map_cons, List.map_nil]); first | done | rfl | (simp only [List.length_drop, List.length_take]; rfl)) ?_; (with_reducible refine (impl_IsAlgebra.calls k a0_0 _ _ l0_1 true _ ?side1 ?side2 A5.out).mono ?_); (case side1 => repeat (first | exact (Kd.C_below HR0_1.out HB.out) | (with_reducible refine Kd.C_alloc ?_ _) | (with_reducible refine Kd.C_drewN ?_ _) | (with_reducible refine Kd.C_drew ?_))); (case side2 => exact HC0_1.out); rintro e w8 ⟨rfl, hb⟩; refine ⟨_, rfl, ?_⟩; have n0_ := Aside0.mk (blk_below (g := gb436) (o := .cells #[.int .i64 a0_0, .slice A0_1 l0_1.length c0_1] 31 (0, 0)) (by (with_reducible repeat (first | refine kN ?_ _ | refine kD ?_ | refine kA ?_ _)); exact BK436.out) hb); have n1_ := Aside0.mk (below_step (by repeat (first | (with_reducible first | exact HB.out | apply bA | apply bN | apply bD | refine bS ?_ GE436.out) | exact HB.out)) hb); clear BK436; clear HB; have BK436 := n0_; have HB := n1_; clear n0_ n1_; (try clear hb); (try clear hb2); (try clear hk); (try clear hi)))
   go_meet
   case rel => exact ⟨_, (decide ((l1.length : Int) > 20)), (by first | rfl | (simp; done) | (simp [*]; done)), H', ⟨by first | omega | exact Nat.le_refl _⟩, ⟨by (with_reducible repeat (first | refine kN ?_ _ | refine kD ?_ | refine kA ?_ _)); exact BK436.out⟩, ⟨by repeat (first | (with_reducible first | exact HB.out | apply bA | apply bN | apply bD | refine bS ?_ GE436.out) | exact HB.out)⟩⟩
  ·replace c6 := Bool.eq_false_iff.mpr c6
   subst c6
   have H1 : (impl_FirstBroken.j0 k l1 true a0_0 l0_1) = some (r1, r2) := by rw [if_neg (show ¬ (false = true) by decide)] at H; exact H
   clear H
   have H := H1
   clear H1
   have H' := Aside0.mk H
   clear H
   have hcz9_0 : w4.cell? ⟨gb436, 0, none⟩ = some (.int .i64 a0_0) := (blk_cell BK436.out 0).trans rfl
   have hcz9_1 : w4.cell? ⟨gb436, 1, none⟩ = some (.slice A0_1 l0_1.length c0_1) := (blk_cell BK436.out 1).trans rfl
   have hfz9_0 := blk_frozen BK436.out 0
   have hfz9_1 := blk_frozen BK436.out 1
   go_wp2_with (first | ((with_reducible refine gate_callee (f := 53) rfl ?_); refine goesL_ (some 12) rfl rfl Try.func53 (by kernel_rfl) rfl #[.agg #[.int .i64 a0_0, .slice A0_1 l0_1.length c0_1]] rfl (by (try simp only [List.map_toArray, List.map_cons, List.map_nil]); first | done | rfl | (simp only [List.length_drop, List.length_take]; rfl)) ?_; (with_reducible refine (impl_IsAlgebra.calls k a0_0 _ _ l0_1 false _ ?side1 ?side2 A5.out).mono ?_); (case side1 => repeat (first | exact (Kd.C_below HR0_1.out HB.out) | (with_reducible refine Kd.C_alloc ?_ _) | (with_reducible refine Kd.C_drewN ?_ _) | (with_reducible refine Kd.C_drew ?_))); (case side2 => exact HC0_1.out); rintro e w10 ⟨rfl, hb⟩; refine ⟨_, rfl, ?_⟩; have n0_ := Aside0.mk (blk_below (g := gb436) (o := .cells #[.int .i64 a0_0, .slice A0_1 l0_1.length c0_1] 31 (0, 0)) (by (with_reducible repeat (first | refine kN ?_ _ | refine kD ?_ | refine kA ?_ _)); exact BK436.out) hb); have n1_ := Aside0.mk (below_step (by repeat (first | (with_reducible first | exact HB.out | apply bA | apply bN | apply bD | refine bS ?_ GE436.out) | exact HB.out)) hb); clear BK436; clear HB; have BK436 := n0_; have HB := n1_; clear n0_ n1_; (try clear hb); (try clear hb2); (try clear hk); (try clear hi)))
   go_meet
   case rel => exact ⟨_, (true), (by first | rfl | (simp; done) | (simp [*]; done)), H', ⟨by first | omega | exact Nat.le_refl _⟩, ⟨by (with_reducible repeat (first | refine kN ?_ _ | refine kD ?_ | refine kA ?_ _)); exact BK436.out⟩, ⟨by repeat (first | (with_reducible first | exact HB.out | apply bA | apply bN | apply bD | refine bS ?_ GE436.out) | exact HB.out)⟩⟩
 case rest =>
  clear HC3
  try clear c1
  try clear c2
  try clear p2
  try clear c5
  try clear c6
  try clear hcz7_0
  try clear hcz7_1
  try clear hcz9_0
  try clear hcz9_1
  try clear hfz7_0
  try clear hfz7_1
  try clear hfz9_0
  try clear hfz9_1
  obtain ⟨kq, x18_2, rfl, HA, HJ2, BK436, HB⟩ := hcut
  cases kq with
  | zero => exact absurd HA.out (by simp [impl_FirstBroken.j0])
  | succ kj2 =>
   have H := HA.out
   clear HA
   simp only [impl_FirstBroken.j0] at H
   by_cases c11 : x18_2 = true
   ·subst c11
    have H1 : (some (0, false)) = some (r1, r2) := by rw [if_pos rfl] at H; exact H
    clear H
    have H := H1
    clear H1
    simp only [Option.some.injEq, Prod.mk.injEq] at H
    obtain ⟨rfl, rfl⟩ := H
    go_wp2
    go_ret2
    exact ⟨by first | rfl | (simp [*, errW_none, errW_some] <;> rfl), by repeat (first | (with_reducible first | exact HB.out | apply bA | apply bN | apply bD | refine bS ?_ GE436.out) | exact HB.out)⟩
   ·replace c11 := Bool.eq_false_iff.mpr c11
    subst c11
    have H1 : (impl_FirstBroken.l0 kj2 (-1) l1 (l1.length : Int) 0 a0_0 l0_1) = some (r1, r2) := by rw [if_neg (show ¬ (false = true) by decide)] at H; exact H
    clear H
    have H := H1
    clear H1
    have H' := Aside0.mk H
    clear H
    go_wp2
    go_loopg [6, 21] kj2 (fun kq v6 v21 w' => ∃ (x6_2 : Int) (x21_2 : Int), v6 = .int .i64 x6_2 ∧ v21 = .int .i64 x21_2 ∧ Aside0 (impl_FirstBroken.l0 kq x6_2 l1 (l1.length : Int) x21_2 a0_0 l0_1 = some (r1, r2)) ∧ Aside0 (kq ≤ kj2) ∧ Aside0 (w'.heap[gb436]? = some (.cells #[.int .i64 a0_0, (.slice A0_1 l0_1.length c0_1)] 31 (0, 0))) ∧ Aside0 (Below w.heap.size w w'))
    case atStart => exact ⟨((-1)), (0), (by first | rfl | (simp; done) | (simp [*]; done)), (by first | rfl | (simp; done) | (simp [*]; done)), H', ⟨Nat.le_refl _⟩, ⟨by (with_reducible repeat (first | refine kN ?_ _ | refine kD ?_ | refine kA ?_ _)); exact BK436.out⟩, ⟨by repeat (first | (with_reducible first | exact HB.out | apply bA | apply bN | apply bD | refine bS ?_ GE436.out) | exact HB.out)⟩⟩
    case round =>
     clear H'
     try clear c1
     try clear c2
     try clear p2
     try clear c5
     try clear c6
     try clear c11
     try clear hcz7_0
     try clear hcz7_1
     try clear hcz9_0
     try clear hcz9_1
     try clear hfz7_0
     try clear hfz7_1
     try clear hfz9_0
     try clear hfz9_1
     try clear p2
     obtain ⟨x6_2, x21_2, rfl, rfl, HA, HK2, BK436, HB⟩ := hrel
     cases gk with
     | zero => exact absurd HA.out (by simp [impl_FirstBroken.l0])
     | succ k2 =>
      have H := HA.out
      clear HA
      simp only [impl_FirstBroken.l0] at H
      by_cases c12 : x21_2 < (l1.length : Int)
      ·rw [if_pos c12] at H
       have c12b0 : decide (x21_2 < (l1.length : Int)) = true := decide_eq_true c12
       clear c12
       by_cases c13 : 0 ≤ x21_2
       ·rw [if_pos c13] at H
        have c13b0 : decide (0 ≤ x21_2) = true := decide_eq_true c13
        clear c13
        by_cases c14 : x21_2 < (l1.length : Int)
        ·rw [if_pos c14] at H
         have c14b0 : decide (x21_2 < (l1.length : Int)) = true := decide_eq_true c14
         clear c14
         replace H := Option.bind_eq_some_iff.mp H
         obtain ⟨⟨t440, t441⟩, A150, H⟩ := H
         replace H : (if t441 = true then (if t440 = true then (impl_FirstBroken.l0 k2 x6_2 l1 (l1.length : Int) (wrap64 (x21_2 + 1)) a0_0 l0_1) else (if x6_2 < 0 then (impl_FirstBroken.l0 k2 x21_2 l1 (l1.length : Int) (wrap64 (x21_2 + 1)) a0_0 l0_1) else (impl_FirstBroken.l0 k2 x6_2 l1 (l1.length : Int) (wrap64 (x21_2 + 1)) a0_0 l0_1))) else (some (0, false))) = some (r1, r2) := H
         have A15 := Aside0.mk A150
         clear A150
         by_cases c16 : t441 = true
         ·subst c16
          have H1 : (if t440 = true then (impl_FirstBroken.l0 k2 x6_2 l1 (l1.length : Int) (wrap64 (x21_2 + 1)) a0_0 l0_1) else (if x6_2 < 0 then (impl_FirstBroken.l0 k2 x21_2 l1 (l1.length : Int) (wrap64 (x21_2 + 1)) a0_0 l0_1) else (impl_FirstBroken.l0 k2 x6_2 l1 (l1.length : Int) (wrap64 (x21_2 + 1)) a0_0 l0_1))) = some (r1, r2) := by rw [if_pos rfl] at H; exact H
          clear H
          have H := H1
          clear H1
          by_cases c17 : t440 = true
          ·subst c17
           have H1 : (impl_FirstBroken.l0 k2 x6_2 l1 (l1.length : Int) (wrap64 (x21_2 + 1)) a0_0 l0_1) = some (r1, r2) := by rw [if_pos rfl] at H; exact H
           clear H
           have H := H1
           clear H1
           have H' := Aside0.mk H
           clear H
           have p438 : 0 ≤ (x21_2 : Int) := of_decide_eq_true (by first | (with_reducible assumption) | assumption)
           have q438 : x21_2 < (l1.length : Int) := of_decide_eq_true (by first | (with_reducible assumption) | assumption)
           obtain ⟨ad438, A438_0, c438_0, A438_1, c438_1, e438, hx438_0, hx438_1, hl438_0, hi438_0, hl438_1, hi438_1⟩ := at_T44 HR1.out x21_2 p438 q438
           cases e438
           replace hx438_0 := (HB.out.cell (World.block_lt_of_cell? w _ hx438_0)).trans hx438_0
           replace hx438_1 := (HB.out.cell (World.block_lt_of_cell? w _ hx438_1)).trans hx438_1
           have HR438_0 := Aside0.mk hi438_0
           have HC438_0 := Aside0.mk hl438_0
           clear hi438_0 hl438_0
           have HR438_1 := Aside0.mk hi438_1
           have HC438_1 := Aside0.mk hl438_1
           clear hi438_1 hl438_1
           replace p438 := eq_true p438
           replace q438 := eq_true q438
           go_wp2_with (first | ((with_reducible refine gate_dst (N := 8) rfl ?_); (try (refine gate_guard (by rfl) ?_; dsimp only)); refine box_event ?hg (N := 8) ?hd (cs := #[.slice none 0 0, .slice none 0 0]) (t := 44) ?hr ?_; (case hd => rfl); (case hg => rfl); (case hr => first | (go_simp; done) | (go_simp; rfl)); intro gb439 hg w18 hbox hb; have n0_ := Aside0.mk (blk_below (g := gb436) (o := .cells #[.int .i64 a0_0, .slice A0_1 l0_1.length c0_1] 31 (0, 0)) (by (with_reducible repeat (first | refine kN ?_ _ | refine kD ?_ | refine kA ?_ _)); exact BK436.out) hb); have n1_ := Aside0.mk (below_step (by repeat (first | (with_reducible first | exact HB.out | apply bA | apply bN | apply bD | refine bS ?_ GE436.out) | exact HB.out)) hb); have n2_ := Aside0.mk (hbox); have n3_ := Aside0.mk ((by rw [hg]; exact (below_size (by repeat (first | (with_reducible first | exact HB.out | apply bA | apply bN | apply bD | refine bS ?_ GE436.out) | exact HB.out))) : w.heap.size ≤ gb439)); have n4_ := Aside0.mk ((by rw [hg]; exact (below_size (by repeat (first | (with_reducible first | exact HB.out | apply bA | apply bN | apply bD | refine bS ?_ GE436.out) | exact HB.out))) : w.heap.size ≤ gb439)); have n5_ := Aside0.mk ((by rw [hg]; exact Nat.ne_of_lt (blk_lt (g := gb436) (o := .cells #[.int .i64 a0_0, .slice A0_1 l0_1.length c0_1] 31 (0, 0)) (by (with_reducible repeat (first | refine kN ?_ _ | refine kD ?_ | refine kA ?_ _)); exact BK436.out)) : gb436 ≠ gb439)); have n6_ := Aside0.mk ((by rw [hg]; exact Nat.ne_of_gt (blk_lt (g := gb436) (o := .cells #[.int .i64 a0_0, .slice A0_1 l0_1.length c0_1] 31 (0, 0)) (by (with_reducible repeat (first | refine kN ?_ _ | refine kD ?_ | refine kA ?_ _)); exact BK436.out)) : gb439 ≠ gb436)); clear BK436; clear HB; have BK436 := n0_; have HB := n1_; have BK439 := n2_; have GW439 := n3_; have GE439 := n4_; have NB436_439 := n5_; have NB439_436 := n6_; clear n0_ n1_ n2_ n3_ n4_ n5_ n6_; clear hb hbox hg; have hnb19 := NB439_436.out; have hnc19 := NB436_439.out; have hcz20_0 : w18.cell? ⟨gb439, 0, none⟩ = some (.slice none 0 0) := (blk_cell BK439.out 0).trans rfl; have hcz20_1 : w18.cell? ⟨gb439, 1, none⟩ = some (.slice none 0 0) := (blk_cell BK439.out 1).trans rfl; have hfz20_0 := blk_frozen BK439.out 0; have hfz20_1 := blk_frozen BK439.out 1; have hcz21_0 : w18.cell? ⟨gb436, 0, none⟩ = some (.int .i64 a0_0) := (blk_cell BK436.out 0).trans rfl; have hcz21_1 : w18.cell? ⟨gb436, 1, none⟩ = some (.slice A0_1 l0_1.length c0_1) := (blk_cell BK436.out 1).trans rfl; have hfz21_0 := blk_frozen BK436.out 0; have hfz21_1 := blk_frozen BK436.out 1) | ((with_reducible refine gate_callee (f := 24) rfl ?_); refine goesL_ (some 29) rfl rfl Try.func24 (by kernel_rfl) rfl #[.agg #[.int .i64 a0_0, .slice A0_1 l0_1.length c0_1], .agg #[.slice A438_0 ((rd_T44 l1 x21_2).f0).length c438_0, .slice A438_1 ((rd_T44 l1 x21_2).f1).length c438_1]] rfl (by (try simp only [List.map_toArray, List.map_cons, List.map_nil]); first | done | rfl | (simp only [List.length_drop, List.length_take]; rfl)) ?_; (with_reducible refine (impl_DoesHold.calls k2 a0_0 _ _ l0_1 _ _ ((rd_T44 l1 x21_2).f0) _ _ ((rd_T44 l1 x21_2).f1) true true _ ?side1 ?side2 ?side3 ?side4 ?side5 ?side6 A15.out).mono ?_); (case side1 => exact Kd.C_below HR0_1.out (by repeat (first | (with_reducible first | exact HB.out | apply bA | apply bN | apply bD | refine bS ?_ GE436.out | refine bS ?_ GE439.out) | exact HB.out))); (case side2 => exact HC0_1.out); (case side3 => exact Kd.C_below HR438_0.out (by repeat (first | (with_reducible first | exact HB.out | apply bA | apply bN | apply bD | refine bS ?_ GE436.out | refine bS ?_ GE439.out) | exact HB.out))); (case side4 => exact HC438_0.out); (case side5 => exact Kd.C_below HR438_1.out (by repeat (first | (with_reducible first | exact HB.out | apply bA | apply bN | apply bD | refine bS ?_ GE436.out | refine bS ?_ GE439.out) | exact HB.out))); (case side6 => exact HC438_1.out); rintro e w22 ⟨rfl, hb⟩; refine ⟨_, rfl, ?_⟩; have n0_ := Aside0.mk (blk_below (g := gb436) (o := .cells #[.int .i64 a0_0, .slice A0_1 l0_1.length c0_1] 31 (0, 0)) (by (with_reducible repeat (first | refine kN ?_ _ | refine kD ?_ | refine kA ?_ _)); refine blk_far ?_ NB436_439.out _; (with_reducible repeat (first | refine kN ?_ _ | refine kD ?_ | refine kA ?_ _)); refine blk_far ?_ NB436_439.out _; (with_reducible repeat (first | refine kN ?_ _ | refine kD ?_ | refine kA ?_ _)); exact BK436.out) hb); have n1_ := Aside0.mk (blk_below (g := gb439) (o := .cells #[.slice A438_0 ((rd_T44 l1 x21_2).f0).length c438_0, .slice A438_1 ((rd_T44 l1 x21_2).f1).length c438_1] 44 (0, 0)) (by (with_reducible repeat (first | refine kN ?_ _ | refine kD ?_ | refine kA ?_ _)); refine blk_put (cs := #[.slice A438_0 ((rd_T44 l1 x21_2).f0).length c438_0, .slice none 0 0]) ?_ 1 _ rfl; (with_reducible repeat (first | refine kN ?_ _ | refine kD ?_ | refine kA ?_ _)); refine blk_put (cs := #[.slice none 0 0, .slice none 0 0]) ?_ 0 _ rfl; (with_reducible repeat (first | refine kN ?_ _ | refine kD ?_ | refine kA ?_ _)); exact BK439.out) hb); have n2_ := Aside0.mk (below_step (by repeat (first | (with_reducible first | exact HB.out | apply bA | apply bN | apply bD | refine bS ?_ GE436.out | refine bS ?_ GE439.out) | exact HB.out)) hb); clear BK436; clear BK439; clear HB; have BK436 := n0_; have BK439 := n1_; have HB := n2_; clear n0_ n1_ n2_; (try clear hb); (try clear hb2); (try clear hk); (try clear hi)))
           go_roundg k2
           case measure => have := HJ2.out; have := HK2.out; omega
           case rel => exact ⟨(x6_2), (wrap64 (x21_2 + 1)), (by first | rfl | (simp; done) | (simp [*]; done)), (by first | rfl | (simp; done) | (simp [*]; done)), H', ⟨by have := HJ2.out; have := HK2.out; omega⟩, ⟨by (with_reducible repeat (first | refine kN ?_ _ | refine kD ?_ | refine kA ?_ _)); exact BK436.out⟩, ⟨by repeat (first | (with_reducible first | exact HB.out | apply bA | apply bN | apply bD | refine bS ?_ GE436.out | refine bS ?_ GE439.out) | exact HB.out)⟩⟩
          ·replace c17 := Bool.eq_false_iff.mpr c17
           subst c17
           have H1 : (if x6_2 < 0 then (impl_FirstBroken.l0 k2 x21_2 l1 (l1.length : Int) (wrap64 (x21_2 + 1)) a0_0 l0_1) else (impl_FirstBroken.l0 k2 x6_2 l1 (l1.length : Int) (wrap64 (x21_2 + 1)) a0_0 l0_1)) = some (r1, r2) := by rw [if_neg (show ¬ (false = true) by decide)] at H; exact H
           clear H
           have H := H1
           clear H1
           by_cases c23 : x6_2 < 0
           ·rw [if_pos c23] at H
            have c23b0 : decide (x6_2 < 0) = true := decide_eq_true c23
            clear c23
            have H' := Aside0.mk H
            clear H
            have p438 : 0 ≤ (x21_2 : Int) := of_decide_eq_true (by first | (with_reducible assumption) | assumption)
            have q438 : x21_2 < (l1.length : Int) := of_decide_eq_true (by first | (with_reducible assumption) | assumption)
            obtain ⟨ad438, A438_0, c438_0, A438_1, c438_1, e438, hx438_0, hx438_1, hl438_0, hi438_0, hl438_1, hi438_1⟩ := at_T44 HR1.out x21_2 p438 q438
            cases e438
            replace hx438_0 := (HB.out.cell (World.block_lt_of_cell? w _ hx438_0)).trans hx438_0
            replace hx438_1 := (HB.out.cell (World.block_lt_of_cell? w _ hx438_1)).trans hx438_1
            have HR438_0 := Aside0.mk hi438_0
            have HC438_0 := Aside0.mk hl438_0
            clear hi438_0 hl438_0
            have HR438_1 := Aside0.mk hi438_1
            have HC438_1 := Aside0.mk hl438_1
            clear hi438_1 hl438_1
            replace p438 := eq_true p438
            replace q438 := eq_true q438
            go_wp2_with (first | ((with_reducible refine gate_dst (N := 8) rfl ?_); (try (refine gate_guard (by rfl) ?_; dsimp only)); refine box_event ?hg (N := 8) ?hd (cs := #[.slice none 0 0, .slice none 0 0]) (t := 44) ?hr ?_; (case hd => rfl); (case hg => rfl); (case hr => first | (go_simp; done) | (go_simp; rfl)); intro gb439 hg w24 hbox hb; have n0_ := Aside0.mk (blk_below (g := gb436) (o := .cells #[.int .i64 a0_0, .slice A0_1 l0_1.length c0_1] 31 (0, 0)) (by (with_reducible repeat (first | refine kN ?_ _ | refine kD ?_ | refine kA ?_ _)); exact BK436.out) hb); have n1_ := Aside0.mk (below_step (by repeat (first | (with_reducible first | exact HB.out | apply bA | apply bN | apply bD | refine bS ?_ GE436.out) | exact HB.out)) hb); have n2_ := Aside0.mk (hbox); have n3_ := Aside0.mk ((by rw [hg]; exact (below_size (by repeat (first | (with_reducible first | exact HB.out | apply bA | apply bN | apply bD | refine bS ?_ GE436.out) | exact HB.out))) : w.heap.size ≤ gb439)); have n4_ := Aside0.mk ((by rw [hg]; exact (below_size (by repeat (first | (with_reducible first | exact HB.out | apply bA | apply bN | apply bD | refine bS ?_ GE436.out) | exact HB.out))) : w.heap.size ≤ gb439)); have n5_ := Aside0.mk ((by rw [hg]; exact Nat.ne_of_lt (blk_lt (g := gb436) (o := .cells #[.int .i64 a0_0, .slice A0_1 l0_1.length c0_1] 31 (0, 0)) (by (with_reducible repeat (first | refine kN ?_ _ | refine kD ?_ | refine kA ?_ _)); exact BK436.out)) : gb436 ≠ gb439)); have n6_ := Aside0.mk ((by rw [hg]; exact Nat.ne_of_gt (blk_lt (g := gb436) (o := .cells #[.int .i64 a0_0, .slice A0_1 l0_1.length c0_1] 31 (0, 0)) (by (with_reducible repeat (first | refine kN ?_ _ | refine kD ?_ | refine kA ?_ _)); exact BK436.out)) : gb439 ≠ gb436)); clear BK436; clear HB; have BK436 := n0_; have HB := n1_; have BK439 := n2_; have GW439 := n3_; have GE439 := n4_; have NB436_439 := n5_; have NB439_436 := n6_; clear n0_ n1_ n2_ n3_ n4_ n5_ n6_; clear hb hbox hg; have hnb25 := NB439_436.out; have hnc25 := NB436_439.out; have hcz26_0 : w24.cell? ⟨gb439, 0, none⟩ = some (.slice none 0 0) := (blk_cell BK439.out 0).trans rfl; have hcz26_1 : w24.cell? ⟨gb439, 1, none⟩ = some (.slice none 0 0) := (blk_cell BK439.out 1).trans rfl; have hfz26_0 := blk_frozen BK439.out 0; have hfz26_1 := blk_frozen BK439.out 1; have hcz27_0 : w24.cell? ⟨gb436, 0, none⟩ = some (.int .i64 a0_0) := (blk_cell BK436.out 0).trans rfl; have hcz27_1 : w24.cell? ⟨gb436, 1, none⟩ = some (.slice A0_1 l0_1.length c0_1) := (blk_cell BK436.out 1).trans rfl; have hfz27_0 := blk_frozen BK436.out 0; have hfz27_1 := blk_frozen BK436.out 1) | ((with_reducible refine gate_callee (f := 24) rfl ?_); refine goesL_ (some 29) rfl rfl Try.func24 (by kernel_rfl) rfl #[.agg #[.int .i64 a0_0, .slice A0_1 l0_1.length c0_1], .agg #[.slice A438_0 ((rd_T44 l1 x21_2).f0).length c438_0, .slice A438_1 ((rd_T44 l1 x21_2).f1).length c438_1]] rfl (by (try simp only [List.map_toArray, List.map_cons, List.map_nil]); first | done | rfl | (simp only [List.length_drop, List.length_take]; rfl)) ?_; (with_reducible refine (impl_DoesHold.calls k2 a0_0 _ _ l0_1 _ _ ((rd_T44 l1 x21_2).f0) _ _ ((rd_T44 l1 x21_2).f1) false true _ ?side1 ?side2 ?side3 ?side4 ?side5 ?side6 A15.out).mono ?_); (case side1 => exact Kd.C_below HR0_1.out (by repeat (first | (with_reducible first | exact HB.out | apply bA | apply bN | apply bD | refine bS ?_ GE436.out | refine bS ?_ GE439.out) | exact HB.out))); (case side2 => exact HC0_1.out); (case side3 => exact Kd.C_below HR438_0.out (by repeat (first | (with_reducible first | exact HB.out | apply bA | apply bN | apply bD | refine bS ?_ GE436.out | refine bS ?_ GE439.out) | exact HB.out))); (case side4 => exact HC438_0.out); (case side5 => exact Kd.C_below HR438_1.out (by repeat (first | (with_reducible first | exact HB.out | apply bA | apply bN | apply bD | refine bS ?_ GE436.out | refine bS ?_ GE439.out) | exact HB.out))); (case side6 => exact HC438_1.out); rintro e w28 ⟨rfl, hb⟩; refine ⟨_, rfl, ?_⟩; have n0_ := Aside0.mk (blk_below (g := gb436) (o := .cells #[.int .i64 a0_0, .slice A0_1 l0_1.length c0_1] 31 (0, 0)) (by (with_reducible repeat (first | refine kN ?_ _ | refine kD ?_ | refine kA ?_ _)); refine blk_far ?_ NB436_439.out _; (with_reducible repeat (first | refine kN ?_ _ | refine kD ?_ | refine kA ?_ _)); refine blk_far ?_ NB436_439.out _; (with_reducible repeat (first | refine kN ?_ _ | refine kD ?_ | refine kA ?_ _)); exact BK436.out) hb); have n1_ := Aside0.mk (blk_below (g := gb439) (o := .cells #[.slice A438_0 ((rd_T44 l1 x21_2).f0).length c438_0, .slice A438_1 ((rd_T44 l1 x21_2).f1).length c438_1] 44 (0, 0)) (by (with_reducible repeat (first | refine kN ?_ _ | refine kD ?_ | refine kA ?_ _)); refine blk_put (cs := #[.slice A438_0 ((rd_T44 l1 x21_2).f0).length c438_0, .slice none 0 0]) ?_ 1 _ rfl; (with_reducible repeat (first | refine kN ?_ _ | refine kD ?_ | refine kA ?_ _)); refine blk_put (cs := #[.slice none 0 0, .slice none 0 0]) ?_ 0 _ rfl; (with_reducible repeat (first | refine kN ?_ _ | refine kD ?_ | refine kA ?_ _)); exact BK439.out) hb); have n2_ := Aside0.mk (below_step (by repeat (first | (with_reducible first | exact HB.out | apply bA | apply bN | apply bD | refine bS ?_ GE436.out | refine bS ?_ GE439.out) | exact HB.out)) hb); clear BK436; clear BK439; clear HB; have BK436 := n0_; have BK439 := n1_; have HB := n2_; clear n0_ n1_ n2_; (try clear hb); (try clear hb2); (try clear hk); (try clear hi)))
            go_roundg k2
            case measure => have := HJ2.out; have := HK2.out; omega
            case rel => exact ⟨(x21_2), (wrap64 (x21_2 + 1)), (by first | rfl | (simp; done) | (simp [*]; done)), (by first | rfl | (simp; done) | (simp [*]; done)), H', ⟨by have := HJ2.out; have := HK2.out; omega⟩, ⟨by (with_reducible repeat (first | refine kN ?_ _ | refine kD ?_ | refine kA ?_ _)); exact BK436.out⟩, ⟨by repeat (first | (with_reducible first | exact HB.out | apply bA | apply bN | apply bD | refine bS ?_ GE436.out | refine bS ?_ GE439.out) | exact HB.out)⟩⟩
           ·rw [if_neg c23] at H
            have c23b0 : decide (x6_2 < 0) = false := decide_eq_false c23
            clear c23
            have H' := Aside0.mk H
            clear H
            have p438 : 0 ≤ (x21_2 : Int) := of_decide_eq_true (by first | (with_reducible assumption) | assumption)
            have q438 : x21_2 < (l1.length : Int) := of_decide_eq_true (by first | (with_reducible assumption) | assumption)
            obtain ⟨ad438, A438_0, c438_0, A438_1, c438_1, e438, hx438_0, hx438_1, hl438_0, hi438_0, hl438_1, hi438_1⟩ := at_T44 HR1.out x21_2 p438 q438
            cases e438
            replace hx438_0 := (HB.out.cell (World.block_lt_of_cell? w _ hx438_0)).trans hx438_0
            replace hx438_1 := (HB.out.cell (World.block_lt_of_cell? w _ hx438_1)).trans hx438_1
            have HR438_0 := Aside0.mk hi438_0
            have HC438_0 := Aside0.mk hl438_0
            clear hi438_0 hl438_0
            have HR438_1 := Aside0.mk hi438_1
            have HC438_1 := Aside0.mk hl438_1
            clear hi438_1 hl438_1
            replace p438 := eq_true p438
            replace q438 := eq_true q438
            go_wp2_with (first | ((with_reducible refine gate_dst (N := 8) rfl ?_); (try (refine gate_guard (by rfl) ?_; dsimp only)); refine box_event ?hg (N := 8) ?hd (cs := #[.slice none 0 0, .slice none 0 0]) (t := 44) ?hr ?_; (case hd => rfl); (case hg => rfl); (case hr => first | (go_simp; done) | (go_simp; rfl)); intro gb439 hg w29 hbox hb; have n0_ := Aside0.mk (blk_below (g := gb436) (o := .cells #[.int .i64 a0_0, .slice A0_1 l0_1.length c0_1] 31 (0, 0)) (by (with_reducible repeat (first | refine kN ?_ _ | refine kD ?_ | refine kA ?_ _)); exact BK436.out) hb); have n1_ := Aside0.mk (below_step (by repeat (first | (with_reducible first | exact HB.out | apply bA | apply bN | apply bD | refine bS ?_ GE436.out) | exact HB.out)) hb); have n2_ := Aside0.mk (hbox); have n3_ := Aside0.mk ((by rw [hg]; exact (below_size (by repeat (first | (with_reducible first | exact HB.out | apply bA | apply bN | apply bD | refine bS ?_ GE436.out) | exact HB.out))) : w.heap.size ≤ gb439)); have n4_ := Aside0.mk ((by rw [hg]; exact (below_size (by repeat (first | (with_reducible first | exact HB.out | apply bA | apply bN | apply bD | refine bS ?_ GE436.out) | exact HB.out))) : w.heap.size ≤ gb439)); have n5_ := Aside0.mk ((by rw [hg]; exact Nat.ne_of_lt (blk_lt (g := gb436) (o := .cells #[.int .i64 a0_0, .slice A0_1 l0_1.length c0_1] 31 (0, 0)) (by (with_reducible repeat (first | refine kN ?_ _ | refine kD ?_ | refine kA ?_ _)); exact BK436.out)) : gb436 ≠ gb439)); have n6_ := Aside0.mk ((by rw [hg]; exact Nat.ne_of_gt (blk_lt (g := gb436) (o := .cells #[.int .i64 a0_0, .slice A0_1 l0_1.length c0_1] 31 (0, 0)) (by (with_reducible repeat (first | refine kN ?_ _ | refine kD ?_ | refine kA ?_ _)); exact BK436.out)) : gb439 ≠ gb436)); clear BK436; clear HB; have BK436 := n0_; have HB := n1_; have BK439 := n2_; have GW439 := n3_; have GE439 := n4_; have NB436_439 := n5_; have NB439_436 := n6_; clear n0_ n1_ n2_ n3_ n4_ n5_ n6_; clear hb hbox hg; have hnb30 := NB439_436.out; have hnc30 := NB436_439.out; have hcz31_0 : w29.cell? ⟨gb439, 0, none⟩ = some (.slice none 0 0) := (blk_cell BK439.out 0).trans rfl; have hcz31_1 : w29.cell? ⟨gb439, 1, none⟩ = some (.slice none 0 0) := (blk_cell BK439.out 1).trans rfl; have hfz31_0 := blk_frozen BK439.out 0; have hfz31_1 := blk_frozen BK439.out 1; have hcz32_0 : w29.cell? ⟨gb436, 0, none⟩ = some (.int .i64 a0_0) := (blk_cell BK436.out 0).trans rfl; have hcz32_1 : w29.cell? ⟨gb436, 1, none⟩ = some (.slice A0_1 l0_1.length c0_1) := (blk_cell BK436.out 1).trans rfl; have hfz32_0 := blk_frozen BK436.out 0; have hfz32_1 := blk_frozen BK436.out 1) | ((with_reducible refine gate_callee (f := 24) rfl ?_); refine goesL_ (some 29) rfl rfl Try.func24 (by kernel_rfl) rfl #[.agg #[.int .i64 a0_0, .slice A0_1 l0_1.length c0_1], .agg #[.slice A438_0 ((rd_T44 l1 x21_2).f0).length c438_0, .slice A438_1 ((rd_T44 l1 x21_2).f1).length c438_1]] rfl (by (try simp only [List.map_toArray, List.map_cons, List.map_nil]); first | done | rfl | (simp only [List.length_drop, List.length_take]; rfl)) ?_; (with_reducible refine (impl_DoesHold.calls k2 a0_0 _ _ l0_1 _ _ ((rd_T44 l1 x21_2).f0) _ _ ((rd_T44 l1 x21_2).f1) false true _ ?side1 ?side2 ?side3 ?side4 ?side5 ?side6 A15.out).mono ?_); (case side1 => exact Kd.C_below HR0_1.out (by repeat (first | (with_reducible first | exact HB.out | apply bA | apply bN | apply bD | refine bS ?_ GE436.out | refine bS ?_ GE439.out) | exact HB.out))); (case side2 => exact HC0_1.out); (case side3 => exact Kd.C_below HR438_0.out (by repeat (first | (with_reducible first | exact HB.out | apply bA | apply bN | apply bD | refine bS ?_ GE436.out | refine bS ?_ GE439.out) | exact HB.out))); (case side4 => exact HC438_0.out); (case side5 => exact Kd.C_below HR438_1.out (by repeat (first | (with_reducible first | exact HB.out | apply bA | apply bN | apply bD | refine bS ?_ GE436.out | refine bS ?_ GE439.out) | exact HB.out))); (case side6 => exact HC438_1.out); rintro e w33 ⟨rfl, hb⟩; refine ⟨_, rfl, ?_⟩; have n0_ := Aside0.mk (blk_below (g := gb436) (o := .cells #[.int .i64 a0_0, .slice A0_1 l0_1.length c0_1] 31 (0, 0)) (by (with_reducible repeat (first | refine kN ?_ _ | refine kD ?_ | refine kA ?_ _)); refine blk_far ?_ NB436_439.out _; (with_reducible repeat (first | refine kN ?_ _ | refine kD ?_ | refine kA ?_ _)); refine blk_far ?_ NB436_439.out _; (with_reducible repeat (first | refine kN ?_ _ | refine kD ?_ | refine kA ?_ _)); exact BK436.out) hb); have n1_ := Aside0.mk (blk_below (g := gb439) (o := .cells #[.slice A438_0 ((rd_T44 l1 x21_2).f0).length c438_0, .slice A438_1 ((rd_T44 l1 x21_2).f1).length c438_1] 44 (0, 0)) (by (with_reducible repeat (first | refine kN ?_ _ | refine kD ?_ | refine kA ?_ _)); refine blk_put (cs := #[.slice A438_0 ((rd_T44 l1 x21_2).f0).length c438_0, .slice none 0 0]) ?_ 1 _ rfl; (with_reducible repeat (first | refine kN ?_ _ | refine kD ?_ | refine kA ?_ _)); refine blk_put (cs := #[.slice none 0 0, .slice none 0 0]) ?_ 0 _ rfl; (with_reducible repeat (first | refine kN ?_ _ | refine kD ?_ | refine kA ?_ _)); exact BK439.out) hb); have n2_ := Aside0.mk (below_step (by repeat (first | (with_reducible first | exact HB.out | apply bA | apply bN | apply bD | refine bS ?_ GE436.out | refine bS ?_ GE439.out) | exact HB.out)) hb); clear BK436; clear BK439; clear HB; have BK436 := n0_; have BK439 := n1_; have HB := n2_; clear n0_ n1_ n2_; (try clear hb); (try clear hb2); (try clear hk); (try clear hi)))
            go_roundg k2
            case measure => have := HJ2.out; have := HK2.out; omega
            case rel => exact ⟨(x6_2), (wrap64 (x21_2 + 1)), (by first | rfl | (simp; done) | (simp [*]; done)), (by first | rfl | (simp; done) | (simp [*]; done)), H', ⟨by have := HJ2.out; have := HK2.out; omega⟩, ⟨by (with_reducible repeat (first | refine kN ?_ _ | refine kD ?_ | refine kA ?_ _)); exact BK436.out⟩, ⟨by repeat (first | (with_reducible first | exact HB.out | apply bA | apply bN | apply bD | refine bS ?_ GE436.out | refine bS ?_ GE439.out) | exact HB.out)⟩⟩
         ·replace c16 := Bool.eq_false_iff.mpr c16
          subst c16
          have H1 : (some (0, false)) = some (r1, r2) := by rw [if_neg (show ¬ (false = true) by decide)] at H; exact H
          clear H
          have H := H1
          clear H1
          simp only [Option.some.injEq, Prod.mk.injEq] at H
          obtain ⟨rfl, rfl⟩ := H
          have p438 : 0 ≤ (x21_2 : Int) := of_decide_eq_true (by first | (with_reducible assumption) | assumption)
          have q438 : x21_2 < (l1.length : Int) := of_decide_eq_true (by first | (with_reducible assumption) | assumption)
          obtain ⟨ad438, A438_0, c438_0, A438_1, c438_1, e438, hx438_0, hx438_1, hl438_0, hi438_0, hl438_1, hi438_1⟩ := at_T44 HR1.out x21_2 p438 q438
          cases e438
          replace hx438_0 := (HB.out.cell (World.block_lt_of_cell? w _ hx438_0)).trans hx438_0
          replace hx438_1 := (HB.out.cell (World.block_lt_of_cell? w _ hx438_1)).trans hx438_1
          have HR438_0 := Aside0.mk hi438_0
          have HC438_0 := Aside0.mk hl438_0
          clear hi438_0 hl438_0
          have HR438_1 := Aside0.mk hi438_1
          have HC438_1 := Aside0.mk hl438_1
          clear hi438_1 hl438_1
          replace p438 := eq_true p438
          replace q438 := eq_true q438
          go_wp2_with (first | ((with_reducible refine gate_dst (N := 8) rfl ?_); (try (refine gate_guard (by rfl) ?_; dsimp only)); refine box_event ?hg (N := 8) ?hd (cs := #[.slice none 0 0, .slice none 0 0]) (t := 44) ?hr ?_; (case hd => rfl); (case hg => rfl); (case hr => first | (go_simp; done) | (go_simp; rfl)); intro gb439 hg w34 hbox hb; have n0_ := Aside0.mk (blk_below (g := gb436) (o := .cells #[.int .i64 a0_0, .slice A0_1 l0_1.length c0_1] 31 (0, 0)) (by (with_reducible repeat (first | refine kN ?_ _ | refine kD ?_ | refine kA ?_ _)); exact BK436.out) hb); have n1_ := Aside0.mk (below_step (by repeat (first | (with_reducible first | exact HB.out | apply bA | apply bN | apply bD | refine bS ?_ GE436.out) | exact HB.out)) hb); have n2_ := Aside0.mk (hbox); have n3_ := Aside0.mk ((by rw [hg]; exact (below_size (by repeat (first | (with_reducible first | exact HB.out | apply bA | apply bN | apply bD | refine bS ?_ GE436.out) | exact HB.out))) : w.heap.size ≤ gb439)); have n4_ := Aside0.mk ((by rw [hg]; exact (below_size (by repeat (first | (with_reducible first | exact HB.out | apply bA | apply bN | apply bD | refine bS ?_ GE436.out) | exact HB.out))) : w.heap.size ≤ gb439)); have n5_ := Aside0.mk ((by rw [hg]; exact Nat.ne_of_lt (blk_lt (g := gb436) (o := .cells #[.int .i64 a0_0, .slice A0_1 l0_1.length c0_1] 31 (0, 0)) (by (with_reducible repeat (first | refine kN ?_ _ | refine kD ?_ | refine kA ?_ _)); exact BK436.out)) : gb436 ≠ gb439)); have n6_ := Aside0.mk ((by rw [hg]; exact Nat.ne_of_gt (blk_lt (g := gb436) (o := .cells #[.int .i64 a0_0, .slice A0_1 l0_1.length c0_1] 31 (0, 0)) (by (with_reducible repeat (first | refine kN ?_ _ | refine kD ?_ | refine kA ?_ _)); exact BK436.out)) : gb439 ≠ gb436)); clear BK436; clear HB; have BK436 := n0_; have HB := n1_; have BK439 := n2_; have GW439 := n3_; have GE439 := n4_; have NB436_439 := n5_; have NB439_436 := n6_; clear n0_ n1_ n2_ n3_ n4_ n5_ n6_; clear hb hbox hg; have hnb35 := NB439_436.out; have hnc35 := NB436_439.out; have hcz36_0 : w34.cell? ⟨gb439, 0, none⟩ = some (.slice none 0 0) := (blk_cell BK439.out 0).trans rfl; have hcz36_1 : w34.cell? ⟨gb439, 1, none⟩ = some (.slice none 0 0) := (blk_cell BK439.out 1).trans rfl; have hfz36_0 := blk_frozen BK439.out 0; have hfz36_1 := blk_frozen BK439.out 1; have hcz37_0 : w34.cell? ⟨gb436, 0, none⟩ = some (.int .i64 a0_0) := (blk_cell BK436.out 0).trans rfl; have hcz37_1 : w34.cell? ⟨gb436, 1, none⟩ = some (.slice A0_1 l0_1.length c0_1) := (blk_cell BK436.out 1).trans rfl; have hfz37_0 := blk_frozen BK436.out 0; have hfz37_1 := blk_frozen BK436.out 1) | ((with_reducible refine gate_callee (f := 24) rfl ?_); refine goesL_ (some 29) rfl rfl Try.func24 (by kernel_rfl) rfl #[.agg #[.int .i64 a0_0, .slice A0_1 l0_1.length c0_1], .agg #[.slice A438_0 ((rd_T44 l1 x21_2).f0).length c438_0, .slice A438_1 ((rd_T44 l1 x21_2).f1).length c438_1]] rfl (by (try simp only [List.map_toArray, List.map_cons, List.map_nil]); first | done | rfl | (simp only [List.length_drop, List.length_take]; rfl)) ?_; (with_reducible refine (impl_DoesHold.calls k2 a0_0 _ _ l0_1 _ _ ((rd_T44 l1 x21_2).f0) _ _ ((rd_T44 l1 x21_2).f1) t440 false _ ?side1 ?side2 ?side3 ?side4 ?side5 ?side6 A15.out).mono ?_); (case side1 => exact Kd.C_below HR0_1.out (by repeat (first | (with_reducible first | exact HB.out | apply bA | apply bN | apply bD | refine bS ?_ GE436.out | refine bS ?_ GE439.out) | exact HB.out))); (case side2 => exact HC0_1.out); (case side3 => exact Kd.C_below HR438_0.out (by repeat (first | (with_reducible first | exact HB.out | apply bA | apply bN | apply bD | refine bS ?_ GE436.out | refine bS ?_ GE439.out) | exact HB.out))); (case side4 => exact HC438_0.out); (case side5 => exact Kd.C_below HR438_1.out (by repeat (first | (with_reducible first | exact HB.out | apply bA | apply bN | apply bD | refine bS ?_ GE436.out | refine bS ?_ GE439.out) | exact HB.out))); (case side6 => exact HC438_1.out); rintro e w38 ⟨rfl, hb⟩; refine ⟨_, rfl, ?_⟩; have n0_ := Aside0.mk (blk_below (g := gb436) (o := .cells #[.int .i64 a0_0, .slice A0_1 l0_1.length c0_1] 31 (0, 0)) (by (with_reducible repeat (first | refine kN ?_ _ | refine kD ?_ | refine kA ?_ _)); refine blk_far ?_ NB436_439.out _; (with_reducible repeat (first | refine kN ?_ _ | refine kD ?_ | refine kA ?_ _)); refine blk_far ?_ NB436_439.out _; (with_reducible repeat (first | refine kN ?_ _ | refine kD ?_ | refine kA ?_ _)); exact BK436.out) hb); have n1_ := Aside0.mk (blk_below (g := gb439) (o := .cells #[.slice A438_0 ((rd_T44 l1 x21_2).f0).length c438_0, .slice A438_1 ((rd_T44 l1 x21_2).f1).length c438_1] 44 (0, 0)) (by (with_reducible repeat (first | refine kN ?_ _ | refine kD ?_ | refine kA ?_ _)); refine blk_put (cs := #[.slice A438_0 ((rd_T44 l1 x21_2).f0).length c438_0, .slice none 0 0]) ?_ 1 _ rfl; (with_reducible repeat (first | refine kN ?_ _ | refine kD ?_ | refine kA ?_ _)); refine blk_put (cs := #[.slice none 0 0, .slice none 0 0]) ?_ 0 _ rfl; (with_reducible repeat (first | refine kN ?_ _ | refine kD ?_ | refine kA ?_ _)); exact BK439.out) hb); have n2_ := Aside0.mk (below_step (by repeat (first | (with_reducible first | exact HB.out | apply bA | apply bN | apply bD | refine bS ?_ GE436.out | refine bS ?_ GE439.out) | exact HB.out)) hb); clear BK436; clear BK439; clear HB; have BK436 := n0_; have BK439 := n1_; have HB := n2_; clear n0_ n1_ n2_; (try clear hb); (try clear hb2); (try clear hk); (try clear hi)))
          go_ret2
          exact ⟨by first | rfl | (simp [*, errW_none, errW_some] <;> rfl), by repeat (first | (with_reducible first | exact HB.out | apply bA | apply bN | apply bD | refine bS ?_ GE436.out | refine bS ?_ GE439.out) | exact HB.out)⟩
        ·rw [if_neg c14] at H
         exact absurd H (by simp)
       ·rw [if_neg c13] at H
        exact absurd H (by simp)
      ·rw [if_neg c12] at H
       have c12b0 : decide (x21_2 < (l1.length : Int)) = false := decide_eq_false c12
       clear c12
       simp only [Option.some.injEq, Prod.mk.injEq] at H
       obtain ⟨rfl, rfl⟩ := H
       go_wp2
       go_ret2
       exact ⟨by first | rfl | (simp [*, errW_none, errW_some] <;> rfl), by repeat (first | (with_reducible first | exact HB.out | apply bA | apply bN | apply bD | refine bS ?_ GE436.out) | exact HB.out)⟩

end Go.Proofs.Ytcgkgimkpndhmab.Q
