/- Contracts of Go functions, each with a plain Lean function of the same answers: whatever the arguments, the call comes to what the Lean function tells. Written by a program of this session. -/
import Derived.Test.YtcgkgimkpndhmabQx0
namespace Go.Proofs.Ytcgkgimkpndhmab.Q
open Go.RowKit Go.Proofs.YtcgkgimkpndhmabW.PrintWords Go.Proofs.YtcgkgimkpndhmabW.PrintLast Go.Proofs.YtcgkgimkpndhmabW.PrintMore
attribute [local go_sem] max2_int min2_int max_two min_two max_three min_three max_four min_four   -- for this text's walks alone
set_option linter.unusedVariables false
set_option linter.unusedSimpArgs false

/-! ### impl_eval: function 88 -/
mutual
def impl_eval.l0 : Nat → List Int → List Int → List Int → Int → Int → List (S75) → Option (Int)
 | 0, _, _, _, _, _, _ => none
 | k + 1, x1, x2, x7, x8, x380000, x380001 => if x8 ≥ 0 then (if 0 ≤ x8 then (if x8 < (x1.length : Int) then (if (rd x1 x8) ≥ 0 then (if 0 ≤ (rd x1 x8) then (if (rd x1 x8) < (x2.length : Int) then (if x7.length < 17592186044416 then (impl_eval.l0 k x1 x2 (x7 ++ [rd x2 (rd x1 x8)]) (wrap64 (x8 - 1)) x380000 x380001) else (none)) else (none)) else (none)) else (if 0 ≤ (wrap64 ((-1) - (rd x1 x8))) then (if (wrap64 ((-1) - (rd x1 x8))) < (x380001.length : Int) then (impl_eval.l1 k x1 x2 x7 x8 0 0 x380000 x380001 ((rd_T75 x380001 (wrap64 ((-1) - (rd x1 x8)))).f0) ((rd_T75 x380001 (wrap64 ((-1) - (rd x1 x8)))).f1)) else (none)) else (none))) else (none)) else (none)) else (if 0 < (x7.length : Int) then (some (rd x7 0)) else (none))
def impl_eval.l1 : Nat → List Int → List Int → List Int → Int → Int → Int → Int → List (S75) → Int → List Int → Option (Int)
 | 0, _, _, _, _, _, _, _, _, _, _ => none
 | k + 1, x1, x2, x7, x8, x11, x12, x380000, x380001, x391000, x391001 => if x12 < x391000 then (if 0 ≤ (wrap64 ((wrap64 ((x7.length : Int) - 1)) - x12)) then (if (wrap64 ((wrap64 ((x7.length : Int) - 1)) - x12)) < (x7.length : Int) then (impl_eval.l1 k x1 x2 x7 x8 (wrap64 ((wrap64 (x11 * x380000)) + (rd x7 (wrap64 ((wrap64 ((x7.length : Int) - 1)) - x12))))) (wrap64 (x12 + 1)) x380000 x380001 x391000 x391001) else (none)) else (none)) else (if 0 ≤ (wrap64 ((x7.length : Int) - x391000)) then (if (wrap64 ((x7.length : Int) - x391000)) ≤ (x7.length : Int) then ((some (x7.take ((wrap64 ((x7.length : Int) - x391000)) : Int).toNat : List Int)).bind fun y392 => (if 0 ≤ x11 then (if x11 < (x391001.length : Int) then (if y392.length < 17592186044416 then (impl_eval.l0 k x1 x2 (y392 ++ [rd x391001 x11]) (wrap64 (x8 - 1)) x380000 x380001) else (none)) else (none)) else (none))) else (none)) else (none))
end
def impl_eval.f (k : Nat) (a0_0 : Int) (l0_1 : List (S75)) (l1 : List Int) (l2 : List Int) : Option (Int) := if 0 ≤ (l1.length : Int) then (if ((l1.length : Int) : Int).toNat ≤ 35184372088832 then (impl_eval.l0 k l1 l2 (List.replicate 0 0) (wrap64 ((l1.length : Int) - 1)) a0_0 l0_1) else (none)) else (none)
def impl_eval.T13 : Bool × List (List Nat × List Nat) := (true, [([], []), ([], []), ([1], [1]), ([0, 2], [0, 2]), ([], []), ([], []), ([5], [5]), ([6], [6]), ([], []), ([7, 8], [7, 8]), ([4, 9], [4, 9]), ([10], [10]), ([3, 11], [3, 11]), ([12, 0, 1, 2, 3, 4, 5, 6, 7, 8, 9, 10, 11, 12], [0, 12])])
def impl_eval.B13 : List Nat := [0, 0, 2, 7, 0, 0, 32, 96, 0, 480, 1008, 2032, 4095, 8191]
theorem impl_eval.tab13 : rtab .any (opsOf Try.f88 13) = impl_eval.T13 := by kernel_rfl
theorem impl_eval.bits13 : waitsOk impl_eval.T13.2 impl_eval.B13 = true := by kernel_rfl
def impl_eval.T14 : Bool × List (List Nat × List Nat) := (true, [([], []), ([], []), ([1], [1]), ([], []), ([3], [3]), ([2, 4], [2, 4]), ([0, 5], [0, 5]), ([], []), ([7], [7]), ([], []), ([8, 9], [8, 9]), ([10], [10]), ([11], [11]), ([6, 12], [6, 12]), ([13, 13, 0, 1, 2, 3, 4, 5, 6, 7, 8, 9, 10, 11, 12, 13], [0, 1, 13])])
def impl_eval.B14 : List Nat := [0, 0, 2, 0, 8, 30, 63, 0, 128, 0, 896, 1920, 3968, 8191, 16383]
theorem impl_eval.tab14 : rtab .any (opsOf Try.f88 14) = impl_eval.T14 := by kernel_rfl
theorem impl_eval.bits14 : waitsOk impl_eval.T14.2 impl_eval.B14 = true := by kernel_rfl
set_option maxHeartbeats 8000000 in
set_option maxRecDepth 100000 in
theorem impl_eval.calls (k : Nat) (a0_0 : Int) (A0_1 : Option Addr) (c0_1 : Nat) (l0_1 : List (S75)) (A1 : Option Addr) (c1 : Nat) (l1 : List Int) (A2 : Option Addr) (c2 : Nat) (l2 : List Int) (r : Int) (w : World) (hr0_1 : Kd.C k75 w A0_1 l0_1.length l0_1) (hc0_1 : l0_1.length ≤ c0_1) (hr1 : Kd.C (Kd.int .i64) w A1 l1.length l1) (hc1 : l1.length ≤ c1) (hr2 : Kd.C (Kd.int .i64) w A2 l2.length l2) (hc2 : l2.length ≤ c2) (h : impl_eval.f k a0_0 l0_1 l1 l2 = some r) :
  Calls Try.prog 88 #[.agg #[.int .i64 a0_0, .slice A0_1 l0_1.length c0_1], .slice A1 l1.length c1, .slice A2 l2.length c2] w fun e w' => e = .returned (.int .i64 r) ∧ Below w.heap.size w w' := by
 have hu31 := Try.underlying31
 have hu75 := Try.underlying75
 have HR0_1 := Aside0.mk hr0_1
 have HC0_1 := Aside0.mk hc0_1
 clear hr0_1 hc0_1
 have HR1 := Aside0.mk hr1
 have HC1 := Aside0.mk hc1
 clear hr1 hc1
 have HR2 := Aside0.mk hr2
 have HC2 := Aside0.mk hc2
 clear hr2 hc2
 have HB := Aside0.mk (Below.refl w.heap.size w)
 have H : (if 0 ≤ (l1.length : Int) then (if ((l1.length : Int) : Int).toNat ≤ 35184372088832 then (impl_eval.l0 k l1 l2 (List.replicate 0 0) (wrap64 ((l1.length : Int) - 1)) a0_0 l0_1) else (none)) else (none)) = some r := h
 clear h
 by_cases c4 : 0 ≤ (l1.length : Int)
 ·rw [if_pos c4] at H
  have c4b0 := eq_true c4
  have c4b1 : decide (0 ≤ (l1.length : Int)) = true := decide_eq_true c4
  clear c4
  by_cases c5 : ((l1.length : Int) : Int).toNat ≤ 35184372088832
  ·rw [if_pos c5] at H
   have c5b0 := eq_true c5
   have c5b1 : decide (((l1.length : Int) : Int).toNat ≤ 35184372088832) = true := decide_eq_true c5
   clear c5
   obtain ⟨y380, hy380⟩ : ∃ y_ : List Int, y_ = (List.replicate 0 0) := ⟨_, rfl⟩
   replace H : (impl_eval.l0 k l1 l2 y380 (wrap64 ((l1.length : Int) - 1)) a0_0 l0_1) = some r := by first | (rw [hy380]; with_reducible exact H) | (have H2_ := (Option.bind_some _ _).symm.trans H; rw [hy380]; with_reducible exact H2_) | (have H2_ := (Option.bind_some _ _).symm.trans H; with_reducible exact H2_) | with_reducible exact H | (rw [hy380]; exact H) | exact H
   have Ny380 := Aside0.mk hy380
   clear hy380
   have H' := Aside0.mk H
   clear H
   go_enter Try.func88, Try.ntmps88
   go_wp2_with (first | ((with_reducible refine gate_dst (N := 3) rfl ?_); refine box_event ?hg (N := 3) ?hd (cs := #[.int .i64 a0_0, .slice A0_1 l0_1.length c0_1]) (t := 31) ?hr ?_; (case hd => rfl); (case hg => rfl); (case hr => first | (go_simp; done) | (go_simp; rfl)); intro gb379 hg w6 hbox hb; have n0_ := Aside0.mk (below_step (by repeat (first | (with_reducible first | exact HB.out | apply bA | apply bN | apply bD) | exact HB.out)) hb); have n1_ := Aside0.mk (hbox); have n2_ := Aside0.mk ((by rw [hg]; exact (below_size (by repeat (first | (with_reducible first | exact HB.out | apply bA | apply bN | apply bD) | exact HB.out))) : w.heap.size ≤ gb379)); have n3_ := Aside0.mk ((by rw [hg]; exact (below_size (by repeat (first | (with_reducible first | exact HB.out | apply bA | apply bN | apply bD) | exact HB.out))) : w.heap.size ≤ gb379)); clear HB; have HB := n0_; have BK379 := n1_; have GW379 := n2_; have GE379 := n3_; clear n0_ n1_ n2_ n3_; clear hb hbox hg) | ((with_reducible refine gate_dst (N := 15) rfl ?_); refine Kd.R_make0 (Kd.int .i64) _ 3 rfl (N := 15) rfl 25 _ _ rfl (l1.length : Int) rfl rfl Try.underlying25 (.int .i64 0) 8 info3 rfl (by decide) (by omega) 0 (ok := fun _ => True) (okp := fun _ => True) rfl (fun _ hk => hk) trivial (of_decide_eq_true (by first | (with_reducible assumption) | assumption)) (Nat.le_trans (Nat.mul_le_mul_right _ (of_decide_eq_true (by first | (with_reducible assumption) | assumption) : (l1.length : Int).toNat ≤ 35184372088832)) (by omega)) (Below.refl _ _) (Nat.le_refl _) ?_; intro v381 w7 ho8 hb hg_ hnew_; clear hg_ hnew_; (first | rw [← Ny380.out] at ho8 | (simp only [Int.reduceToNat] at ho8; rw [← Ny380.out] at ho8)); have n0_ := Aside0.mk (Kd.R_lower ho8 (below_size (by repeat (first | (with_reducible first | exact HB.out | apply bA | apply bN | apply bD | refine bS ?_ GE379.out) | exact HB.out)))); have n1_ := Aside0.mk (blk_below (g := gb379) (o := .cells #[.int .i64 a0_0, .slice A0_1 l0_1.length c0_1] 31 (0, 0)) (by (with_reducible repeat (first | refine kN ?_ _ | refine kD ?_ | refine kA ?_ _)); exact BK379.out) hb); have n2_ := Aside0.mk (below_step (by repeat (first | (with_reducible first | exact HB.out | apply bA | apply bN | apply bD | refine bS ?_ GE379.out) | exact HB.out)) hb); clear BK379; clear HB; have HO382 := n0_; have BK379 := n1_; have HB := n2_; clear n0_ n1_ n2_; clear hb ho8))
   go_loopg [7, 8] k (fun kq v7 v8 w' => ∃ (x7_1 : List Int) (x8_1 : Int), v8 = .int .i64 x8_1 ∧ Aside0 (impl_eval.l0 kq l1 l2 x7_1 x8_1 a0_0 l0_1 = some r) ∧ Aside0 (kq ≤ k) ∧ Aside0 (Kd.R (Kd.int .i64) 3 w' w.heap.size (fun _ => True) v7 x7_1) ∧ Aside0 (w'.heap[gb379]? = some (.cells #[.int .i64 a0_0, (.slice A0_1 l0_1.length c0_1)] 31 (0, 0))) ∧ Aside0 (Below w.heap.size w w'))
   case atStart => exact ⟨(y380), (wrap64 ((l1.length : Int) - 1)), (by first | rfl | (simp; done) | (simp [*]; done)), H', ⟨Nat.le_refl _⟩, ⟨by (with_reducible repeat (first | apply Kd.R_alloc | apply Kd.R_drewN | apply Kd.R_drew)); exact HO382.out⟩, ⟨by (with_reducible repeat (first | refine kN ?_ _ | refine kD ?_ | refine kA ?_ _)); exact BK379.out⟩, ⟨by repeat (first | (with_reducible first | exact HB.out | apply bA | apply bN | apply bD | refine bS ?_ GE379.out) | exact HB.out)⟩⟩
   case round =>
    clear H'
    try clear c1
    try clear c2
    try clear p2
    try clear c4
    try clear c4b0
    try clear c4b1
    try clear c5
    try clear c5b0
    try clear c5b1
    try clear p6
    try clear c8
    obtain ⟨x7_1, x8_1, rfl, HA, HK1, HO_7, BK379, HB⟩ := hrel
    cases gk with
    | zero => exact absurd HA.out (by simp [impl_eval.l0])
    | succ k1 =>
     have H := HA.out
     clear HA
     simp only [impl_eval.l0] at H
     by_cases c9 : x8_1 ≥ 0
     ·rw [if_pos c9] at H
      have c9b0 : decide (0 ≤ x8_1) = true := decide_eq_true c9
      clear c9
      by_cases c10 : 0 ≤ x8_1
      ·rw [if_pos c10] at H
       have c10b0 : decide (0 ≤ x8_1) = true := decide_eq_true c10
       clear c10
       by_cases c11 : x8_1 < (l1.length : Int)
       ·rw [if_pos c11] at H
        have c11b0 : decide (x8_1 < (l1.length : Int)) = true := decide_eq_true c11
        clear c11
        by_cases c12 : (rd l1 x8_1) ≥ 0
        ·rw [if_pos c12] at H
         have c12b0 : decide (0 ≤ (rd l1 x8_1)) = true := decide_eq_true c12
         clear c12
         by_cases c13 : 0 ≤ (rd l1 x8_1)
         ·rw [if_pos c13] at H
          have c13b0 : decide (0 ≤ (rd l1 x8_1)) = true := decide_eq_true c13
          clear c13
          by_cases c14 : (rd l1 x8_1) < (l2.length : Int)
          ·rw [if_pos c14] at H
           have c14b0 : decide ((rd l1 x8_1) < (l2.length : Int)) = true := decide_eq_true c14
           clear c14
           by_cases c15 : x7_1.length < 17592186044416
           ·rw [if_pos c15] at H
            have LMc15 := Aside0.mk c15
            clear c15
            obtain ⟨y386, hy386⟩ : ∃ y_ : List Int, y_ = (x7_1 ++ [rd l2 (rd l1 x8_1)]) := ⟨_, rfl⟩
            replace H : (impl_eval.l0 k1 l1 l2 y386 (wrap64 (x8_1 - 1)) a0_0 l0_1) = some r := by first | (rw [hy386]; with_reducible exact H) | (have H2_ := (Option.bind_some _ _).symm.trans H; rw [hy386]; with_reducible exact H2_) | (have H2_ := (Option.bind_some _ _).symm.trans H; with_reducible exact H2_) | with_reducible exact H | (rw [hy386]; exact H) | exact H
            have Ny386 := Aside0.mk hy386
            clear hy386
            have H' := Aside0.mk H
            clear H
            have p384 : 0 ≤ (x8_1 : Int) := of_decide_eq_true (by first | (with_reducible assumption) | assumption)
            have q384 : x8_1 < (l1.length : Int) := of_decide_eq_true (by first | (with_reducible assumption) | assumption)
            obtain ⟨ad384, e384, hx384_0⟩ := Kd.at_int HR1.out x8_1 p384 q384
            cases e384
            replace hx384_0 := (HB.out.cell (World.block_lt_of_cell? w _ hx384_0)).trans hx384_0
            replace p384 := eq_true p384
            replace q384 := eq_true q384
            have p385 : 0 ≤ ((rd l1 x8_1) : Int) := of_decide_eq_true (by first | (with_reducible assumption) | assumption)
            have q385 : (rd l1 x8_1) < (l2.length : Int) := of_decide_eq_true (by first | (with_reducible assumption) | assumption)
            obtain ⟨ad385, e385, hx385_0⟩ := Kd.at_int HR2.out (rd l1 x8_1) p385 q385
            cases e385
            replace hx385_0 := (HB.out.cell (World.block_lt_of_cell? w _ hx385_0)).trans hx385_0
            replace p385 := eq_true p385
            replace q385 := eq_true q385
            go_wp2_with (first | ((with_reducible refine gate_builtin (b := .append) (xs := #[.tmp 29, .tmp 34]) rfl ?_); at_builtin; refine Kd.R_append (Kd.int .i64) (w0 := w) w.heap.size rfl (.tmp 29) (.tmp 34) 25 3 (.int .i64 0) 8 rfl Try.underlying25 info3 rfl (by decide) (by omega) u7 x7_1 (rd l2 (rd l1 x8_1)) [.int .i64 (rd l2 (rd l1 x8_1))] (fun _ => True) (fun _ => False) rfl rfl ?aP (fun _ hk => hk.elim) ?aF ?aO ?aB ?aS ?aL ?_; (case aP => exact rfl); (case aB => exact (by repeat (first | (with_reducible first | exact HB.out | apply bA | apply bN | apply bD | refine bS ?_ GE379.out) | exact HB.out))); (case aF => exact (fun _ _ => trivial)); (case aO => exact (by (with_reducible repeat (first | apply Kd.R_alloc | apply Kd.R_drewN | apply Kd.R_drew)); exact HO_7.out)); (case aS => exact (below_size (by repeat (first | (with_reducible first | exact HB.out | apply bA | apply bN | apply bD | refine bS ?_ GE379.out) | exact HB.out)))); (case aL => have := LMc15.out; omega); intro v387 w16 ho hb hg hat; rw [← Ny386.out] at ho; have n0_ := Aside0.mk (blk_grown (g := gb379) (o := .cells #[.int .i64 a0_0, .slice A0_1 l0_1.length c0_1] 31 (0, 0)) (by (with_reducible repeat (first | refine kN ?_ _ | refine kD ?_ | refine kA ?_ _)); exact BK379.out) hg (Kd.R_ne HO_7.out BK379.out (by decide))); have n1_ := Aside0.mk (hb); have n2_ := Aside0.mk (ho); clear BK379; clear HB; clear HO_7; have BK379 := n0_; have HB := n1_; have HO388 := n2_; clear n0_ n1_ n2_; clear ho hb hg hat))
            go_roundg k1
            case measure => have := HK1.out; omega
            case rel => exact ⟨(y386), (wrap64 (x8_1 - 1)), (by first | rfl | (simp; done) | (simp [*]; done)), H', ⟨by have := HK1.out; omega⟩, ⟨by (with_reducible repeat (first | apply Kd.R_alloc | apply Kd.R_drewN | apply Kd.R_drew)); exact HO388.out⟩, ⟨by (with_reducible repeat (first | refine kN ?_ _ | refine kD ?_ | refine kA ?_ _)); exact BK379.out⟩, ⟨by repeat (first | (with_reducible first | exact HB.out | apply bA | apply bN | apply bD | refine bS ?_ GE379.out) | exact HB.out)⟩⟩
           ·rw [if_neg c15] at H
            exact absurd H (by simp)
          ·rw [if_neg c14] at H
           exact absurd H (by simp)
         ·rw [if_neg c13] at H
          exact absurd H (by simp)
        ·rw [if_neg c12] at H
         have c12b0 : decide (0 ≤ (rd l1 x8_1)) = false := decide_eq_false c12
         clear c12
         by_cases c17 : 0 ≤ (wrap64 ((-1) - (rd l1 x8_1)))
         ·rw [if_pos c17] at H
          have c17b0 : decide (0 ≤ (wrap64 ((-1) - (rd l1 x8_1)))) = true := decide_eq_true c17
          clear c17
          by_cases c18 : (wrap64 ((-1) - (rd l1 x8_1))) < (l0_1.length : Int)
          ·rw [if_pos c18] at H
           have c18b0 : decide ((wrap64 ((-1) - (rd l1 x8_1))) < (l0_1.length : Int)) = true := decide_eq_true c18
           clear c18
           have H' := Aside0.mk H
           clear H
           have p384 : 0 ≤ (x8_1 : Int) := of_decide_eq_true (by first | (with_reducible assumption) | assumption)
           have q384 : x8_1 < (l1.length : Int) := of_decide_eq_true (by first | (with_reducible assumption) | assumption)
           obtain ⟨ad384, e384, hx384_0⟩ := Kd.at_int HR1.out x8_1 p384 q384
           cases e384
           replace hx384_0 := (HB.out.cell (World.block_lt_of_cell? w _ hx384_0)).trans hx384_0
           replace p384 := eq_true p384
           replace q384 := eq_true q384
           have hcz19_0 : wr.cell? ⟨gb379, 0, none⟩ = some (.int .i64 a0_0) := (blk_cell BK379.out 0).trans rfl
           have hcz19_1 : wr.cell? ⟨gb379, 1, none⟩ = some (.slice A0_1 l0_1.length c0_1) := (blk_cell BK379.out 1).trans rfl
           have hfz19_0 := blk_frozen BK379.out 0
           have hfz19_1 := blk_frozen BK379.out 1
           have p389 : 0 ≤ ((wrap64 ((-1) - (rd l1 x8_1))) : Int) := of_decide_eq_true (by first | (with_reducible assumption) | assumption)
           have q389 : (wrap64 ((-1) - (rd l1 x8_1))) < (l0_1.length : Int) := of_decide_eq_true (by first | (with_reducible assumption) | assumption)
           obtain ⟨ad389, A389_1, c389_1, e389, hx389_0, hx389_1, hl389_1, hi389_1⟩ := at_T75 HR0_1.out (wrap64 ((-1) - (rd l1 x8_1))) p389 q389
           cases e389
           replace hx389_0 := (HB.out.cell (World.block_lt_of_cell? w _ hx389_0)).trans hx389_0
           replace hx389_1 := (HB.out.cell (World.block_lt_of_cell? w _ hx389_1)).trans hx389_1
           have HR389_1 := Aside0.mk hi389_1
           have HC389_1 := Aside0.mk hl389_1
           clear hi389_1 hl389_1
           replace p389 := eq_true p389
           replace q389 := eq_true q389
           go_wp2_with (first | ((with_reducible refine gate_dst (N := 10) rfl ?_); refine box_event ?hg (N := 10) ?hd (cs := #[.int .i64 0, .slice none 0 0]) (t := 75) ?hr ?_; (case hd => rfl); (case hg => rfl); (case hr => first | (go_simp; done) | (go_simp; rfl)); intro gb390 hg w20 hbox hb; have n0_ := Aside0.mk (Kd.R_below (by (with_reducible repeat (first | apply Kd.R_alloc | apply Kd.R_drewN | apply Kd.R_drew)); exact HO_7.out) hb); have n1_ := Aside0.mk (blk_below (g := gb379) (o := .cells #[.int .i64 a0_0, .slice (some ad389) l0_1.length c0_1] 31 (0, 0)) (by (with_reducible repeat (first | refine kN ?_ _ | refine kD ?_ | refine kA ?_ _)); exact BK379.out) hb); have n2_ := Aside0.mk (below_step (by repeat (first | (with_reducible first | exact HB.out | apply bA | apply bN | apply bD | refine bS ?_ GE379.out) | exact HB.out)) hb); have n3_ := Aside0.mk (hbox); have n4_ := Aside0.mk ((by rw [hg]; exact (below_size (by repeat (first | (with_reducible first | exact HB.out | apply bA | apply bN | apply bD | refine bS ?_ GE379.out) | exact HB.out))) : w.heap.size ≤ gb390)); have n5_ := Aside0.mk ((by rw [hg]; exact (below_size (by repeat (first | (with_reducible first | exact HB.out | apply bA | apply bN | apply bD | refine bS ?_ GE379.out) | exact HB.out))) : w.heap.size ≤ gb390)); have n6_ := Aside0.mk ((by rw [hg]; exact Nat.ne_of_lt (blk_lt (g := gb379) (o := .cells #[.int .i64 a0_0, .slice (some ad389) l0_1.length c0_1] 31 (0, 0)) (by (with_reducible repeat (first | refine kN ?_ _ | refine kD ?_ | refine kA ?_ _)); exact BK379.out)) : gb379 ≠ gb390)); have n7_ := Aside0.mk ((by rw [hg]; exact Nat.ne_of_gt (blk_lt (g := gb379) (o := .cells #[.int .i64 a0_0, .slice (some ad389) l0_1.length c0_1] 31 (0, 0)) (by (with_reducible repeat (first | refine kN ?_ _ | refine kD ?_ | refine kA ?_ _)); exact BK379.out)) : gb390 ≠ gb379)); clear HO_7; clear BK379; clear HB; have HO_7 := n0_; have BK379 := n1_; have HB := n2_; have BK390 := n3_; have GW390 := n4_; have GE390 := n5_; have NB379_390 := n6_; have NB390_379 := n7_; clear n0_ n1_ n2_ n3_ n4_ n5_ n6_ n7_; clear hb hbox hg; have hnb21 := NB390_379.out; have hnc21 := NB379_390.out; have hcz22_0 : w20.cell? ⟨gb390, 0, none⟩ = some (.int .i64 0) := (blk_cell BK390.out 0).trans rfl; have hcz22_1 : w20.cell? ⟨gb390, 1, none⟩ = some (.slice none 0 0) := (blk_cell BK390.out 1).trans rfl; have hfz22_0 := blk_frozen BK390.out 0; have hfz22_1 := blk_frozen BK390.out 1))
           go_loopg [11, 12] k1 (fun kq v11 v12 w' => ∃ (x11_2 : Int) (x12_2 : Int), v11 = .int .i64 x11_2 ∧ v12 = .int .i64 x12_2 ∧ Aside0 (impl_eval.l1 kq l1 l2 x7_1 x8_1 x11_2 x12_2 a0_0 l0_1 ((rd_T75 l0_1 (wrap64 ((-1) - (rd l1 x8_1)))).f0) ((rd_T75 l0_1 (wrap64 ((-1) - (rd l1 x8_1)))).f1) = some r) ∧ Aside0 (kq ≤ k1) ∧ Aside0 (Kd.R (Kd.int .i64) 3 w' w.heap.size (fun _ => True) u7 x7_1) ∧ Aside0 (w'.heap[gb379]? = some (.cells #[.int .i64 a0_0, (.slice (some ad389) l0_1.length c0_1)] 31 (0, 0))) ∧ Aside0 (w'.heap[gb390]? = some (.cells #[.int .i64 ((rd_T75 l0_1 (wrap64 ((-1) - (rd l1 x8_1)))).f0), (.slice A389_1 ((rd_T75 l0_1 (wrap64 ((-1) - (rd l1 x8_1)))).f1).length c389_1)] 75 (0, 0))) ∧ Aside0 (Below w.heap.size w w'))
           case atStart => exact ⟨(0), (0), (by first | rfl | (simp; done) | (simp [*]; done)), (by first | rfl | (simp; done) | (simp [*]; done)), H', ⟨Nat.le_refl _⟩, ⟨by (with_reducible repeat (first | apply Kd.R_alloc | apply Kd.R_drewN | apply Kd.R_drew)); exact Kd.R_mono (Kd.R_far (p := ⟨gb390, 1, none⟩) (Kd.R_far (p := ⟨gb390, 0, none⟩) (Kd.R_types HO_7.out BK390.out (by decide)) (fun _ hk => hk.2) (.int .i64 ((rd_T75 l0_1 (wrap64 ((-1) - (rd l1 x8_1)))).f0))) (fun _ hk => hk.2) (.slice A389_1 ((rd_T75 l0_1 (wrap64 ((-1) - (rd l1 x8_1)))).f1).length c389_1)) (fun _ hk => by first | exact trivial | exact trivial)⟩, ⟨by (with_reducible repeat (first | refine kN ?_ _ | refine kD ?_ | refine kA ?_ _)); refine blk_far ?_ NB379_390.out _; (with_reducible repeat (first | refine kN ?_ _ | refine kD ?_ | refine kA ?_ _)); refine blk_far ?_ NB379_390.out _; (with_reducible repeat (first | refine kN ?_ _ | refine kD ?_ | refine kA ?_ _)); exact BK379.out⟩, ⟨by (with_reducible repeat (first | refine kN ?_ _ | refine kD ?_ | refine kA ?_ _)); refine blk_put (cs := #[.int .i64 ((rd_T75 l0_1 (wrap64 ((-1) - (rd l1 x8_1)))).f0), .slice none 0 0]) ?_ 1 _ rfl; (with_reducible repeat (first | refine kN ?_ _ | refine kD ?_ | refine kA ?_ _)); refine blk_put (cs := #[.int .i64 0, .slice none 0 0]) ?_ 0 _ rfl; (with_reducible repeat (first | refine kN ?_ _ | refine kD ?_ | refine kA ?_ _)); exact BK390.out⟩, ⟨by repeat (first | (with_reducible first | exact HB.out | apply bA | apply bN | apply bD | refine bS ?_ GE379.out | refine bS ?_ GE390.out) | exact HB.out)⟩⟩
           case round =>
            clear H'
            try clear c1
            try clear c2
            try clear p2
            try clear c3
            try clear p3
            try clear q3
            try clear hx3
            try clear c4
            try clear c4b0
            try clear c4b1
            try clear c5
            try clear c5b0
            try clear c5b1
            try clear p6
            try clear c8
            try clear c9
            try clear c9b0
            try clear c10
            try clear c10b0
            try clear c11
            try clear c11b0
            try clear c12
            try clear c12b0
            try clear c13
            try clear c13b0
            try clear c14
            try clear c14b0
            try clear c15
            try clear c17
            try clear c17b0
            try clear c18
            try clear c18b0
            try clear c21
            try clear hcz19_0
            try clear hcz19_1
            try clear hcz22_0
            try clear hcz22_1
            try clear hfz19_0
            try clear hfz19_1
            try clear hfz22_0
            try clear hfz22_1
            try clear hx384_0
            try clear hx385_0
            try clear hx389_0
            try clear hx389_1
            try clear p2
            try clear p384
            try clear p385
            try clear p389
            try clear p6
            try clear q384
            try clear q385
            try clear q389
            obtain ⟨x11_2, x12_2, rfl, rfl, HA, HK2, HO_7, BK379, BK390, HB⟩ := hrel
            cases gk with
            | zero => exact absurd HA.out (by simp [impl_eval.l1])
            | succ k2 =>
             have H := HA.out
             clear HA
             simp only [impl_eval.l1] at H
             by_cases c23 : x12_2 < ((rd_T75 l0_1 (wrap64 ((-1) - (rd l1 x8_1)))).f0)
             ·rw [if_pos c23] at H
              have c23b0 : decide (x12_2 < ((rd_T75 l0_1 (wrap64 ((-1) - (rd l1 x8_1)))).f0)) = true := decide_eq_true c23
              clear c23
              obtain ⟨ji24, hji24⟩ : ∃ j_ : Int, (wrap64 ((wrap64 ((x7_1.length : Int) - 1)) - x12_2)) = j_ := ⟨_, rfl⟩
              replace H : (if 0 ≤ (ji24) then (if (ji24) < (x7_1.length : Int) then (impl_eval.l1 k2 l1 l2 x7_1 x8_1 (wrap64 ((wrap64 (x11_2 * a0_0)) + (rd x7_1 (ji24)))) (wrap64 (x12_2 + 1)) a0_0 l0_1 ((rd_T75 l0_1 (wrap64 ((-1) - (rd l1 x8_1)))).f0) ((rd_T75 l0_1 (wrap64 ((-1) - (rd l1 x8_1)))).f1)) else (none)) else (none)) = some r := by first | (rw [hji24] at H; exact H) | (simp only [hji24] at H ⊢; exact H)
              have hji24w : (IntKind.i64.wrap ((wrap64 ((x7_1.length : Int) - 1)) - x12_2)) = ji24 := (i64_w _).trans hji24
              by_cases c25 : 0 ≤ (ji24)
              ·rw [if_pos c25] at H
               have c25b0 : decide (0 ≤ (ji24)) = true := decide_eq_true c25
               clear c25
               by_cases c26 : (ji24) < (x7_1.length : Int)
               ·rw [if_pos c26] at H
                have c26b0 : decide ((ji24) < (x7_1.length : Int)) = true := decide_eq_true c26
                clear c26
                have H' := Aside0.mk H
                clear H
                have hnb27 := NB390_379.out
                have hnc27 := NB379_390.out
                have hcz28_0 : wr.cell? ⟨gb390, 0, none⟩ = some (.int .i64 ((rd_T75 l0_1 (wrap64 ((-1) - (rd l1 x8_1)))).f0)) := (blk_cell BK390.out 0).trans rfl
                have hcz28_1 : wr.cell? ⟨gb390, 1, none⟩ = some (.slice A389_1 ((rd_T75 l0_1 (wrap64 ((-1) - (rd l1 x8_1)))).f1).length c389_1) := (blk_cell BK390.out 1).trans rfl
                have hfz28_0 := blk_frozen BK390.out 0
                have hfz28_1 := blk_frozen BK390.out 1
                try go_wp2
                have n0_ := Aside0.mk (Kd.R_drew HO_7.out)
                have n1_ := Aside0.mk (kD BK379.out)
                have n2_ := Aside0.mk (kD BK390.out)
                have n3_ := Aside0.mk (bD HB.out)
                clear HO_7
                clear BK379
                clear BK390
                clear HB
                have HO_7 := n0_
                have BK379 := n1_
                have BK390 := n2_
                have HB := n3_
                clear n0_ n1_ n2_ n3_
                obtain ⟨Ao30, co30, eo30⟩ := Kd.R_slice HO_7.out
                (first | subst eo30 | (injection eo30 with f1_ f2_ f3_; have f4_ := f1_.symm; have f5_ := f3_.symm; clear f1_ f2_ f3_; subst f4_; subst f5_))
                have p391 : 0 ≤ ((ji24) : Int) := of_decide_eq_true (by first | (with_reducible assumption) | assumption)
                have q391 : (ji24) < (x7_1.length : Int) := of_decide_eq_true (by first | (with_reducible assumption) | assumption)
                obtain ⟨ad391, e391, hx391_0⟩ := Kd.at_int (Kd.R_reads' HO_7.out).2.2 (ji24) p391 q391
                cases e391
                replace p391 := eq_true p391
                replace q391 := eq_true q391
                refine start_ (n := 14) (S := fun w' => w'.cell? ⟨gb379, 0, none⟩ = some (.int .i64 a0_0) ∧ w'.cell? ⟨gb379, 1, none⟩ = some (.slice (some ad389) l0_1.length c0_1) ∧ w'.cell? (ad391.add ((ji24)).toNat) = some (.int .i64 (rd x7_1 (ji24)))) (ds := []) #[false, false, false, false, false, false, false, false, false, false, false, false, false, false] (by kernel_rfl) rfl rfl ⟨(blk_cell BK379.out 0).trans rfl, (blk_cell BK379.out 1).trans rfl, hx391_0⟩ (fun hHeld => ?_); refine with_tabW impl_eval.tab13 impl_eval.bits13 (fun HT_ HW_ => ?_)
                generalize wr.drew = w29 at HO_7 BK379 BK390 HB hx391_0 hHeld ⊢
                refine pure_ (i := 0) (N := some 48) (v := ?_) (a' := ?_) #[true, false, false, false, false, false, false, false, false, false, false, false, false, false] rfl rfl (any_of HT_.out (by kernel_rfl)) (fun _ _ _ h => h) (Or.inl ⟨by rfl, ?_⟩) ?_ ?_
                rotate_left
                ·intro w'
                 go_simp
                 with_reducible rfl
                rotate_left
                ·simp only [Act.put, lS, lZ, lT, i64_w, i32_w]
                 rfl
                refine pure_ (i := 1) (N := some 49) (v := ?_) (a' := ?_) #[true, true, false, false, false, false, false, false, false, false, false, false, false, false] rfl rfl (any_of HT_.out (by kernel_rfl)) (fun _ _ _ h => h) (Or.inl ⟨by rfl, ?_⟩) ?_ ?_
                rotate_left
                ·intro w'
                 go_simp
                 with_reducible rfl
                rotate_left
                ·simp only [Act.put, lS, lZ, lT, i64_w, i32_w]
                 rfl
                refine pure_ (i := 4) (N := some 52) (v := ?_) (a' := ?_) #[true, true, false, false, true, false, false, false, false, false, false, false, false, false] rfl rfl (any_of HT_.out (by kernel_rfl)) (fun _ _ _ h => h) (Or.inl ⟨by rfl, ?_⟩) ?_ ?_
                rotate_left
                ·intro w'
                 go_simp
                 with_reducible rfl
                rotate_left
                ·simp only [Act.put, lS, lZ, lT, i64_w, i32_w]
                 rfl
                refine pure_ (i := 5) (N := some 53) (v := ?_) (a' := ?_) #[true, true, false, false, true, true, false, false, false, false, false, false, false, false] rfl rfl (any_of HT_.out (by kernel_rfl)) (fun _ _ _ h => h) (Or.inl ⟨by rfl, ?_⟩) ?_ ?_
                rotate_left
                ·intro w'
                 go_simp
                 with_reducible rfl
                rotate_left
                ·simp only [Act.put, lS, lZ, lT, i64_w, i32_w]
                 rfl
                refine pure_ (i := 6) (N := some 54) (v := ?_) (a' := ?_) #[true, true, false, false, true, true, true, false, false, false, false, false, false, false] rfl rfl (any_of HT_.out (by kernel_rfl)) (fun _ _ _ h => h) (Or.inl ⟨by rfl, ?_⟩) ?_ ?_
                rotate_left
                ·intro w'
                 go_simp
                 with_reducible rfl
                rotate_left
                ·simp only [Act.put, lS, lZ, lT, i64_w, i32_w]
                 rfl
                refine pure_ (i := 7) (N := some 55) (v := ?_) (a' := ?_) #[true, true, false, false, true, true, true, true, false, false, false, false, false, false] rfl rfl (any_of HT_.out (by kernel_rfl)) (fun _ _ _ h => h) (Or.inl ⟨by rfl, ?_⟩) ?_ ?_
                rotate_left
                ·intro w'
                 go_simp
                 with_reducible rfl
                rotate_left
                ·simp only [Act.put, lS, lZ, lT, i64_w, i32_w]
                 rfl
                refine pure_ (i := 8) (N := some 56) (v := ?_) (a' := ?_) #[true, true, false, false, true, true, true, true, true, false, false, false, false, false] rfl rfl (any_of HT_.out (by kernel_rfl)) (fun _ _ _ h => h) (Or.inl ⟨by rfl, ?_⟩) ?_ ?_
                rotate_left
                ·intro w'
                 go_simp
                 with_reducible rfl
                rotate_left
                ·simp only [Act.put, lS, lZ, lT, i64_w, i32_w]
                 rfl
                refine pure_ (i := 9) (N := some 57) (v := ?_) (a' := ?_) #[true, true, false, false, true, true, true, true, true, true, false, false, false, false] rfl rfl (any_of HT_.out (by kernel_rfl)) (fun _ _ _ h => h) (Or.inl ⟨by rfl, ?_⟩) ?_ ?_
                rotate_left
                ·intro w'
                 go_simp
                 with_reducible rfl
                rotate_left
                ·simp only [Act.put, lS, lZ, lT, i64_w, i32_w]
                 rfl
                refine pure_ (i := 10) (N := some 58) (v := ?_) (a' := ?_) #[true, true, false, false, true, true, true, true, true, true, true, false, false, false] rfl rfl (any_of HT_.out (by kernel_rfl)) (fun _ _ _ h => h) (Or.inl ⟨by rfl, ?_⟩) ?_ ?_
                rotate_left
                ·intro w'
                 go_simp
                 with_reducible rfl
                rotate_left
                ·simp only [Act.put, lS, lZ, lT, i64_w, i32_w]
                 rfl
                refine take_ (i := 2) (N := some 50) (v := ?_) (a' := ?_) #[true, true, true, false, true, true, true, true, true, true, true, false, false, false] rfl rfl (take_ofW HT_.out HW_.out (by kernel_rfl)) (fun _ _ _ h => h) (Or.inl ⟨by rfl, ?_⟩) hHeld ?_ ?_
                rotate_left
                ·rintro w' ⟨s0, s1, s2⟩
                 go_simp
                 with_reducible rfl
                rotate_left
                ·simp only [Act.put, lS, lZ, lT, i64_w, i32_w]
                 rfl
                refine pure_ (i := 3) (N := some 51) (v := ?_) (a' := ?_) #[true, true, true, true, true, true, true, true, true, true, true, false, false, false] rfl rfl (any_of HT_.out (by kernel_rfl)) (fun _ _ _ h => h) (Or.inl ⟨by rfl, ?_⟩) ?_ ?_
                rotate_left
                ·intro w'
                 go_simp
                 with_reducible rfl
                rotate_left
                ·simp only [Act.put, lS, lZ, lT, i64_w, i32_w]
                 rfl
                refine take_ (i := 11) (N := some 59) (v := ?_) (a' := ?_) #[true, true, true, true, true, true, true, true, true, true, true, true, false, false] rfl rfl (take_ofW HT_.out HW_.out (by kernel_rfl)) (fun _ _ _ h => h) (Or.inl ⟨by rfl, ?_⟩) hHeld ?_ ?_
                rotate_left
                ·rintro w' ⟨s0, s1, s2⟩
                 go_simp
                 with_reducible rfl
                rotate_left
                ·simp only [Act.put, lS, lZ, lT, i64_w, i32_w]
                 rfl
                refine pure_ (i := 12) (N := some 60) (v := ?_) (a' := ?_) #[true, true, true, true, true, true, true, true, true, true, true, true, true, false] rfl rfl (any_of HT_.out (by kernel_rfl)) (fun _ _ _ h => h) (Or.inl ⟨by rfl, ?_⟩) ?_ ?_
                rotate_left
                ·intro w'
                 go_simp
                 with_reducible rfl
                rotate_left
                ·simp only [Act.put, lS, lZ, lT, i64_w, i32_w]
                 rfl
                refine pure_ (i := 13) (N := some 11) (v := ?_) (a' := ?_) #[true, true, true, true, true, true, true, true, true, true, true, true, true, true] rfl rfl (any_of HT_.out (by kernel_rfl)) (fun _ _ _ h => h) (Or.inl ⟨by rfl, ?_⟩) ?_ ?_
                rotate_left
                ·intro w'
                 go_simp
                 with_reducible rfl
                rotate_left
                ·simp only [Act.put, lS, lZ, lT, i64_w, i32_w]
                 rfl
                refine done_ (done_of HT_.out (by kernel_rfl)) ?_
                try go_wp2
                go_roundg k2
                case measure => have := HK1.out; have := HK2.out; omega
                case rel => exact ⟨(wrap64 ((wrap64 (x11_2 * a0_0)) + (rd x7_1 (ji24)))), (wrap64 (x12_2 + 1)), (by first | rfl | (simp; done) | (simp only [← hji24] <;> (first | rfl | simp)) | (simp [*]; done)), (by first | rfl | (simp; done) | (simp [*]; done)), H', ⟨by have := HK1.out; have := HK2.out; omega⟩, ⟨by (with_reducible repeat (first | apply Kd.R_alloc | apply Kd.R_drewN | apply Kd.R_drew)); exact HO_7.out⟩, ⟨by (with_reducible repeat (first | refine kN ?_ _ | refine kD ?_ | refine kA ?_ _)); exact BK379.out⟩, ⟨by (with_reducible repeat (first | refine kN ?_ _ | refine kD ?_ | refine kA ?_ _)); exact BK390.out⟩, ⟨by repeat (first | (with_reducible first | exact HB.out | apply bA | apply bN | apply bD | refine bS ?_ GE379.out | refine bS ?_ GE390.out) | exact HB.out)⟩⟩
               ·rw [if_neg c26] at H
                exact absurd H (by simp)
              ·rw [if_neg c25] at H
               exact absurd H (by simp)
             ·rw [if_neg c23] at H
              have c23b0 : decide (x12_2 < ((rd_T75 l0_1 (wrap64 ((-1) - (rd l1 x8_1)))).f0)) = false := decide_eq_false c23
              clear c23
              obtain ⟨ji31, hji31⟩ : ∃ j_ : Int, (wrap64 ((x7_1.length : Int) - ((rd_T75 l0_1 (wrap64 ((-1) - (rd l1 x8_1)))).f0))) = j_ := ⟨_, rfl⟩
              replace H : (if 0 ≤ (ji31) then (if (ji31) ≤ (x7_1.length : Int) then ((some (x7_1.take ((ji31) : Int).toNat : List Int)).bind fun y392 => (if 0 ≤ x11_2 then (if x11_2 < (((rd_T75 l0_1 (wrap64 ((-1) - (rd l1 x8_1)))).f1).length : Int) then (if y392.length < 17592186044416 then (impl_eval.l0 k2 l1 l2 (y392 ++ [rd ((rd_T75 l0_1 (wrap64 ((-1) - (rd l1 x8_1)))).f1) x11_2]) (wrap64 (x8_1 - 1)) a0_0 l0_1) else (none)) else (none)) else (none))) else (none)) else (none)) = some r := by first | (rw [hji31] at H; exact H) | (simp only [hji31] at H ⊢; exact H)
              have hji31w : (IntKind.i64.wrap ((x7_1.length : Int) - ((rd_T75 l0_1 (wrap64 ((-1) - (rd l1 x8_1)))).f0))) = ji31 := (i64_w _).trans hji31
              by_cases c32 : 0 ≤ (ji31)
              ·rw [if_pos c32] at H
               have c32b0 := eq_true c32
               have c32b1 : decide (0 ≤ (ji31)) = true := decide_eq_true c32
               clear c32
               by_cases c33 : (ji31) ≤ (x7_1.length : Int)
               ·rw [if_pos c33] at H
                have c33b0 := eq_true c33
                have c33b1 : decide ((ji31) ≤ (x7_1.length : Int)) = true := decide_eq_true c33
                clear c33
                obtain ⟨y392, hy392⟩ : ∃ y_ : List Int, y_ = (x7_1.take ((ji31) : Int).toNat) := ⟨_, rfl⟩
                replace H : (if 0 ≤ x11_2 then (if x11_2 < (((rd_T75 l0_1 (wrap64 ((-1) - (rd l1 x8_1)))).f1).length : Int) then (if y392.length < 17592186044416 then (impl_eval.l0 k2 l1 l2 (y392 ++ [rd ((rd_T75 l0_1 (wrap64 ((-1) - (rd l1 x8_1)))).f1) x11_2]) (wrap64 (x8_1 - 1)) a0_0 l0_1) else (none)) else (none)) else (none)) = some r := by first | (rw [hy392]; with_reducible exact H) | (have H2_ := (Option.bind_some _ _).symm.trans H; rw [hy392]; with_reducible exact H2_) | (have H2_ := (Option.bind_some _ _).symm.trans H; with_reducible exact H2_) | with_reducible exact H | (rw [hy392]; exact H) | exact H
                have Ny392 := Aside0.mk hy392
                clear hy392
                by_cases c34 : 0 ≤ x11_2
                ·rw [if_pos c34] at H
                 have c34b0 : decide (0 ≤ x11_2) = true := decide_eq_true c34
                 clear c34
                 by_cases c35 : x11_2 < (((rd_T75 l0_1 (wrap64 ((-1) - (rd l1 x8_1)))).f1).length : Int)
                 ·rw [if_pos c35] at H
                  have c35b0 : decide (x11_2 < (((rd_T75 l0_1 (wrap64 ((-1) - (rd l1 x8_1)))).f1).length : Int)) = true := decide_eq_true c35
                  clear c35
                  by_cases c36 : y392.length < 17592186044416
                  ·rw [if_pos c36] at H
                   have LMc36 := Aside0.mk c36
                   clear c36
                   obtain ⟨y396, hy396⟩ : ∃ y_ : List Int, y_ = (y392 ++ [rd ((rd_T75 l0_1 (wrap64 ((-1) - (rd l1 x8_1)))).f1) x11_2]) := ⟨_, rfl⟩
                   replace H : (impl_eval.l0 k2 l1 l2 y396 (wrap64 (x8_1 - 1)) a0_0 l0_1) = some r := by first | (rw [hy396]; with_reducible exact H) | (have H2_ := (Option.bind_some _ _).symm.trans H; rw [hy396]; with_reducible exact H2_) | (have H2_ := (Option.bind_some _ _).symm.trans H; with_reducible exact H2_) | with_reducible exact H | (rw [hy396]; exact H) | exact H
                   have Ny396 := Aside0.mk hy396
                   clear hy396
                   have H' := Aside0.mk H
                   clear H
                   have hnb37 := NB390_379.out
                   have hnc37 := NB379_390.out
                   have hcz38_0 : wr.cell? ⟨gb390, 0, none⟩ = some (.int .i64 ((rd_T75 l0_1 (wrap64 ((-1) - (rd l1 x8_1)))).f0)) := (blk_cell BK390.out 0).trans rfl
                   have hcz38_1 : wr.cell? ⟨gb390, 1, none⟩ = some (.slice A389_1 ((rd_T75 l0_1 (wrap64 ((-1) - (rd l1 x8_1)))).f1).length c389_1) := (blk_cell BK390.out 1).trans rfl
                   have hfz38_0 := blk_frozen BK390.out 0
                   have hfz38_1 := blk_frozen BK390.out 1
                   try go_wp2
                   have n0_ := Aside0.mk (Kd.R_drew HO_7.out)
                   have n1_ := Aside0.mk (kD BK379.out)
                   have n2_ := Aside0.mk (kD BK390.out)
                   have n3_ := Aside0.mk (bD HB.out)
                   clear HO_7
                   clear BK379
                   clear BK390
                   clear HB
                   have HO_7 := n0_
                   have BK379 := n1_
                   have BK390 := n2_
                   have HB := n3_
                   clear n0_ n1_ n2_ n3_
                   obtain ⟨Ao40, co40, eo40⟩ := Kd.R_slice HO_7.out
                   (first | subst eo40 | (injection eo40 with f1_ f2_ f3_; have f4_ := f1_.symm; have f5_ := f3_.symm; clear f1_ f2_ f3_; subst f4_; subst f5_))
                   have q41 : ((ji31) : Int) ≤ ((x7_1.length : Int) : Int) := of_decide_eq_true (by first | (with_reducible assumption) | assumption)
                   obtain ⟨i041, hi041, _, hsz41, _⟩ := info_parts info3
                   have hcut41 := cut_to (P := Try.prog) 25 3 .i64 Try.underlying25 hi041 Ao40 x7_1.length co40 (ji31) (of_decide_eq_true (by first | (with_reducible assumption) | assumption)) q41 (Kd.R_reads' HO_7.out).2.1
                   have hr41 := Kd.R_take (m := ((ji31) : Int).toNat) HO_7.out (by omega)
                   have hy41 : y392.length = ((ji31) : Int).toNat := (by rw [Ny392.out, List.length_take]; omega)
                   rw [← Ny392.out] at hr41
                   rw [← hy41] at hr41 hcut41
                   clear hy41 hi041 hsz41 HO_7
                   have HO394 := Aside0.mk hr41
                   clear hr41
                   replace q41 := eq_true q41
                   have p395 : 0 ≤ (x11_2 : Int) := of_decide_eq_true (by first | (with_reducible assumption) | assumption)
                   have q395 : x11_2 < (((rd_T75 l0_1 (wrap64 ((-1) - (rd l1 x8_1)))).f1).length : Int) := of_decide_eq_true (by first | (with_reducible assumption) | assumption)
                   obtain ⟨ad395, e395, hx395_0⟩ := Kd.at_int HR389_1.out x11_2 p395 q395
                   have hw395_0 := hx395_0
                   cases e395
                   replace hx395_0 := (HB.out.cell (World.block_lt_of_cell? w _ hx395_0)).trans hx395_0
                   replace p395 := eq_true p395
                   replace q395 := eq_true q395
                   refine start_ (n := 15) (S := fun w' => w'.cell? ⟨gb390, 0, none⟩ = some (.int .i64 ((rd_T75 l0_1 (wrap64 ((-1) - (rd l1 x8_1)))).f0)) ∧ w'.cell? ⟨gb390, 1, none⟩ = some (.slice (some ad395) ((rd_T75 l0_1 (wrap64 ((-1) - (rd l1 x8_1)))).f1).length c389_1) ∧ w'.cell? (ad395.add (x11_2).toNat) = some (.int .i64 (rd ((rd_T75 l0_1 (wrap64 ((-1) - (rd l1 x8_1)))).f1) x11_2))) (ds := []) #[false, false, false, false, false, false, false, false, false, false, false, false, false, false, false] (by kernel_rfl) rfl rfl ⟨(blk_cell BK390.out 0).trans rfl, (blk_cell BK390.out 1).trans rfl, ((HB.out.cell (World.block_lt_of_cell? w _ hw395_0)).trans hw395_0)⟩ (fun hHeld => ?_); refine with_tabW impl_eval.tab14 impl_eval.bits14 (fun HT_ HW_ => ?_)
                   generalize wr.drew = w39 at HO_7 BK379 BK390 HB HO394 hx395_0 hHeld ⊢
                   refine pure_ (i := 0) (N := some 61) (v := ?_) (a' := ?_) #[true, false, false, false, false, false, false, false, false, false, false, false, false, false, false] rfl rfl (any_of HT_.out (by kernel_rfl)) (fun _ _ _ h => h) (Or.inl ⟨by rfl, ?_⟩) ?_ ?_
                   rotate_left
                   ·intro w'
                    go_simp
                    with_reducible rfl
                   rotate_left
                   ·simp only [Act.put, lS, lZ, lT, i64_w, i32_w]
                    rfl
                   refine pure_ (i := 1) (N := some 62) (v := ?_) (a' := ?_) #[true, true, false, false, false, false, false, false, false, false, false, false, false, false, false] rfl rfl (any_of HT_.out (by kernel_rfl)) (fun _ _ _ h => h) (Or.inl ⟨by rfl, ?_⟩) ?_ ?_
                   rotate_left
                   ·intro w'
                    go_simp
                    with_reducible rfl
                   rotate_left
                   ·simp only [Act.put, lS, lZ, lT, i64_w, i32_w]
                    rfl
                   refine pure_ (i := 2) (N := some 63) (v := ?_) (a' := ?_) #[true, true, true, false, false, false, false, false, false, false, false, false, false, false, false] rfl rfl (any_of HT_.out (by kernel_rfl)) (fun _ _ _ h => h) (Or.inl ⟨by rfl, ?_⟩) ?_ ?_
                   rotate_left
                   ·intro w'
                    go_simp
                    with_reducible rfl
                   rotate_left
                   ·simp only [Act.put, lS, lZ, lT, i64_w, i32_w]
                    rfl
                   refine pure_ (i := 3) (N := some 64) (v := ?_) (a' := ?_) #[true, true, true, true, false, false, false, false, false, false, false, false, false, false, false] rfl rfl (any_of HT_.out (by kernel_rfl)) (fun _ _ _ h => h) (Or.inl ⟨by rfl, ?_⟩) ?_ ?_
                   rotate_left
                   ·intro w'
                    go_simp
                    with_reducible rfl
                   rotate_left
                   ·simp only [Act.put, lS, lZ, lT, i64_w, i32_w]
                    rfl
                   refine pure_ (i := 7) (N := some 68) (v := ?_) (a' := ?_) #[true, true, true, true, false, false, false, true, false, false, false, false, false, false, false] rfl rfl (any_of HT_.out (by kernel_rfl)) (fun _ _ _ h => h) (Or.inl ⟨by rfl, ?_⟩) ?_ ?_
                   rotate_left
                   ·intro w'
                    go_simp
                    with_reducible rfl
                   rotate_left
                   ·simp only [Act.put, lS, lZ, lT, i64_w, i32_w]
                    rfl
                   refine pure_ (i := 9) (N := some 70) (v := ?_) (a' := ?_) #[true, true, true, true, false, false, false, true, false, true, false, false, false, false, false] rfl rfl (any_of HT_.out (by kernel_rfl)) (fun _ _ _ h => h) (Or.inl ⟨by rfl, ?_⟩) ?_ ?_
                   rotate_left
                   ·intro w'
                    go_simp
                    with_reducible rfl
                   rotate_left
                   ·simp only [Act.put, lS, lZ, lT, i64_w, i32_w]
                    rfl
                   refine take_ (i := 4) (N := some 65) (v := ?_) (a' := ?_) #[true, true, true, true, true, false, false, true, false, true, false, false, false, false, false] rfl rfl (take_ofW HT_.out HW_.out (by kernel_rfl)) (fun _ _ _ h => h) (Or.inl ⟨by rfl, ?_⟩) hHeld ?_ ?_
                   rotate_left
                   ·rintro w' ⟨s0, s1, s2⟩
                    go_simp
                    with_reducible rfl
                   rotate_left
                   ·simp only [Act.put, lS, lZ, lT, i64_w, i32_w]
                    rfl
                   refine pure_ (i := 5) (N := some 66) (v := ?_) (a' := ?_) #[true, true, true, true, true, true, false, true, false, true, false, false, false, false, false] rfl rfl (any_of HT_.out (by kernel_rfl)) (fun _ _ _ h => h) (Or.inl ⟨by rfl, ?_⟩) ?_ ?_
                   rotate_left
                   ·intro w'
                    go_simp
                    with_reducible rfl
                   rotate_left
                   ·simp only [Act.put, lS, lZ, lT, i64_w, i32_w]
                    rfl
                   refine pure_ (i := 6) (N := some 67) (v := ?_) (a' := ?_) #[true, true, true, true, true, true, true, true, false, true, false, false, false, false, false] rfl rfl (any_of HT_.out (by kernel_rfl)) (fun _ _ _ h => h) (Or.inl ⟨by rfl, ?_⟩) ?_ ?_
                   rotate_left
                   ·intro w'
                    go_simp
                    with_reducible rfl
                   rotate_left
                   ·simp only [Act.put, lS, lZ, lT, i64_w, i32_w]
                    rfl
                   refine take_ (i := 8) (N := some 69) (v := ?_) (a' := ?_) #[true, true, true, true, true, true, true, true, true, true, false, false, false, false, false] rfl rfl (take_ofW HT_.out HW_.out (by kernel_rfl)) (fun _ _ _ h => h) (Or.inl ⟨by rfl, ?_⟩) hHeld ?_ ?_
                   rotate_left
                   ·rintro w' ⟨s0, s1, s2⟩
                    go_simp
                    with_reducible rfl
                   rotate_left
                   ·simp only [Act.put, lS, lZ, lT, i64_w, i32_w]
                    rfl
                   refine pure_ (i := 10) (N := some 71) (v := ?_) (a' := ?_) #[true, true, true, true, true, true, true, true, true, true, true, false, false, false, false] rfl rfl (any_of HT_.out (by kernel_rfl)) (fun _ _ _ h => h) (Or.inl ⟨by rfl, ?_⟩) ?_ ?_
                   rotate_left
                   ·intro w'
                    go_simp
                    with_reducible rfl
                   rotate_left
                   ·simp only [Act.put, lS, lZ, lT, i64_w, i32_w]
                    rfl
                   refine take_ (i := 11) (N := some 72) (v := ?_) (a' := ?_) #[true, true, true, true, true, true, true, true, true, true, true, true, false, false, false] rfl rfl (take_ofW HT_.out HW_.out (by kernel_rfl)) (fun _ _ _ h => h) (Or.inl ⟨by rfl, ?_⟩) hHeld ?_ ?_
                   rotate_left
                   ·rintro w' ⟨s0, s1, s2⟩
                    go_simp
                    with_reducible rfl
                   rotate_left
                   ·simp only [Act.put, lS, lZ, lT, i64_w, i32_w]
                    rfl
                   refine one_ (i := 12) (N := some 73) #[true, true, true, true, true, true, true, true, true, true, true, true, true, false, false] rfl rfl (one_of HT_.out (by kernel_rfl)) (by decide) (fun K hK => ?_)
                   refine value_ (w1 := ?_) (v := ?_) (by rfl) rfl ?_ ?_
                   rotate_left 2
                   ·go_simp
                    constructor
                    ·rfl
                    ·rfl
                   refine hK.out _ _ ⟨(blk_cell (kA BK390.out _) 0).trans rfl, (blk_cell (kA BK390.out _) 1).trans rfl, (World.cell?_alloc_lt _ _ _ (World.block_lt_of_cell? _ _ (((HB.out.cell (World.block_lt_of_cell? w _ hw395_0)).trans hw395_0)))).trans (((HB.out.cell (World.block_lt_of_cell? w _ hw395_0)).trans hw395_0))⟩ (fun hHeld => ?_)
                   clear hK K
                   refine norm_ (a' := ?_) ?_ ?_
                   rotate_left
                   ·show Act.put _ (some 73) _ = _
                    simp only [Act.put, lS, lZ, lT, i64_w, i32_w]
                    rfl
                   refine one_ (i := 13) (N := some 74) #[true, true, true, true, true, true, true, true, true, true, true, true, true, true, false] rfl rfl (one_of HT_.out (by kernel_rfl)) (by decide) (fun K hK => ?_)
                   refine Kd.R_append_step (Kd.int .i64) (w0 := w) w.heap.size (by rfl) (.tmp 67) (.tmp 73) 25 3 (.int .i64 0) 8 rfl Try.underlying25 info3 rfl (by decide) (by omega) (.slice Ao40 y392.length co40) y392 (rd ((rd_T75 l0_1 (wrap64 ((-1) - (rd l1 x8_1)))).f1) x11_2) [.int .i64 (rd ((rd_T75 l0_1 (wrap64 ((-1) - (rd l1 x8_1)))).f1) x11_2)] (fun _ => True) (fun _ => False) rfl rfl ?aP (fun _ hk => hk.elim) ?aF ?aO ?aB ?aS ?aL ?_
                   (case aP => exact rfl)
                   (case aB => exact (by repeat (first | (with_reducible first | exact HB.out | apply bA | apply bN | apply bD | refine bS ?_ GE379.out | refine bS ?_ GE390.out) | exact HB.out)))
                   (case aF => exact (fun _ _ => trivial))
                   (case aO => exact (by (with_reducible repeat (first | apply Kd.R_alloc | apply Kd.R_drewN | apply Kd.R_drew)); exact HO394.out))
                   (case aS => exact (below_size (by repeat (first | (with_reducible first | exact HB.out | apply bA | apply bN | apply bD | refine bS ?_ GE379.out | refine bS ?_ GE390.out) | exact HB.out))))
                   (case aL => have := LMc36.out; omega)
                   intro v397 w42 ho hb hg hat
                   rw [← Ny396.out] at ho
                   have n0_ := Aside0.mk (blk_grown (g := gb379) (o := .cells #[.int .i64 a0_0, .slice (some ad389) l0_1.length c0_1] 31 (0, 0)) (by (with_reducible repeat (first | refine kN ?_ _ | refine kD ?_ | refine kA ?_ _)); exact BK379.out) hg (Kd.R_ne HO394.out BK379.out (by decide)))
                   have n1_ := Aside0.mk (blk_grown (g := gb390) (o := .cells #[.int .i64 ((rd_T75 l0_1 (wrap64 ((-1) - (rd l1 x8_1)))).f0), .slice (some ad395) ((rd_T75 l0_1 (wrap64 ((-1) - (rd l1 x8_1)))).f1).length c389_1] 75 (0, 0)) (by (with_reducible repeat (first | refine kN ?_ _ | refine kD ?_ | refine kA ?_ _)); exact BK390.out) hg (Kd.R_ne HO394.out BK390.out (by decide)))
                   have n2_ := Aside0.mk (hb)
                   have n3_ := Aside0.mk (ho)
                   clear BK379
                   clear BK390
                   clear HB
                   clear HO394
                   have BK379 := n0_
                   have BK390 := n1_
                   have HB := n2_
                   have HO398 := n3_
                   clear n0_ n1_ n2_ n3_
                   clear ho hb hg hat
                   refine hK.out _ _ ⟨(blk_cell BK390.out 0).trans rfl, (blk_cell BK390.out 1).trans rfl, ((HB.out.cell (World.block_lt_of_cell? w _ hw395_0)).trans hw395_0)⟩ (fun hHeld => ?_)
                   clear hK K
                   refine norm_ (a' := ?_) ?_ ?_
                   rotate_left
                   ·show Act.put _ (some 74) _ = _
                    simp only [Act.put, lS, lZ, lT, i64_w, i32_w]
                    rfl
                   refine pure_ (i := 14) (N := some 7) (v := ?_) (a' := ?_) #[true, true, true, true, true, true, true, true, true, true, true, true, true, true, true] rfl rfl (any_of HT_.out (by kernel_rfl)) (fun _ _ _ h => h) (Or.inl ⟨by rfl, ?_⟩) ?_ ?_
                   rotate_left
                   ·intro w'
                    go_simp
                    with_reducible rfl
                   rotate_left
                   ·simp only [Act.put, lS, lZ, lT, i64_w, i32_w]
                    rfl
                   refine done_ (done_of HT_.out (by kernel_rfl)) ?_
                   try go_wp2
                   go_roundg k2
                   case measure => have := HK1.out; have := HK2.out; omega
                   case rel => exact ⟨(y396), (wrap64 (x8_1 - 1)), (by first | rfl | (simp; done) | (simp [*]; done)), H', ⟨by have := HK1.out; have := HK2.out; omega⟩, ⟨by (with_reducible repeat (first | apply Kd.R_alloc | apply Kd.R_drewN | apply Kd.R_drew)); exact HO398.out⟩, ⟨by (with_reducible repeat (first | refine kN ?_ _ | refine kD ?_ | refine kA ?_ _)); exact BK379.out⟩, ⟨by repeat (first | (with_reducible first | exact HB.out | apply bA | apply bN | apply bD | refine bS ?_ GE379.out | refine bS ?_ GE390.out) | exact HB.out)⟩⟩
                  ·rw [if_neg c36] at H
                   exact absurd H (by simp)
                 ·rw [if_neg c35] at H
                  exact absurd H (by simp)
                ·rw [if_neg c34] at H
                 exact absurd H (by simp)
               ·rw [if_neg c33] at H
                exact absurd H (by simp)
              ·rw [if_neg c32] at H
               exact absurd H (by simp)
          ·rw [if_neg c18] at H
           exact absurd H (by simp)
         ·rw [if_neg c17] at H
          exact absurd H (by simp)
       ·rw [if_neg c11] at H
        exact absurd H (by simp)
      ·rw [if_neg c10] at H
       exact absurd H (by simp)
     ·rw [if_neg c9] at H
      have c9b0 : decide (0 ≤ x8_1) = false := decide_eq_false c9
      clear c9
      by_cases c43 : 0 < (x7_1.length : Int)
      ·rw [if_pos c43] at H
       have c43b0 : decide (0 < (x7_1.length : Int)) = true := decide_eq_true c43
       have c43b1 : decide (0 < x7_1.length) = true := decide_eq_true (by omega)
       clear c43
       obtain rfl := Option.some.inj H
       obtain ⟨Ao44, co44, eo44⟩ := Kd.R_slice HO_7.out
       subst eo44
       have p383 : 0 ≤ (0 : Int) := (by omega)
       have q383 : 0 < (x7_1.length : Int) := of_decide_eq_true (by first | (with_reducible assumption) | assumption)
       obtain ⟨ad383, e383, hx383_0⟩ := Kd.at_int (Kd.R_reads' HO_7.out).2.2 0 p383 q383
       cases e383
       have qi383 : (0 < x7_1.length) = True := eq_true (by omega)
       (try rw [show ((0 : Int)).toNat = 0 from rfl] at hx383_0)
       (try rw [Addr.add_zero'] at hx383_0)
       replace p383 := eq_true p383
       replace q383 := eq_true q383
       go_wp2
       go_ret
       exact ⟨by first | rfl | (simp [*, errW_none, errW_some] <;> rfl), by repeat (first | (with_reducible first | exact HB.out | apply bA | apply bN | apply bD | refine bS ?_ GE379.out) | exact HB.out)⟩
      ·rw [if_neg c43] at H
       exact absurd H (by simp)
  ·rw [if_neg c5] at H
   exact absurd H (by simp)
 ·rw [if_neg c4] at H
  exact absurd H (by simp)

end Go.Proofs.Ytcgkgimkpndhmab.Q
