/- Contracts of Go functions, each with a plain Lean function of the same answers: whatever the arguments, the call comes to what the Lean function tells. Written by a program of this session. -/
import Derived.Test.YtflkiiiomnogfabQx0
import Derived.Test.YtflkiiiomnogfabQx1
import Derived.Test.YtflkiiiomnogfabQx3
import Derived.Test.YtflkiiiomnogfabQx4
import Derived.Test.YtflkiiiomnogfabQx5
import Derived.Test.YtflkiiiomnogfabQx6
import Derived.Test.YtflkiiiomnogfabQx7
import Derived.Test.YtflkiiiomnogfabQx9
namespace Go.Proofs.Ytflkiiiomnogfab.Q
open Go.RowKit Go.Proofs.YtflkiiiomnogfabW.PrintWords Go.Proofs.YtflkiiiomnogfabW.PrintLast Go.Proofs.YtflkiiiomnogfabW.PrintMore
attribute [local go_sem] max2_int min2_int max_two min_two max_three min_three max_four min_four   -- for this text's walks alone
set_option linter.unusedVariables false
set_option linter.unusedSimpArgs false

/-! ### impl_ConstantsOf: function 18 -/
def impl_ConstantsOf.l0 : Nat → List Bool → List (S58) → Int → Int → Option (List Int × Bool)
  | 0, _, _, _, _ => none
  | k + 1, x4, x15, x16, x17 => if x17 < x16 then (if 0 ≤ x17 then (if x17 < (x15.length : Int) then (if ((rd_T58 x15 x17).f0) = 0 then (if 0 < (((rd_T58 x15 x17).f1).length : Int) then (if 0 ≤ (rd ((rd_T58 x15 x17).f1) 0) then (if (rd ((rd_T58 x15 x17).f1) 0) < (x4.length : Int) then (impl_ConstantsOf.l0 k (x4.set ((rd ((rd_T58 x15 x17).f1) 0) : Int).toNat true) x15 x16 (wrap64 (x17 + 1))) else (none)) else (none)) else (none)) else (impl_ConstantsOf.l0 k x4 x15 x16 (wrap64 (x17 + 1)))) else (none)) else (none)) else ((impl_marked.f k x4).bind fun t278 => (some (t278, true)))
def impl_ConstantsOf.f (k : Nat) (a0_0 : Int) (l0_1 : List (S58)) : Option (List Int × Bool) := (impl_IsAlgebra.f k a0_0 l0_1).bind fun t267 => (if t267 = true then (if 0 ≤ a0_0 then (if (a0_0 : Int).toNat ≤ 281474976710656 then (impl_ConstantsOf.l0 k (List.replicate (a0_0 : Int).toNat false) l0_1 (l0_1.length : Int) 0) else (none)) else (none)) else (some ((([] : List Int)), false)))
theorem impl_ConstantsOf.mono_l : ∀ k, (∀ y0 y1 y2 y3, LeO (impl_ConstantsOf.l0 k y0 y1 y2 y3) (impl_ConstantsOf.l0 (k + 1) y0 y1 y2 y3))
  | 0 => fun _ _ _ _ r h => by simp [impl_ConstantsOf.l0] at h
  | k + 1 => by
    have ih0 := impl_ConstantsOf.mono_l k
    · intro y0 y1 y2 y3
      unfold impl_ConstantsOf.l0
      repeat' first
      | (with_reducible exact ih0 _ _ _ _)
      | (with_reducible exact impl_IsAlgebra.mono _ _ _)
      | (with_reducible exact impl_marked.mono _ _)
      | (with_reducible exact LeO.refl _)
      | (with_reducible exact LeO.none _)
      | (with_reducible refine LeO.ite ?_ ?_)
      | (with_reducible refine LeO.bind ?_ (fun _ => ?_))
      | exact ih0 _ _ _ _
      | exact impl_IsAlgebra.mono _ _ _
      | exact impl_marked.mono _ _
      | exact LeO.none _
      | refine LeO.ite ?_ ?_
      | refine LeO.bind ?_ (fun _ => ?_)
theorem impl_ConstantsOf.mono : ∀ a0 a1 k, LeO (impl_ConstantsOf.f k a0 a1) (impl_ConstantsOf.f (k + 1) a0 a1) := by
  intro a0 a1 k
  have ih0 := impl_ConstantsOf.mono_l k
  unfold impl_ConstantsOf.f
  repeat' first
      | (with_reducible exact ih0 _ _ _ _)
      | (with_reducible exact impl_IsAlgebra.mono _ _ _)
      | (with_reducible exact impl_marked.mono _ _)
      | (with_reducible exact LeO.refl _)
      | (with_reducible exact LeO.none _)
      | (with_reducible refine LeO.ite ?_ ?_)
      | (with_reducible refine LeO.bind ?_ (fun _ => ?_))
      | exact ih0 _ _ _ _
      | exact impl_IsAlgebra.mono _ _ _
      | exact impl_marked.mono _ _
      | exact LeO.none _
      | refine LeO.ite ?_ ?_
      | refine LeO.bind ?_ (fun _ => ?_)
set_option maxHeartbeats 8000000 in
set_option maxRecDepth 100000 in
theorem impl_ConstantsOf.calls (k : Nat) (a0_0 : Int) (A0_1 : Option Addr) (c0_1 : Nat) (l0_1 : List (S58)) (r1 : List Int) (r2 : Bool) (w : World) (hr0_1 : Kd.C k58 w A0_1 l0_1.length l0_1) (hc0_1 : l0_1.length ≤ c0_1) (h : impl_ConstantsOf.f k a0_0 l0_1 = some (r1, r2)) :
    Calls Try.prog 18 #[.agg #[.int .i64 a0_0, .slice A0_1 l0_1.length c0_1]] w fun e w' => ∃ v0_ : Value, e = .returned (.tuple #[v0_, .bool r2]) ∧ Kd.R (Kd.int .i64) 3 w' w.heap.size (fun _ => True) v0_ r1 ∧ Below w.heap.size w w' := by
  have hu31 := Try.underlying31
  have hu58 := Try.underlying58
  have HR0_1 := Aside0.mk hr0_1
  have HC0_1 := Aside0.mk hc0_1
  clear hr0_1 hc0_1
  have HB := Aside0.mk (Below.refl w.heap.size w)
  have H : ((impl_IsAlgebra.f k a0_0 l0_1).bind fun t267 => (if t267 = true then (if 0 ≤ a0_0 then (if (a0_0 : Int).toNat ≤ 281474976710656 then (impl_ConstantsOf.l0 k (List.replicate (a0_0 : Int).toNat false) l0_1 (l0_1.length : Int) 0) else (none)) else (none)) else (some ((([] : List Int)), false)))) = some (r1, r2) := h
  clear h
  replace H := Option.bind_eq_some_iff.mp H
  obtain ⟨t267, A20, H⟩ := H
  replace H : (if t267 = true then (if 0 ≤ a0_0 then (if (a0_0 : Int).toNat ≤ 281474976710656 then (impl_ConstantsOf.l0 k (List.replicate (a0_0 : Int).toNat false) l0_1 (l0_1.length : Int) 0) else (none)) else (none)) else (some ((([] : List Int)), false))) = some (r1, r2) := H
  have A2 := Aside0.mk A20
  clear A20
  by_cases c3 : t267 = true
  · subst c3
    have H1 : (if 0 ≤ a0_0 then (if (a0_0 : Int).toNat ≤ 281474976710656 then (impl_ConstantsOf.l0 k (List.replicate (a0_0 : Int).toNat false) l0_1 (l0_1.length : Int) 0) else (none)) else (none)) = some (r1, r2) := by rw [if_pos rfl] at H; exact H
    clear H
    have H := H1
    clear H1
    by_cases c4 : 0 ≤ a0_0
    · rw [if_pos c4] at H
      have c4b0 := eq_true c4
      have c4b1 : decide (0 ≤ a0_0) = true := decide_eq_true c4
      clear c4
      by_cases c5 : (a0_0 : Int).toNat ≤ 281474976710656
      · rw [if_pos c5] at H
        have c5b0 := eq_true c5
        have c5b1 : decide ((a0_0 : Int).toNat ≤ 281474976710656) = true := decide_eq_true c5
        clear c5
        obtain ⟨y271, hy271⟩ : ∃ y_ : List Bool, y_ = (List.replicate (a0_0 : Int).toNat false) := ⟨_, rfl⟩
        replace H : (impl_ConstantsOf.l0 k y271 l0_1 (l0_1.length : Int) 0) = some (r1, r2) := by first | (rw [hy271]; with_reducible exact H) | (have H2_ := (Option.bind_some _ _).symm.trans H; rw [hy271]; with_reducible exact H2_) | (have H2_ := (Option.bind_some _ _).symm.trans H; with_reducible exact H2_) | with_reducible exact H | (rw [hy271]; exact H) | exact H
        have Ny271 := Aside0.mk hy271
        clear hy271
        have H' := Aside0.mk H
        clear H
        go_enter Try.func18, Try.ntmps18
        go_wp2_with (first | ((with_reducible refine gate_dst (N := 1) rfl ?_); refine box_event ?hg (N := 1) ?hd (cs := #[.int .i64 a0_0, .slice A0_1 l0_1.length c0_1]) (t := 31) ?hr ?_; (case hd => rfl); (case hg => rfl); (case hr => first | (go_simp; done) | (go_simp; rfl)); intro gb266 hg w6 hbox hb; have n0_ := Aside0.mk (below_step (by repeat (first | (with_reducible first | exact HB.out | apply below_alloc | apply pw_below_drewN | apply below_drew1) | exact HB.out)) hb); have n1_ := Aside0.mk (hbox); have n2_ := Aside0.mk ((by rw [hg]; exact (below_size (by repeat (first | (with_reducible first | exact HB.out | apply below_alloc | apply pw_below_drewN | apply below_drew1) | exact HB.out))) : w.heap.size ≤ gb266)); have n3_ := Aside0.mk ((by rw [hg]; exact (below_size (by repeat (first | (with_reducible first | exact HB.out | apply below_alloc | apply pw_below_drewN | apply below_drew1) | exact HB.out))) : w.heap.size ≤ gb266)); clear HB; have HB := n0_; have BK266 := n1_; have GW266 := n2_; have GE266 := n3_; clear n0_ n1_ n2_ n3_; clear hb hbox hg; have hcz7_0 : w6.cell? ⟨gb266, 0, none⟩ = some (.int .i64 a0_0) := (blk_cell BK266.out 0).trans rfl; have hcz7_1 : w6.cell? ⟨gb266, 1, none⟩ = some (.slice A0_1 l0_1.length c0_1) := (blk_cell BK266.out 1).trans rfl; have hfz7_0 := blk_frozen BK266.out 0; have hfz7_1 := blk_frozen BK266.out 1) | ((with_reducible refine gate_callee (f := 34) rfl ?_); refine goesL_ (some 8) rfl rfl Try.func34 (by kernel_rfl) rfl #[.agg #[.int .i64 a0_0, .slice A0_1 l0_1.length c0_1]] rfl (by (try simp only [List.map_toArray, List.map_cons, List.map_nil]); first | done | rfl | (simp only [List.length_drop, List.length_take]; rfl)) ?_; (with_reducible refine (impl_IsAlgebra.calls k a0_0 _ _ l0_1 true _ ?side1 ?side2 A2.out).mono ?_); (case side1 => repeat (first | exact (Kd.C_below HR0_1.out HB.out) | (with_reducible refine Kd.C_alloc ?_ _) | (with_reducible refine Kd.C_drewN ?_ _) | (with_reducible refine Kd.C_drew ?_))); (case side2 => exact HC0_1.out); rintro e w8 ⟨rfl, hb⟩; refine ⟨_, rfl, ?_⟩; have n0_ := Aside0.mk (blk_below (g := gb266) (o := .cells #[.int .i64 a0_0, .slice A0_1 l0_1.length c0_1] 31 (0, 0)) (by (with_reducible repeat (first | refine blk_drewN ?_ _ | refine blk_drew ?_ | refine blk_alloc ?_ _)); exact BK266.out) hb); have n1_ := Aside0.mk (below_step (by repeat (first | (with_reducible first | exact HB.out | apply below_alloc | apply pw_below_drewN | apply below_drew1 | refine below_set ?_ GE266.out) | exact HB.out)) hb); clear BK266; clear HB; have BK266 := n0_; have HB := n1_; clear n0_ n1_; (try clear hb); (try clear hb2); (try clear hk); (try clear hi); have hcz9_0 : w8.cell? ⟨gb266, 0, none⟩ = some (.int .i64 a0_0) := (blk_cell BK266.out 0).trans rfl; have hcz9_1 : w8.cell? ⟨gb266, 1, none⟩ = some (.slice A0_1 l0_1.length c0_1) := (blk_cell BK266.out 1).trans rfl; have hfz9_0 := blk_frozen BK266.out 0; have hfz9_1 := blk_frozen BK266.out 1) | ((with_reducible refine gate_dst (N := 13) rfl ?_); refine Kd.R_make Kd.bool _ 4 rfl (N := 13) rfl 60 _ _ rfl a0_0 rfl rfl Try.underlying60 (.bool false) 1 info4 rfl (by decide) (by omega) false (ok := fun _ => True) (okp := fun _ => True) rfl (fun _ hk => hk) trivial (of_decide_eq_true (by first | (with_reducible assumption) | assumption)) (Nat.le_trans (Nat.mul_le_mul_right _ (of_decide_eq_true (by first | (with_reducible assumption) | assumption) : a0_0.toNat ≤ 281474976710656)) (by omega)) (Below.refl _ _) (Nat.le_refl _) ?_; intro v272 w10 ho11 hb hg_ hnew_; clear hg_ hnew_; (first | rw [← Ny271.out] at ho11 | (simp only [Int.reduceToNat] at ho11; rw [← Ny271.out] at ho11)); have n0_ := Aside0.mk (Kd.R_lower ho11 (below_size (by repeat (first | (with_reducible first | exact HB.out | apply below_alloc | apply pw_below_drewN | apply below_drew1 | refine below_set ?_ GE266.out) | exact HB.out)))); have n1_ := Aside0.mk (blk_below (g := gb266) (o := .cells #[.int .i64 a0_0, .slice A0_1 l0_1.length c0_1] 31 (0, 0)) (by (with_reducible repeat (first | refine blk_drewN ?_ _ | refine blk_drew ?_ | refine blk_alloc ?_ _)); exact BK266.out) hb); have n2_ := Aside0.mk (below_step (by repeat (first | (with_reducible first | exact HB.out | apply below_alloc | apply pw_below_drewN | apply below_drew1 | refine below_set ?_ GE266.out) | exact HB.out)) hb); clear BK266; clear HB; have HO273 := n0_; have BK266 := n1_; have HB := n2_; clear n0_ n1_ n2_; clear hb ho11; have hcz12_0 : w10.cell? ⟨gb266, 0, none⟩ = some (.int .i64 a0_0) := (blk_cell BK266.out 0).trans rfl; have hcz12_1 : w10.cell? ⟨gb266, 1, none⟩ = some (.slice A0_1 l0_1.length c0_1) := (blk_cell BK266.out 1).trans rfl; have hfz12_0 := blk_frozen BK266.out 0; have hfz12_1 := blk_frozen BK266.out 1))
        go_loopg [17] k (fun kq v17 w' => ∃ (x4_1 : List Bool) (x17_1 : Int), v17 = .int .i64 x17_1 ∧ Aside0 (impl_ConstantsOf.l0 kq x4_1 l0_1 (l0_1.length : Int) x17_1 = some (r1, r2)) ∧ Aside0 (kq ≤ k) ∧ Aside0 (Kd.R Kd.bool 4 w' w.heap.size (fun _ => True) v272 x4_1) ∧ Aside0 (w'.heap[gb266]? = some (.cells #[.int .i64 a0_0, (.slice A0_1 l0_1.length c0_1)] 31 (0, 0))) ∧ Aside0 (Below w.heap.size w w'))
        case atStart => exact ⟨(y271), (0), (by first | rfl | (simp; done) | (simp [*]; done)), H', ⟨Nat.le_refl _⟩, ⟨by (with_reducible repeat (first | apply Kd.R_alloc | apply Kd.R_drewN | apply Kd.R_drew)); exact HO273.out⟩, ⟨by (with_reducible repeat (first | refine blk_drewN ?_ _ | refine blk_drew ?_ | refine blk_alloc ?_ _)); exact BK266.out⟩, ⟨by repeat (first | (with_reducible first | exact HB.out | apply below_alloc | apply pw_below_drewN | apply below_drew1 | refine below_set ?_ GE266.out) | exact HB.out)⟩⟩
        case round =>
          clear H'
          try clear c1
          try clear p2
          try clear c3
          try clear c4
          try clear c4b0
          try clear c4b1
          try clear c5
          try clear c5b0
          try clear c5b1
          try clear hcz12_0
          try clear hcz12_1
          try clear hcz7_0
          try clear hcz7_1
          try clear hcz9_0
          try clear hcz9_1
          try clear hfz12_0
          try clear hfz12_1
          try clear hfz7_0
          try clear hfz7_1
          try clear hfz9_0
          try clear hfz9_1
          obtain ⟨x4_1, x17_1, rfl, HA, HK1, HO_4, BK266, HB⟩ := hrel
          cases gk with
          | zero => exact absurd HA.out (by simp [impl_ConstantsOf.l0])
          | succ k1 =>
            have H := HA.out
            clear HA
            simp only [impl_ConstantsOf.l0] at H
            by_cases c13 : x17_1 < (l0_1.length : Int)
            · rw [if_pos c13] at H
              have c13b0 : decide (x17_1 < (l0_1.length : Int)) = true := decide_eq_true c13
              clear c13
              by_cases c14 : 0 ≤ x17_1
              · rw [if_pos c14] at H
                have c14b0 : decide (0 ≤ x17_1) = true := decide_eq_true c14
                clear c14
                by_cases c15 : x17_1 < (l0_1.length : Int)
                · rw [if_pos c15] at H
                  have c15b0 : decide (x17_1 < (l0_1.length : Int)) = true := decide_eq_true c15
                  clear c15
                  by_cases c16 : ((rd_T58 l0_1 x17_1).f0) = 0
                  · rw [if_pos c16] at H
                    have c16b0 : (((rd_T58 l0_1 x17_1).f0) == 0) = true := beq_iff_eq.mpr c16
                    have c16b1 : (((rd_T58 l0_1 x17_1).f0) != 0) = false := bne_eq_false_iff_eq.mpr c16
                    clear c16
                    by_cases c17 : 0 < (((rd_T58 l0_1 x17_1).f1).length : Int)
                    · rw [if_pos c17] at H
                      have c17b0 : decide (0 < (((rd_T58 l0_1 x17_1).f1).length : Int)) = true := decide_eq_true c17
                      have c17b1 : decide (0 < ((rd_T58 l0_1 x17_1).f1).length) = true := decide_eq_true (by omega)
                      clear c17
                      by_cases c18 : 0 ≤ (rd ((rd_T58 l0_1 x17_1).f1) 0)
                      · rw [if_pos c18] at H
                        have c18b0 : decide (0 ≤ (rd ((rd_T58 l0_1 x17_1).f1) 0)) = true := decide_eq_true c18
                        clear c18
                        by_cases c19 : (rd ((rd_T58 l0_1 x17_1).f1) 0) < (x4_1.length : Int)
                        · rw [if_pos c19] at H
                          have c19b0 : decide ((rd ((rd_T58 l0_1 x17_1).f1) 0) < (x4_1.length : Int)) = true := decide_eq_true c19
                          clear c19
                          obtain ⟨y277, hy277⟩ : ∃ y_ : List Bool, y_ = (x4_1.set ((rd ((rd_T58 l0_1 x17_1).f1) 0) : Int).toNat true) := ⟨_, rfl⟩
                          replace H : (impl_ConstantsOf.l0 k1 y277 l0_1 (l0_1.length : Int) (wrap64 (x17_1 + 1))) = some (r1, r2) := by first | (rw [hy277]; with_reducible exact H) | (have H2_ := (Option.bind_some _ _).symm.trans H; rw [hy277]; with_reducible exact H2_) | (have H2_ := (Option.bind_some _ _).symm.trans H; with_reducible exact H2_) | with_reducible exact H | (rw [hy277]; exact H) | exact H
                          have Ny277 := Aside0.mk hy277
                          clear hy277
                          have H' := Aside0.mk H
                          clear H
                          have p274 : 0 ≤ (x17_1 : Int) := of_decide_eq_true (by first | (with_reducible assumption) | assumption)
                          have q274 : x17_1 < (l0_1.length : Int) := of_decide_eq_true (by first | (with_reducible assumption) | assumption)
                          obtain ⟨ad274, A274_1, c274_1, e274, hx274_0, hx274_1, hl274_1, hi274_1⟩ := at_T58 HR0_1.out x17_1 p274 q274
                          cases e274
                          replace hx274_0 := (HB.out.cell (World.block_lt_of_cell? w _ hx274_0)).trans hx274_0
                          replace hx274_1 := (HB.out.cell (World.block_lt_of_cell? w _ hx274_1)).trans hx274_1
                          have HR274_1 := Aside0.mk hi274_1
                          have HC274_1 := Aside0.mk hl274_1
                          clear hi274_1 hl274_1
                          replace p274 := eq_true p274
                          replace q274 := eq_true q274
                          go_wp2_with (first | ((with_reducible refine gate_dst (N := 6) rfl ?_); refine box_event ?hg (N := 6) ?hd (cs := #[.int .i64 0, .slice none 0 0]) (t := 58) ?hr ?_; (case hd => rfl); (case hg => rfl); (case hr => first | (go_simp; done) | (go_simp; rfl)); intro gb275 hg w21 hbox hb; have n0_ := Aside0.mk (Kd.R_below (by (with_reducible repeat (first | apply Kd.R_alloc | apply Kd.R_drewN | apply Kd.R_drew)); exact HO_4.out) hb); have n1_ := Aside0.mk (blk_below (g := gb266) (o := .cells #[.int .i64 a0_0, .slice (some ad274) l0_1.length c0_1] 31 (0, 0)) (by (with_reducible repeat (first | refine blk_drewN ?_ _ | refine blk_drew ?_ | refine blk_alloc ?_ _)); exact BK266.out) hb); have n2_ := Aside0.mk (below_step (by repeat (first | (with_reducible first | exact HB.out | apply below_alloc | apply pw_below_drewN | apply below_drew1 | refine below_set ?_ GE266.out) | exact HB.out)) hb); have n3_ := Aside0.mk (hbox); have n4_ := Aside0.mk ((by rw [hg]; exact (below_size (by repeat (first | (with_reducible first | exact HB.out | apply below_alloc | apply pw_below_drewN | apply below_drew1 | refine below_set ?_ GE266.out) | exact HB.out))) : w.heap.size ≤ gb275)); have n5_ := Aside0.mk ((by rw [hg]; exact (below_size (by repeat (first | (with_reducible first | exact HB.out | apply below_alloc | apply pw_below_drewN | apply below_drew1 | refine below_set ?_ GE266.out) | exact HB.out))) : w.heap.size ≤ gb275)); have n6_ := Aside0.mk ((by rw [hg]; exact Nat.ne_of_lt (blk_lt (g := gb266) (o := .cells #[.int .i64 a0_0, .slice (some ad274) l0_1.length c0_1] 31 (0, 0)) (by (with_reducible repeat (first | refine blk_drewN ?_ _ | refine blk_drew ?_ | refine blk_alloc ?_ _)); exact BK266.out)) : gb266 ≠ gb275)); have n7_ := Aside0.mk ((by rw [hg]; exact Nat.ne_of_gt (blk_lt (g := gb266) (o := .cells #[.int .i64 a0_0, .slice (some ad274) l0_1.length c0_1] 31 (0, 0)) (by (with_reducible repeat (first | refine blk_drewN ?_ _ | refine blk_drew ?_ | refine blk_alloc ?_ _)); exact BK266.out)) : gb275 ≠ gb266)); clear HO_4; clear BK266; clear HB; have HO_4 := n0_; have BK266 := n1_; have HB := n2_; have BK275 := n3_; have GW275 := n4_; have GE275 := n5_; have NB266_275 := n6_; have NB275_266 := n7_; clear n0_ n1_ n2_ n3_ n4_ n5_ n6_ n7_; clear hb hbox hg; have hnb22 := NB275_266.out; have hnc22 := NB266_275.out; have hcz23_0 : w21.cell? ⟨gb275, 0, none⟩ = some (.int .i64 0) := (blk_cell BK275.out 0).trans rfl; have hcz23_1 : w21.cell? ⟨gb275, 1, none⟩ = some (.slice none 0 0) := (blk_cell BK275.out 1).trans rfl; have hfz23_0 := blk_frozen BK275.out 0; have hfz23_1 := blk_frozen BK275.out 1) | ((with_reducible refine gate_store (t := 58) (p := 6) rfl ?_); refine store_event (t := 58) (p := 6) (v := ?vo_w24) (w1 := ((w21.setCell ⟨gb275, 0, none⟩ (.int .i64 ((rd_T58 l0_1 x17_1).f0))).setCell ⟨gb275, 1, none⟩ (.slice A274_1 ((rd_T58 l0_1 x17_1).f1).length c274_1))) ?hg ?ho ?hn ?hr ?_; (case ho => rfl); (case hg => rfl); (case hn => rfl); (case hr => first | (go_simp; done) | (go_simp; rfl)); intro w24 hw; have n0_ : Aside0 (Kd.R Kd.bool 4 w24 w.heap.size (fun _ => True) v272 x4_1) := ⟨(by rw [hw]; exact (by (with_reducible repeat (first | apply Kd.R_alloc | apply Kd.R_drewN | apply Kd.R_drew)); exact Kd.R_mono (Kd.R_far (p := ⟨gb275, 1, none⟩) (Kd.R_far (p := ⟨gb275, 0, none⟩) (Kd.R_types HO_4.out BK275.out (by decide)) (fun _ hk => hk.2) (.int .i64 ((rd_T58 l0_1 x17_1).f0))) (fun _ hk => hk.2) (.slice A274_1 ((rd_T58 l0_1 x17_1).f1).length c274_1)) (fun _ hk => by first | exact trivial | exact trivial)))⟩; have n1_ : Aside0 (w24.heap[gb266]? = some (.cells #[.int .i64 a0_0, .slice (some ad274) l0_1.length c0_1] 31 (0, 0))) := ⟨(by rw [hw]; exact (by (with_reducible repeat (first | refine blk_drewN ?_ _ | refine blk_drew ?_ | refine blk_alloc ?_ _)); refine blk_far ?_ NB266_275.out _; (with_reducible repeat (first | refine blk_drewN ?_ _ | refine blk_drew ?_ | refine blk_alloc ?_ _)); refine blk_far ?_ NB266_275.out _; (with_reducible repeat (first | refine blk_drewN ?_ _ | refine blk_drew ?_ | refine blk_alloc ?_ _)); exact BK266.out))⟩; have n2_ : Aside0 (w24.heap[gb275]? = some (.cells #[.int .i64 ((rd_T58 l0_1 x17_1).f0), .slice A274_1 ((rd_T58 l0_1 x17_1).f1).length c274_1] 58 (0, 0))) := ⟨(by rw [hw]; exact (by (with_reducible repeat (first | refine blk_drewN ?_ _ | refine blk_drew ?_ | refine blk_alloc ?_ _)); refine blk_put (cs := #[.int .i64 ((rd_T58 l0_1 x17_1).f0), .slice none 0 0]) ?_ 1 _ rfl; (with_reducible repeat (first | refine blk_drewN ?_ _ | refine blk_drew ?_ | refine blk_alloc ?_ _)); refine blk_put (cs := #[.int .i64 0, .slice none 0 0]) ?_ 0 _ rfl; (with_reducible repeat (first | refine blk_drewN ?_ _ | refine blk_drew ?_ | refine blk_alloc ?_ _)); exact BK275.out))⟩; have n3_ : Aside0 (Below w.heap.size w w24) := ⟨(by rw [hw]; exact (by repeat (first | (with_reducible first | exact HB.out | apply below_alloc | apply pw_below_drewN | apply below_drew1 | refine below_set ?_ GE266.out | refine below_set ?_ GE275.out) | exact HB.out)))⟩; clear hw; clear HO_4; clear BK266; clear BK275; clear HB; have HO_4 := n0_; have BK266 := n1_; have BK275 := n2_; have HB := n3_; clear n0_ n1_ n2_ n3_; have hcz25_0 : w24.cell? ⟨gb275, 0, none⟩ = some (.int .i64 ((rd_T58 l0_1 x17_1).f0)) := (blk_cell BK275.out 0).trans rfl; have hcz25_1 : w24.cell? ⟨gb275, 1, none⟩ = some (.slice A274_1 ((rd_T58 l0_1 x17_1).f1).length c274_1) := (blk_cell BK275.out 1).trans rfl; have hfz25_0 := blk_frozen BK275.out 0; have hfz25_1 := blk_frozen BK275.out 1; have p276 : 0 ≤ (0 : Int) := (by omega); have q276 : 0 < (((rd_T58 l0_1 x17_1).f1).length : Int) := of_decide_eq_true (by first | (with_reducible assumption) | assumption); obtain ⟨ad276, e276, hx276_0⟩ := Kd.at_int HR274_1.out 0 p276 q276; cases e276; have qi276 : (0 < ((rd_T58 l0_1 x17_1).f1).length) = True := eq_true (by omega); (try rw [show ((0 : Int)).toNat = 0 from rfl] at hx276_0); (try rw [Addr.add_zero'] at hx276_0); replace hx276_0 := (HB.out.cell (World.block_lt_of_cell? w _ hx276_0)).trans hx276_0; replace p276 := eq_true p276; replace q276 := eq_true q276; have p20 : 0 ≤ ((rd ((rd_T58 l0_1 x17_1).f1) 0) : Int) := of_decide_eq_true (by first | (with_reducible assumption) | assumption); have q20 : ((rd ((rd_T58 l0_1 x17_1).f1) 0) : Int) < ((x4_1.length : Int) : Int) := of_decide_eq_true (by first | (with_reducible assumption) | assumption); obtain ⟨go20, co20, eo20, gb20, gl20, cl20, HG20⟩ := Kd.R_form HO_4.out (by omega); (first | cases eo20 | (injection eo20 with ea_ en_ ec_; (first | subst ea_ | (injection ea_ with ea_; subst ea_)); subst ec_; clear en_)); have GB20 := Aside0.mk gb20; have GG20 := Aside0.mk HG20; clear gb20 gl20 HG20; obtain ⟨hx20_0, hf20_0⟩ := Kd.R_celln false HO_4.out ((rd ((rd_T58 l0_1 x17_1).f1) 0) : Int) p20 q20; replace p20 := eq_true p20; replace q20 := eq_true q20; obtain ⟨hy26_, hz26_⟩ := Kd.R_celln false HO_4.out ((rd ((rd_T58 l0_1 x17_1).f1) 0) : Int) (of_decide_eq_true (by first | (with_reducible assumption) | assumption)) (of_decide_eq_true (by first | (with_reducible assumption) | assumption)); have HP26 := Kd.R_putg HO_4.out ((rd ((rd_T58 l0_1 x17_1).f1) 0) : Int) true) | ((with_reducible refine gate_store (t := 4) (p := 29) rfl ?_); refine store_event (t := 4) (p := 29) (v := ?vo_w27) (w1 := (w24.setCell ⟨go20, ((rd ((rd_T58 l0_1 x17_1).f1) 0) : Int).toNat, none⟩ (.bool true))) ?hg ?ho ?hn ?hr ?_; (case ho => rfl); (case hg => rfl); (case hn => rfl); (case hr => first | (go_simp; done) | (go_simp; rfl)); intro w27 hw; have hg : w24.grownBy w27 (some go20) := (by rw [hw]; exact HP26.2); have hp_ : Kd.R Kd.bool 4 w27 w.heap.size (fun _ => True) (.slice (some ⟨go20, 0, none⟩) x4_1.length co20) y277 := (by rw [hw, Ny277.out]; exact HP26.1); clear HP26; have n0_ := Aside0.mk (hp_); have n1_ := Aside0.mk (blk_grown (g := gb266) (o := .cells #[.int .i64 a0_0, .slice (some ad274) l0_1.length c0_1] 31 (0, 0)) (by (with_reducible repeat (first | refine blk_drewN ?_ _ | refine blk_drew ?_ | refine blk_alloc ?_ _)); exact BK266.out) hg (Kd.R_ne HO_4.out BK266.out (by decide))); have n2_ := Aside0.mk (blk_grown (g := gb275) (o := .cells #[.int .i64 ((rd_T58 l0_1 x17_1).f0), .slice (some ad276) ((rd_T58 l0_1 x17_1).f1).length c274_1] 58 (0, 0)) (by (with_reducible repeat (first | refine blk_drewN ?_ _ | refine blk_drew ?_ | refine blk_alloc ?_ _)); exact BK275.out) hg (Kd.R_ne HO_4.out BK275.out (by decide))); have n3_ := Aside0.mk ((by rw [hw]; exact below_set (HB.out) GB20.out : Below w.heap.size w w27)); clear HO_4; clear BK266; clear BK275; clear HB; have HO_4 := n0_; have BK266 := n1_; have BK275 := n2_; have HB := n3_; clear n0_ n1_ n2_ n3_; clear hg hw hp_))
                          go_roundg k1
                          case measure => have := HK1.out; omega
                          case rel => exact ⟨(y277), (wrap64 (x17_1 + 1)), (by first | rfl | (simp; done) | (simp [*]; done)), H', ⟨by have := HK1.out; omega⟩, ⟨by (with_reducible repeat (first | apply Kd.R_alloc | apply Kd.R_drewN | apply Kd.R_drew)); exact HO_4.out⟩, ⟨by (with_reducible repeat (first | refine blk_drewN ?_ _ | refine blk_drew ?_ | refine blk_alloc ?_ _)); exact BK266.out⟩, ⟨by repeat (first | (with_reducible first | exact HB.out | apply below_alloc | apply pw_below_drewN | apply below_drew1 | refine below_set ?_ GE266.out | refine below_set ?_ GE275.out) | exact HB.out)⟩⟩
                        · rw [if_neg c19] at H
                          exact absurd H (by simp)
                      · rw [if_neg c18] at H
                        exact absurd H (by simp)
                    · rw [if_neg c17] at H
                      exact absurd H (by simp)
                  · rw [if_neg c16] at H
                    have c16b0 : (((rd_T58 l0_1 x17_1).f0) == 0) = false := beq_eq_false_iff_ne.mpr c16
                    have c16b1 : (((rd_T58 l0_1 x17_1).f0) != 0) = true := bne_iff_ne.mpr c16
                    have H' := Aside0.mk H
                    clear H
                    have p274 : 0 ≤ (x17_1 : Int) := of_decide_eq_true (by first | (with_reducible assumption) | assumption)
                    have q274 : x17_1 < (l0_1.length : Int) := of_decide_eq_true (by first | (with_reducible assumption) | assumption)
                    obtain ⟨ad274, A274_1, c274_1, e274, hx274_0, hx274_1, hl274_1, hi274_1⟩ := at_T58 HR0_1.out x17_1 p274 q274
                    cases e274
                    replace hx274_0 := (HB.out.cell (World.block_lt_of_cell? w _ hx274_0)).trans hx274_0
                    replace hx274_1 := (HB.out.cell (World.block_lt_of_cell? w _ hx274_1)).trans hx274_1
                    have HR274_1 := Aside0.mk hi274_1
                    have HC274_1 := Aside0.mk hl274_1
                    clear hi274_1 hl274_1
                    replace p274 := eq_true p274
                    replace q274 := eq_true q274
                    go_wp2_with (first | ((with_reducible refine gate_dst (N := 6) rfl ?_); refine box_event ?hg (N := 6) ?hd (cs := #[.int .i64 0, .slice none 0 0]) (t := 58) ?hr ?_; (case hd => rfl); (case hg => rfl); (case hr => first | (go_simp; done) | (go_simp; rfl)); intro gb275 hg w28 hbox hb; have n0_ := Aside0.mk (Kd.R_below (by (with_reducible repeat (first | apply Kd.R_alloc | apply Kd.R_drewN | apply Kd.R_drew)); exact HO_4.out) hb); have n1_ := Aside0.mk (blk_below (g := gb266) (o := .cells #[.int .i64 a0_0, .slice (some ad274) l0_1.length c0_1] 31 (0, 0)) (by (with_reducible repeat (first | refine blk_drewN ?_ _ | refine blk_drew ?_ | refine blk_alloc ?_ _)); exact BK266.out) hb); have n2_ := Aside0.mk (below_step (by repeat (first | (with_reducible first | exact HB.out | apply below_alloc | apply pw_below_drewN | apply below_drew1 | refine below_set ?_ GE266.out) | exact HB.out)) hb); have n3_ := Aside0.mk (hbox); have n4_ := Aside0.mk ((by rw [hg]; exact (below_size (by repeat (first | (with_reducible first | exact HB.out | apply below_alloc | apply pw_below_drewN | apply below_drew1 | refine below_set ?_ GE266.out) | exact HB.out))) : w.heap.size ≤ gb275)); have n5_ := Aside0.mk ((by rw [hg]; exact (below_size (by repeat (first | (with_reducible first | exact HB.out | apply below_alloc | apply pw_below_drewN | apply below_drew1 | refine below_set ?_ GE266.out) | exact HB.out))) : w.heap.size ≤ gb275)); have n6_ := Aside0.mk ((by rw [hg]; exact Nat.ne_of_lt (blk_lt (g := gb266) (o := .cells #[.int .i64 a0_0, .slice (some ad274) l0_1.length c0_1] 31 (0, 0)) (by (with_reducible repeat (first | refine blk_drewN ?_ _ | refine blk_drew ?_ | refine blk_alloc ?_ _)); exact BK266.out)) : gb266 ≠ gb275)); have n7_ := Aside0.mk ((by rw [hg]; exact Nat.ne_of_gt (blk_lt (g := gb266) (o := .cells #[.int .i64 a0_0, .slice (some ad274) l0_1.length c0_1] 31 (0, 0)) (by (with_reducible repeat (first | refine blk_drewN ?_ _ | refine blk_drew ?_ | refine blk_alloc ?_ _)); exact BK266.out)) : gb275 ≠ gb266)); clear HO_4; clear BK266; clear HB; have HO_4 := n0_; have BK266 := n1_; have HB := n2_; have BK275 := n3_; have GW275 := n4_; have GE275 := n5_; have NB266_275 := n6_; have NB275_266 := n7_; clear n0_ n1_ n2_ n3_ n4_ n5_ n6_ n7_; clear hb hbox hg; have hnb29 := NB275_266.out; have hnc29 := NB266_275.out; have hcz30_0 : w28.cell? ⟨gb275, 0, none⟩ = some (.int .i64 0) := (blk_cell BK275.out 0).trans rfl; have hcz30_1 : w28.cell? ⟨gb275, 1, none⟩ = some (.slice none 0 0) := (blk_cell BK275.out 1).trans rfl; have hfz30_0 := blk_frozen BK275.out 0; have hfz30_1 := blk_frozen BK275.out 1))
                    go_roundg k1
                    case measure => have := HK1.out; omega
                    case rel => exact ⟨(x4_1), (wrap64 (x17_1 + 1)), (by first | rfl | (simp; done) | (simp [*]; done)), H', ⟨by have := HK1.out; omega⟩, ⟨by (with_reducible repeat (first | apply Kd.R_alloc | apply Kd.R_drewN | apply Kd.R_drew)); exact Kd.R_mono (Kd.R_far (p := ⟨gb275, 1, none⟩) (Kd.R_far (p := ⟨gb275, 0, none⟩) (Kd.R_types HO_4.out BK275.out (by decide)) (fun _ hk => hk.2) (.int .i64 ((rd_T58 l0_1 x17_1).f0))) (fun _ hk => hk.2) (.slice A274_1 ((rd_T58 l0_1 x17_1).f1).length c274_1)) (fun _ hk => by first | exact trivial | exact trivial)⟩, ⟨by (with_reducible repeat (first | refine blk_drewN ?_ _ | refine blk_drew ?_ | refine blk_alloc ?_ _)); refine blk_far ?_ NB266_275.out _; (with_reducible repeat (first | refine blk_drewN ?_ _ | refine blk_drew ?_ | refine blk_alloc ?_ _)); refine blk_far ?_ NB266_275.out _; (with_reducible repeat (first | refine blk_drewN ?_ _ | refine blk_drew ?_ | refine blk_alloc ?_ _)); exact BK266.out⟩, ⟨by repeat (first | (with_reducible first | exact HB.out | apply below_alloc | apply pw_below_drewN | apply below_drew1 | refine below_set ?_ GE266.out | refine below_set ?_ GE275.out) | exact HB.out)⟩⟩
                · rw [if_neg c15] at H
                  exact absurd H (by simp)
              · rw [if_neg c14] at H
                exact absurd H (by simp)
            · rw [if_neg c13] at H
              have c13b0 : decide (x17_1 < (l0_1.length : Int)) = false := decide_eq_false c13
              clear c13
              replace H := Option.bind_eq_some_iff.mp H
              obtain ⟨t278, A310, H⟩ := H
              replace H : (some (t278, true)) = some (r1, r2) := H
              have A31 := Aside0.mk A310
              clear A310
              simp only [Option.some.injEq, Prod.mk.injEq] at H
              obtain ⟨rfl, rfl⟩ := H
              obtain ⟨Ao32, co32, eo32⟩ := Kd.R_slice HO_4.out
              subst eo32
              go_wp2_with (first | ((with_reducible refine gate_callee (f := 39) rfl ?_); refine goesL_ (some 32) rfl rfl Try.func39 (by kernel_rfl) rfl #[.slice Ao32 x4_1.length co32] rfl (by (try simp only [List.map_toArray, List.map_cons, List.map_nil]); first | done | rfl | (simp only [List.length_drop, List.length_take]; rfl)) ?_; (with_reducible refine (impl_marked.calls k1 _ _ x4_1 t278 _ ?side1 ?side2 A31.out).mono ?_); (case side1 => repeat (first | exact (Kd.R_reads' HO_4.out).2.2 | (with_reducible refine Kd.C_alloc ?_ _) | (with_reducible refine Kd.C_drewN ?_ _) | (with_reducible refine Kd.C_drew ?_))); (case side2 => exact (Kd.R_reads' HO_4.out).2.1); rintro e w33 ⟨v279, rfl, ho0, hb⟩; refine ⟨_, rfl, ?_⟩; have n0_ := Aside0.mk (Kd.R_below (by (with_reducible repeat (first | apply Kd.R_alloc | apply Kd.R_drewN | apply Kd.R_drew)); exact HO_4.out) hb); have n1_ := Aside0.mk (Kd.R_lower ho0 (below_size (by repeat (first | (with_reducible first | exact HB.out | apply below_alloc | apply pw_below_drewN | apply below_drew1 | refine below_set ?_ GE266.out) | exact HB.out)))); have n2_ := Aside0.mk (blk_below (g := gb266) (o := .cells #[.int .i64 a0_0, .slice A0_1 l0_1.length c0_1] 31 (0, 0)) (by (with_reducible repeat (first | refine blk_drewN ?_ _ | refine blk_drew ?_ | refine blk_alloc ?_ _)); exact BK266.out) hb); have n3_ := Aside0.mk (below_step (by repeat (first | (with_reducible first | exact HB.out | apply below_alloc | apply pw_below_drewN | apply below_drew1 | refine below_set ?_ GE266.out) | exact HB.out)) hb); clear HO_4; clear BK266; clear HB; have HO_4 := n0_; have HO280 := n1_; have BK266 := n2_; have HB := n3_; clear n0_ n1_ n2_ n3_; (try clear hb); (try clear hb2); (try clear hk); (try clear hi); (try clear ho0)))
              go_ret2
              exact ⟨_, by first | rfl | (simp [errW_none, errW_some] <;> rfl) | (simp [*, errW_none, errW_some] <;> rfl), by (with_reducible repeat (first | apply Kd.R_alloc | apply Kd.R_drewN | apply Kd.R_drew)); exact HO280.out, by repeat (first | (with_reducible first | exact HB.out | apply below_alloc | apply pw_below_drewN | apply below_drew1 | refine below_set ?_ GE266.out) | exact HB.out)⟩
      · rw [if_neg c5] at H
        exact absurd H (by simp)
    · rw [if_neg c4] at H
      exact absurd H (by simp)
  · replace c3 := Bool.eq_false_iff.mpr c3
    subst c3
    have H1 : (some ((([] : List Int)), false)) = some (r1, r2) := by rw [if_neg (show ¬ (false = true) by decide)] at H; exact H
    clear H
    have H := H1
    clear H1
    obtain ⟨y268, hy268⟩ : ∃ y_ : List Int, y_ = (([] : List Int)) := ⟨_, rfl⟩
    replace H : (some (y268, false)) = some (r1, r2) := by first | (rw [hy268]; with_reducible exact H) | (have H2_ := (Option.bind_some _ _).symm.trans H; rw [hy268]; with_reducible exact H2_) | (have H2_ := (Option.bind_some _ _).symm.trans H; with_reducible exact H2_) | with_reducible exact H | (rw [hy268]; exact H) | exact H
    have Ny268 := Aside0.mk hy268
    clear hy268
    simp only [Option.some.injEq, Prod.mk.injEq] at H
    obtain ⟨rfl, rfl⟩ := H
    go_enter Try.func18, Try.ntmps18
    go_wp2_with (first | ((with_reducible refine gate_dst (N := 1) rfl ?_); refine box_event ?hg (N := 1) ?hd (cs := #[.int .i64 a0_0, .slice A0_1 l0_1.length c0_1]) (t := 31) ?hr ?_; (case hd => rfl); (case hg => rfl); (case hr => first | (go_simp; done) | (go_simp; rfl)); intro gb266 hg w34 hbox hb; have n0_ := Aside0.mk (below_step (by repeat (first | (with_reducible first | exact HB.out | apply below_alloc | apply pw_below_drewN | apply below_drew1) | exact HB.out)) hb); have n1_ := Aside0.mk (hbox); have n2_ := Aside0.mk ((by rw [hg]; exact (below_size (by repeat (first | (with_reducible first | exact HB.out | apply below_alloc | apply pw_below_drewN | apply below_drew1) | exact HB.out))) : w.heap.size ≤ gb266)); have n3_ := Aside0.mk ((by rw [hg]; exact (below_size (by repeat (first | (with_reducible first | exact HB.out | apply below_alloc | apply pw_below_drewN | apply below_drew1) | exact HB.out))) : w.heap.size ≤ gb266)); clear HB; have HB := n0_; have BK266 := n1_; have GW266 := n2_; have GE266 := n3_; clear n0_ n1_ n2_ n3_; clear hb hbox hg; have hcz35_0 : w34.cell? ⟨gb266, 0, none⟩ = some (.int .i64 a0_0) := (blk_cell BK266.out 0).trans rfl; have hcz35_1 : w34.cell? ⟨gb266, 1, none⟩ = some (.slice A0_1 l0_1.length c0_1) := (blk_cell BK266.out 1).trans rfl; have hfz35_0 := blk_frozen BK266.out 0; have hfz35_1 := blk_frozen BK266.out 1) | ((with_reducible refine gate_callee (f := 34) rfl ?_); refine goesL_ (some 8) rfl rfl Try.func34 (by kernel_rfl) rfl #[.agg #[.int .i64 a0_0, .slice A0_1 l0_1.length c0_1]] rfl (by (try simp only [List.map_toArray, List.map_cons, List.map_nil]); first | done | rfl | (simp only [List.length_drop, List.length_take]; rfl)) ?_; (with_reducible refine (impl_IsAlgebra.calls k a0_0 _ _ l0_1 false _ ?side1 ?side2 A2.out).mono ?_); (case side1 => repeat (first | exact (Kd.C_below HR0_1.out HB.out) | (with_reducible refine Kd.C_alloc ?_ _) | (with_reducible refine Kd.C_drewN ?_ _) | (with_reducible refine Kd.C_drew ?_))); (case side2 => exact HC0_1.out); rintro e w36 ⟨rfl, hb⟩; refine ⟨_, rfl, ?_⟩; have n0_ := Aside0.mk (blk_below (g := gb266) (o := .cells #[.int .i64 a0_0, .slice A0_1 l0_1.length c0_1] 31 (0, 0)) (by (with_reducible repeat (first | refine blk_drewN ?_ _ | refine blk_drew ?_ | refine blk_alloc ?_ _)); exact BK266.out) hb); have n1_ := Aside0.mk (below_step (by repeat (first | (with_reducible first | exact HB.out | apply below_alloc | apply pw_below_drewN | apply below_drew1 | refine below_set ?_ GE266.out) | exact HB.out)) hb); clear BK266; clear HB; have BK266 := n0_; have HB := n1_; clear n0_ n1_; (try clear hb); (try clear hb2); (try clear hk); (try clear hi)) | ((with_reducible refine gate_dst (N := 10) rfl ?_); refine Kd.R_lit (Kd.int .i64) _ 3 ?hg (N := 10) ?hd (xs := ([] : List Int)) (inner := []) (ok := fun _ => True) (okp := fun _ => True) ?hr ?hp (fun _ hk => hk) trivial (Below.refl _ _) (Nat.le_refl _) (by simp) ?_; (case hd => rfl); (case hg => rfl); (case hr => first | (go_simp; done) | (go_simp; rfl)); (case hp => exact (Reps.none _ _)); intro v269 w37 ho38 hb hg_ hnew_; clear hg_ hnew_; (first | rw [← Ny268.out] at ho38 | (simp only [Int.reduceToNat] at ho38; rw [← Ny268.out] at ho38)); have n0_ := Aside0.mk (Kd.R_lower ho38 (below_size (by repeat (first | (with_reducible first | exact HB.out | apply below_alloc | apply pw_below_drewN | apply below_drew1 | refine below_set ?_ GE266.out) | exact HB.out)))); have n1_ := Aside0.mk (blk_below (g := gb266) (o := .cells #[.int .i64 a0_0, .slice A0_1 l0_1.length c0_1] 31 (0, 0)) (by (with_reducible repeat (first | refine blk_drewN ?_ _ | refine blk_drew ?_ | refine blk_alloc ?_ _)); exact BK266.out) hb); have n2_ := Aside0.mk (below_step (by repeat (first | (with_reducible first | exact HB.out | apply below_alloc | apply pw_below_drewN | apply below_drew1 | refine below_set ?_ GE266.out) | exact HB.out)) hb); clear BK266; clear HB; have HO270 := n0_; have BK266 := n1_; have HB := n2_; clear n0_ n1_ n2_; clear hb ho38))
    go_ret2
    exact ⟨_, by first | rfl | (simp [errW_none, errW_some] <;> rfl) | (simp [*, errW_none, errW_some] <;> rfl), by (with_reducible repeat (first | apply Kd.R_alloc | apply Kd.R_drewN | apply Kd.R_drew)); exact HO270.out, by repeat (first | (with_reducible first | exact HB.out | apply below_alloc | apply pw_below_drewN | apply below_drew1 | refine below_set ?_ GE266.out) | exact HB.out)⟩

/-! ### laws_FnExactConstantsOf: function 4 -/
def laws_FnExactConstantsOf.f (k : Nat) (a0_0 : Int) (l0_1 : List (S72)) : Option Bool := ((laws_szAlgebra.f k a0_0 l0_1 1048576).bind fun b0 => (if b0 < 0 then some true else ((laws_toAlgebra.f k a0_0 l0_1).bind fun b1 => ((spec_ConstantsOf.f k b1.1 b1.2).bind fun b2 => ((impl_ConstantsOf.f k b1.1 b1.2).bind fun b3 => ((laws_eqIntS.f k b3.1 b2.1).bind fun b4 => (if b4 = true ∧ b3.2 = b2.2 then ((laws_eqAlgebra.f k b1.1 b1.2 b1.1 b1.2).bind fun b5 => (if b5 = true then ((laws_markAlgebra.f k b1.1 b1.2 1).bind fun b6 => (if ¬ b6.1 < 0 then ((laws_markIntS.f k b3.1 1).bind fun b7 => ((laws_heldIntS.f k b7.2 1).bind fun b8 => (if ¬ b8 < 0 then (if b8 = b7.1 then some true else none) else none))) else none)) else none)) else none)))))))
open Go.Proofs.Ytflkiiiomnogfab.LawKit in
set_option maxHeartbeats 16000000 in
set_option maxRecDepth 100000 in
theorem laws_FnExactConstantsOf.calls (k : Nat) (a0_0 : Int) (A0_1 : Option Addr) (c0_1 : Nat) (l0_1 : List (S72)) (r : Bool) (w : World) (hr0_1 : Kd.C k72 w A0_1 l0_1.length l0_1) (hc0_1 : l0_1.length ≤ c0_1) (h : laws_FnExactConstantsOf.f k a0_0 l0_1 = some r) :
    Calls Try.prog 4 #[.agg #[.int .i64 a0_0, .slice A0_1 l0_1.length c0_1]] w fun e w' => e = .returned (.bool r) ∧ Below w.heap.size w w' := by
  have hu24 := Try.underlying24
  have hu31 := Try.underlying31
  have HR0_1 := Aside0.mk hr0_1
  have HC0_1 := Aside0.mk hc0_1
  clear hr0_1 hc0_1
  have HB := Aside0.mk (Below.refl w.heap.size w)
  have H := h
  clear h
  unfold laws_FnExactConstantsOf.f at H
  replace H := Option.bind_eq_some_iff.mp H
  obtain ⟨t0_0, A0, H⟩ := H
  (try dsimp only at H)
  replace A0 := Aside0.mk A0
  by_cases c0 : t0_0 < 0
  · rw [if_pos c0] at H
    have c0b : decide (t0_0 < 0) = true := decide_eq_true c0
    clear c0
    obtain rfl := Option.some.inj H
    clear H
    go_enter Try.func4, Try.ntmps4
    go_wp2_with fail
    refine letter_ ?_
    intro w2 eW
    have B0 := Aside0.mk (Lives.boxed eW)
    replace HB := Aside0.mk (below_at HB.out eW)
    have Z0 := Aside0.mk (size_at eW)
    clear eW
    have zB0_0 := (blk_cell B0.out.now 0).trans rfl
    have zB0_1 := (blk_cell B0.out.now 1).trans rfl
    have yB0_0 := fun o => (blk_cell (B0.out.alloc o).now 0).trans rfl
    have yB0_1 := fun o => (blk_cell (B0.out.alloc o).now 1).trans rfl
    refine (laws_szAlgebra.calls k a0_0 _ _ l0_1 1048576 t0_0 _ (Kd.C_below HR0_1.out HB.out) HC0_1.out A0.out).mono ?_
    rintro e w1 ⟨rfl, hb⟩
    clear zB0_0 yB0_0 zB0_1 yB0_1
    replace B0 := Aside0.mk (B0.out.below hb)
    have Z1 := Aside0.mk hb.size
    replace HB := Aside0.mk (below_step HB.out hb)
    clear hb
    have zB0_0 := (blk_cell B0.out.now 0).trans rfl
    have zB0_1 := (blk_cell B0.out.now 1).trans rfl
    have yB0_0 := fun o => (blk_cell (B0.out.alloc o).now 0).trans rfl
    have yB0_1 := fun o => (blk_cell (B0.out.alloc o).now 1).trans rfl
    go_wp2
    go_ret
    exact ⟨rfl, HB.out⟩
  rw [if_neg c0] at H
  have c0b : decide (t0_0 < 0) = false := decide_eq_false c0
  clear c0
  replace H := Option.bind_eq_some_iff.mp H
  obtain ⟨⟨t1_0, t1_1⟩, A1, H⟩ := H
  (try dsimp only at H)
  replace A1 := Aside0.mk A1
  replace H := Option.bind_eq_some_iff.mp H
  obtain ⟨⟨t2_0, t2_1⟩, A2, H⟩ := H
  (try dsimp only at H)
  replace A2 := Aside0.mk A2
  replace H := Option.bind_eq_some_iff.mp H
  obtain ⟨⟨t3_0, t3_1⟩, A3, H⟩ := H
  (try dsimp only at H)
  replace A3 := Aside0.mk A3
  replace H := Option.bind_eq_some_iff.mp H
  obtain ⟨t4_0, A4, H⟩ := H
  (try dsimp only at H)
  replace A4 := Aside0.mk A4
  replace H := of_ite H
  obtain ⟨⟨e1_0, e1_1⟩, H⟩ := H
  subst e1_0
  subst e1_1
  replace H := Option.bind_eq_some_iff.mp H
  obtain ⟨t5_0, A5, H⟩ := H
  (try dsimp only at H)
  replace A5 := Aside0.mk A5
  replace H := of_ite H
  obtain ⟨e2_0, H⟩ := H
  subst e2_0
  replace H := Option.bind_eq_some_iff.mp H
  obtain ⟨⟨t6_0, t6_1⟩, A6, H⟩ := H
  (try dsimp only at H)
  replace A6 := Aside0.mk A6
  replace H := of_ite H
  obtain ⟨e3_0, H⟩ := H
  have e3_0b : decide (t6_0 < 0) = false := decide_eq_false e3_0
  clear e3_0
  replace H := Option.bind_eq_some_iff.mp H
  obtain ⟨⟨t7_0, t7_1⟩, A7, H⟩ := H
  (try dsimp only at H)
  replace A7 := Aside0.mk A7
  replace H := Option.bind_eq_some_iff.mp H
  obtain ⟨t8_0, A8, H⟩ := H
  (try dsimp only at H)
  replace A8 := Aside0.mk A8
  replace H := of_ite H
  obtain ⟨e4_0, H⟩ := H
  have e4_0b : decide (t8_0 < 0) = false := decide_eq_false e4_0
  clear e4_0
  replace H := of_ite H
  obtain ⟨e5_0, H⟩ := H
  subst e5_0
  obtain rfl := Option.some.inj H
  clear H
  go_enter Try.func4, Try.ntmps4
  go_wp2_with fail
  refine letter_ ?_
  intro w2 eW
  have B0 := Aside0.mk (Lives.boxed eW)
  replace HB := Aside0.mk (below_at HB.out eW)
  have Z0 := Aside0.mk (size_at eW)
  clear eW
  have zB0_0 := (blk_cell B0.out.now 0).trans rfl
  have zB0_1 := (blk_cell B0.out.now 1).trans rfl
  have yB0_0 := fun o => (blk_cell (B0.out.alloc o).now 0).trans rfl
  have yB0_1 := fun o => (blk_cell (B0.out.alloc o).now 1).trans rfl
  refine (laws_szAlgebra.calls k a0_0 _ _ l0_1 1048576 t0_0 _ (Kd.C_below HR0_1.out HB.out) HC0_1.out A0.out).mono ?_
  rintro e w1 ⟨rfl, hb⟩
  clear zB0_0 yB0_0 zB0_1 yB0_1
  replace B0 := Aside0.mk (B0.out.below hb)
  have Z1 := Aside0.mk hb.size
  replace HB := Aside0.mk (below_step HB.out hb)
  clear hb
  have zB0_0 := (blk_cell B0.out.now 0).trans rfl
  have zB0_1 := (blk_cell B0.out.now 1).trans rfl
  have yB0_0 := fun o => (blk_cell (B0.out.alloc o).now 0).trans rfl
  have yB0_1 := fun o => (blk_cell (B0.out.alloc o).now 1).trans rfl
  go_wp2_with fail
  refine (laws_toAlgebra.calls k a0_0 _ _ l0_1 t1_0 t1_1 _ (Kd.C_below HR0_1.out HB.out) HC0_1.out A1.out).mono ?_
  rintro e w3 ⟨v1, rfl, ho1, hb⟩
  clear zB0_0 yB0_0 zB0_1 yB0_1
  replace B0 := Aside0.mk (B0.out.below hb)
  have Z2 := Aside0.mk hb.size
  obtain ⟨AR0, cR0, rfl⟩ := Kd.S_slice ho1
  have R0 := Aside0.mk (Lives.rowS (base := w.heap.size) ho1 hb.size HB.out.size)
  replace HB := Aside0.mk (below_step HB.out hb)
  clear hb ho1
  have zB0_0 := (blk_cell B0.out.now 0).trans rfl
  have zB0_1 := (blk_cell B0.out.now 1).trans rfl
  have yB0_0 := fun o => (blk_cell (B0.out.alloc o).now 0).trans rfl
  have yB0_1 := fun o => (blk_cell (B0.out.alloc o).now 1).trans rfl
  go_wp2_with fail
  refine (spec_ConstantsOf.calls k t1_0 _ _ t1_1 t2_0 t3_1 _ (Kd.S_reads' R0.out.now).2.2 (Kd.S_reads' R0.out.now).2.1 A2.out).mono ?_
  rintro e w4 ⟨v0, rfl, ho0, hb⟩
  clear zB0_0 yB0_0 zB0_1 yB0_1
  replace B0 := Aside0.mk (B0.out.below hb)
  replace R0 := Aside0.mk (R0.out.below hb)
  have Z3 := Aside0.mk hb.size
  obtain ⟨AR1, cR1, rfl⟩ := Kd.V_slice ho0
  have R1 := Aside0.mk (Lives.rowV (base := w.heap.size) ho0 hb.size HB.out.size)
  replace HB := Aside0.mk (below_step HB.out hb)
  clear hb ho0
  have zB0_0 := (blk_cell B0.out.now 0).trans rfl
  have zB0_1 := (blk_cell B0.out.now 1).trans rfl
  have yB0_0 := fun o => (blk_cell (B0.out.alloc o).now 0).trans rfl
  have yB0_1 := fun o => (blk_cell (B0.out.alloc o).now 1).trans rfl
  go_wp2_with fail
  refine (laws_toAlgebra.calls k a0_0 _ _ l0_1 t1_0 t1_1 _ (Kd.C_below HR0_1.out HB.out) HC0_1.out A1.out).mono ?_
  rintro e w5 ⟨v1, rfl, ho1, hb⟩
  clear zB0_0 yB0_0 zB0_1 yB0_1
  replace B0 := Aside0.mk (B0.out.below hb)
  replace R0 := Aside0.mk (R0.out.below hb)
  replace R1 := Aside0.mk (R1.out.below hb)
  have Z4 := Aside0.mk hb.size
  obtain ⟨AR2, cR2, rfl⟩ := Kd.S_slice ho1
  have R2 := Aside0.mk (Lives.rowS (base := w.heap.size) ho1 hb.size HB.out.size)
  replace HB := Aside0.mk (below_step HB.out hb)
  clear hb ho1
  have zB0_0 := (blk_cell B0.out.now 0).trans rfl
  have zB0_1 := (blk_cell B0.out.now 1).trans rfl
  have yB0_0 := fun o => (blk_cell (B0.out.alloc o).now 0).trans rfl
  have yB0_1 := fun o => (blk_cell (B0.out.alloc o).now 1).trans rfl
  go_wp2_with fail
  clear zB0_0 yB0_0 zB0_1 yB0_1
  refine letter_ ?_
  intro w7 eW
  replace B0 := Aside0.mk (B0.out.at eW)
  replace R0 := Aside0.mk (R0.out.at eW)
  replace R1 := Aside0.mk (R1.out.at eW)
  replace R2 := Aside0.mk (R2.out.at eW)
  have B1 := Aside0.mk (Lives.boxed eW)
  replace HB := Aside0.mk (below_at HB.out eW)
  have Z5 := Aside0.mk (size_at eW)
  clear eW
  have zB0_0 := (blk_cell B0.out.now 0).trans rfl
  have zB0_1 := (blk_cell B0.out.now 1).trans rfl
  have yB0_0 := fun o => (blk_cell (B0.out.alloc o).now 0).trans rfl
  have yB0_1 := fun o => (blk_cell (B0.out.alloc o).now 1).trans rfl
  have zB1_0 := (blk_cell B1.out.now 0).trans rfl
  have zB1_1 := (blk_cell B1.out.now 1).trans rfl
  have yB1_0 := fun o => (blk_cell (B1.out.alloc o).now 0).trans rfl
  have yB1_1 := fun o => (blk_cell (B1.out.alloc o).now 1).trans rfl
  refine (impl_ConstantsOf.calls k t1_0 _ _ t1_1 t3_0 t3_1 _ (Kd.S_reads' R2.out.now).2.2 (Kd.S_reads' R2.out.now).2.1 A3.out).mono ?_
  rintro e w6 ⟨v0, rfl, ho0, hb⟩
  clear zB0_0 yB0_0 zB0_1 yB0_1 zB1_0 yB1_0 zB1_1 yB1_1
  replace B0 := Aside0.mk (B0.out.below hb)
  replace R0 := Aside0.mk (R0.out.below hb)
  replace R1 := Aside0.mk (R1.out.below hb)
  replace R2 := Aside0.mk (R2.out.below hb)
  replace B1 := Aside0.mk (B1.out.below hb)
  have Z6 := Aside0.mk hb.size
  obtain ⟨AR3, cR3, rfl⟩ := Kd.R_slice ho0
  have R3 := Aside0.mk (Lives.row (base := w.heap.size) ho0 hb.size HB.out.size)
  replace HB := Aside0.mk (below_step HB.out hb)
  clear hb ho0
  have zB0_0 := (blk_cell B0.out.now 0).trans rfl
  have zB0_1 := (blk_cell B0.out.now 1).trans rfl
  have yB0_0 := fun o => (blk_cell (B0.out.alloc o).now 0).trans rfl
  have yB0_1 := fun o => (blk_cell (B0.out.alloc o).now 1).trans rfl
  have zB1_0 := (blk_cell B1.out.now 0).trans rfl
  have zB1_1 := (blk_cell B1.out.now 1).trans rfl
  have yB1_0 := fun o => (blk_cell (B1.out.alloc o).now 0).trans rfl
  have yB1_1 := fun o => (blk_cell (B1.out.alloc o).now 1).trans rfl
  go_wp2_with fail
  refine (laws_eqIntS.calls k _ _ t3_0 _ _ t2_0 true _ (Kd.R_reads' R3.out.now).2.2 (Kd.R_reads' R3.out.now).2.1 (Kd.V_reads' R1.out.now).2.2 (Kd.V_reads' R1.out.now).2.1 A4.out).mono ?_
  rintro e w8 ⟨rfl, hd⟩
  have hb := below_drawn hd
  clear hd
  clear zB0_0 yB0_0 zB0_1 yB0_1 zB1_0 yB1_0 zB1_1 yB1_1
  replace B0 := Aside0.mk (B0.out.below hb)
  replace R0 := Aside0.mk (R0.out.below hb)
  replace R1 := Aside0.mk (R1.out.below hb)
  replace R2 := Aside0.mk (R2.out.below hb)
  replace B1 := Aside0.mk (B1.out.below hb)
  replace R3 := Aside0.mk (R3.out.below hb)
  have Z7 := Aside0.mk hb.size
  replace HB := Aside0.mk (below_step HB.out hb)
  clear hb
  have zB0_0 := (blk_cell B0.out.now 0).trans rfl
  have zB0_1 := (blk_cell B0.out.now 1).trans rfl
  have yB0_0 := fun o => (blk_cell (B0.out.alloc o).now 0).trans rfl
  have yB0_1 := fun o => (blk_cell (B0.out.alloc o).now 1).trans rfl
  have zB1_0 := (blk_cell B1.out.now 0).trans rfl
  have zB1_1 := (blk_cell B1.out.now 1).trans rfl
  have yB1_0 := fun o => (blk_cell (B1.out.alloc o).now 0).trans rfl
  have yB1_1 := fun o => (blk_cell (B1.out.alloc o).now 1).trans rfl
  try go_wp2_with fail
  clear zB0_0 yB0_0 zB0_1 yB0_1 zB1_0 yB1_0 zB1_1 yB1_1
  replace B0 := Aside0.mk B0.out.drew
  replace R0 := Aside0.mk R0.out.drew
  replace R1 := Aside0.mk R1.out.drew
  replace R2 := Aside0.mk R2.out.drew
  replace B1 := Aside0.mk B1.out.drew
  replace R3 := Aside0.mk R3.out.drew
  replace HB := Aside0.mk (below_drew1 HB.out)
  have Z8 := Aside0.mk (show w8.heap.size ≤ w8.drew.heap.size from Nat.le_refl _)
  refine start_ (n := 5) (S := fun w' => w'.cell? ⟨w.heap.size, 0, none⟩ = some (.int .i64 a0_0) ∧ w'.cell? ⟨w.heap.size, 1, none⟩ = some (.slice A0_1 l0_1.length c0_1) ∧ w'.cell? ⟨w5.heap.size, 0, none⟩ = some (.int .i64 t1_0) ∧ w'.cell? ⟨w5.heap.size, 1, none⟩ = some (.slice AR2 t1_1.length cR2)) (ds := []) #[false, false, false, false, false] (by kernel_rfl) rfl rfl ⟨(blk_cell B0.out.now 0).trans rfl, (blk_cell B0.out.now 1).trans rfl, (blk_cell B1.out.now 0).trans rfl, (blk_cell B1.out.now 1).trans rfl⟩ (fun hHeld => ?_)
  generalize w8.drew = w9 at B0 R0 R1 R2 B1 R3 HB Z8 hHeld ⊢
  refine take_ (i := 0) (N := (some 41)) (v := ?_) (a' := ?_) #[true, false, false, false, false] rfl rfl (by kernel_rfl) (fun _ _ _ h => h) (Or.inl ⟨by rfl, ?_⟩) hHeld ?_ ?_
  rotate_left
  · rintro w' ⟨s0, s1, s2, s3⟩
    go_simp
    with_reducible rfl
  rotate_left
  · simp only [Act.put, List.setIfInBounds_toArray, List.set_cons_zero, List.set_cons_succ, i64_w, i32_w]
    rfl
  refine take_ (i := 1) (N := (some 42)) (v := ?_) (a' := ?_) #[true, true, false, false, false] rfl rfl (by kernel_rfl) (fun _ _ _ h => h) (Or.inl ⟨by rfl, ?_⟩) hHeld ?_ ?_
  rotate_left
  · rintro w' ⟨s0, s1, s2, s3⟩
    go_simp
    with_reducible rfl
  rotate_left
  · simp only [Act.put, List.setIfInBounds_toArray, List.set_cons_zero, List.set_cons_succ, i64_w, i32_w]
    rfl
  refine one_ (i := 2) (N := (some 43)) #[true, true, true, false, false] rfl rfl (by kernel_rfl) (by decide) (fun K hK => ?_)
  refine goes_ Try.func10 (by kernel_rfl) rfl #[.agg #[.int .i64 a0_0, .slice A0_1 l0_1.length c0_1]] (by rfl) rfl rfl (by (try simp only [List.map_toArray, List.map_cons, List.map_nil]); first | done | rfl | (simp only [List.length_drop, List.length_take]; rfl)) ?_
  refine (laws_toAlgebra.calls k a0_0 _ _ l0_1 t1_0 t1_1 _ (Kd.C_below HR0_1.out HB.out) HC0_1.out A1.out).mono ?_
  rintro e w10 ⟨v1, rfl, ho1, hb⟩
  refine ⟨_, rfl, ?_⟩
  replace B0 := Aside0.mk (B0.out.below hb)
  replace R0 := Aside0.mk (R0.out.below hb)
  replace R1 := Aside0.mk (R1.out.below hb)
  replace R2 := Aside0.mk (R2.out.below hb)
  replace B1 := Aside0.mk (B1.out.below hb)
  replace R3 := Aside0.mk (R3.out.below hb)
  have Z9 := Aside0.mk hb.size
  obtain ⟨AR4, cR4, rfl⟩ := Kd.S_slice ho1
  have R4 := Aside0.mk (Lives.rowS (base := w.heap.size) ho1 hb.size HB.out.size)
  replace HB := Aside0.mk (below_step HB.out hb)
  clear hb ho1
  have zB0_0 := (blk_cell B0.out.now 0).trans rfl
  have zB0_1 := (blk_cell B0.out.now 1).trans rfl
  have yB0_0 := fun o => (blk_cell (B0.out.alloc o).now 0).trans rfl
  have yB0_1 := fun o => (blk_cell (B0.out.alloc o).now 1).trans rfl
  have zB1_0 := (blk_cell B1.out.now 0).trans rfl
  have zB1_1 := (blk_cell B1.out.now 1).trans rfl
  have yB1_0 := fun o => (blk_cell (B1.out.alloc o).now 0).trans rfl
  have yB1_1 := fun o => (blk_cell (B1.out.alloc o).now 1).trans rfl
  clear zB0_0 yB0_0 zB0_1 yB0_1 zB1_0 yB1_0 zB1_1 yB1_1
  refine hK.out _ _ ⟨(blk_cell B0.out.now 0).trans rfl, (blk_cell B0.out.now 1).trans rfl, (blk_cell B1.out.now 0).trans rfl, (blk_cell B1.out.now 1).trans rfl⟩ (fun hHeld => ?_)
  clear hK K
  refine norm_ (a' := ?_) ?_ ?_
  rotate_left
  · show Act.put _ (some 43) _ = _
    simp only [Act.put, List.setIfInBounds_toArray, List.set_cons_zero, List.set_cons_succ, i64_w, i32_w]
    rfl
  refine one_ (i := 3) (N := (some 44)) #[true, true, true, true, false] rfl rfl (by kernel_rfl) (by decide) (fun K hK => ?_)
  refine goes_ Try.func13 (by kernel_rfl) rfl #[.agg #[.int .i64 t1_0, .slice AR2 t1_1.length cR2], .agg #[.int .i64 t1_0, .slice AR4 t1_1.length cR4]] (by rfl) rfl rfl (by (try simp only [List.map_toArray, List.map_cons, List.map_nil]); first | done | rfl | (simp only [List.length_drop, List.length_take]; rfl)) ?_
  refine (laws_eqAlgebra.calls k t1_0 _ _ t1_1 t1_0 _ _ t1_1 true _ (Kd.S_reads' R2.out.now).2.2 (Kd.S_reads' R2.out.now).2.1 (Kd.S_reads' R4.out.now).2.2 (Kd.S_reads' R4.out.now).2.1 A5.out).mono ?_
  rintro e w11 ⟨rfl, hb⟩
  refine ⟨_, rfl, ?_⟩
  replace B0 := Aside0.mk (B0.out.below hb)
  replace R0 := Aside0.mk (R0.out.below hb)
  replace R1 := Aside0.mk (R1.out.below hb)
  replace R2 := Aside0.mk (R2.out.below hb)
  replace B1 := Aside0.mk (B1.out.below hb)
  replace R3 := Aside0.mk (R3.out.below hb)
  replace R4 := Aside0.mk (R4.out.below hb)
  have Z10 := Aside0.mk hb.size
  replace HB := Aside0.mk (below_step HB.out hb)
  clear hb
  have zB0_0 := (blk_cell B0.out.now 0).trans rfl
  have zB0_1 := (blk_cell B0.out.now 1).trans rfl
  have yB0_0 := fun o => (blk_cell (B0.out.alloc o).now 0).trans rfl
  have yB0_1 := fun o => (blk_cell (B0.out.alloc o).now 1).trans rfl
  have zB1_0 := (blk_cell B1.out.now 0).trans rfl
  have zB1_1 := (blk_cell B1.out.now 1).trans rfl
  have yB1_0 := fun o => (blk_cell (B1.out.alloc o).now 0).trans rfl
  have yB1_1 := fun o => (blk_cell (B1.out.alloc o).now 1).trans rfl
  clear zB0_0 yB0_0 zB0_1 yB0_1 zB1_0 yB1_0 zB1_1 yB1_1
  refine hK.out _ _ ⟨(blk_cell B0.out.now 0).trans rfl, (blk_cell B0.out.now 1).trans rfl, (blk_cell B1.out.now 0).trans rfl, (blk_cell B1.out.now 1).trans rfl⟩ (fun hHeld => ?_)
  clear hK K
  refine norm_ (a' := ?_) ?_ ?_
  rotate_left
  · show Act.put _ (some 44) _ = _
    simp only [Act.put, List.setIfInBounds_toArray, List.set_cons_zero, List.set_cons_succ, i64_w, i32_w]
    rfl
  refine pure_ (i := 4) (N := (some 45)) (v := ?_) (a' := ?_) #[true, true, true, true, true] rfl rfl (by kernel_rfl) (fun _ _ _ h => h) (Or.inl ⟨by rfl, ?_⟩) ?_ ?_
  rotate_left
  · intro w'
    go_simp
    with_reducible rfl
  rotate_left
  · simp only [Act.put, List.setIfInBounds_toArray, List.set_cons_zero, List.set_cons_succ, i64_w, i32_w]
    rfl
  refine done_ (by kernel_rfl) ?_
  have zB0_0 := (blk_cell B0.out.now 0).trans rfl
  have zB0_1 := (blk_cell B0.out.now 1).trans rfl
  have yB0_0 := fun o => (blk_cell (B0.out.alloc o).now 0).trans rfl
  have yB0_1 := fun o => (blk_cell (B0.out.alloc o).now 1).trans rfl
  have zB1_0 := (blk_cell B1.out.now 0).trans rfl
  have zB1_1 := (blk_cell B1.out.now 1).trans rfl
  have yB1_0 := fun o => (blk_cell (B1.out.alloc o).now 0).trans rfl
  have yB1_1 := fun o => (blk_cell (B1.out.alloc o).now 1).trans rfl
  go_wp2_with fail
  refine (laws_markAlgebra.calls k (fun k_ => w4.heap.size ≤ k_ ∧ k_ < w5.heap.size) t1_0 _ t1_1 1 t6_0 t6_1 w _ HB.out R2.out.now A6.out).mono ?_
  rintro e w12 ⟨rfl, ho, hb, hk⟩
  clear zB0_0 yB0_0 zB0_1 yB0_1 zB1_0 yB1_0 zB1_1 yB1_1
  have Z11 := Aside0.mk hk.1
  replace B0 := Aside0.mk (B0.out.kept hk (by have := Z0.out; have := Z1.out; have := Z2.out; have := Z3.out; have := Z4.out; have := Z5.out; have := Z6.out; have := Z7.out; have := Z8.out; have := Z9.out; have := Z10.out; omega))
  replace R0 := Aside0.mk (R0.out.kept hk (by have := Z0.out; have := Z1.out; have := Z2.out; have := Z3.out; have := Z4.out; have := Z5.out; have := Z6.out; have := Z7.out; have := Z8.out; have := Z9.out; have := Z10.out; omega))
  replace R1 := Aside0.mk (R1.out.kept hk (by have := Z0.out; have := Z1.out; have := Z2.out; have := Z3.out; have := Z4.out; have := Z5.out; have := Z6.out; have := Z7.out; have := Z8.out; have := Z9.out; have := Z10.out; omega))
  replace R2 := Aside0.mk (R2.out.markedS ho hk.1)
  replace B1 := Aside0.mk (B1.out.kept hk (by have := Z0.out; have := Z1.out; have := Z2.out; have := Z3.out; have := Z4.out; have := Z5.out; have := Z6.out; have := Z7.out; have := Z8.out; have := Z9.out; have := Z10.out; omega))
  replace R3 := Aside0.mk (R3.out.kept hk (by have := Z0.out; have := Z1.out; have := Z2.out; have := Z3.out; have := Z4.out; have := Z5.out; have := Z6.out; have := Z7.out; have := Z8.out; have := Z9.out; have := Z10.out; omega))
  replace R4 := Aside0.mk (R4.out.kept hk (by have := Z0.out; have := Z1.out; have := Z2.out; have := Z3.out; have := Z4.out; have := Z5.out; have := Z6.out; have := Z7.out; have := Z8.out; have := Z9.out; have := Z10.out; omega))
  have LR2 := Aside0.mk (Kd.S_reads' ho).1
  replace HB := Aside0.mk hb
  clear ho hb hk
  have zB0_0 := (blk_cell B0.out.now 0).trans rfl
  have zB0_1 := (blk_cell B0.out.now 1).trans rfl
  have yB0_0 := fun o => (blk_cell (B0.out.alloc o).now 0).trans rfl
  have yB0_1 := fun o => (blk_cell (B0.out.alloc o).now 1).trans rfl
  have zB1_0 := (blk_cell B1.out.now 0).trans rfl
  have zB1_1 := (blk_cell B1.out.now 1).trans rfl
  have yB1_0 := fun o => (blk_cell (B1.out.alloc o).now 0).trans rfl
  have yB1_1 := fun o => (blk_cell (B1.out.alloc o).now 1).trans rfl
  go_wp2_with fail
  refine (laws_eqIntS.calls k _ _ t3_0 _ _ t2_0 true _ (Kd.R_reads' R3.out.now).2.2 (Kd.R_reads' R3.out.now).2.1 (Kd.V_reads' R1.out.now).2.2 (Kd.V_reads' R1.out.now).2.1 A4.out).mono ?_
  rintro e w13 ⟨rfl, hd⟩
  have hb := below_drawn hd
  clear hd
  clear zB0_0 yB0_0 zB0_1 yB0_1 zB1_0 yB1_0 zB1_1 yB1_1
  replace B0 := Aside0.mk (B0.out.below hb)
  replace R0 := Aside0.mk (R0.out.below hb)
  replace R1 := Aside0.mk (R1.out.below hb)
  replace R2 := Aside0.mk (R2.out.below hb)
  replace B1 := Aside0.mk (B1.out.below hb)
  replace R3 := Aside0.mk (R3.out.below hb)
  replace R4 := Aside0.mk (R4.out.below hb)
  have Z12 := Aside0.mk hb.size
  replace HB := Aside0.mk (below_step HB.out hb)
  clear hb
  have zB0_0 := (blk_cell B0.out.now 0).trans rfl
  have zB0_1 := (blk_cell B0.out.now 1).trans rfl
  have yB0_0 := fun o => (blk_cell (B0.out.alloc o).now 0).trans rfl
  have yB0_1 := fun o => (blk_cell (B0.out.alloc o).now 1).trans rfl
  have zB1_0 := (blk_cell B1.out.now 0).trans rfl
  have zB1_1 := (blk_cell B1.out.now 1).trans rfl
  have yB1_0 := fun o => (blk_cell (B1.out.alloc o).now 0).trans rfl
  have yB1_1 := fun o => (blk_cell (B1.out.alloc o).now 1).trans rfl
  go_wp2_with fail
  refine (laws_markIntS.calls k (fun k_ => w7.heap.size ≤ k_ ∧ k_ < w6.heap.size) _ t3_0 1 t8_0 t7_1 w _ HB.out R3.out.now A7.out).mono ?_
  rintro e w14 ⟨rfl, ho, hb, hk⟩
  clear zB0_0 yB0_0 zB0_1 yB0_1 zB1_0 yB1_0 zB1_1 yB1_1
  have Z13 := Aside0.mk hk.1
  replace B0 := Aside0.mk (B0.out.kept hk (by have := Z0.out; have := Z1.out; have := Z2.out; have := Z3.out; have := Z4.out; have := Z5.out; have := Z6.out; have := Z7.out; have := Z8.out; have := Z9.out; have := Z10.out; have := Z11.out; have := Z12.out; omega))
  replace R0 := Aside0.mk (R0.out.kept hk (by have := Z0.out; have := Z1.out; have := Z2.out; have := Z3.out; have := Z4.out; have := Z5.out; have := Z6.out; have := Z7.out; have := Z8.out; have := Z9.out; have := Z10.out; have := Z11.out; have := Z12.out; omega))
  replace R1 := Aside0.mk (R1.out.kept hk (by have := Z0.out; have := Z1.out; have := Z2.out; have := Z3.out; have := Z4.out; have := Z5.out; have := Z6.out; have := Z7.out; have := Z8.out; have := Z9.out; have := Z10.out; have := Z11.out; have := Z12.out; omega))
  replace R2 := Aside0.mk (R2.out.kept hk (by have := Z0.out; have := Z1.out; have := Z2.out; have := Z3.out; have := Z4.out; have := Z5.out; have := Z6.out; have := Z7.out; have := Z8.out; have := Z9.out; have := Z10.out; have := Z11.out; have := Z12.out; omega))
  replace B1 := Aside0.mk (B1.out.kept hk (by have := Z0.out; have := Z1.out; have := Z2.out; have := Z3.out; have := Z4.out; have := Z5.out; have := Z6.out; have := Z7.out; have := Z8.out; have := Z9.out; have := Z10.out; have := Z11.out; have := Z12.out; omega))
  replace R3 := Aside0.mk (R3.out.marked rfl ho hk.1)
  replace R4 := Aside0.mk (R4.out.kept hk (by have := Z0.out; have := Z1.out; have := Z2.out; have := Z3.out; have := Z4.out; have := Z5.out; have := Z6.out; have := Z7.out; have := Z8.out; have := Z9.out; have := Z10.out; have := Z11.out; have := Z12.out; omega))
  have LR3 := Aside0.mk (Kd.R_reads' ho).1
  replace HB := Aside0.mk hb
  clear ho hb hk
  have zB0_0 := (blk_cell B0.out.now 0).trans rfl
  have zB0_1 := (blk_cell B0.out.now 1).trans rfl
  have yB0_0 := fun o => (blk_cell (B0.out.alloc o).now 0).trans rfl
  have yB0_1 := fun o => (blk_cell (B0.out.alloc o).now 1).trans rfl
  have zB1_0 := (blk_cell B1.out.now 0).trans rfl
  have zB1_1 := (blk_cell B1.out.now 1).trans rfl
  have yB1_0 := fun o => (blk_cell (B1.out.alloc o).now 0).trans rfl
  have yB1_1 := fun o => (blk_cell (B1.out.alloc o).now 1).trans rfl
  go_wp2_with fail
  refine calls_of_args (args' := #[.slice AR3 t7_1.length cR3, .int .i64 1]) (by first | rw [LR3.out] | rw [← LR3.out]) ?_
  refine (laws_heldIntS.calls k _ _ t7_1 1 t8_0 _ (Kd.R_reads' R3.out.now).2.2 (by have h_ := (Kd.R_reads' R3.out.now).2.1; have e_ := LR3.out; omega) A8.out).mono ?_
  rintro e w15 ⟨rfl, hd⟩
  have hb := below_drawn hd
  clear hd
  clear zB0_0 yB0_0 zB0_1 yB0_1 zB1_0 yB1_0 zB1_1 yB1_1
  replace B0 := Aside0.mk (B0.out.below hb)
  replace R0 := Aside0.mk (R0.out.below hb)
  replace R1 := Aside0.mk (R1.out.below hb)
  replace R2 := Aside0.mk (R2.out.below hb)
  replace B1 := Aside0.mk (B1.out.below hb)
  replace R3 := Aside0.mk (R3.out.below hb)
  replace R4 := Aside0.mk (R4.out.below hb)
  have Z14 := Aside0.mk hb.size
  replace HB := Aside0.mk (below_step HB.out hb)
  clear hb
  have zB0_0 := (blk_cell B0.out.now 0).trans rfl
  have zB0_1 := (blk_cell B0.out.now 1).trans rfl
  have yB0_0 := fun o => (blk_cell (B0.out.alloc o).now 0).trans rfl
  have yB0_1 := fun o => (blk_cell (B0.out.alloc o).now 1).trans rfl
  have zB1_0 := (blk_cell B1.out.now 0).trans rfl
  have zB1_1 := (blk_cell B1.out.now 1).trans rfl
  have yB1_0 := fun o => (blk_cell (B1.out.alloc o).now 0).trans rfl
  have yB1_1 := fun o => (blk_cell (B1.out.alloc o).now 1).trans rfl
  go_wp2_with fail
  refine (laws_toAlgebra.calls k a0_0 _ _ l0_1 t1_0 t1_1 _ (Kd.C_below HR0_1.out HB.out) HC0_1.out A1.out).mono ?_
  rintro e w16 ⟨v1, rfl, ho1, hb⟩
  clear zB0_0 yB0_0 zB0_1 yB0_1 zB1_0 yB1_0 zB1_1 yB1_1
  replace B0 := Aside0.mk (B0.out.below hb)
  replace R0 := Aside0.mk (R0.out.below hb)
  replace R1 := Aside0.mk (R1.out.below hb)
  replace R2 := Aside0.mk (R2.out.below hb)
  replace B1 := Aside0.mk (B1.out.below hb)
  replace R3 := Aside0.mk (R3.out.below hb)
  replace R4 := Aside0.mk (R4.out.below hb)
  have Z15 := Aside0.mk hb.size
  obtain ⟨AR5, cR5, rfl⟩ := Kd.S_slice ho1
  have R5 := Aside0.mk (Lives.rowS (base := w.heap.size) ho1 hb.size HB.out.size)
  replace HB := Aside0.mk (below_step HB.out hb)
  clear hb ho1
  have zB0_0 := (blk_cell B0.out.now 0).trans rfl
  have zB0_1 := (blk_cell B0.out.now 1).trans rfl
  have yB0_0 := fun o => (blk_cell (B0.out.alloc o).now 0).trans rfl
  have yB0_1 := fun o => (blk_cell (B0.out.alloc o).now 1).trans rfl
  have zB1_0 := (blk_cell B1.out.now 0).trans rfl
  have zB1_1 := (blk_cell B1.out.now 1).trans rfl
  have yB1_0 := fun o => (blk_cell (B1.out.alloc o).now 0).trans rfl
  have yB1_1 := fun o => (blk_cell (B1.out.alloc o).now 1).trans rfl
  go_wp2_with fail
  refine (impl_ConstantsOf.calls k t1_0 _ _ t1_1 t3_0 t3_1 _ (Kd.S_reads' R5.out.now).2.2 (Kd.S_reads' R5.out.now).2.1 A3.out).mono ?_
  rintro e w17 ⟨v0, rfl, ho0, hb⟩
  clear zB0_0 yB0_0 zB0_1 yB0_1 zB1_0 yB1_0 zB1_1 yB1_1
  replace B0 := Aside0.mk (B0.out.below hb)
  replace R0 := Aside0.mk (R0.out.below hb)
  replace R1 := Aside0.mk (R1.out.below hb)
  replace R2 := Aside0.mk (R2.out.below hb)
  replace B1 := Aside0.mk (B1.out.below hb)
  replace R3 := Aside0.mk (R3.out.below hb)
  replace R4 := Aside0.mk (R4.out.below hb)
  replace R5 := Aside0.mk (R5.out.below hb)
  have Z16 := Aside0.mk hb.size
  obtain ⟨AR6, cR6, rfl⟩ := Kd.R_slice ho0
  have R6 := Aside0.mk (Lives.row (base := w.heap.size) ho0 hb.size HB.out.size)
  replace HB := Aside0.mk (below_step HB.out hb)
  clear hb ho0
  have zB0_0 := (blk_cell B0.out.now 0).trans rfl
  have zB0_1 := (blk_cell B0.out.now 1).trans rfl
  have yB0_0 := fun o => (blk_cell (B0.out.alloc o).now 0).trans rfl
  have yB0_1 := fun o => (blk_cell (B0.out.alloc o).now 1).trans rfl
  have zB1_0 := (blk_cell B1.out.now 0).trans rfl
  have zB1_1 := (blk_cell B1.out.now 1).trans rfl
  have yB1_0 := fun o => (blk_cell (B1.out.alloc o).now 0).trans rfl
  have yB1_1 := fun o => (blk_cell (B1.out.alloc o).now 1).trans rfl
  go_wp2_with fail
  refine (laws_eqIntS.calls k _ _ t3_0 _ _ t2_0 true _ (Kd.R_reads' R6.out.now).2.2 (Kd.R_reads' R6.out.now).2.1 (Kd.V_reads' R1.out.now).2.2 (Kd.V_reads' R1.out.now).2.1 A4.out).mono ?_
  rintro e w18 ⟨rfl, hd⟩
  have hb := below_drawn hd
  clear hd
  clear zB0_0 yB0_0 zB0_1 yB0_1 zB1_0 yB1_0 zB1_1 yB1_1
  replace B0 := Aside0.mk (B0.out.below hb)
  replace R0 := Aside0.mk (R0.out.below hb)
  replace R1 := Aside0.mk (R1.out.below hb)
  replace R2 := Aside0.mk (R2.out.below hb)
  replace B1 := Aside0.mk (B1.out.below hb)
  replace R3 := Aside0.mk (R3.out.below hb)
  replace R4 := Aside0.mk (R4.out.below hb)
  replace R5 := Aside0.mk (R5.out.below hb)
  replace R6 := Aside0.mk (R6.out.below hb)
  have Z17 := Aside0.mk hb.size
  replace HB := Aside0.mk (below_step HB.out hb)
  clear hb
  have zB0_0 := (blk_cell B0.out.now 0).trans rfl
  have zB0_1 := (blk_cell B0.out.now 1).trans rfl
  have yB0_0 := fun o => (blk_cell (B0.out.alloc o).now 0).trans rfl
  have yB0_1 := fun o => (blk_cell (B0.out.alloc o).now 1).trans rfl
  have zB1_0 := (blk_cell B1.out.now 0).trans rfl
  have zB1_1 := (blk_cell B1.out.now 1).trans rfl
  have yB1_0 := fun o => (blk_cell (B1.out.alloc o).now 0).trans rfl
  have yB1_1 := fun o => (blk_cell (B1.out.alloc o).now 1).trans rfl
  go_wp2_with fail
  refine calls_of_args (args' := #[.slice AR3 t7_1.length cR3, .int .i64 1]) (by first | rw [LR3.out] | rw [← LR3.out]) ?_
  refine (laws_heldIntS.calls k _ _ t7_1 1 t8_0 _ (Kd.R_reads' R3.out.now).2.2 (by have h_ := (Kd.R_reads' R3.out.now).2.1; have e_ := LR3.out; omega) A8.out).mono ?_
  rintro e w19 ⟨rfl, hd⟩
  have hb := below_drawn hd
  clear hd
  clear zB0_0 yB0_0 zB0_1 yB0_1 zB1_0 yB1_0 zB1_1 yB1_1
  replace B0 := Aside0.mk (B0.out.below hb)
  replace R0 := Aside0.mk (R0.out.below hb)
  replace R1 := Aside0.mk (R1.out.below hb)
  replace R2 := Aside0.mk (R2.out.below hb)
  replace B1 := Aside0.mk (B1.out.below hb)
  replace R3 := Aside0.mk (R3.out.below hb)
  replace R4 := Aside0.mk (R4.out.below hb)
  replace R5 := Aside0.mk (R5.out.below hb)
  replace R6 := Aside0.mk (R6.out.below hb)
  have Z18 := Aside0.mk hb.size
  replace HB := Aside0.mk (below_step HB.out hb)
  clear hb
  have zB0_0 := (blk_cell B0.out.now 0).trans rfl
  have zB0_1 := (blk_cell B0.out.now 1).trans rfl
  have yB0_0 := fun o => (blk_cell (B0.out.alloc o).now 0).trans rfl
  have yB0_1 := fun o => (blk_cell (B0.out.alloc o).now 1).trans rfl
  have zB1_0 := (blk_cell B1.out.now 0).trans rfl
  have zB1_1 := (blk_cell B1.out.now 1).trans rfl
  have yB1_0 := fun o => (blk_cell (B1.out.alloc o).now 0).trans rfl
  have yB1_1 := fun o => (blk_cell (B1.out.alloc o).now 1).trans rfl
  go_wp2
  go_ret
  exact ⟨rfl, HB.out⟩

end Go.Proofs.Ytflkiiiomnogfab.Q
