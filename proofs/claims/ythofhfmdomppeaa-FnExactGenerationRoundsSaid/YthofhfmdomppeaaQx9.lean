/- Contracts of Go functions, each with a plain Lean function of the same answers: whatever the arguments, the call comes to what the Lean function tells. Written by a program of this session. -/
import Derived.Test.YthofhfmdomppeaaQx0
import Derived.Test.YthofhfmdomppeaaQx7
import Derived.Test.YthofhfmdomppeaaQx8
namespace Go.Proofs.Ythofhfmdomppeaa.Q
open Go.RowKit Go.Proofs.YthofhfmdomppeaaW.PrintWords Go.Proofs.YthofhfmdomppeaaW.PrintLast Go.Proofs.YthofhfmdomppeaaW.PrintMore
attribute [local go_sem] max2_int min2_int max_two min_two max_three min_three max_four min_four   -- for this text's walks alone
set_option linter.unusedVariables false
set_option linter.unusedSimpArgs false

/-! ### impl_GenerationRounds: function 13 -/
mutual
def impl_GenerationRounds.l0 : Nat → List Bool → List (List Int) → Int → List (S77) → Option ((List (List Int)) × Bool)
 | 0, _, _, _, _ => none
 | k + 1, x6, x7, x233000, x233001 => if 0 ≤ x233000 then (if (x233000 : Int).toNat ≤ 281474976710656 then (impl_GenerationRounds.l1 k x6 x7 (List.replicate (x233000 : Int).toNat false) x233001 (x233001.length : Int) 0 x233000 x233001) else (none)) else (none)
def impl_GenerationRounds.l1 : Nat → List Bool → List (List Int) → List Bool → List (S77) → Int → Int → Int → List (S77) → Option ((List (List Int)) × Bool)
 | 0, _, _, _, _, _, _, _, _ => none
 | k + 1, x6, x7, x8, x32, x33, x34, x233000, x233001 => if x34 < x33 then (if 0 ≤ x34 then (if x34 < (x32.length : Int) then (impl_GenerationRounds.l2 k x6 x7 x8 x32 x33 x34 ((rd_T77 x32 x34).f1) (((rd_T77 x32 x34).f1).length : Int) 0 x233000 x233001 ((rd_T77 x32 x34).f0) ((rd_T77 x32 x34).f1)) else (none)) else (none)) else ((impl_marked.f k x8).bind fun t255 => (if (t255.length : Int) = 0 then (some (x7, true)) else (if x7.length < 5864062014805 then (impl_GenerationRounds.l3 k x6 (x7 ++ [t255]) t255 (t255.length : Int) 0 x233000 x233001) else (none))))
def impl_GenerationRounds.l2 : Nat → List Bool → List (List Int) → List Bool → List (S77) → Int → Int → List Int → Int → Int → Int → List (S77) → Int → List Int → Option ((List (List Int)) × Bool)
 | 0, _, _, _, _, _, _, _, _, _, _, _, _, _ => none
 | k + 1, x6, x7, x8, x32, x33, x34, x39, x40, x41, x233000, x233001, x251000, x251001 => if x41 < x40 then (if 0 ≤ x41 then (if x41 < (x39.length : Int) then (if 0 ≤ (rd x39 x41) then (if (rd x39 x41) < (x6.length : Int) then (if (rdOf false x6 (rd x39 x41) = true) then (impl_GenerationRounds.l2 k x6 x7 x8 x32 x33 x34 x39 x40 (wrap64 (x41 + 1)) x233000 x233001 x251000 x251001) else ((impl_allIn.f k x41 x251000 x233000 x6).bind fun t253 => (if t253 = true then (if (rd x39 x41) < (x8.length : Int) then (impl_GenerationRounds.l2 k x6 x7 (x8.set ((rd x39 x41) : Int).toNat true) x32 x33 x34 x39 x40 (wrap64 (x41 + 1)) x233000 x233001 x251000 x251001) else (none)) else (impl_GenerationRounds.l2 k x6 x7 x8 x32 x33 x34 x39 x40 (wrap64 (x41 + 1)) x233000 x233001 x251000 x251001)))) else (none)) else (none)) else (none)) else (none)) else (impl_GenerationRounds.l1 k x6 x7 x8 x32 x33 (wrap64 (x34 + 1)) x233000 x233001)
def impl_GenerationRounds.l3 : Nat → List Bool → List (List Int) → List Int → Int → Int → Int → List (S77) → Option ((List (List Int)) × Bool)
 | 0, _, _, _, _, _, _, _ => none
 | k + 1, x6, x7, x75, x76, x77, x233000, x233001 => if x77 < x76 then (if 0 ≤ x77 then (if x77 < (x75.length : Int) then (if 0 ≤ (rd x75 x77) then (if (rd x75 x77) < (x6.length : Int) then (impl_GenerationRounds.l3 k (x6.set ((rd x75 x77) : Int).toNat true) x7 x75 x76 (wrap64 (x77 + 1)) x233000 x233001) else (none)) else (none)) else (none)) else (none)) else (impl_GenerationRounds.l0 k x6 x7 x233000 x233001)
end
def impl_GenerationRounds.f (k : Nat) (a0_0 : Int) (l0_1 : List (S77)) (l1 : List Int) : Option ((List (List Int)) × Bool) := (impl_areElements.f k a0_0 l0_1 l1).bind fun t233 => (if t233 = true then ((impl_marks.f k l1 a0_0).bind fun t237 => ((impl_marked.f k t237).bind fun t240 => (impl_GenerationRounds.l0 k t237 (([t240] : List (List Int))) a0_0 l0_1))) else (some ((([] : List (List Int))), false)))
set_option maxHeartbeats 8000000 in
set_option maxRecDepth 100000 in
theorem impl_GenerationRounds.calls (k : Nat) (a0_0 : Int) (A0_1 : Option Addr) (c0_1 : Nat) (l0_1 : List (S77)) (A1 : Option Addr) (c1 : Nat) (l1 : List Int) (r1 : List (List Int)) (r2 : Bool) (w : World) (hr0_1 : Kd.C k77 w A0_1 l0_1.length l0_1) (hc0_1 : l0_1.length ≤ c0_1) (hr1 : Kd.C (Kd.int .i64) w A1 l1.length l1) (hc1 : l1.length ≤ c1) (h : impl_GenerationRounds.f k a0_0 l0_1 l1 = some (r1, r2)) :
  Calls Try.prog 13 #[.agg #[.int .i64 a0_0, .slice A0_1 l0_1.length c0_1], .slice A1 l1.length c1] w fun e w' => ∃ v0_ : Value, e = .returned (.tuple #[v0_, .bool r2]) ∧ Kd.S (Kd.slice 3 (Kd.int .i64)) 25 w' w.heap.size (fun _ => True) v0_ r1 ∧ Below w.heap.size w w' := by
 have hu32 := Try.underlying32
 have hu77 := Try.underlying77
 have HR0_1 := Aside0.mk hr0_1
 have HC0_1 := Aside0.mk hc0_1
 clear hr0_1 hc0_1
 have HR1 := Aside0.mk hr1
 have HC1 := Aside0.mk hc1
 clear hr1 hc1
 have HB := Aside0.mk (Below.refl w.heap.size w)
 have H : ((impl_areElements.f k a0_0 l0_1 l1).bind fun t233 => (if t233 = true then ((impl_marks.f k l1 a0_0).bind fun t237 => ((impl_marked.f k t237).bind fun t240 => (impl_GenerationRounds.l0 k t237 (([t240] : List (List Int))) a0_0 l0_1))) else (some ((([] : List (List Int))), false)))) = some (r1, r2) := h
 clear h
 replace H := Option.bind_eq_some_iff.mp H
 obtain ⟨t233, A30, H⟩ := H
 replace H : (if t233 = true then ((impl_marks.f k l1 a0_0).bind fun t237 => ((impl_marked.f k t237).bind fun t240 => (impl_GenerationRounds.l0 k t237 (([t240] : List (List Int))) a0_0 l0_1))) else (some ((([] : List (List Int))), false))) = some (r1, r2) := H
 have A3 := Aside0.mk A30
 clear A30
 by_cases c4 : t233 = true
 ·subst c4
  have H1 : ((impl_marks.f k l1 a0_0).bind fun t237 => ((impl_marked.f k t237).bind fun t240 => (impl_GenerationRounds.l0 k t237 (([t240] : List (List Int))) a0_0 l0_1))) = some (r1, r2) := by rw [if_pos rfl] at H; exact H
  clear H
  have H := H1
  clear H1
  replace H := Option.bind_eq_some_iff.mp H
  obtain ⟨t237, A50, H⟩ := H
  replace H : ((impl_marked.f k t237).bind fun t240 => (impl_GenerationRounds.l0 k t237 (([t240] : List (List Int))) a0_0 l0_1)) = some (r1, r2) := H
  have A5 := Aside0.mk A50
  clear A50
  replace H := Option.bind_eq_some_iff.mp H
  obtain ⟨t240, A60, H⟩ := H
  replace H : (impl_GenerationRounds.l0 k t237 (([t240] : List (List Int))) a0_0 l0_1) = some (r1, r2) := H
  have A6 := Aside0.mk A60
  clear A60
  obtain ⟨y243, hy243⟩ : ∃ y_ : List (List Int), y_ = (([t240] : List (List Int))) := ⟨_, rfl⟩
  replace H : (impl_GenerationRounds.l0 k t237 y243 a0_0 l0_1) = some (r1, r2) := by first | (rw [hy243]; with_reducible exact H) | (have H2_ := (Option.bind_some _ _).symm.trans H; rw [hy243]; with_reducible exact H2_) | (have H2_ := (Option.bind_some _ _).symm.trans H; with_reducible exact H2_) | with_reducible exact H | (rw [hy243]; exact H) | exact H
  have Ny243 := Aside0.mk hy243
  clear hy243
  have H' := Aside0.mk H
  clear H
  go_enter Try.func13, Try.ntmps13
  go_wp2_with (first | ((with_reducible refine gate_dst (N := 2) rfl ?_); refine box_event ?hg (N := 2) ?hd (cs := #[.int .i64 a0_0, .slice A0_1 l0_1.length c0_1]) (t := 32) ?hr ?_; (case hd => rfl); (case hg => rfl); (case hr => first | (go_simp; done) | (go_simp; rfl)); intro gb232 hg w7 hbox hb; have n0_ := Aside0.mk (below_step (by repeat (first | (with_reducible first | exact HB.out | apply bA | apply bN | apply bD) | exact HB.out)) hb); have n1_ := Aside0.mk (hbox); have n2_ := Aside0.mk ((by rw [hg]; exact (below_size (by repeat (first | (with_reducible first | exact HB.out | apply bA | apply bN | apply bD) | exact HB.out))) : w.heap.size ≤ gb232)); have n3_ := Aside0.mk ((by rw [hg]; exact (below_size (by repeat (first | (with_reducible first | exact HB.out | apply bA | apply bN | apply bD) | exact HB.out))) : w.heap.size ≤ gb232)); clear HB; have HB := n0_; have BK232 := n1_; have GW232 := n2_; have GE232 := n3_; clear n0_ n1_ n2_ n3_; clear hb hbox hg; have hcz8_0 : w7.cell? ⟨gb232, 0, none⟩ = some (.int .i64 a0_0) := (blk_cell BK232.out 0).trans rfl; have hcz8_1 : w7.cell? ⟨gb232, 1, none⟩ = some (.slice A0_1 l0_1.length c0_1) := (blk_cell BK232.out 1).trans rfl; have hfz8_0 := blk_frozen BK232.out 0; have hfz8_1 := blk_frozen BK232.out 1) | ((with_reducible refine gate_callee (f := 47) rfl ?_); refine goesL_ (some 18) rfl rfl Try.func47 (by kernel_rfl) rfl #[.agg #[.int .i64 a0_0, .slice A0_1 l0_1.length c0_1], .slice A1 l1.length c1] rfl (by (try simp only [List.map_toArray, List.map_cons, List.map_nil]); first | done | rfl | (simp only [List.length_drop, List.length_take]; rfl)) ?_; (with_reducible refine (impl_areElements.calls k a0_0 _ _ l0_1 _ _ l1 true _ ?side1 ?side2 ?side3 ?side4 A3.out).mono ?_); (case side1 => repeat (first | exact (Kd.C_below HR0_1.out HB.out) | (with_reducible refine Kd.C_alloc ?_ _) | (with_reducible refine Kd.C_drewN ?_ _) | (with_reducible refine Kd.C_drew ?_))); (case side2 => exact HC0_1.out); (case side3 => repeat (first | exact (Kd.C_below HR1.out HB.out) | (with_reducible refine Kd.C_alloc ?_ _) | (with_reducible refine Kd.C_drewN ?_ _) | (with_reducible refine Kd.C_drew ?_))); (case side4 => exact HC1.out); rintro e w9 ⟨rfl, hb⟩; refine ⟨_, rfl, ?_⟩; have n0_ := Aside0.mk (blk_below (g := gb232) (o := .cells #[.int .i64 a0_0, .slice A0_1 l0_1.length c0_1] 32 (0, 0)) (by (with_reducible repeat (first | refine kN ?_ _ | refine kD ?_ | refine kA ?_ _)); exact BK232.out) hb); have n1_ := Aside0.mk (below_step (by repeat (first | (with_reducible first | exact HB.out | apply bA | apply bN | apply bD | refine bS ?_ GE232.out) | exact HB.out)) hb); clear BK232; clear HB; have BK232 := n0_; have HB := n1_; clear n0_ n1_; (try clear hb); (try clear hb2); (try clear hk); (try clear hi); have hcz10_0 : w9.cell? ⟨gb232, 0, none⟩ = some (.int .i64 a0_0) := (blk_cell BK232.out 0).trans rfl; have hcz10_1 : w9.cell? ⟨gb232, 1, none⟩ = some (.slice A0_1 l0_1.length c0_1) := (blk_cell BK232.out 1).trans rfl; have hfz10_0 := blk_frozen BK232.out 0; have hfz10_1 := blk_frozen BK232.out 1) | ((with_reducible refine gate_callee (f := 48) rfl ?_); refine goesL_ (some 24) rfl rfl Try.func48 (by kernel_rfl) rfl #[.slice A1 l1.length c1, .int .i64 a0_0] rfl (by (try simp only [List.map_toArray, List.map_cons, List.map_nil]); first | done | rfl | (simp only [List.length_drop, List.length_take]; rfl)) ?_; (with_reducible refine (impl_marks.calls k _ _ l1 a0_0 t237 _ ?side1 ?side2 A5.out).mono ?_); (case side1 => repeat (first | exact (Kd.C_below HR1.out HB.out) | (with_reducible refine Kd.C_alloc ?_ _) | (with_reducible refine Kd.C_drewN ?_ _) | (with_reducible refine Kd.C_drew ?_))); (case side2 => exact HC1.out); rintro e w11 ⟨v238, rfl, ho0, hb⟩; refine ⟨_, rfl, ?_⟩; have n0_ := Aside0.mk (Kd.R_lower ho0 (below_size (by repeat (first | (with_reducible first | exact HB.out | apply bA | apply bN | apply bD | refine bS ?_ GE232.out) | exact HB.out)))); have n1_ := Aside0.mk (blk_below (g := gb232) (o := .cells #[.int .i64 a0_0, .slice A0_1 l0_1.length c0_1] 32 (0, 0)) (by (with_reducible repeat (first | refine kN ?_ _ | refine kD ?_ | refine kA ?_ _)); exact BK232.out) hb); have n2_ := Aside0.mk (below_step (by repeat (first | (with_reducible first | exact HB.out | apply bA | apply bN | apply bD | refine bS ?_ GE232.out) | exact HB.out)) hb); clear BK232; clear HB; have HO239 := n0_; have BK232 := n1_; have HB := n2_; clear n0_ n1_ n2_; (try clear hb); (try clear hb2); (try clear hk); (try clear hi); (try clear ho0); obtain ⟨Ao12, co12, eo12⟩ := Kd.R_slice HO239.out; subst eo12) | ((with_reducible refine gate_callee (f := 49) rfl ?_); refine goesL_ (some 26) rfl rfl Try.func49 (by kernel_rfl) rfl #[.slice Ao12 t237.length co12] rfl (by (try simp only [List.map_toArray, List.map_cons, List.map_nil]); first | done | rfl | (simp only [List.length_drop, List.length_take]; rfl)) ?_; (with_reducible refine (impl_marked.calls k _ _ t237 t240 _ ?side1 ?side2 A6.out).mono ?_); (case side1 => repeat (first | exact (Kd.R_reads' HO239.out).2.2 | (with_reducible refine Kd.C_alloc ?_ _) | (with_reducible refine Kd.C_drewN ?_ _) | (with_reducible refine Kd.C_drew ?_))); (case side2 => exact (Kd.R_reads' HO239.out).2.1); rintro e w13 ⟨v241, rfl, ho0, hb⟩; refine ⟨_, rfl, ?_⟩; have n0_ := Aside0.mk (Kd.R_below (by (with_reducible repeat (first | apply Kd.R_alloc | apply Kd.R_drewN | apply Kd.R_drew)); exact HO239.out) hb); have n1_ := Aside0.mk (Kd.R_lower ho0 (below_size (by repeat (first | (with_reducible first | exact HB.out | apply bA | apply bN | apply bD | refine bS ?_ GE232.out) | exact HB.out)))); have n2_ := Aside0.mk (blk_below (g := gb232) (o := .cells #[.int .i64 a0_0, .slice A0_1 l0_1.length c0_1] 32 (0, 0)) (by (with_reducible repeat (first | refine kN ?_ _ | refine kD ?_ | refine kA ?_ _)); exact BK232.out) hb); have n3_ := Aside0.mk (below_step (by repeat (first | (with_reducible first | exact HB.out | apply bA | apply bN | apply bD | refine bS ?_ GE232.out) | exact HB.out)) hb); clear HO239; clear BK232; clear HB; have HO239 := n0_; have HO242 := n1_; have BK232 := n2_; have HB := n3_; clear n0_ n1_ n2_ n3_; (try clear hb); (try clear hb2); (try clear hk); (try clear hi); (try clear ho0); obtain ⟨Ao15, co15, eo15⟩ := Kd.R_slice HO242.out; subst eo15) | ((with_reducible refine gate_dst (N := 27) rfl ?_); refine Kd.S_lit1 (Kd.slice 3 (Kd.int .i64)) (w0 := w) w.heap.size 25 ?hg (N := 27) ?hd t240 [.slice Ao15 t240.length co15] (fun _ => True) (fun k_ => some k_ = (.slice Ao15 t240.length co15 : Value).ownBlock) ?hr ?aP (fun k_ hk_ => ((Kd.R_mono (ok' := fun k_ => ((fun _ => True)) k_ ∧ some k_ ≠ (.slice none 0 0 : Value).ownBlock) (HO242.out) (fun k_ hk => ⟨trivial, (by simp [Value.ownBlock])⟩))).1 k_ hk_.symm) ?aF ?aB ?aS ?_; (case hd => rfl); (case hg => rfl); (case hr => first | (go_simp; done) | (go_simp; rfl)); (case aP => exact Kd.M_row (Kd.R_mono (Kd.R_tight rfl (Kd.R_mono (ok' := fun k_ => ((fun _ => True)) k_ ∧ some k_ ≠ (.slice none 0 0 : Value).ownBlock) (HO242.out) (fun k_ hk => ⟨trivial, (by simp [Value.ownBlock])⟩))) (fun _ h_ => h_))); (case aB => exact (by repeat (first | (with_reducible first | exact HB.out | apply bA | apply bN | apply bD | refine bS ?_ GE232.out) | exact HB.out))); (case aF => exact (fun _ _ => trivial)); (case aS => exact (below_size (by repeat (first | (with_reducible first | exact HB.out | apply bA | apply bN | apply bD | refine bS ?_ GE232.out) | exact HB.out)))); intro v244 w14 ho hb hg hat; rw [← Ny243.out] at ho; have n0_ := Aside0.mk (blk_grown (g := gb232) (o := .cells #[.int .i64 a0_0, .slice A0_1 l0_1.length c0_1] 32 (0, 0)) (by (with_reducible repeat (first | refine kN ?_ _ | refine kD ?_ | refine kA ?_ _)); exact BK232.out) hg (by simp [Value.ownBlock])); have n1_ := Aside0.mk (Kd.R_grown (by (with_reducible repeat (first | apply Kd.R_alloc | apply Kd.R_drewN | apply Kd.R_drew)); exact HO239.out) hg (fun _ _ => by simp [Value.ownBlock])); have n2_ := Aside0.mk (hb); have n3_ := Aside0.mk (ho); clear BK232; clear HO239; clear HB; clear HO242; have BK232 := n0_; have HO239 := n1_; have HB := n2_; have HO245 := n3_; clear n0_ n1_ n2_ n3_; clear ho hb hg hat))
  go_loopg [7] k (fun kq v7 w' => ∃ (x6_1 : List Bool) (x7_1 : List (List Int)), Aside0 (impl_GenerationRounds.l0 kq x6_1 x7_1 a0_0 l0_1 = some (r1, r2)) ∧ Aside0 (kq ≤ k) ∧ Aside0 (Kd.R Kd.bool 4 w' w.heap.size (fun _ => True) (.slice Ao12 t237.length co12) x6_1) ∧ Aside0 (Kd.S (Kd.slice 3 (Kd.int .i64)) 25 w' w.heap.size (fun _ => True) v7 x7_1) ∧ Aside0 (w'.heap[gb232]? = some (.cells #[.int .i64 a0_0, (.slice A0_1 l0_1.length c0_1)] 32 (0, 0))) ∧ Aside0 (Below w.heap.size w w'))
  case atStart => exact ⟨(t237), (y243), H', ⟨Nat.le_refl _⟩, ⟨by (with_reducible repeat (first | apply Kd.R_alloc | apply Kd.R_drewN | apply Kd.R_drew)); exact HO239.out⟩, ⟨by (with_reducible repeat (first | apply Kd.S_alloc | apply Kd.S_drewN | apply Kd.S_drew)); exact HO245.out⟩, ⟨by (with_reducible repeat (first | refine kN ?_ _ | refine kD ?_ | refine kA ?_ _)); exact BK232.out⟩, ⟨by repeat (first | (with_reducible first | exact HB.out | apply bA | apply bN | apply bD | refine bS ?_ GE232.out) | exact HB.out)⟩⟩
  case round =>
   clear H'
   try clear c1
   try clear p2
   try clear c4
   try clear c13
   try clear hcz10_0
   try clear hcz10_1
   try clear hcz8_0
   try clear hcz8_1
   try clear hfz10_0
   try clear hfz10_1
   try clear hfz8_0
   try clear hfz8_1
   obtain ⟨x6_1, x7_1, HA, HK1, HO_6, HO_7, BK232, HB⟩ := hrel
   have hl6_1 := (Kd.R_reads' HO_6.out).1
   rw [hl6_1] at HO_6
   (try simp only [hl6_1])
   (try simp only [hl6_1] at BK232)
   (try simp only [hl6_1] at HO_7)
   cases gk with
   | zero => exact absurd HA.out (by simp [impl_GenerationRounds.l0])
   | succ k1 =>
    have H := HA.out
    clear HA
    simp only [impl_GenerationRounds.l0] at H
    by_cases c16 : 0 ≤ a0_0
    ·rw [if_pos c16] at H
     have c16b0 := eq_true c16
     have c16b1 : decide (0 ≤ a0_0) = true := decide_eq_true c16
     clear c16
     by_cases c17 : (a0_0 : Int).toNat ≤ 281474976710656
     ·rw [if_pos c17] at H
      have c17b0 := eq_true c17
      have c17b1 : decide ((a0_0 : Int).toNat ≤ 281474976710656) = true := decide_eq_true c17
      clear c17
      obtain ⟨y246, hy246⟩ : ∃ y_ : List Bool, y_ = (List.replicate (a0_0 : Int).toNat false) := ⟨_, rfl⟩
      replace H : (impl_GenerationRounds.l1 k1 x6_1 x7_1 y246 l0_1 (l0_1.length : Int) 0 a0_0 l0_1) = some (r1, r2) := by first | (rw [hy246]; with_reducible exact H) | (have H2_ := (Option.bind_some _ _).symm.trans H; rw [hy246]; with_reducible exact H2_) | (have H2_ := (Option.bind_some _ _).symm.trans H; with_reducible exact H2_) | with_reducible exact H | (rw [hy246]; exact H) | exact H
      have Ny246 := Aside0.mk hy246
      clear hy246
      have H' := Aside0.mk H
      clear H
      have hcz18_0 : wr.cell? ⟨gb232, 0, none⟩ = some (.int .i64 a0_0) := (blk_cell BK232.out 0).trans rfl
      have hcz18_1 : wr.cell? ⟨gb232, 1, none⟩ = some (.slice A0_1 l0_1.length c0_1) := (blk_cell BK232.out 1).trans rfl
      have hfz18_0 := blk_frozen BK232.out 0
      have hfz18_1 := blk_frozen BK232.out 1
      go_wp2_with (first | ((with_reducible refine gate_dst (N := 30) rfl ?_); refine Kd.R_make Kd.bool _ 4 rfl (N := 30) rfl 70 _ _ rfl a0_0 rfl rfl Try.underlying70 (.bool false) 1 info4 rfl (by decide) (by omega) false (ok := fun _ => True) (okp := fun _ => True) rfl (fun _ hk => hk) trivial (of_decide_eq_true (by first | (with_reducible assumption) | assumption)) (Nat.le_trans (Nat.mul_le_mul_right _ (of_decide_eq_true (by first | (with_reducible assumption) | assumption) : a0_0.toNat ≤ 281474976710656)) (by omega)) (Below.refl _ _) (Nat.le_refl _) ?_; intro v247 w19 ho20 hb hg_ hnew_; clear hg_ hnew_; (first | rw [← Ny246.out] at ho20 | (simp only [Int.reduceToNat] at ho20; rw [← Ny246.out] at ho20)); have n0_ := Aside0.mk (Kd.R_elder' (by (with_reducible repeat (first | apply Kd.R_alloc | apply Kd.R_drewN | apply Kd.R_drew)); exact HO_6.out) (Kd.R_base ho20) hb); have n1_ := Aside0.mk (Kd.S_below (by (with_reducible repeat (first | apply Kd.S_alloc | apply Kd.S_drewN | apply Kd.S_drew)); exact HO_7.out) hb); have n2_ := Aside0.mk (Kd.R_lower (Kd.R_new' ho20 (Kd.R_lt (by (with_reducible repeat (first | apply Kd.R_alloc | apply Kd.R_drewN | apply Kd.R_drew)); exact HO_6.out))) (below_size (by repeat (first | (with_reducible first | exact HB.out | apply bA | apply bN | apply bD | refine bS ?_ GE232.out) | exact HB.out)))); have n3_ := Aside0.mk (blk_below (g := gb232) (o := .cells #[.int .i64 a0_0, .slice A0_1 l0_1.length c0_1] 32 (0, 0)) (by (with_reducible repeat (first | refine kN ?_ _ | refine kD ?_ | refine kA ?_ _)); exact BK232.out) hb); have n4_ := Aside0.mk (below_step (by repeat (first | (with_reducible first | exact HB.out | apply bA | apply bN | apply bD | refine bS ?_ GE232.out) | exact HB.out)) hb); clear HO_6; clear HO_7; clear BK232; clear HB; have HO_6 := n0_; have HO_7 := n1_; have HO248 := n2_; have BK232 := n3_; have HB := n4_; clear n0_ n1_ n2_ n3_ n4_; clear hb ho20; have hcz21_0 : w19.cell? ⟨gb232, 0, none⟩ = some (.int .i64 a0_0) := (blk_cell BK232.out 0).trans rfl; have hcz21_1 : w19.cell? ⟨gb232, 1, none⟩ = some (.slice A0_1 l0_1.length c0_1) := (blk_cell BK232.out 1).trans rfl; have hfz21_0 := blk_frozen BK232.out 0; have hfz21_1 := blk_frozen BK232.out 1))
      go_loopg [34] k1 (fun kq v34 w' => ∃ (x8_2 : List Bool) (x34_2 : Int), v34 = .int .i64 x34_2 ∧ Aside0 (impl_GenerationRounds.l1 kq x6_1 x7_1 x8_2 l0_1 (l0_1.length : Int) x34_2 a0_0 l0_1 = some (r1, r2)) ∧ Aside0 (kq ≤ k1) ∧ Aside0 (Kd.R Kd.bool 4 w' w.heap.size (fun k_ => some k_ ≠ (v247 : Value).ownBlock) (.slice Ao12 x6_1.length co12) x6_1) ∧ Aside0 (Kd.S (Kd.slice 3 (Kd.int .i64)) 25 w' w.heap.size (fun _ => True) u7 x7_1) ∧ Aside0 (Kd.R Kd.bool 4 w' w.heap.size (fun k_ => some k_ ≠ ((.slice Ao12 x6_1.length co12) : Value).ownBlock) v247 x8_2) ∧ Aside0 (w'.heap[gb232]? = some (.cells #[.int .i64 a0_0, (.slice A0_1 l0_1.length c0_1)] 32 (0, 0))) ∧ Aside0 (Below w.heap.size w w'))
      case atStart => exact ⟨(y246), (0), (by first | rfl | (simp; done) | (simp [*]; done)), H', ⟨Nat.le_refl _⟩, ⟨by (try simp only [hl6_1]); (with_reducible repeat (first | apply Kd.R_alloc | apply Kd.R_drewN | apply Kd.R_drew)); exact Kd.R_mono HO_6.out (fun _ hk => by first | exact hk.2 | exact trivial)⟩, ⟨by (try simp only [hl6_1]); (with_reducible repeat (first | apply Kd.S_alloc | apply Kd.S_drewN | apply Kd.S_drew)); exact HO_7.out⟩, ⟨by (try simp only [hl6_1]); (with_reducible repeat (first | apply Kd.R_alloc | apply Kd.R_drewN | apply Kd.R_drew)); exact Kd.R_mono HO248.out (fun _ hk => by first | exact hk.2 | exact trivial)⟩, ⟨by (try simp only [hl6_1]); (with_reducible repeat (first | refine kN ?_ _ | refine kD ?_ | refine kA ?_ _)); exact BK232.out⟩, ⟨by repeat (first | (with_reducible first | exact HB.out | apply bA | apply bN | apply bD | refine bS ?_ GE232.out) | exact HB.out)⟩⟩
      case round =>
       clear H'
       try clear c1
       try clear p2
       try clear c4
       try clear c13
       try clear c16
       try clear c16b0
       try clear c16b1
       try clear c17
       try clear c17b0
       try clear c17b1
       try clear hcz10_0
       try clear hcz10_1
       try clear hcz18_0
       try clear hcz18_1
       try clear hcz21_0
       try clear hcz21_1
       try clear hcz8_0
       try clear hcz8_1
       try clear hfz10_0
       try clear hfz10_1
       try clear hfz18_0
       try clear hfz18_1
       try clear hfz21_0
       try clear hfz21_1
       try clear hfz8_0
       try clear hfz8_1
       try clear p2
       obtain ⟨x8_2, x34_2, rfl, HA, HK2, HO_6, HO_7, HO_8, BK232, HB⟩ := hrel
       cases gk with
       | zero => exact absurd HA.out (by simp [impl_GenerationRounds.l1])
       | succ k2 =>
        have H := HA.out
        clear HA
        simp only [impl_GenerationRounds.l1] at H
        by_cases c22 : x34_2 < (l0_1.length : Int)
        ·rw [if_pos c22] at H
         have c22b0 : decide (x34_2 < (l0_1.length : Int)) = true := decide_eq_true c22
         clear c22
         by_cases c23 : 0 ≤ x34_2
         ·rw [if_pos c23] at H
          have c23b0 : decide (0 ≤ x34_2) = true := decide_eq_true c23
          clear c23
          by_cases c24 : x34_2 < (l0_1.length : Int)
          ·rw [if_pos c24] at H
           have c24b0 : decide (x34_2 < (l0_1.length : Int)) = true := decide_eq_true c24
           clear c24
           have H' := Aside0.mk H
           clear H
           have p249 : 0 ≤ (x34_2 : Int) := of_decide_eq_true (by first | (with_reducible assumption) | assumption)
           have q249 : x34_2 < (l0_1.length : Int) := of_decide_eq_true (by first | (with_reducible assumption) | assumption)
           obtain ⟨ad249, A249_1, c249_1, e249, hx249_0, hx249_1, hl249_1, hi249_1⟩ := at_T77 HR0_1.out x34_2 p249 q249
           cases e249
           replace hx249_0 := (HB.out.cell (World.block_lt_of_cell? w _ hx249_0)).trans hx249_0
           replace hx249_1 := (HB.out.cell (World.block_lt_of_cell? w _ hx249_1)).trans hx249_1
           have HR249_1 := Aside0.mk hi249_1
           have HC249_1 := Aside0.mk hl249_1
           clear hi249_1 hl249_1
           replace p249 := eq_true p249
           replace q249 := eq_true q249
           go_wp2_with (first | ((with_reducible refine gate_dst (N := 10) rfl ?_); refine box_event ?hg (N := 10) ?hd (cs := #[.int .i64 0, .slice none 0 0]) (t := 77) ?hr ?_; (case hd => rfl); (case hg => rfl); (case hr => first | (go_simp; done) | (go_simp; rfl)); intro gb250 hg w25 hbox hb; have n0_ := Aside0.mk (Kd.R_below (by (with_reducible repeat (first | apply Kd.R_alloc | apply Kd.R_drewN | apply Kd.R_drew)); exact HO_6.out) hb); have n1_ := Aside0.mk (Kd.S_below (by (with_reducible repeat (first | apply Kd.S_alloc | apply Kd.S_drewN | apply Kd.S_drew)); exact HO_7.out) hb); have n2_ := Aside0.mk (Kd.R_below (by (with_reducible repeat (first | apply Kd.R_alloc | apply Kd.R_drewN | apply Kd.R_drew)); exact HO_8.out) hb); have n3_ := Aside0.mk (blk_below (g := gb232) (o := .cells #[.int .i64 a0_0, .slice (some ad249) l0_1.length c0_1] 32 (0, 0)) (by (with_reducible repeat (first | refine kN ?_ _ | refine kD ?_ | refine kA ?_ _)); exact BK232.out) hb); have n4_ := Aside0.mk (below_step (by repeat (first | (with_reducible first | exact HB.out | apply bA | apply bN | apply bD | refine bS ?_ GE232.out) | exact HB.out)) hb); have n5_ := Aside0.mk (hbox); have n6_ := Aside0.mk ((by rw [hg]; exact (below_size (by repeat (first | (with_reducible first | exact HB.out | apply bA | apply bN | apply bD | refine bS ?_ GE232.out) | exact HB.out))) : w.heap.size ≤ gb250)); have n7_ := Aside0.mk ((by rw [hg]; exact (below_size (by repeat (first | (with_reducible first | exact HB.out | apply bA | apply bN | apply bD | refine bS ?_ GE232.out) | exact HB.out))) : w.heap.size ≤ gb250)); have n8_ := Aside0.mk ((by rw [hg]; exact Nat.ne_of_lt (blk_lt (g := gb232) (o := .cells #[.int .i64 a0_0, .slice (some ad249) l0_1.length c0_1] 32 (0, 0)) (by (with_reducible repeat (first | refine kN ?_ _ | refine kD ?_ | refine kA ?_ _)); exact BK232.out)) : gb232 ≠ gb250)); have n9_ := Aside0.mk ((by rw [hg]; exact Nat.ne_of_gt (blk_lt (g := gb232) (o := .cells #[.int .i64 a0_0, .slice (some ad249) l0_1.length c0_1] 32 (0, 0)) (by (with_reducible repeat (first | refine kN ?_ _ | refine kD ?_ | refine kA ?_ _)); exact BK232.out)) : gb250 ≠ gb232)); clear HO_6; clear HO_7; clear HO_8; clear BK232; clear HB; have HO_6 := n0_; have HO_7 := n1_; have HO_8 := n2_; have BK232 := n3_; have HB := n4_; have BK250 := n5_; have GW250 := n6_; have GE250 := n7_; have NB232_250 := n8_; have NB250_232 := n9_; clear n0_ n1_ n2_ n3_ n4_ n5_ n6_ n7_ n8_ n9_; clear hb hbox hg; have hnb26 := NB250_232.out; have hnc26 := NB232_250.out; have hcz27_0 : w25.cell? ⟨gb250, 0, none⟩ = some (.int .i64 0) := (blk_cell BK250.out 0).trans rfl; have hcz27_1 : w25.cell? ⟨gb250, 1, none⟩ = some (.slice none 0 0) := (blk_cell BK250.out 1).trans rfl; have hfz27_0 := blk_frozen BK250.out 0; have hfz27_1 := blk_frozen BK250.out 1))
           go_loopg [41] k2 (fun kq v41 w' => ∃ (x8_3 : List Bool) (x41_3 : Int), v41 = .int .i64 x41_3 ∧ Aside0 (impl_GenerationRounds.l2 kq x6_1 x7_1 x8_3 l0_1 (l0_1.length : Int) x34_2 ((rd_T77 l0_1 x34_2).f1) (((rd_T77 l0_1 x34_2).f1).length : Int) x41_3 a0_0 l0_1 ((rd_T77 l0_1 x34_2).f0) ((rd_T77 l0_1 x34_2).f1) = some (r1, r2)) ∧ Aside0 (kq ≤ k2) ∧ Aside0 (Kd.R Kd.bool 4 w' w.heap.size (fun k_ => some k_ ≠ (v247 : Value).ownBlock) (.slice Ao12 x6_1.length co12) x6_1) ∧ Aside0 (Kd.S (Kd.slice 3 (Kd.int .i64)) 25 w' w.heap.size (fun _ => True) u7 x7_1) ∧ Aside0 (Kd.R Kd.bool 4 w' w.heap.size (fun k_ => some k_ ≠ ((.slice Ao12 x6_1.length co12) : Value).ownBlock) v247 x8_3) ∧ Aside0 (w'.heap[gb232]? = some (.cells #[.int .i64 a0_0, (.slice (some ad249) l0_1.length c0_1)] 32 (0, 0))) ∧ Aside0 (w'.heap[gb250]? = some (.cells #[.int .i64 ((rd_T77 l0_1 x34_2).f0), (.slice A249_1 ((rd_T77 l0_1 x34_2).f1).length c249_1)] 77 (0, 0))) ∧ Aside0 (Below w.heap.size w w'))
           case atStart => exact ⟨(x8_2), (0), (by first | rfl | (simp; done) | (simp [*]; done)), H', ⟨Nat.le_refl _⟩, ⟨by (try simp only [hl6_1]); (with_reducible repeat (first | apply Kd.R_alloc | apply Kd.R_drewN | apply Kd.R_drew)); exact Kd.R_mono (Kd.R_far (p := ⟨gb250, 1, none⟩) (Kd.R_far (p := ⟨gb250, 0, none⟩) (Kd.R_types HO_6.out BK250.out (by decide)) (fun _ hk => hk.2) (.int .i64 ((rd_T77 l0_1 x34_2).f0))) (fun _ hk => hk.2) (.slice A249_1 ((rd_T77 l0_1 x34_2).f1).length c249_1)) (fun _ hk => by first | exact hk.1 | exact trivial)⟩, ⟨by (try simp only [hl6_1]); (with_reducible repeat (first | apply Kd.S_alloc | apply Kd.S_drewN | apply Kd.S_drew)); exact Kd.S_mono (Kd.S_far (p := ⟨gb250, 1, none⟩) (Kd.S_far (p := ⟨gb250, 0, none⟩) (Kd.S_types HO_7.out BK250.out (by decide)) (fun _ hk => hk.2) (.int .i64 ((rd_T77 l0_1 x34_2).f0))) (fun _ hk => hk.2) (.slice A249_1 ((rd_T77 l0_1 x34_2).f1).length c249_1)) (fun _ hk => by first | exact trivial | exact trivial)⟩, ⟨by (try simp only [hl6_1]); (with_reducible repeat (first | apply Kd.R_alloc | apply Kd.R_drewN | apply Kd.R_drew)); exact Kd.R_mono (Kd.R_far (p := ⟨gb250, 1, none⟩) (Kd.R_far (p := ⟨gb250, 0, none⟩) (Kd.R_types HO_8.out BK250.out (by decide)) (fun _ hk => hk.2) (.int .i64 ((rd_T77 l0_1 x34_2).f0))) (fun _ hk => hk.2) (.slice A249_1 ((rd_T77 l0_1 x34_2).f1).length c249_1)) (fun _ hk => by first | exact hk.1 | exact trivial)⟩, ⟨by (try simp only [hl6_1]); (with_reducible repeat (first | refine kN ?_ _ | refine kD ?_ | refine kA ?_ _)); refine blk_far ?_ NB232_250.out _; (with_reducible repeat (first | refine kN ?_ _ | refine kD ?_ | refine kA ?_ _)); refine blk_far ?_ NB232_250.out _; (with_reducible repeat (first | refine kN ?_ _ | refine kD ?_ | refine kA ?_ _)); exact BK232.out⟩, ⟨by (try simp only [hl6_1]); (with_reducible repeat (first | refine kN ?_ _ | refine kD ?_ | refine kA ?_ _)); refine blk_put (cs := #[.int .i64 ((rd_T77 l0_1 x34_2).f0), .slice none 0 0]) ?_ 1 _ rfl; (with_reducible repeat (first | refine kN ?_ _ | refine kD ?_ | refine kA ?_ _)); refine blk_put (cs := #[.int .i64 0, .slice none 0 0]) ?_ 0 _ rfl; (with_reducible repeat (first | refine kN ?_ _ | refine kD ?_ | refine kA ?_ _)); exact BK250.out⟩, ⟨by repeat (first | (with_reducible first | exact HB.out | apply bA | apply bN | apply bD | refine bS ?_ GE232.out | refine bS ?_ GE250.out) | exact HB.out)⟩⟩
           case round =>
            clear H'
            try clear c1
            try clear c2
            try clear p2
            try clear q2
            try clear hx2
            try clear c4
            try clear c13
            try clear c16
            try clear c16b0
            try clear c16b1
            try clear c17
            try clear c17b0
            try clear c17b1
            try clear c22
            try clear c22b0
            try clear c23
            try clear c23b0
            try clear c24
            try clear c24b0
            try clear p24
            try clear q24
            try clear hx24
            try clear c26
            try clear hcz10_0
            try clear hcz10_1
            try clear hcz18_0
            try clear hcz18_1
            try clear hcz21_0
            try clear hcz21_1
            try clear hcz27_0
            try clear hcz27_1
            try clear hcz8_0
            try clear hcz8_1
            try clear hfz10_0
            try clear hfz10_1
            try clear hfz18_0
            try clear hfz18_1
            try clear hfz21_0
            try clear hfz21_1
            try clear hfz27_0
            try clear hfz27_1
            try clear hfz8_0
            try clear hfz8_1
            try clear hx249_0
            try clear hx249_1
            try clear p2
            try clear p249
            try clear q249
            obtain ⟨x8_3, x41_3, rfl, HA, HK3, HO_6, HO_7, HO_8, BK232, BK250, HB⟩ := hrel
            cases gk with
            | zero => exact absurd HA.out (by simp [impl_GenerationRounds.l2])
            | succ k3 =>
             have H := HA.out
             clear HA
             simp only [impl_GenerationRounds.l2] at H
             by_cases c28 : x41_3 < (((rd_T77 l0_1 x34_2).f1).length : Int)
             ·rw [if_pos c28] at H
              have c28b0 : decide (x41_3 < (((rd_T77 l0_1 x34_2).f1).length : Int)) = true := decide_eq_true c28
              clear c28
              by_cases c29 : 0 ≤ x41_3
              ·rw [if_pos c29] at H
               have c29b0 : decide (0 ≤ x41_3) = true := decide_eq_true c29
               clear c29
               by_cases c30 : x41_3 < (((rd_T77 l0_1 x34_2).f1).length : Int)
               ·rw [if_pos c30] at H
                have c30b0 : decide (x41_3 < (((rd_T77 l0_1 x34_2).f1).length : Int)) = true := decide_eq_true c30
                clear c30
                by_cases c31 : 0 ≤ (rd ((rd_T77 l0_1 x34_2).f1) x41_3)
                ·rw [if_pos c31] at H
                 have c31b0 : decide (0 ≤ (rd ((rd_T77 l0_1 x34_2).f1) x41_3)) = true := decide_eq_true c31
                 clear c31
                 by_cases c32 : (rd ((rd_T77 l0_1 x34_2).f1) x41_3) < (x6_1.length : Int)
                 ·rw [if_pos c32] at H
                  have c32b0 : decide ((rd ((rd_T77 l0_1 x34_2).f1) x41_3) < (x6_1.length : Int)) = true := decide_eq_true c32
                  clear c32
                  obtain ⟨bq33, hbq33⟩ : ∃ b_ : Bool, b_ = (rdOf false x6_1 (rd ((rd_T77 l0_1 x34_2).f1) x41_3)) := ⟨_, rfl⟩
                  replace H : (if (bq33 = true) then (impl_GenerationRounds.l2 k3 x6_1 x7_1 x8_3 l0_1 (l0_1.length : Int) x34_2 ((rd_T77 l0_1 x34_2).f1) (((rd_T77 l0_1 x34_2).f1).length : Int) (wrap64 (x41_3 + 1)) a0_0 l0_1 ((rd_T77 l0_1 x34_2).f0) ((rd_T77 l0_1 x34_2).f1)) else ((impl_allIn.f k3 x41_3 ((rd_T77 l0_1 x34_2).f0) a0_0 x6_1).bind fun t253 => (if t253 = true then (if (rd ((rd_T77 l0_1 x34_2).f1) x41_3) < (x8_3.length : Int) then (impl_GenerationRounds.l2 k3 x6_1 x7_1 (x8_3.set ((rd ((rd_T77 l0_1 x34_2).f1) x41_3) : Int).toNat true) l0_1 (l0_1.length : Int) x34_2 ((rd_T77 l0_1 x34_2).f1) (((rd_T77 l0_1 x34_2).f1).length : Int) (wrap64 (x41_3 + 1)) a0_0 l0_1 ((rd_T77 l0_1 x34_2).f0) ((rd_T77 l0_1 x34_2).f1)) else (none)) else (impl_GenerationRounds.l2 k3 x6_1 x7_1 x8_3 l0_1 (l0_1.length : Int) x34_2 ((rd_T77 l0_1 x34_2).f1) (((rd_T77 l0_1 x34_2).f1).length : Int) (wrap64 (x41_3 + 1)) a0_0 l0_1 ((rd_T77 l0_1 x34_2).f0) ((rd_T77 l0_1 x34_2).f1))))) = some (r1, r2) := by rw [← hbq33] at H; exact H
                  have Nbq33 := Aside0.mk hbq33
                  clear hbq33
                  by_cases c34 : (bq33 = true)
                  ·subst c34
                   have H1 : (impl_GenerationRounds.l2 k3 x6_1 x7_1 x8_3 l0_1 (l0_1.length : Int) x34_2 ((rd_T77 l0_1 x34_2).f1) (((rd_T77 l0_1 x34_2).f1).length : Int) (wrap64 (x41_3 + 1)) a0_0 l0_1 ((rd_T77 l0_1 x34_2).f0) ((rd_T77 l0_1 x34_2).f1)) = some (r1, r2) := by rw [if_pos rfl] at H; exact H
                   clear H
                   have H := H1
                   clear H1
                   have H' := Aside0.mk H
                   clear H
                   have p251 : 0 ≤ (x41_3 : Int) := of_decide_eq_true (by first | (with_reducible assumption) | assumption)
                   have q251 : x41_3 < (((rd_T77 l0_1 x34_2).f1).length : Int) := of_decide_eq_true (by first | (with_reducible assumption) | assumption)
                   obtain ⟨ad251, e251, hx251_0⟩ := Kd.at_int HR249_1.out x41_3 p251 q251
                   cases e251
                   replace hx251_0 := (HB.out.cell (World.block_lt_of_cell? w _ hx251_0)).trans hx251_0
                   replace p251 := eq_true p251
                   replace q251 := eq_true q251
                   have p252 : 0 ≤ ((rd ((rd_T77 l0_1 x34_2).f1) x41_3) : Int) := of_decide_eq_true (by first | (with_reducible assumption) | assumption)
                   have q252 : (rd ((rd_T77 l0_1 x34_2).f1) x41_3) < (x6_1.length : Int) := of_decide_eq_true (by first | (with_reducible assumption) | assumption)
                   obtain ⟨ad252, e252, hx252_0⟩ := Kd.at_bool (Kd.R_reads' HO_6.out).2.2 (rd ((rd_T77 l0_1 x34_2).f1) x41_3) p252 q252
                   (try rw [← Nbq33.out] at hx252_0)
                   cases e252
                   replace p252 := eq_true p252
                   replace q252 := eq_true q252
                   go_wp2
                   go_roundg k3
                   case measure => have := HK1.out; have := HK2.out; have := HK3.out; omega
                   case rel => exact ⟨(x8_3), (wrap64 (x41_3 + 1)), (by first | rfl | (simp; done) | (simp [*]; done)), H', ⟨by have := HK1.out; have := HK2.out; have := HK3.out; omega⟩, ⟨by (try simp only [hl6_1]); (with_reducible repeat (first | apply Kd.R_alloc | apply Kd.R_drewN | apply Kd.R_drew)); exact HO_6.out⟩, ⟨by (try simp only [hl6_1]); (with_reducible repeat (first | apply Kd.S_alloc | apply Kd.S_drewN | apply Kd.S_drew)); exact HO_7.out⟩, ⟨by (try simp only [hl6_1]); (with_reducible repeat (first | apply Kd.R_alloc | apply Kd.R_drewN | apply Kd.R_drew)); exact HO_8.out⟩, ⟨by (try simp only [hl6_1]); (with_reducible repeat (first | refine kN ?_ _ | refine kD ?_ | refine kA ?_ _)); exact BK232.out⟩, ⟨by (try simp only [hl6_1]); (with_reducible repeat (first | refine kN ?_ _ | refine kD ?_ | refine kA ?_ _)); exact BK250.out⟩, ⟨by repeat (first | (with_reducible first | exact HB.out | apply bA | apply bN | apply bD | refine bS ?_ GE232.out | refine bS ?_ GE250.out) | exact HB.out)⟩⟩
                  ·replace c34 := Bool.eq_false_iff.mpr c34
                   subst c34
                   have H1 : ((impl_allIn.f k3 x41_3 ((rd_T77 l0_1 x34_2).f0) a0_0 x6_1).bind fun t253 => (if t253 = true then (if (rd ((rd_T77 l0_1 x34_2).f1) x41_3) < (x8_3.length : Int) then (impl_GenerationRounds.l2 k3 x6_1 x7_1 (x8_3.set ((rd ((rd_T77 l0_1 x34_2).f1) x41_3) : Int).toNat true) l0_1 (l0_1.length : Int) x34_2 ((rd_T77 l0_1 x34_2).f1) (((rd_T77 l0_1 x34_2).f1).length : Int) (wrap64 (x41_3 + 1)) a0_0 l0_1 ((rd_T77 l0_1 x34_2).f0) ((rd_T77 l0_1 x34_2).f1)) else (none)) else (impl_GenerationRounds.l2 k3 x6_1 x7_1 x8_3 l0_1 (l0_1.length : Int) x34_2 ((rd_T77 l0_1 x34_2).f1) (((rd_T77 l0_1 x34_2).f1).length : Int) (wrap64 (x41_3 + 1)) a0_0 l0_1 ((rd_T77 l0_1 x34_2).f0) ((rd_T77 l0_1 x34_2).f1)))) = some (r1, r2) := by rw [if_neg (show ¬ (false = true) by decide)] at H; exact H
                   clear H
                   have H := H1
                   clear H1
                   replace H := Option.bind_eq_some_iff.mp H
                   obtain ⟨t253, A350, H⟩ := H
                   replace H : (if t253 = true then (if (rd ((rd_T77 l0_1 x34_2).f1) x41_3) < (x8_3.length : Int) then (impl_GenerationRounds.l2 k3 x6_1 x7_1 (x8_3.set ((rd ((rd_T77 l0_1 x34_2).f1) x41_3) : Int).toNat true) l0_1 (l0_1.length : Int) x34_2 ((rd_T77 l0_1 x34_2).f1) (((rd_T77 l0_1 x34_2).f1).length : Int) (wrap64 (x41_3 + 1)) a0_0 l0_1 ((rd_T77 l0_1 x34_2).f0) ((rd_T77 l0_1 x34_2).f1)) else (none)) else (impl_GenerationRounds.l2 k3 x6_1 x7_1 x8_3 l0_1 (l0_1.length : Int) x34_2 ((rd_T77 l0_1 x34_2).f1) (((rd_T77 l0_1 x34_2).f1).length : Int) (wrap64 (x41_3 + 1)) a0_0 l0_1 ((rd_T77 l0_1 x34_2).f0) ((rd_T77 l0_1 x34_2).f1))) = some (r1, r2) := H
                   have A35 := Aside0.mk A350
                   clear A350
                   by_cases c36 : t253 = true
                   ·subst c36
                    have H1 : (if (rd ((rd_T77 l0_1 x34_2).f1) x41_3) < (x8_3.length : Int) then (impl_GenerationRounds.l2 k3 x6_1 x7_1 (x8_3.set ((rd ((rd_T77 l0_1 x34_2).f1) x41_3) : Int).toNat true) l0_1 (l0_1.length : Int) x34_2 ((rd_T77 l0_1 x34_2).f1) (((rd_T77 l0_1 x34_2).f1).length : Int) (wrap64 (x41_3 + 1)) a0_0 l0_1 ((rd_T77 l0_1 x34_2).f0) ((rd_T77 l0_1 x34_2).f1)) else (none)) = some (r1, r2) := by rw [if_pos rfl] at H; exact H
                    clear H
                    have H := H1
                    clear H1
                    by_cases c37 : (rd ((rd_T77 l0_1 x34_2).f1) x41_3) < (x8_3.length : Int)
                    ·rw [if_pos c37] at H
                     have c37b0 : decide ((rd ((rd_T77 l0_1 x34_2).f1) x41_3) < (x8_3.length : Int)) = true := decide_eq_true c37
                     clear c37
                     obtain ⟨y254, hy254⟩ : ∃ y_ : List Bool, y_ = (x8_3.set ((rd ((rd_T77 l0_1 x34_2).f1) x41_3) : Int).toNat true) := ⟨_, rfl⟩
                     replace H : (impl_GenerationRounds.l2 k3 x6_1 x7_1 y254 l0_1 (l0_1.length : Int) x34_2 ((rd_T77 l0_1 x34_2).f1) (((rd_T77 l0_1 x34_2).f1).length : Int) (wrap64 (x41_3 + 1)) a0_0 l0_1 ((rd_T77 l0_1 x34_2).f0) ((rd_T77 l0_1 x34_2).f1)) = some (r1, r2) := by first | (rw [hy254]; with_reducible exact H) | (have H2_ := (Option.bind_some _ _).symm.trans H; rw [hy254]; with_reducible exact H2_) | (have H2_ := (Option.bind_some _ _).symm.trans H; with_reducible exact H2_) | with_reducible exact H | (rw [hy254]; exact H) | exact H
                     have Ny254 := Aside0.mk hy254
                     clear hy254
                     have H' := Aside0.mk H
                     clear H
                     have p251 : 0 ≤ (x41_3 : Int) := of_decide_eq_true (by first | (with_reducible assumption) | assumption)
                     have q251 : x41_3 < (((rd_T77 l0_1 x34_2).f1).length : Int) := of_decide_eq_true (by first | (with_reducible assumption) | assumption)
                     obtain ⟨ad251, e251, hx251_0⟩ := Kd.at_int HR249_1.out x41_3 p251 q251
                     cases e251
                     replace hx251_0 := (HB.out.cell (World.block_lt_of_cell? w _ hx251_0)).trans hx251_0
                     replace p251 := eq_true p251
                     replace q251 := eq_true q251
                     have p252 : 0 ≤ ((rd ((rd_T77 l0_1 x34_2).f1) x41_3) : Int) := of_decide_eq_true (by first | (with_reducible assumption) | assumption)
                     have q252 : (rd ((rd_T77 l0_1 x34_2).f1) x41_3) < (x6_1.length : Int) := of_decide_eq_true (by first | (with_reducible assumption) | assumption)
                     obtain ⟨ad252, e252, hx252_0⟩ := Kd.at_bool (Kd.R_reads' HO_6.out).2.2 (rd ((rd_T77 l0_1 x34_2).f1) x41_3) p252 q252
                     (try rw [← Nbq33.out] at hx252_0)
                     cases e252
                     replace p252 := eq_true p252
                     replace q252 := eq_true q252
                     have hnb39 := NB250_232.out
                     have hnc39 := NB232_250.out
                     have hcz40_0 : wr.cell? ⟨gb250, 0, none⟩ = some (.int .i64 ((rd_T77 l0_1 x34_2).f0)) := (blk_cell BK250.out 0).trans rfl
                     have hcz40_1 : wr.cell? ⟨gb250, 1, none⟩ = some (.slice (some ad251) ((rd_T77 l0_1 x34_2).f1).length c249_1) := (blk_cell BK250.out 1).trans rfl
                     have hfz40_0 := blk_frozen BK250.out 0
                     have hfz40_1 := blk_frozen BK250.out 1
                     have hcz41_0 : wr.cell? ⟨gb232, 0, none⟩ = some (.int .i64 a0_0) := (blk_cell BK232.out 0).trans rfl
                     have hcz41_1 : wr.cell? ⟨gb232, 1, none⟩ = some (.slice (some ad249) l0_1.length c0_1) := (blk_cell BK232.out 1).trans rfl
                     have hfz41_0 := blk_frozen BK232.out 0
                     have hfz41_1 := blk_frozen BK232.out 1
                     go_wp2_with (first | (go_at_call 50; (try simp only [i64_w]); (with_reducible refine (impl_allIn.calls k3 x41_3 ((rd_T77 l0_1 x34_2).f0) a0_0 _ _ x6_1 true _ ?side1 ?side2 A35.out).mono ?_); (case side1 => repeat (first | exact (Kd.R_reads' HO_6.out).2.2 | (with_reducible refine Kd.C_alloc ?_ _) | (with_reducible refine Kd.C_drewN ?_ _) | (with_reducible refine Kd.C_drew ?_))); (case side2 => exact (Kd.R_reads' HO_6.out).2.1); rintro e w' ⟨rfl, ⟨nd, rfl⟩⟩; (try (rw [drewN_self wr]; generalize hq_ : World.drewN wr _ = wr; have n0_ : Aside0 (Kd.R Kd.bool 4 wr w.heap.size (fun k_ => some k_ ≠ (v247 : Value).ownBlock) (.slice (some ad252) x6_1.length co12) x6_1) := ⟨by rw [← hq_]; exact (by (with_reducible repeat (first | apply Kd.R_alloc | apply Kd.R_drewN | apply Kd.R_drew)); exact HO_6.out)⟩; have n1_ : Aside0 (Kd.S (Kd.slice 3 (Kd.int .i64)) 25 wr w.heap.size (fun _ => True) u7 x7_1) := ⟨by rw [← hq_]; exact (by (with_reducible repeat (first | apply Kd.S_alloc | apply Kd.S_drewN | apply Kd.S_drew)); exact HO_7.out)⟩; have n2_ : Aside0 (Kd.R Kd.bool 4 wr w.heap.size (fun k_ => some k_ ≠ (.slice (some ad252) x6_1.length co12 : Value).ownBlock) v247 x8_3) := ⟨by rw [← hq_]; exact (by (with_reducible repeat (first | apply Kd.R_alloc | apply Kd.R_drewN | apply Kd.R_drew)); exact HO_8.out)⟩; have n3_ : Aside0 (wr.heap[gb232]? = some (.cells #[.int .i64 a0_0, .slice (some ad249) l0_1.length c0_1] 32 (0, 0))) := ⟨by rw [← hq_]; exact (by (with_reducible repeat (first | refine kN ?_ _ | refine kD ?_ | refine kA ?_ _)); exact BK232.out)⟩; have n4_ : Aside0 (wr.heap[gb250]? = some (.cells #[.int .i64 ((rd_T77 l0_1 x34_2).f0), .slice (some ad251) ((rd_T77 l0_1 x34_2).f1).length c249_1] 77 (0, 0))) := ⟨by rw [← hq_]; exact (by (with_reducible repeat (first | refine kN ?_ _ | refine kD ?_ | refine kA ?_ _)); exact BK250.out)⟩; have n5_ : Aside0 (Below w.heap.size w wr) := ⟨by rw [← hq_]; exact (by repeat (first | (with_reducible first | exact HB.out | apply bA | apply bN | apply bD | refine bS ?_ GE232.out | refine bS ?_ GE250.out) | exact HB.out))⟩; clear HO_6 HO_7 HO_8 BK232 BK250 HB hq_; have HO_6 := n0_; have HO_7 := n1_; have HO_8 := n2_; have BK232 := n3_; have BK250 := n4_; have HB := n5_; clear n0_ n1_ n2_ n3_ n4_ n5_)); have p38 : 0 ≤ ((rd ((rd_T77 l0_1 x34_2).f1) x41_3) : Int) := of_decide_eq_true (by first | (with_reducible assumption) | assumption); have q38 : ((rd ((rd_T77 l0_1 x34_2).f1) x41_3) : Int) < ((x8_3.length : Int) : Int) := of_decide_eq_true (by first | (with_reducible assumption) | assumption); obtain ⟨go38, co38, eo38, gb38, gl38, cl38, HG38⟩ := Kd.R_form HO_8.out (by omega); (first | cases eo38 | (injection eo38 with ea_ en_ ec_; (first | subst ea_ | (injection ea_ with ea_; subst ea_)); subst ec_; clear en_)); have GB38 := Aside0.mk gb38; have GG38 := Aside0.mk HG38; clear gb38 gl38 HG38; obtain ⟨hx38_0, hf38_0⟩ := Kd.R_celln false HO_8.out ((rd ((rd_T77 l0_1 x34_2).f1) x41_3) : Int) p38 q38; replace p38 := eq_true p38; replace q38 := eq_true q38; obtain ⟨hy42_, hz42_⟩ := Kd.R_celln false HO_8.out ((rd ((rd_T77 l0_1 x34_2).f1) x41_3) : Int) (of_decide_eq_true (by first | (with_reducible assumption) | assumption)) (of_decide_eq_true (by first | (with_reducible assumption) | assumption)); have HP42 := Kd.R_putg HO_8.out ((rd ((rd_T77 l0_1 x34_2).f1) x41_3) : Int) true) | ((with_reducible refine gate_store (t := 4) (p := 62) rfl ?_); refine store_event (t := 4) (p := 62) (v := ?vo_w43) (w1 := (wr.setCell ⟨go38, ((rd ((rd_T77 l0_1 x34_2).f1) x41_3) : Int).toNat, none⟩ (.bool true))) ?hg ?ho ?hn ?hr ?_; (case ho => rfl); (case hg => rfl); (case hn => rfl); (case hr => first | (go_simp; done) | (go_simp; rfl)); intro w43 hw; have hg : wr.grownBy w43 (some go38) := (by rw [hw]; exact HP42.2); have hp_ : Kd.R Kd.bool 4 w43 w.heap.size (fun k_ => some k_ ≠ (.slice (some ad252) x6_1.length co12 : Value).ownBlock) (.slice (some ⟨go38, 0, none⟩) x8_3.length co38) y254 := (by rw [hw, Ny254.out]; exact HP42.1); clear HP42; have n0_ := Aside0.mk (Kd.R_after (v := (.slice (some ⟨go38, 0, none⟩) x8_3.length co38)) (v1 := (.slice (some ⟨go38, 0, none⟩) x8_3.length co38)) (ok := (fun _ => True)) (by (with_reducible repeat (first | apply Kd.R_alloc | apply Kd.R_drewN | apply Kd.R_drew)); exact Kd.R_mono HO_6.out (fun _ hk => by first | exact ⟨trivial, hk⟩ | exact trivial)) hg (.inl rfl)); have n1_ := Aside0.mk (Kd.S_over' (v := (.slice (some ⟨go38, 0, none⟩) x8_3.length co38)) (by (with_reducible repeat (first | apply Kd.S_alloc | apply Kd.S_drewN | apply Kd.S_drew)); exact HO_7.out) (Kd.R_typed HO_8.out) (by decide) hg); have n2_ := Aside0.mk (hp_); have n3_ := Aside0.mk (blk_grown (g := gb232) (o := .cells #[.int .i64 a0_0, .slice (some ad249) l0_1.length c0_1] 32 (0, 0)) (by (with_reducible repeat (first | refine kN ?_ _ | refine kD ?_ | refine kA ?_ _)); exact BK232.out) hg (Kd.R_ne HO_8.out BK232.out (by decide))); have n4_ := Aside0.mk (blk_grown (g := gb250) (o := .cells #[.int .i64 ((rd_T77 l0_1 x34_2).f0), .slice (some ad251) ((rd_T77 l0_1 x34_2).f1).length c249_1] 77 (0, 0)) (by (with_reducible repeat (first | refine kN ?_ _ | refine kD ?_ | refine kA ?_ _)); exact BK250.out) hg (Kd.R_ne HO_8.out BK250.out (by decide))); have n5_ := Aside0.mk ((by rw [hw]; exact bS (HB.out) GB38.out : Below w.heap.size w w43)); clear HO_6; clear HO_7; clear HO_8; clear BK232; clear BK250; clear HB; have HO_6 := n0_; have HO_7 := n1_; have HO_8 := n2_; have BK232 := n3_; have BK250 := n4_; have HB := n5_; clear n0_ n1_ n2_ n3_ n4_ n5_; clear hg hw hp_))
                     go_roundg k3
                     case measure => have := HK1.out; have := HK2.out; have := HK3.out; omega
                     case rel => exact ⟨(y254), (wrap64 (x41_3 + 1)), (by first | rfl | (simp; done) | (simp [*]; done)), H', ⟨by have := HK1.out; have := HK2.out; have := HK3.out; omega⟩, ⟨by (try simp only [hl6_1]); (with_reducible repeat (first | apply Kd.R_alloc | apply Kd.R_drewN | apply Kd.R_drew)); exact Kd.R_mono HO_6.out (fun _ hk => by first | exact hk.2 | exact trivial)⟩, ⟨by (try simp only [hl6_1]); (with_reducible repeat (first | apply Kd.S_alloc | apply Kd.S_drewN | apply Kd.S_drew)); exact HO_7.out⟩, ⟨by (try simp only [hl6_1]); (with_reducible repeat (first | apply Kd.R_alloc | apply Kd.R_drewN | apply Kd.R_drew)); exact HO_8.out⟩, ⟨by (try simp only [hl6_1]); (with_reducible repeat (first | refine kN ?_ _ | refine kD ?_ | refine kA ?_ _)); exact BK232.out⟩, ⟨by (try simp only [hl6_1]); (with_reducible repeat (first | refine kN ?_ _ | refine kD ?_ | refine kA ?_ _)); exact BK250.out⟩, ⟨by repeat (first | (with_reducible first | exact HB.out | apply bA | apply bN | apply bD | refine bS ?_ GE232.out | refine bS ?_ GE250.out) | exact HB.out)⟩⟩
                    ·rw [if_neg c37] at H
                     exact absurd H (by simp)
                   ·replace c36 := Bool.eq_false_iff.mpr c36
                    subst c36
                    have H1 : (impl_GenerationRounds.l2 k3 x6_1 x7_1 x8_3 l0_1 (l0_1.length : Int) x34_2 ((rd_T77 l0_1 x34_2).f1) (((rd_T77 l0_1 x34_2).f1).length : Int) (wrap64 (x41_3 + 1)) a0_0 l0_1 ((rd_T77 l0_1 x34_2).f0) ((rd_T77 l0_1 x34_2).f1)) = some (r1, r2) := by rw [if_neg (show ¬ (false = true) by decide)] at H; exact H
                    clear H
                    have H := H1
                    clear H1
                    have H' := Aside0.mk H
                    clear H
                    have p251 : 0 ≤ (x41_3 : Int) := of_decide_eq_true (by first | (with_reducible assumption) | assumption)
                    have q251 : x41_3 < (((rd_T77 l0_1 x34_2).f1).length : Int) := of_decide_eq_true (by first | (with_reducible assumption) | assumption)
                    obtain ⟨ad251, e251, hx251_0⟩ := Kd.at_int HR249_1.out x41_3 p251 q251
                    cases e251
                    replace hx251_0 := (HB.out.cell (World.block_lt_of_cell? w _ hx251_0)).trans hx251_0
                    replace p251 := eq_true p251
                    replace q251 := eq_true q251
                    have p252 : 0 ≤ ((rd ((rd_T77 l0_1 x34_2).f1) x41_3) : Int) := of_decide_eq_true (by first | (with_reducible assumption) | assumption)
                    have q252 : (rd ((rd_T77 l0_1 x34_2).f1) x41_3) < (x6_1.length : Int) := of_decide_eq_true (by first | (with_reducible assumption) | assumption)
                    obtain ⟨ad252, e252, hx252_0⟩ := Kd.at_bool (Kd.R_reads' HO_6.out).2.2 (rd ((rd_T77 l0_1 x34_2).f1) x41_3) p252 q252
                    (try rw [← Nbq33.out] at hx252_0)
                    cases e252
                    replace p252 := eq_true p252
                    replace q252 := eq_true q252
                    have hnb44 := NB250_232.out
                    have hnc44 := NB232_250.out
                    have hcz45_0 : wr.cell? ⟨gb250, 0, none⟩ = some (.int .i64 ((rd_T77 l0_1 x34_2).f0)) := (blk_cell BK250.out 0).trans rfl
                    have hcz45_1 : wr.cell? ⟨gb250, 1, none⟩ = some (.slice (some ad251) ((rd_T77 l0_1 x34_2).f1).length c249_1) := (blk_cell BK250.out 1).trans rfl
                    have hfz45_0 := blk_frozen BK250.out 0
                    have hfz45_1 := blk_frozen BK250.out 1
                    have hcz46_0 : wr.cell? ⟨gb232, 0, none⟩ = some (.int .i64 a0_0) := (blk_cell BK232.out 0).trans rfl
                    have hcz46_1 : wr.cell? ⟨gb232, 1, none⟩ = some (.slice (some ad249) l0_1.length c0_1) := (blk_cell BK232.out 1).trans rfl
                    have hfz46_0 := blk_frozen BK232.out 0
                    have hfz46_1 := blk_frozen BK232.out 1
                    go_wp2_with (first | (go_at_call 50; (try simp only [i64_w]); (with_reducible refine (impl_allIn.calls k3 x41_3 ((rd_T77 l0_1 x34_2).f0) a0_0 _ _ x6_1 false _ ?side1 ?side2 A35.out).mono ?_); (case side1 => repeat (first | exact (Kd.R_reads' HO_6.out).2.2 | (with_reducible refine Kd.C_alloc ?_ _) | (with_reducible refine Kd.C_drewN ?_ _) | (with_reducible refine Kd.C_drew ?_))); (case side2 => exact (Kd.R_reads' HO_6.out).2.1); rintro e w' ⟨rfl, ⟨nd, rfl⟩⟩))
                    go_roundg k3
                    case measure => have := HK1.out; have := HK2.out; have := HK3.out; omega
                    case rel => exact ⟨(x8_3), (wrap64 (x41_3 + 1)), (by first | rfl | (simp; done) | (simp [*]; done)), H', ⟨by have := HK1.out; have := HK2.out; have := HK3.out; omega⟩, ⟨by (try simp only [hl6_1]); (with_reducible repeat (first | apply Kd.R_alloc | apply Kd.R_drewN | apply Kd.R_drew)); exact HO_6.out⟩, ⟨by (try simp only [hl6_1]); (with_reducible repeat (first | apply Kd.S_alloc | apply Kd.S_drewN | apply Kd.S_drew)); exact HO_7.out⟩, ⟨by (try simp only [hl6_1]); (with_reducible repeat (first | apply Kd.R_alloc | apply Kd.R_drewN | apply Kd.R_drew)); exact HO_8.out⟩, ⟨by (try simp only [hl6_1]); (with_reducible repeat (first | refine kN ?_ _ | refine kD ?_ | refine kA ?_ _)); exact BK232.out⟩, ⟨by (try simp only [hl6_1]); (with_reducible repeat (first | refine kN ?_ _ | refine kD ?_ | refine kA ?_ _)); exact BK250.out⟩, ⟨by repeat (first | (with_reducible first | exact HB.out | apply bA | apply bN | apply bD | refine bS ?_ GE232.out | refine bS ?_ GE250.out) | exact HB.out)⟩⟩
                 ·rw [if_neg c32] at H
                  exact absurd H (by simp)
                ·rw [if_neg c31] at H
                 exact absurd H (by simp)
               ·rw [if_neg c30] at H
                exact absurd H (by simp)
              ·rw [if_neg c29] at H
               exact absurd H (by simp)
             ·rw [if_neg c28] at H
              have c28b0 : decide (x41_3 < (((rd_T77 l0_1 x34_2).f1).length : Int)) = false := decide_eq_false c28
              clear c28
              have H' := Aside0.mk H
              clear H
              go_wp2
              go_roundg k3
              case measure => have := HK1.out; have := HK2.out; have := HK3.out; omega
              case rel => exact ⟨(x8_3), (wrap64 (x34_2 + 1)), (by first | rfl | (simp; done) | (simp [*]; done)), H', ⟨by have := HK1.out; have := HK2.out; have := HK3.out; omega⟩, ⟨by (try simp only [hl6_1]); (with_reducible repeat (first | apply Kd.R_alloc | apply Kd.R_drewN | apply Kd.R_drew)); exact HO_6.out⟩, ⟨by (try simp only [hl6_1]); (with_reducible repeat (first | apply Kd.S_alloc | apply Kd.S_drewN | apply Kd.S_drew)); exact HO_7.out⟩, ⟨by (try simp only [hl6_1]); (with_reducible repeat (first | apply Kd.R_alloc | apply Kd.R_drewN | apply Kd.R_drew)); exact HO_8.out⟩, ⟨by (try simp only [hl6_1]); (with_reducible repeat (first | refine kN ?_ _ | refine kD ?_ | refine kA ?_ _)); exact BK232.out⟩, ⟨by repeat (first | (with_reducible first | exact HB.out | apply bA | apply bN | apply bD | refine bS ?_ GE232.out | refine bS ?_ GE250.out) | exact HB.out)⟩⟩
          ·rw [if_neg c24] at H
           exact absurd H (by simp)
         ·rw [if_neg c23] at H
          exact absurd H (by simp)
        ·rw [if_neg c22] at H
         have c22b0 : decide (x34_2 < (l0_1.length : Int)) = false := decide_eq_false c22
         clear c22
         replace H := Option.bind_eq_some_iff.mp H
         obtain ⟨t255, A470, H⟩ := H
         replace H : (if (t255.length : Int) = 0 then (some (x7_1, true)) else (if x7_1.length < 5864062014805 then (impl_GenerationRounds.l3 k2 x6_1 (x7_1 ++ [t255]) t255 (t255.length : Int) 0 a0_0 l0_1) else (none))) = some (r1, r2) := H
         have A47 := Aside0.mk A470
         clear A470
         by_cases c48 : (t255.length : Int) = 0
         ·rw [if_pos c48] at H
          have c48b0 : ((t255.length : Int) == 0) = true := beq_iff_eq.mpr c48
          have c48b1 : ((t255.length : Int) != 0) = false := bne_eq_false_iff_eq.mpr c48
          clear c48
          simp only [Option.some.injEq, Prod.mk.injEq] at H
          obtain ⟨rfl, rfl⟩ := H
          obtain ⟨Ao49, co49, eo49⟩ := Kd.R_slice HO_8.out
          subst eo49
          go_wp2_with (first | ((with_reducible refine gate_callee (f := 49) rfl ?_); refine goesL_ (some 66) rfl rfl Try.func49 (by kernel_rfl) rfl #[.slice Ao49 x8_2.length co49] rfl (by (try simp only [List.map_toArray, List.map_cons, List.map_nil]); first | done | rfl | (simp only [List.length_drop, List.length_take]; rfl)) ?_; (with_reducible refine (impl_marked.calls k2 _ _ x8_2 t255 _ ?side1 ?side2 A47.out).mono ?_); (case side1 => repeat (first | exact (Kd.R_reads' HO_8.out).2.2 | (with_reducible refine Kd.C_alloc ?_ _) | (with_reducible refine Kd.C_drewN ?_ _) | (with_reducible refine Kd.C_drew ?_))); (case side2 => exact (Kd.R_reads' HO_8.out).2.1); rintro e w50 ⟨v256, rfl, ho0, hb⟩; refine ⟨_, rfl, ?_⟩; have n0_ := Aside0.mk (Kd.R_below (by (with_reducible repeat (first | apply Kd.R_alloc | apply Kd.R_drewN | apply Kd.R_drew)); exact HO_6.out) hb); have n1_ := Aside0.mk (Kd.S_elder' (by (with_reducible repeat (first | apply Kd.S_alloc | apply Kd.S_drewN | apply Kd.S_drew)); exact HO_7.out) (Kd.R_base ho0) hb); have n2_ := Aside0.mk (Kd.R_below (by (with_reducible repeat (first | apply Kd.R_alloc | apply Kd.R_drewN | apply Kd.R_drew)); exact HO_8.out) hb); have n3_ := Aside0.mk (Kd.R_lower ho0 (below_size (by repeat (first | (with_reducible first | exact HB.out | apply bA | apply bN | apply bD | refine bS ?_ GE232.out) | exact HB.out)))); have n4_ := Aside0.mk (blk_below (g := gb232) (o := .cells #[.int .i64 a0_0, .slice A0_1 l0_1.length c0_1] 32 (0, 0)) (by (with_reducible repeat (first | refine kN ?_ _ | refine kD ?_ | refine kA ?_ _)); exact BK232.out) hb); have n5_ := Aside0.mk (below_step (by repeat (first | (with_reducible first | exact HB.out | apply bA | apply bN | apply bD | refine bS ?_ GE232.out) | exact HB.out)) hb); clear HO_6; clear HO_7; clear HO_8; clear BK232; clear HB; have HO_6 := n0_; have HO_7 := n1_; have HO_8 := n2_; have HO257 := n3_; have BK232 := n4_; have HB := n5_; clear n0_ n1_ n2_ n3_ n4_ n5_; (try clear hb); (try clear hb2); (try clear hk); (try clear hi); (try clear ho0); obtain ⟨Ao51, co51, eo51⟩ := Kd.R_slice HO257.out; subst eo51))
          go_ret2
          exact ⟨_, by first | rfl | (simp [*, errW_none, errW_some] <;> rfl), by (with_reducible repeat (first | apply Kd.S_alloc | apply Kd.S_drewN | apply Kd.S_drew)); exact Kd.S_mono HO_7.out (fun _ hk => by first | exact trivial | exact trivial), by repeat (first | (with_reducible first | exact HB.out | apply bA | apply bN | apply bD | refine bS ?_ GE232.out) | exact HB.out)⟩
         ·rw [if_neg c48] at H
          have c48b0 : ((t255.length : Int) == 0) = false := beq_eq_false_iff_ne.mpr c48
          have c48b1 : ((t255.length : Int) != 0) = true := bne_iff_ne.mpr c48
          have c48b2 : ¬ (t255 = []) := fun h_ => c48 (by rw [h_]; rfl)
          by_cases c52 : x7_1.length < 5864062014805
          ·rw [if_pos c52] at H
           have LMc52 := Aside0.mk c52
           clear c52
           obtain ⟨y258, hy258⟩ : ∃ y_ : List (List Int), y_ = (x7_1 ++ [t255]) := ⟨_, rfl⟩
           replace H : (impl_GenerationRounds.l3 k2 x6_1 y258 t255 (t255.length : Int) 0 a0_0 l0_1) = some (r1, r2) := by first | (rw [hy258]; with_reducible exact H) | (have H2_ := (Option.bind_some _ _).symm.trans H; rw [hy258]; with_reducible exact H2_) | (have H2_ := (Option.bind_some _ _).symm.trans H; with_reducible exact H2_) | with_reducible exact H | (rw [hy258]; exact H) | exact H
           have Ny258 := Aside0.mk hy258
           clear hy258
           have H' := Aside0.mk H
           clear H
           obtain ⟨Ao53, co53, eo53⟩ := Kd.R_slice HO_8.out
           subst eo53
           go_wp2_with (first | ((with_reducible refine gate_callee (f := 49) rfl ?_); refine goesL_ (some 66) rfl rfl Try.func49 (by kernel_rfl) rfl #[.slice Ao53 x8_2.length co53] rfl (by (try simp only [List.map_toArray, List.map_cons, List.map_nil]); first | done | rfl | (simp only [List.length_drop, List.length_take]; rfl)) ?_; (with_reducible refine (impl_marked.calls k2 _ _ x8_2 t255 _ ?side1 ?side2 A47.out).mono ?_); (case side1 => repeat (first | exact (Kd.R_reads' HO_8.out).2.2 | (with_reducible refine Kd.C_alloc ?_ _) | (with_reducible refine Kd.C_drewN ?_ _) | (with_reducible refine Kd.C_drew ?_))); (case side2 => exact (Kd.R_reads' HO_8.out).2.1); rintro e w54 ⟨v256, rfl, ho0, hb⟩; refine ⟨_, rfl, ?_⟩; have n0_ := Aside0.mk (Kd.R_below (by (with_reducible repeat (first | apply Kd.R_alloc | apply Kd.R_drewN | apply Kd.R_drew)); exact HO_6.out) hb); have n1_ := Aside0.mk (Kd.S_elder' (by (with_reducible repeat (first | apply Kd.S_alloc | apply Kd.S_drewN | apply Kd.S_drew)); exact HO_7.out) (Kd.R_base ho0) hb); have n2_ := Aside0.mk (Kd.R_below (by (with_reducible repeat (first | apply Kd.R_alloc | apply Kd.R_drewN | apply Kd.R_drew)); exact HO_8.out) hb); have n3_ := Aside0.mk (Kd.R_lower ho0 (below_size (by repeat (first | (with_reducible first | exact HB.out | apply bA | apply bN | apply bD | refine bS ?_ GE232.out) | exact HB.out)))); have n4_ := Aside0.mk (blk_below (g := gb232) (o := .cells #[.int .i64 a0_0, .slice A0_1 l0_1.length c0_1] 32 (0, 0)) (by (with_reducible repeat (first | refine kN ?_ _ | refine kD ?_ | refine kA ?_ _)); exact BK232.out) hb); have n5_ := Aside0.mk (below_step (by repeat (first | (with_reducible first | exact HB.out | apply bA | apply bN | apply bD | refine bS ?_ GE232.out) | exact HB.out)) hb); clear HO_6; clear HO_7; clear HO_8; clear BK232; clear HB; have HO_6 := n0_; have HO_7 := n1_; have HO_8 := n2_; have HO257 := n3_; have BK232 := n4_; have HB := n5_; clear n0_ n1_ n2_ n3_ n4_ n5_; (try clear hb); (try clear hb2); (try clear hk); (try clear hi); (try clear ho0); obtain ⟨Ao55, co55, eo55⟩ := Kd.R_slice HO257.out; subst eo55) | ((with_reducible refine gate_builtin (b := .append) (xs := #[.tmp 71, .tmp 73]) rfl ?_); at_builtin; refine Kd.S_append (Kd.slice 3 (Kd.int .i64)) (w0 := w) w.heap.size rfl (.tmp 71) (.tmp 73) 27 25 (.slice none 0 0) 24 rfl Try.underlying27 info25 rfl (by decide) (by omega) u7 x7_1 t255 [.slice Ao55 t255.length co55] (fun _ => True) (fun k_ => some k_ = (.slice Ao55 t255.length co55 : Value).ownBlock) rfl rfl ?aP (fun k_ hk_ => ((Kd.R_mono (ok' := fun k_ => ((fun _ => True)) k_ ∧ some k_ ≠ (u7 : Value).ownBlock) (Kd.R_apart' (HO257.out) (Kd.S_typed HO_7.out) (by decide)) (fun k_ hk => ⟨trivial, hk.2⟩))).1 k_ hk_.symm) ?aF ?aO ?aB ?aS ?aL ?_; (case aP => exact Kd.M_row (Kd.R_mono (Kd.R_tight rfl (Kd.R_mono (ok' := fun k_ => ((fun _ => True)) k_ ∧ some k_ ≠ (u7 : Value).ownBlock) (Kd.R_apart' (HO257.out) (Kd.S_typed HO_7.out) (by decide)) (fun k_ hk => ⟨trivial, hk.2⟩))) (fun _ h_ => h_))); (case aB => exact (by repeat (first | (with_reducible first | exact HB.out | apply bA | apply bN | apply bD | refine bS ?_ GE232.out) | exact HB.out))); (case aF => exact (fun _ _ => trivial)); (case aO => exact (by (with_reducible repeat (first | apply Kd.S_alloc | apply Kd.S_drewN | apply Kd.S_drew)); exact Kd.S_mono HO_7.out (fun k_ hk => ⟨trivial, fun e_ => hk.2 e_⟩))); (case aS => exact (below_size (by repeat (first | (with_reducible first | exact HB.out | apply bA | apply bN | apply bD | refine bS ?_ GE232.out) | exact HB.out)))); (case aL => have := LMc52.out; omega); intro v259 w56 ho hb hg hat; rw [← Ny258.out] at ho; have n0_ := Aside0.mk (Kd.R_over' (by (with_reducible repeat (first | apply Kd.R_alloc | apply Kd.R_drewN | apply Kd.R_drew)); exact HO_6.out) (Kd.S_typed (by (with_reducible repeat (first | apply Kd.S_alloc | apply Kd.S_drewN | apply Kd.S_drew)); exact HO_7.out)) (by decide) hg); have n1_ := Aside0.mk (Kd.R_over' (by (with_reducible repeat (first | apply Kd.R_alloc | apply Kd.R_drewN | apply Kd.R_drew)); exact HO_8.out) (Kd.S_typed (by (with_reducible repeat (first | apply Kd.S_alloc | apply Kd.S_drewN | apply Kd.S_drew)); exact HO_7.out)) (by decide) hg); have n2_ := Aside0.mk (blk_grown (g := gb232) (o := .cells #[.int .i64 a0_0, .slice A0_1 l0_1.length c0_1] 32 (0, 0)) (by (with_reducible repeat (first | refine kN ?_ _ | refine kD ?_ | refine kA ?_ _)); exact BK232.out) hg (Kd.S_ne HO_7.out BK232.out (by decide))); have n3_ := Aside0.mk (hb); have n4_ := Aside0.mk (ho); have n5_ := Aside0.mk (Kd.R_over' (by (with_reducible repeat (first | apply Kd.R_alloc | apply Kd.R_drewN | apply Kd.R_drew)); exact HO257.out) (Kd.S_typed (by (with_reducible repeat (first | apply Kd.S_alloc | apply Kd.S_drewN | apply Kd.S_drew)); exact HO_7.out)) (by decide) hg); clear HO_6; clear HO_8; clear BK232; clear HB; clear HO_7; clear HO257; have HO_6 := n0_; have HO_8 := n1_; have BK232 := n2_; have HB := n3_; have HO260 := n4_; have HO257 := n5_; clear n0_ n1_ n2_ n3_ n4_ n5_; clear ho hb hg hat))
           go_loopg [77] k2 (fun kq v77 w' => ∃ (x6_3 : List Bool) (x77_3 : Int), v77 = .int .i64 x77_3 ∧ Aside0 (impl_GenerationRounds.l3 kq x6_3 y258 t255 (t255.length : Int) x77_3 a0_0 l0_1 = some (r1, r2)) ∧ Aside0 (kq ≤ k2) ∧ Aside0 (Kd.R Kd.bool 4 w' w.heap.size (fun _ => True) (.slice Ao12 x6_1.length co12) x6_3) ∧ Aside0 (Kd.S (Kd.slice 3 (Kd.int .i64)) 25 w' w.heap.size (fun _ => True) v259 y258) ∧ Aside0 (Kd.R (Kd.int .i64) 3 w' w.heap.size (fun _ => True) (.slice Ao55 t255.length co55) t255) ∧ Aside0 (w'.heap[gb232]? = some (.cells #[.int .i64 a0_0, (.slice A0_1 l0_1.length c0_1)] 32 (0, 0))) ∧ Aside0 (Below w.heap.size w w'))
           case atStart => exact ⟨(x6_1), (0), (by first | rfl | (simp; done) | (simp [*]; done)), H', ⟨Nat.le_refl _⟩, ⟨by (try simp only [hl6_1]); (with_reducible repeat (first | apply Kd.R_alloc | apply Kd.R_drewN | apply Kd.R_drew)); exact Kd.R_mono HO_6.out (fun _ hk => by first | exact trivial | exact trivial)⟩, ⟨by (try simp only [hl6_1]); (with_reducible repeat (first | apply Kd.S_alloc | apply Kd.S_drewN | apply Kd.S_drew)); exact HO260.out⟩, ⟨by (try simp only [hl6_1]); (with_reducible repeat (first | apply Kd.R_alloc | apply Kd.R_drewN | apply Kd.R_drew)); exact HO257.out⟩, ⟨by (try simp only [hl6_1]); (with_reducible repeat (first | refine kN ?_ _ | refine kD ?_ | refine kA ?_ _)); exact BK232.out⟩, ⟨by repeat (first | (with_reducible first | exact HB.out | apply bA | apply bN | apply bD | refine bS ?_ GE232.out) | exact HB.out)⟩⟩
           case round =>
            clear H'
            try clear c1
            try clear c2
            try clear p2
            try clear q2
            try clear hx2
            try clear c3
            try clear p3
            try clear q3
            try clear hx3
            try clear hf3
            try clear c4
            try clear c5
            try clear p6
            try clear c13
            try clear c16
            try clear c16b0
            try clear c16b1
            try clear c17
            try clear c17b0
            try clear c17b1
            try clear c22
            try clear c22b0
            try clear c23
            try clear c23b0
            try clear c24
            try clear c24b0
            try clear p24
            try clear q24
            try clear hx24
            try clear p25
            try clear q25
            try clear hx25
            try clear c26
            try clear c28
            try clear c28b0
            try clear c29
            try clear c29b0
            try clear c30
            try clear c30b0
            try clear c31
            try clear c31b0
            try clear c32
            try clear c32b0
            try clear q33
            try clear c34
            try clear c36
            try clear c37
            try clear c37b0
            try clear p38
            try clear q38
            try clear hx38
            try clear hf38
            try clear c39
            try clear c44
            try clear c47
            try clear c48
            try clear c48b0
            try clear c48b1
            try clear c48b2
            try clear c49
            try clear c52
            try clear hcz10_0
            try clear hcz10_1
            try clear hcz18_0
            try clear hcz18_1
            try clear hcz21_0
            try clear hcz21_1
            try clear hcz27_0
            try clear hcz27_1
            try clear hcz40_0
            try clear hcz40_1
            try clear hcz41_0
            try clear hcz41_1
            try clear hcz45_0
            try clear hcz45_1
            try clear hcz46_0
            try clear hcz46_1
            try clear hcz8_0
            try clear hcz8_1
            try clear hfz10_0
            try clear hfz10_1
            try clear hfz18_0
            try clear hfz18_1
            try clear hfz21_0
            try clear hfz21_1
            try clear hfz27_0
            try clear hfz27_1
            try clear hfz40_0
            try clear hfz40_1
            try clear hfz41_0
            try clear hfz41_1
            try clear hfz45_0
            try clear hfz45_1
            try clear hfz46_0
            try clear hfz46_1
            try clear hfz8_0
            try clear hfz8_1
            try clear hx249_0
            try clear hx249_1
            try clear hx251_0
            try clear hx252_0
            try clear hx38_0
            try clear p2
            try clear p24
            try clear p249
            try clear p251
            try clear p252
            try clear p38
            try clear q2
            try clear q24
            try clear q249
            try clear q251
            try clear q252
            try clear q38
            obtain ⟨x6_3, x77_3, rfl, HA, HK3, HO_6, HO_7, HO_75, BK232, HB⟩ := hrel
            have hl6_3 := (Kd.R_reads' HO_6.out).1
            rw [hl6_3] at HO_6
            (try simp only [hl6_3])
            (try simp only [hl6_3] at BK232)
            (try simp only [hl6_3] at HO_7)
            (try simp only [hl6_3] at HO_75)
            cases gk with
            | zero => exact absurd HA.out (by simp [impl_GenerationRounds.l3])
            | succ k3 =>
             have H := HA.out
             clear HA
             simp only [impl_GenerationRounds.l3] at H
             by_cases c57 : x77_3 < (t255.length : Int)
             ·rw [if_pos c57] at H
              have c57b0 : decide (x77_3 < (t255.length : Int)) = true := decide_eq_true c57
              clear c57
              by_cases c58 : 0 ≤ x77_3
              ·rw [if_pos c58] at H
               have c58b0 : decide (0 ≤ x77_3) = true := decide_eq_true c58
               clear c58
               by_cases c59 : x77_3 < (t255.length : Int)
               ·rw [if_pos c59] at H
                have c59b0 : decide (x77_3 < (t255.length : Int)) = true := decide_eq_true c59
                clear c59
                by_cases c60 : 0 ≤ (rd t255 x77_3)
                ·rw [if_pos c60] at H
                 have c60b0 : decide (0 ≤ (rd t255 x77_3)) = true := decide_eq_true c60
                 clear c60
                 by_cases c61 : (rd t255 x77_3) < (x6_3.length : Int)
                 ·rw [if_pos c61] at H
                  have c61b0 : decide ((rd t255 x77_3) < (x6_3.length : Int)) = true := decide_eq_true c61
                  clear c61
                  obtain ⟨y262, hy262⟩ : ∃ y_ : List Bool, y_ = (x6_3.set ((rd t255 x77_3) : Int).toNat true) := ⟨_, rfl⟩
                  replace H : (impl_GenerationRounds.l3 k3 y262 y258 t255 (t255.length : Int) (wrap64 (x77_3 + 1)) a0_0 l0_1) = some (r1, r2) := by first | (rw [hy262]; with_reducible exact H) | (have H2_ := (Option.bind_some _ _).symm.trans H; rw [hy262]; with_reducible exact H2_) | (have H2_ := (Option.bind_some _ _).symm.trans H; with_reducible exact H2_) | with_reducible exact H | (rw [hy262]; exact H) | exact H
                  have Ny262 := Aside0.mk hy262
                  clear hy262
                  have H' := Aside0.mk H
                  clear H
                  have p261 : 0 ≤ (x77_3 : Int) := of_decide_eq_true (by first | (with_reducible assumption) | assumption)
                  have q261 : x77_3 < (t255.length : Int) := of_decide_eq_true (by first | (with_reducible assumption) | assumption)
                  obtain ⟨ad261, e261, hx261_0⟩ := Kd.at_int (Kd.R_reads' HO_75.out).2.2 x77_3 p261 q261
                  cases e261
                  replace p261 := eq_true p261
                  replace q261 := eq_true q261
                  have p62 : 0 ≤ ((rd t255 x77_3) : Int) := of_decide_eq_true (by first | (with_reducible assumption) | assumption)
                  have q62 : ((rd t255 x77_3) : Int) < ((x6_3.length : Int) : Int) := of_decide_eq_true (by first | (with_reducible assumption) | assumption)
                  obtain ⟨go62, co62, eo62, gb62, gl62, cl62, HG62⟩ := Kd.R_form HO_6.out (by omega)
                  (first | cases eo62 | (injection eo62 with ea_ en_ ec_; (first | subst ea_ | (injection ea_ with ea_; subst ea_)); subst ec_; clear en_))
                  have GB62 := Aside0.mk gb62
                  have GG62 := Aside0.mk HG62
                  clear gb62 gl62 HG62
                  obtain ⟨hx62_0, hf62_0⟩ := Kd.R_celln false HO_6.out ((rd t255 x77_3) : Int) p62 q62
                  replace p62 := eq_true p62
                  replace q62 := eq_true q62
                  have HP63 := Kd.R_putg HO_6.out ((rd t255 x77_3) : Int) true
                  go_wp2_with (first | ((with_reducible refine gate_store (t := 4) (p := 83) rfl ?_); refine store_event (t := 4) (p := 83) (v := ?vo_w64) (w1 := (wr.setCell ⟨go62, ((rd t255 x77_3) : Int).toNat, none⟩ (.bool true))) ?hg ?ho ?hn ?hr ?_; (case ho => rfl); (case hg => rfl); (case hn => rfl); (case hr => first | (go_simp; done) | (go_simp; rfl)); intro w64 hw; have hg : wr.grownBy w64 (some go62) := (by rw [hw]; exact HP63.2); have hp_ : Kd.R Kd.bool 4 w64 w.heap.size (fun _ => True) (.slice (some ⟨go62, 0, none⟩) x6_3.length co12) y262 := (by rw [hw, Ny262.out]; exact HP63.1); clear HP63; have n0_ := Aside0.mk (hp_); have n1_ := Aside0.mk (Kd.S_over' (v := (.slice (some ⟨go62, 0, none⟩) x6_3.length co12)) (by (with_reducible repeat (first | apply Kd.S_alloc | apply Kd.S_drewN | apply Kd.S_drew)); exact HO_7.out) (Kd.R_typed HO_6.out) (by decide) hg); have n2_ := Aside0.mk (Kd.R_over' (v := (.slice (some ⟨go62, 0, none⟩) x6_3.length co12)) (by (with_reducible repeat (first | apply Kd.R_alloc | apply Kd.R_drewN | apply Kd.R_drew)); exact HO_75.out) (Kd.R_typed HO_6.out) (by decide) hg); have n3_ := Aside0.mk (blk_grown (g := gb232) (o := .cells #[.int .i64 a0_0, .slice A0_1 l0_1.length c0_1] 32 (0, 0)) (by (with_reducible repeat (first | refine kN ?_ _ | refine kD ?_ | refine kA ?_ _)); exact BK232.out) hg (Kd.R_ne HO_6.out BK232.out (by decide))); have n4_ := Aside0.mk ((by rw [hw]; exact bS (HB.out) GB62.out : Below w.heap.size w w64)); clear HO_6; clear HO_7; clear HO_75; clear BK232; clear HB; have HO_6 := n0_; have HO_7 := n1_; have HO_75 := n2_; have BK232 := n3_; have HB := n4_; clear n0_ n1_ n2_ n3_ n4_; clear hg hw hp_))
                  (try simp only [← hl6_3])
                  go_roundg k3
                  case measure => have := HK1.out; have := HK2.out; have := HK3.out; omega
                  case rel => exact ⟨(y262), (wrap64 (x77_3 + 1)), (by first | rfl | (simp; done) | (simp [*]; done)), H', ⟨by have := HK1.out; have := HK2.out; have := HK3.out; omega⟩, ⟨by (try simp only [hl6_1]); (try simp only [hl6_3]); (with_reducible repeat (first | apply Kd.R_alloc | apply Kd.R_drewN | apply Kd.R_drew)); exact HO_6.out⟩, ⟨by (try simp only [hl6_1]); (try simp only [hl6_3]); (with_reducible repeat (first | apply Kd.S_alloc | apply Kd.S_drewN | apply Kd.S_drew)); exact HO_7.out⟩, ⟨by (try simp only [hl6_1]); (try simp only [hl6_3]); (with_reducible repeat (first | apply Kd.R_alloc | apply Kd.R_drewN | apply Kd.R_drew)); exact HO_75.out⟩, ⟨by (try simp only [hl6_1]); (try simp only [hl6_3]); (with_reducible repeat (first | refine kN ?_ _ | refine kD ?_ | refine kA ?_ _)); exact BK232.out⟩, ⟨by repeat (first | (with_reducible first | exact HB.out | apply bA | apply bN | apply bD | refine bS ?_ GE232.out) | exact HB.out)⟩⟩
                 ·rw [if_neg c61] at H
                  exact absurd H (by simp)
                ·rw [if_neg c60] at H
                 exact absurd H (by simp)
               ·rw [if_neg c59] at H
                exact absurd H (by simp)
              ·rw [if_neg c58] at H
               exact absurd H (by simp)
             ·rw [if_neg c57] at H
              have c57b0 : decide (x77_3 < (t255.length : Int)) = false := decide_eq_false c57
              clear c57
              have H' := Aside0.mk H
              clear H
              go_wp2
              (try simp only [← hl6_1, ← hl6_3])
              go_roundg k3
              case measure => have := HK1.out; have := HK2.out; have := HK3.out; omega
              case rel => exact ⟨(x6_3), (y258), H', ⟨by have := HK1.out; have := HK2.out; have := HK3.out; omega⟩, ⟨by (try simp only [hl6_1]); (try simp only [hl6_3]); (with_reducible repeat (first | apply Kd.R_alloc | apply Kd.R_drewN | apply Kd.R_drew)); exact HO_6.out⟩, ⟨by (try simp only [hl6_1]); (try simp only [hl6_3]); (with_reducible repeat (first | apply Kd.S_alloc | apply Kd.S_drewN | apply Kd.S_drew)); exact HO_7.out⟩, ⟨by (try simp only [hl6_1]); (try simp only [hl6_3]); (with_reducible repeat (first | refine kN ?_ _ | refine kD ?_ | refine kA ?_ _)); exact BK232.out⟩, ⟨by repeat (first | (with_reducible first | exact HB.out | apply bA | apply bN | apply bD | refine bS ?_ GE232.out) | exact HB.out)⟩⟩
          ·rw [if_neg c52] at H
           exact absurd H (by simp)
     ·rw [if_neg c17] at H
      exact absurd H (by simp)
    ·rw [if_neg c16] at H
     exact absurd H (by simp)
 ·replace c4 := Bool.eq_false_iff.mpr c4
  subst c4
  have H1 : (some ((([] : List (List Int))), false)) = some (r1, r2) := by rw [if_neg (show ¬ (false = true) by decide)] at H; exact H
  clear H
  have H := H1
  clear H1
  obtain ⟨y234, hy234⟩ : ∃ y_ : List (List Int), y_ = (([] : List (List Int))) := ⟨_, rfl⟩
  replace H : (some (y234, false)) = some (r1, r2) := by first | (rw [hy234]; with_reducible exact H) | (have H2_ := (Option.bind_some _ _).symm.trans H; rw [hy234]; with_reducible exact H2_) | (have H2_ := (Option.bind_some _ _).symm.trans H; with_reducible exact H2_) | with_reducible exact H | (rw [hy234]; exact H) | exact H
  have Ny234 := Aside0.mk hy234
  clear hy234
  simp only [Option.some.injEq, Prod.mk.injEq] at H
  obtain ⟨rfl, rfl⟩ := H
  go_enter Try.func13, Try.ntmps13
  go_wp2_with (first | ((with_reducible refine gate_dst (N := 2) rfl ?_); refine box_event ?hg (N := 2) ?hd (cs := #[.int .i64 a0_0, .slice A0_1 l0_1.length c0_1]) (t := 32) ?hr ?_; (case hd => rfl); (case hg => rfl); (case hr => first | (go_simp; done) | (go_simp; rfl)); intro gb232 hg w65 hbox hb; have n0_ := Aside0.mk (below_step (by repeat (first | (with_reducible first | exact HB.out | apply bA | apply bN | apply bD) | exact HB.out)) hb); have n1_ := Aside0.mk (hbox); have n2_ := Aside0.mk ((by rw [hg]; exact (below_size (by repeat (first | (with_reducible first | exact HB.out | apply bA | apply bN | apply bD) | exact HB.out))) : w.heap.size ≤ gb232)); have n3_ := Aside0.mk ((by rw [hg]; exact (below_size (by repeat (first | (with_reducible first | exact HB.out | apply bA | apply bN | apply bD) | exact HB.out))) : w.heap.size ≤ gb232)); clear HB; have HB := n0_; have BK232 := n1_; have GW232 := n2_; have GE232 := n3_; clear n0_ n1_ n2_ n3_; clear hb hbox hg; have hcz66_0 : w65.cell? ⟨gb232, 0, none⟩ = some (.int .i64 a0_0) := (blk_cell BK232.out 0).trans rfl; have hcz66_1 : w65.cell? ⟨gb232, 1, none⟩ = some (.slice A0_1 l0_1.length c0_1) := (blk_cell BK232.out 1).trans rfl; have hfz66_0 := blk_frozen BK232.out 0; have hfz66_1 := blk_frozen BK232.out 1) | ((with_reducible refine gate_callee (f := 47) rfl ?_); refine goesL_ (some 18) rfl rfl Try.func47 (by kernel_rfl) rfl #[.agg #[.int .i64 a0_0, .slice A0_1 l0_1.length c0_1], .slice A1 l1.length c1] rfl (by (try simp only [List.map_toArray, List.map_cons, List.map_nil]); first | done | rfl | (simp only [List.length_drop, List.length_take]; rfl)) ?_; (with_reducible refine (impl_areElements.calls k a0_0 _ _ l0_1 _ _ l1 false _ ?side1 ?side2 ?side3 ?side4 A3.out).mono ?_); (case side1 => repeat (first | exact (Kd.C_below HR0_1.out HB.out) | (with_reducible refine Kd.C_alloc ?_ _) | (with_reducible refine Kd.C_drewN ?_ _) | (with_reducible refine Kd.C_drew ?_))); (case side2 => exact HC0_1.out); (case side3 => repeat (first | exact (Kd.C_below HR1.out HB.out) | (with_reducible refine Kd.C_alloc ?_ _) | (with_reducible refine Kd.C_drewN ?_ _) | (with_reducible refine Kd.C_drew ?_))); (case side4 => exact HC1.out); rintro e w67 ⟨rfl, hb⟩; refine ⟨_, rfl, ?_⟩; have n0_ := Aside0.mk (blk_below (g := gb232) (o := .cells #[.int .i64 a0_0, .slice A0_1 l0_1.length c0_1] 32 (0, 0)) (by (with_reducible repeat (first | refine kN ?_ _ | refine kD ?_ | refine kA ?_ _)); exact BK232.out) hb); have n1_ := Aside0.mk (below_step (by repeat (first | (with_reducible first | exact HB.out | apply bA | apply bN | apply bD | refine bS ?_ GE232.out) | exact HB.out)) hb); clear BK232; clear HB; have BK232 := n0_; have HB := n1_; clear n0_ n1_; (try clear hb); (try clear hb2); (try clear hk); (try clear hi)) | ((with_reducible refine gate_dst (N := 20) rfl ?_); refine Kd.S_lit (Kd.slice 3 (Kd.int .i64)) _ 25 ?hg (N := 20) ?hd (xs := ([] : List (List Int))) (inner := []) (ok := fun _ => True) (okp := fun _ => True) ?hr ?hp (fun _ hk => hk) trivial (Below.refl _ _) (Nat.le_refl _) (by simp) ?_; (case hd => rfl); (case hg => rfl); (case hr => first | (go_simp; done) | (go_simp; rfl)); (case hp => exact (Reps.none _ _)); intro v235 w68 ho69 hb hg_ hnew_; clear hg_ hnew_; (first | rw [← Ny234.out] at ho69 | (simp only [Int.reduceToNat] at ho69; rw [← Ny234.out] at ho69)); have n0_ := Aside0.mk (Kd.S_lower ho69 (below_size (by repeat (first | (with_reducible first | exact HB.out | apply bA | apply bN | apply bD | refine bS ?_ GE232.out) | exact HB.out)))); have n1_ := Aside0.mk (blk_below (g := gb232) (o := .cells #[.int .i64 a0_0, .slice A0_1 l0_1.length c0_1] 32 (0, 0)) (by (with_reducible repeat (first | refine kN ?_ _ | refine kD ?_ | refine kA ?_ _)); exact BK232.out) hb); have n2_ := Aside0.mk (below_step (by repeat (first | (with_reducible first | exact HB.out | apply bA | apply bN | apply bD | refine bS ?_ GE232.out) | exact HB.out)) hb); clear BK232; clear HB; have HO236 := n0_; have BK232 := n1_; have HB := n2_; clear n0_ n1_ n2_; clear hb ho69))
  go_ret2
  exact ⟨_, by first | rfl | (simp [*, errW_none, errW_some] <;> rfl), by (with_reducible repeat (first | apply Kd.S_alloc | apply Kd.S_drewN | apply Kd.S_drew)); exact HO236.out, by repeat (first | (with_reducible first | exact HB.out | apply bA | apply bN | apply bD | refine bS ?_ GE232.out) | exact HB.out)⟩

end Go.Proofs.Ythofhfmdomppeaa.Q
