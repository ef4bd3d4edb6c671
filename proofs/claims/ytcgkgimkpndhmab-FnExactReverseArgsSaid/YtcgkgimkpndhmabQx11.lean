/- Contracts of Go functions, each with a plain Lean function of the same answers: whatever the arguments, the call comes to what the Lean function tells. Written by a program of this session. -/
import Derived.Test.YtcgkgimkpndhmabQx0
import Derived.Test.YtcgkgimkpndhmabQx1
import Derived.Test.YtcgkgimkpndhmabQx2
import Derived.Test.YtcgkgimkpndhmabQx3
import Derived.Test.YtcgkgimkpndhmabQx6
import Derived.Test.YtcgkgimkpndhmabQx10
namespace Go.Proofs.Ytcgkgimkpndhmab.Q
open Go.RowKit Go.Proofs.YtcgkgimkpndhmabW.PrintWords Go.Proofs.YtcgkgimkpndhmabW.PrintLast Go.Proofs.YtcgkgimkpndhmabW.PrintMore
attribute [local go_sem] max2_int min2_int max_two min_two max_three min_three max_four min_four   -- for this text's walks alone
set_option linter.unusedVariables false
set_option linter.unusedSimpArgs false

/-! ### laws_heldIntS: function 18 -/
def laws_heldIntS.l0 : Nat → List Int → Int → Int → Option (Int)
  | 0, _, _, _ => none
  | k + 1, x0, x1, x5 => if x5 < (x0.length : Int) then (if 0 ≤ x5 then (if (rd x0 x5) = x1 then (laws_heldIntS.l0 k x0 (wrap64 (x1 + 1)) (wrap64 (x5 + 1))) else (some (-1))) else (none)) else (some x1)
def laws_heldIntS.f (k : Nat) (l0 : List Int) (a1 : Int) : Option (Int) := laws_heldIntS.l0 k l0 a1 0
theorem laws_heldIntS.mono_l : ∀ k, (∀ y0 y1 y2, LeO (laws_heldIntS.l0 k y0 y1 y2) (laws_heldIntS.l0 (k + 1) y0 y1 y2))
  | 0 => fun _ _ _ r h => by simp [laws_heldIntS.l0] at h
  | k + 1 => by
    have ih0 := laws_heldIntS.mono_l k
    · intro y0 y1 y2
      unfold laws_heldIntS.l0
      repeat' first
      | (with_reducible exact ih0 _ _ _)
      | (with_reducible exact LeO.refl _)
      | (with_reducible exact LeO.none _)
      | (with_reducible refine LeO.ite ?_ ?_)
      | (with_reducible refine LeO.bind ?_ (fun _ => ?_))
      | exact ih0 _ _ _
      | exact LeO.none _
      | refine LeO.ite ?_ ?_
      | refine LeO.bind ?_ (fun _ => ?_)
theorem laws_heldIntS.mono : ∀ a0 a1 k, LeO (laws_heldIntS.f k a0 a1) (laws_heldIntS.f (k + 1) a0 a1) := by
  intro a0 a1 k
  have ih0 := laws_heldIntS.mono_l k
  unfold laws_heldIntS.f
  repeat' first
      | (with_reducible exact ih0 _ _ _)
      | (with_reducible exact LeO.refl _)
      | (with_reducible exact LeO.none _)
      | (with_reducible refine LeO.ite ?_ ?_)
      | (with_reducible refine LeO.bind ?_ (fun _ => ?_))
      | exact ih0 _ _ _
      | exact LeO.none _
      | refine LeO.ite ?_ ?_
      | refine LeO.bind ?_ (fun _ => ?_)
set_option maxHeartbeats 8000000 in
set_option maxRecDepth 100000 in
theorem laws_heldIntS.calls (k : Nat) (A0 : Option Addr) (c0 : Nat) (l0 : List Int) (a1 : Int) (r : Int) (w : World) (hr0 : Kd.C (Kd.int .i64) w A0 l0.length l0) (hc0 : l0.length ≤ c0) (h : laws_heldIntS.f k l0 a1 = some r) :
    Calls Try.prog 18 #[.slice A0 l0.length c0, .int .i64 a1] w fun e w' => e = .returned (.int .i64 r) ∧ Drawn0 w w' := by
  have HR0 := Aside0.mk hr0
  have HC0 := Aside0.mk hc0
  clear hr0 hc0
  have H : (laws_heldIntS.l0 k l0 a1 0) = some r := h
  clear h
  have H' := Aside0.mk H
  clear H
  go_enter Try.func18, Try.ntmps18
  go_wp2
  go_loopg [1, 5] k (fun kq v1 v5 w' => ∃ (x1_1 : Int) (x5_1 : Int), v1 = .int .i64 x1_1 ∧ v5 = .int .i64 x5_1 ∧ Aside0 (laws_heldIntS.l0 kq l0 x1_1 x5_1 = some r) ∧ Aside0 (kq ≤ k) ∧ Drawn0 w w')
  case atStart => exact ⟨(a1), (0), (by first | rfl | (simp; done) | (simp [*]; done)), (by first | rfl | (simp; done) | (simp [*]; done)), H', ⟨Nat.le_refl _⟩, by repeat (first | exact Drawn0.refl _ | apply Drawn0.step)⟩
  case round =>
    clear H'
    try clear c1
    try clear p2
    obtain ⟨x1_1, x5_1, rfl, rfl, HA, HK1, ⟨m1, rfl⟩⟩ := hrel
    cases gk with
    | zero => exact absurd HA.out (by simp [laws_heldIntS.l0])
    | succ k1 =>
      have H := HA.out
      clear HA
      simp only [laws_heldIntS.l0] at H
      by_cases c3 : x5_1 < (l0.length : Int)
      · rw [if_pos c3] at H
        have c3b0 : decide (x5_1 < (l0.length : Int)) = true := decide_eq_true c3
        clear c3
        by_cases c4 : 0 ≤ x5_1
        · rw [if_pos c4] at H
          have c4b0 : decide (0 ≤ x5_1) = true := decide_eq_true c4
          clear c4
          by_cases c5 : (rd l0 x5_1) = x1_1
          · rw [if_pos c5] at H
            have c5b0 : ((rd l0 x5_1) == x1_1) = true := beq_iff_eq.mpr c5
            have c5b1 : ((rd l0 x5_1) != x1_1) = false := bne_eq_false_iff_eq.mpr c5
            clear c5
            have H' := Aside0.mk H
            clear H
            have p279 : 0 ≤ (x5_1 : Int) := of_decide_eq_true (by first | (with_reducible assumption) | assumption)
            have q279 : x5_1 < (l0.length : Int) := of_decide_eq_true (by first | (with_reducible assumption) | assumption)
            obtain ⟨ad279, e279, hx279_0⟩ := Kd.at_int HR0.out x5_1 p279 q279
            cases e279
            replace p279 := eq_true p279
            replace q279 := eq_true q279
            go_wp2
            go_roundg k1
            case measure => have := HK1.out; omega
            case rel => exact ⟨(wrap64 (x1_1 + 1)), (wrap64 (x5_1 + 1)), (by first | rfl | (simp; done) | (simp [*]; done)), (by first | rfl | (simp; done) | (simp [*]; done)), H', ⟨by have := HK1.out; omega⟩, by repeat (first | exact Drawn0.refl _ | apply Drawn0.step)⟩
          · rw [if_neg c5] at H
            have c5b0 : ((rd l0 x5_1) == x1_1) = false := beq_eq_false_iff_ne.mpr c5
            have c5b1 : ((rd l0 x5_1) != x1_1) = true := bne_iff_ne.mpr c5
            obtain rfl := Option.some.inj H
            have p279 : 0 ≤ (x5_1 : Int) := of_decide_eq_true (by first | (with_reducible assumption) | assumption)
            have q279 : x5_1 < (l0.length : Int) := of_decide_eq_true (by first | (with_reducible assumption) | assumption)
            obtain ⟨ad279, e279, hx279_0⟩ := Kd.at_int HR0.out x5_1 p279 q279
            cases e279
            replace p279 := eq_true p279
            replace q279 := eq_true q279
            go_wp2
            go_ret
            exact ⟨by first | rfl | (simp; done) | (simp [*]; done), by repeat (first | exact Drawn0.refl _ | apply Drawn0.step)⟩
        · rw [if_neg c4] at H
          exact absurd H (by simp)
      · rw [if_neg c3] at H
        have c3b0 : decide (x5_1 < (l0.length : Int)) = false := decide_eq_false c3
        clear c3
        obtain rfl := Option.some.inj H
        go_wp2
        go_ret
        exact ⟨by first | rfl | (simp; done) | (simp [*]; done), by repeat (first | exact Drawn0.refl _ | apply Drawn0.step)⟩

/-! ### laws_heldOpS: function 66 -/
def laws_heldOpS.l0 : Nat → List (S75) → Int → Int → Option (Int)
  | 0, _, _, _ => none
  | k + 1, x0, x1, x5 => if x5 < (x0.length : Int) then (if 0 ≤ x5 then (if ((rd_T75 x0 x5).f0) = x1 then ((laws_heldIntS.f k ((rd_T75 x0 x5).f1) (wrap64 (x1 + 1))).bind fun t282 => (if t282 < 0 then (some (-1)) else (laws_heldOpS.l0 k x0 t282 (wrap64 (x5 + 1))))) else (some (-1))) else (none)) else (some x1)
def laws_heldOpS.f (k : Nat) (l0 : List (S75)) (a1 : Int) : Option (Int) := laws_heldOpS.l0 k l0 a1 0
theorem laws_heldOpS.mono_l : ∀ k, (∀ y0 y1 y2, LeO (laws_heldOpS.l0 k y0 y1 y2) (laws_heldOpS.l0 (k + 1) y0 y1 y2))
  | 0 => fun _ _ _ r h => by simp [laws_heldOpS.l0] at h
  | k + 1 => by
    have ih0 := laws_heldOpS.mono_l k
    · intro y0 y1 y2
      unfold laws_heldOpS.l0
      repeat' first
      | (with_reducible exact ih0 _ _ _)
      | (with_reducible exact laws_heldIntS.mono _ _ _)
      | (with_reducible exact LeO.refl _)
      | (with_reducible exact LeO.none _)
      | (with_reducible refine LeO.ite ?_ ?_)
      | (with_reducible refine LeO.bind ?_ (fun _ => ?_))
      | exact ih0 _ _ _
      | exact laws_heldIntS.mono _ _ _
      | exact LeO.none _
      | refine LeO.ite ?_ ?_
      | refine LeO.bind ?_ (fun _ => ?_)
theorem laws_heldOpS.mono : ∀ a0 a1 k, LeO (laws_heldOpS.f k a0 a1) (laws_heldOpS.f (k + 1) a0 a1) := by
  intro a0 a1 k
  have ih0 := laws_heldOpS.mono_l k
  unfold laws_heldOpS.f
  repeat' first
      | (with_reducible exact ih0 _ _ _)
      | (with_reducible exact laws_heldIntS.mono _ _ _)
      | (with_reducible exact LeO.refl _)
      | (with_reducible exact LeO.none _)
      | (with_reducible refine LeO.ite ?_ ?_)
      | (with_reducible refine LeO.bind ?_ (fun _ => ?_))
      | exact ih0 _ _ _
      | exact laws_heldIntS.mono _ _ _
      | exact LeO.none _
      | refine LeO.ite ?_ ?_
      | refine LeO.bind ?_ (fun _ => ?_)
set_option maxHeartbeats 8000000 in
set_option maxRecDepth 100000 in
theorem laws_heldOpS.calls (k : Nat) (A0 : Option Addr) (c0 : Nat) (l0 : List (S75)) (a1 : Int) (r : Int) (w : World) (hr0 : Kd.C k75 w A0 l0.length l0) (hc0 : l0.length ≤ c0) (h : laws_heldOpS.f k l0 a1 = some r) :
    Calls Try.prog 66 #[.slice A0 l0.length c0, .int .i64 a1] w fun e w' => e = .returned (.int .i64 r) ∧ Drawn0 w w' := by
  have HR0 := Aside0.mk hr0
  have HC0 := Aside0.mk hc0
  clear hr0 hc0
  have H : (laws_heldOpS.l0 k l0 a1 0) = some r := h
  clear h
  have H' := Aside0.mk H
  clear H
  go_enter Try.func66, Try.ntmps66
  go_wp2
  go_loopg [1, 5] k (fun kq v1 v5 w' => ∃ (x1_1 : Int) (x5_1 : Int), v1 = .int .i64 x1_1 ∧ v5 = .int .i64 x5_1 ∧ Aside0 (laws_heldOpS.l0 kq l0 x1_1 x5_1 = some r) ∧ Aside0 (kq ≤ k) ∧ Drawn0 w w')
  case atStart => exact ⟨(a1), (0), (by first | rfl | (simp; done) | (simp [*]; done)), (by first | rfl | (simp; done) | (simp [*]; done)), H', ⟨Nat.le_refl _⟩, by repeat (first | exact Drawn0.refl _ | apply Drawn0.step)⟩
  case round =>
    clear H'
    try clear p2
    obtain ⟨x1_1, x5_1, rfl, rfl, HA, HK1, ⟨m1, rfl⟩⟩ := hrel
    cases gk with
    | zero => exact absurd HA.out (by simp [laws_heldOpS.l0])
    | succ k1 =>
      have H := HA.out
      clear HA
      simp only [laws_heldOpS.l0] at H
      by_cases c3 : x5_1 < (l0.length : Int)
      · rw [if_pos c3] at H
        have c3b0 : decide (x5_1 < (l0.length : Int)) = true := decide_eq_true c3
        clear c3
        by_cases c4 : 0 ≤ x5_1
        · rw [if_pos c4] at H
          have c4b0 : decide (0 ≤ x5_1) = true := decide_eq_true c4
          clear c4
          by_cases c5 : ((rd_T75 l0 x5_1).f0) = x1_1
          · rw [if_pos c5] at H
            have c5b0 : (((rd_T75 l0 x5_1).f0) == x1_1) = true := beq_iff_eq.mpr c5
            have c5b1 : (((rd_T75 l0 x5_1).f0) != x1_1) = false := bne_eq_false_iff_eq.mpr c5
            clear c5
            replace H := Option.bind_eq_some_iff.mp H
            obtain ⟨t282, A60, H⟩ := H
            replace H : (if t282 < 0 then (some (-1)) else (laws_heldOpS.l0 k1 l0 t282 (wrap64 (x5_1 + 1)))) = some r := H
            have A6 := Aside0.mk A60
            clear A60
            by_cases c7 : t282 < 0
            · rw [if_pos c7] at H
              have c7b0 : decide (t282 < 0) = true := decide_eq_true c7
              clear c7
              obtain rfl := Option.some.inj H
              have p280 : 0 ≤ (x5_1 : Int) := of_decide_eq_true (by first | (with_reducible assumption) | assumption)
              have q280 : x5_1 < (l0.length : Int) := of_decide_eq_true (by first | (with_reducible assumption) | assumption)
              obtain ⟨ad280, A280_1, c280_1, e280, hx280_0, hx280_1, hl280_1, hi280_1⟩ := at_T75 HR0.out x5_1 p280 q280
              cases e280
              have HR280_1 := Aside0.mk hi280_1
              have HC280_1 := Aside0.mk hl280_1
              clear hi280_1 hl280_1
              replace p280 := eq_true p280
              replace q280 := eq_true q280
              have p281 : 0 ≤ (x5_1 : Int) := of_decide_eq_true (by first | (with_reducible assumption) | assumption)
              have q281 : x5_1 < (l0.length : Int) := of_decide_eq_true (by first | (with_reducible assumption) | assumption)
              obtain ⟨ad281, A281_1, c281_1, e281, hx281_0, hx281_1, hl281_1, hi281_1⟩ := at_T75 HR0.out x5_1 p281 q281
              obtain rfl : ad280 = ad281 := (by injection e281)
              have HR281_1 := Aside0.mk hi281_1
              have HC281_1 := Aside0.mk hl281_1
              clear hi281_1 hl281_1
              replace p281 := eq_true p281
              replace q281 := eq_true q281
              have ea_ := Option.some.inj (hx280_1.symm.trans hx281_1)
              injection ea_ with ea_ en_ ec_
              subst ea_
              subst ec_
              clear en_
              go_wp2_with (first | ((with_reducible refine gate_callee (f := 18) rfl ?_); refine goesL_ (some 27) rfl rfl Try.func18 (by kernel_rfl) rfl #[.slice A280_1 ((rd_T75 l0 x5_1).f1).length c280_1, .int .i64 (wrap64 (x1_1 + 1))] rfl (by (try simp only [List.map_toArray, List.map_cons, List.map_nil]); first | done | rfl | (simp only [List.length_drop, List.length_take]; rfl)) ?_; (with_reducible refine (laws_heldIntS.calls k1 _ _ ((rd_T75 l0 x5_1).f1) (wrap64 (x1_1 + 1)) t282 _ ?side1 ?side2 A6.out).mono ?_); (case side1 => repeat (first | exact HR281_1.out | (with_reducible refine Kd.C_alloc ?_ _) | (with_reducible refine Kd.C_drewN ?_ _) | (with_reducible refine Kd.C_drew ?_))); (case side2 => exact HC281_1.out); rintro e w' ⟨rfl, ⟨nd, rfl⟩⟩; refine ⟨_, rfl, ?_⟩))
              go_ret
              exact ⟨by first | rfl | (simp; done) | (simp [*]; done), by repeat (first | exact Drawn0.refl _ | apply Drawn0.step)⟩
            · rw [if_neg c7] at H
              have c7b0 : decide (t282 < 0) = false := decide_eq_false c7
              clear c7
              have H' := Aside0.mk H
              clear H
              have p280 : 0 ≤ (x5_1 : Int) := of_decide_eq_true (by first | (with_reducible assumption) | assumption)
              have q280 : x5_1 < (l0.length : Int) := of_decide_eq_true (by first | (with_reducible assumption) | assumption)
              obtain ⟨ad280, A280_1, c280_1, e280, hx280_0, hx280_1, hl280_1, hi280_1⟩ := at_T75 HR0.out x5_1 p280 q280
              cases e280
              have HR280_1 := Aside0.mk hi280_1
              have HC280_1 := Aside0.mk hl280_1
              clear hi280_1 hl280_1
              replace p280 := eq_true p280
              replace q280 := eq_true q280
              have p281 : 0 ≤ (x5_1 : Int) := of_decide_eq_true (by first | (with_reducible assumption) | assumption)
              have q281 : x5_1 < (l0.length : Int) := of_decide_eq_true (by first | (with_reducible assumption) | assumption)
              obtain ⟨ad281, A281_1, c281_1, e281, hx281_0, hx281_1, hl281_1, hi281_1⟩ := at_T75 HR0.out x5_1 p281 q281
              obtain rfl : ad280 = ad281 := (by injection e281)
              have HR281_1 := Aside0.mk hi281_1
              have HC281_1 := Aside0.mk hl281_1
              clear hi281_1 hl281_1
              replace p281 := eq_true p281
              replace q281 := eq_true q281
              have ea_ := Option.some.inj (hx280_1.symm.trans hx281_1)
              injection ea_ with ea_ en_ ec_
              subst ea_
              subst ec_
              clear en_
              go_wp2_with (first | ((with_reducible refine gate_callee (f := 18) rfl ?_); refine goesL_ (some 27) rfl rfl Try.func18 (by kernel_rfl) rfl #[.slice A280_1 ((rd_T75 l0 x5_1).f1).length c280_1, .int .i64 (wrap64 (x1_1 + 1))] rfl (by (try simp only [List.map_toArray, List.map_cons, List.map_nil]); first | done | rfl | (simp only [List.length_drop, List.length_take]; rfl)) ?_; (with_reducible refine (laws_heldIntS.calls k1 _ _ ((rd_T75 l0 x5_1).f1) (wrap64 (x1_1 + 1)) t282 _ ?side1 ?side2 A6.out).mono ?_); (case side1 => repeat (first | exact HR281_1.out | (with_reducible refine Kd.C_alloc ?_ _) | (with_reducible refine Kd.C_drewN ?_ _) | (with_reducible refine Kd.C_drew ?_))); (case side2 => exact HC281_1.out); rintro e w' ⟨rfl, ⟨nd, rfl⟩⟩; refine ⟨_, rfl, ?_⟩))
              go_roundg k1
              case measure => have := HK1.out; omega
              case rel => exact ⟨(t282), (wrap64 (x5_1 + 1)), (by first | rfl | (simp; done) | (simp [*]; done)), (by first | rfl | (simp; done) | (simp [*]; done)), H', ⟨by have := HK1.out; omega⟩, by repeat (first | exact Drawn0.refl _ | apply Drawn0.step)⟩
          · rw [if_neg c5] at H
            have c5b0 : (((rd_T75 l0 x5_1).f0) == x1_1) = false := beq_eq_false_iff_ne.mpr c5
            have c5b1 : (((rd_T75 l0 x5_1).f0) != x1_1) = true := bne_iff_ne.mpr c5
            obtain rfl := Option.some.inj H
            have p280 : 0 ≤ (x5_1 : Int) := of_decide_eq_true (by first | (with_reducible assumption) | assumption)
            have q280 : x5_1 < (l0.length : Int) := of_decide_eq_true (by first | (with_reducible assumption) | assumption)
            obtain ⟨ad280, A280_1, c280_1, e280, hx280_0, hx280_1, hl280_1, hi280_1⟩ := at_T75 HR0.out x5_1 p280 q280
            cases e280
            have HR280_1 := Aside0.mk hi280_1
            have HC280_1 := Aside0.mk hl280_1
            clear hi280_1 hl280_1
            replace p280 := eq_true p280
            replace q280 := eq_true q280
            go_wp2
            go_ret
            exact ⟨by first | rfl | (simp; done) | (simp [*]; done), by repeat (first | exact Drawn0.refl _ | apply Drawn0.step)⟩
        · rw [if_neg c4] at H
          exact absurd H (by simp)
      · rw [if_neg c3] at H
        have c3b0 : decide (x5_1 < (l0.length : Int)) = false := decide_eq_false c3
        clear c3
        obtain rfl := Option.some.inj H
        go_wp2
        go_ret
        exact ⟨by first | rfl | (simp; done) | (simp [*]; done), by repeat (first | exact Drawn0.refl _ | apply Drawn0.step)⟩

/-! ### laws_heldAlgebra: function 36 -/
def laws_heldAlgebra.f (k : Nat) (a0_0 : Int) (l0_1 : List (S75)) (a1 : Int) : Option (Int) := (laws_heldOpS.f k l0_1 a1).bind fun t284 => (if t284 < 0 then (some (-1)) else (some t284))
theorem laws_heldAlgebra.mono : ∀ a0 a1 a2 k, LeO (laws_heldAlgebra.f k a0 a1 a2) (laws_heldAlgebra.f (k + 1) a0 a1 a2) := by
  intro a0 a1 a2 k
  unfold laws_heldAlgebra.f
  repeat' first
      | (with_reducible exact laws_heldOpS.mono _ _ _)
      | (with_reducible exact LeO.refl _)
      | (with_reducible exact LeO.none _)
      | (with_reducible refine LeO.ite ?_ ?_)
      | (with_reducible refine LeO.bind ?_ (fun _ => ?_))
      | exact laws_heldOpS.mono _ _ _
      | exact LeO.none _
      | refine LeO.ite ?_ ?_
      | refine LeO.bind ?_ (fun _ => ?_)
set_option maxHeartbeats 8000000 in
set_option maxRecDepth 100000 in
theorem laws_heldAlgebra.calls (k : Nat) (a0_0 : Int) (A0_1 : Option Addr) (c0_1 : Nat) (l0_1 : List (S75)) (a1 : Int) (r : Int) (w : World) (hr0_1 : Kd.C k75 w A0_1 l0_1.length l0_1) (hc0_1 : l0_1.length ≤ c0_1) (h : laws_heldAlgebra.f k a0_0 l0_1 a1 = some r) :
    Calls Try.prog 36 #[.agg #[.int .i64 a0_0, .slice A0_1 l0_1.length c0_1], .int .i64 a1] w fun e w' => e = .returned (.int .i64 r) ∧ Below w.heap.size w w' := by
  have hu31 := Try.underlying31
  have HR0_1 := Aside0.mk hr0_1
  have HC0_1 := Aside0.mk hc0_1
  clear hr0_1 hc0_1
  have HB := Aside0.mk (Below.refl w.heap.size w)
  have H : ((laws_heldOpS.f k l0_1 a1).bind fun t284 => (if t284 < 0 then (some (-1)) else (some t284))) = some r := h
  clear h
  replace H := Option.bind_eq_some_iff.mp H
  obtain ⟨t284, A30, H⟩ := H
  replace H : (if t284 < 0 then (some (-1)) else (some t284)) = some r := H
  have A3 := Aside0.mk A30
  clear A30
  by_cases c4 : t284 < 0
  · rw [if_pos c4] at H
    have c4b0 : decide (t284 < 0) = true := decide_eq_true c4
    clear c4
    obtain rfl := Option.some.inj H
    go_enter Try.func36, Try.ntmps36
    go_wp2_with (first | ((with_reducible refine gate_dst (N := 2) rfl ?_); refine box_event ?hg (N := 2) ?hd (cs := #[.int .i64 a0_0, .slice A0_1 l0_1.length c0_1]) (t := 31) ?hr ?_; (case hd => rfl); (case hg => rfl); (case hr => first | (go_simp; done) | (go_simp; rfl)); intro gb283 hg w5 hbox hb; have n0_ := Aside0.mk (below_step (by repeat (first | (with_reducible first | exact HB.out | apply below_alloc | apply pw_below_drewN | apply below_drew1) | exact HB.out)) hb); have n1_ := Aside0.mk (hbox); have n2_ := Aside0.mk ((by rw [hg]; exact (below_size (by repeat (first | (with_reducible first | exact HB.out | apply below_alloc | apply pw_below_drewN | apply below_drew1) | exact HB.out))) : w.heap.size ≤ gb283)); have n3_ := Aside0.mk ((by rw [hg]; exact (below_size (by repeat (first | (with_reducible first | exact HB.out | apply below_alloc | apply pw_below_drewN | apply below_drew1) | exact HB.out))) : w.heap.size ≤ gb283)); clear HB; have HB := n0_; have BK283 := n1_; have GW283 := n2_; have GE283 := n3_; clear n0_ n1_ n2_ n3_; clear hb hbox hg; have hcz6_0 : w5.cell? ⟨gb283, 0, none⟩ = some (.int .i64 a0_0) := (blk_cell BK283.out 0).trans rfl; have hcz6_1 : w5.cell? ⟨gb283, 1, none⟩ = some (.slice A0_1 l0_1.length c0_1) := (blk_cell BK283.out 1).trans rfl; have hfz6_0 := blk_frozen BK283.out 0; have hfz6_1 := blk_frozen BK283.out 1) | ((with_reducible refine gate_callee (f := 66) rfl ?_); refine goesL_ (some 8) rfl rfl Try.func66 (by kernel_rfl) rfl #[.slice A0_1 l0_1.length c0_1, .int .i64 a1] rfl (by (try simp only [List.map_toArray, List.map_cons, List.map_nil]); first | done | rfl | (simp only [List.length_drop, List.length_take]; rfl)) ?_; (with_reducible refine (laws_heldOpS.calls k _ _ l0_1 a1 t284 _ ?side1 ?side2 A3.out).mono ?_); (case side1 => repeat (first | exact (Kd.C_below HR0_1.out HB.out) | (with_reducible refine Kd.C_alloc ?_ _) | (with_reducible refine Kd.C_drewN ?_ _) | (with_reducible refine Kd.C_drew ?_))); (case side2 => exact HC0_1.out); rintro e w' ⟨rfl, ⟨nd, rfl⟩⟩; refine ⟨_, rfl, ?_⟩))
    go_ret
    exact ⟨by first | rfl | (simp [errW_none, errW_some] <;> rfl) | (simp [*, errW_none, errW_some] <;> rfl), by repeat (first | (with_reducible first | exact HB.out | apply below_alloc | apply pw_below_drewN | apply below_drew1 | refine below_set ?_ GE283.out) | exact HB.out)⟩
  · rw [if_neg c4] at H
    have c4b0 : decide (t284 < 0) = false := decide_eq_false c4
    clear c4
    obtain rfl := Option.some.inj H
    go_enter Try.func36, Try.ntmps36
    go_wp2_with (first | ((with_reducible refine gate_dst (N := 2) rfl ?_); refine box_event ?hg (N := 2) ?hd (cs := #[.int .i64 a0_0, .slice A0_1 l0_1.length c0_1]) (t := 31) ?hr ?_; (case hd => rfl); (case hg => rfl); (case hr => first | (go_simp; done) | (go_simp; rfl)); intro gb283 hg w7 hbox hb; have n0_ := Aside0.mk (below_step (by repeat (first | (with_reducible first | exact HB.out | apply below_alloc | apply pw_below_drewN | apply below_drew1) | exact HB.out)) hb); have n1_ := Aside0.mk (hbox); have n2_ := Aside0.mk ((by rw [hg]; exact (below_size (by repeat (first | (with_reducible first | exact HB.out | apply below_alloc | apply pw_below_drewN | apply below_drew1) | exact HB.out))) : w.heap.size ≤ gb283)); have n3_ := Aside0.mk ((by rw [hg]; exact (below_size (by repeat (first | (with_reducible first | exact HB.out | apply below_alloc | apply pw_below_drewN | apply below_drew1) | exact HB.out))) : w.heap.size ≤ gb283)); clear HB; have HB := n0_; have BK283 := n1_; have GW283 := n2_; have GE283 := n3_; clear n0_ n1_ n2_ n3_; clear hb hbox hg; have hcz8_0 : w7.cell? ⟨gb283, 0, none⟩ = some (.int .i64 a0_0) := (blk_cell BK283.out 0).trans rfl; have hcz8_1 : w7.cell? ⟨gb283, 1, none⟩ = some (.slice A0_1 l0_1.length c0_1) := (blk_cell BK283.out 1).trans rfl; have hfz8_0 := blk_frozen BK283.out 0; have hfz8_1 := blk_frozen BK283.out 1) | ((with_reducible refine gate_callee (f := 66) rfl ?_); refine goesL_ (some 8) rfl rfl Try.func66 (by kernel_rfl) rfl #[.slice A0_1 l0_1.length c0_1, .int .i64 a1] rfl (by (try simp only [List.map_toArray, List.map_cons, List.map_nil]); first | done | rfl | (simp only [List.length_drop, List.length_take]; rfl)) ?_; (with_reducible refine (laws_heldOpS.calls k _ _ l0_1 a1 t284 _ ?side1 ?side2 A3.out).mono ?_); (case side1 => repeat (first | exact (Kd.C_below HR0_1.out HB.out) | (with_reducible refine Kd.C_alloc ?_ _) | (with_reducible refine Kd.C_drewN ?_ _) | (with_reducible refine Kd.C_drew ?_))); (case side2 => exact HC0_1.out); rintro e w' ⟨rfl, ⟨nd, rfl⟩⟩; refine ⟨_, rfl, ?_⟩))
    go_ret
    exact ⟨by first | rfl | (simp [errW_none, errW_some] <;> rfl) | (simp [*, errW_none, errW_some] <;> rfl), by repeat (first | (with_reducible first | exact HB.out | apply below_alloc | apply pw_below_drewN | apply below_drew1 | refine below_set ?_ GE283.out) | exact HB.out)⟩

/-! ### laws_FnExactReverseArgs: function 8 -/
def laws_FnExactReverseArgs.f (k : Nat) (a0_0 : Int) (l0_1 : List (S79)) (a1 : Int) : Option Bool := ((laws_szAlgebra.f k a0_0 l0_1 1048576).bind fun b0 => (if b0 < 0 then some true else ((laws_toAlgebra.f k a0_0 l0_1).bind fun b1 => ((spec_ReverseArgs.f k b1.1 b1.2 a1).bind fun b2 => ((impl_ReverseArgs.f k b1.1 b1.2 a1).bind fun b3 => ((laws_eqAlgebra.f k b3.1 b3.2.1 b2.1 b2.2.1).bind fun b4 => (if b4 = true ∧ b3.2.2 = b2.2.2 then ((laws_eqAlgebra.f k b1.1 b1.2 b1.1 b1.2).bind fun b5 => (if b5 = true then ((laws_markAlgebra.f k b1.1 b1.2 1).bind fun b6 => (if ¬ b6.1 < 0 then ((laws_markAlgebra.f k b3.1 b3.2.1 1).bind fun b7 => ((laws_heldAlgebra.f k b3.1 b7.2 1).bind fun b8 => (if ¬ b8 < 0 then (if b8 = b7.1 then some true else none) else none))) else none)) else none)) else none)))))))
open Go.Proofs.Ytcgkgimkpndhmab.LawKit in
set_option maxHeartbeats 16000000 in
set_option maxRecDepth 100000 in
theorem laws_FnExactReverseArgs.calls (k : Nat) (a0_0 : Int) (A0_1 : Option Addr) (c0_1 : Nat) (l0_1 : List (S79)) (a1 : Int) (r : Bool) (w : World) (hr0_1 : Kd.C k79 w A0_1 l0_1.length l0_1) (hc0_1 : l0_1.length ≤ c0_1) (h : laws_FnExactReverseArgs.f k a0_0 l0_1 a1 = some r) :
    Calls Try.prog 8 #[.agg #[.int .i64 a0_0, .slice A0_1 l0_1.length c0_1], .int .i64 a1] w fun e w' => e = .returned (.bool r) ∧ Below w.heap.size w w' := by
  have hu24 := Try.underlying24
  have hu31 := Try.underlying31
  have HR0_1 := Aside0.mk hr0_1
  have HC0_1 := Aside0.mk hc0_1
  clear hr0_1 hc0_1
  have HB := Aside0.mk (Below.refl w.heap.size w)
  have H := h
  clear h
  unfold laws_FnExactReverseArgs.f at H
  replace H := Option.bind_eq_some_iff.mp H
  obtain ⟨t0_0, A0, H⟩ := H
  (try dsimp only at H)
  replace A0 := Aside0.mk A0
  by_cases c0 : t0_0 < 0
  · rw [if_pos c0] at H
    have c0b : decide (t0_0 < 0) = true := decide_eq_true c0
    clear c0
    obtain rfl := Option.some.inj H
    clear H
    go_enter Try.func8, Try.ntmps8
    go_wp2_with fail
    refine letter_ ?_
    intro w2 eW
    have B0 := Aside0.mk (Lives.boxed eW)
    replace HB := Aside0.mk (below_at HB.out eW)
    have Z0 := Aside0.mk (size_at eW)
    clear eW
    have zB0_0 := (blk_cell B0.out.now 0).trans rfl
    have zB0_1 := (blk_cell B0.out.now 1).trans rfl
    have yB0_0 := fun o => (blk_cell (B0.out.alloc o).now 0).trans rfl
    have yB0_1 := fun o => (blk_cell (B0.out.alloc o).now 1).trans rfl
    refine (laws_szAlgebra.calls k a0_0 _ _ l0_1 1048576 t0_0 _ (Kd.C_below HR0_1.out HB.out) HC0_1.out A0.out).mono ?_
    rintro e w1 ⟨rfl, hb⟩
    clear zB0_0 yB0_0 zB0_1 yB0_1
    replace B0 := Aside0.mk (B0.out.below hb)
    have Z1 := Aside0.mk hb.size
    replace HB := Aside0.mk (below_step HB.out hb)
    clear hb
    have zB0_0 := (blk_cell B0.out.now 0).trans rfl
    have zB0_1 := (blk_cell B0.out.now 1).trans rfl
    have yB0_0 := fun o => (blk_cell (B0.out.alloc o).now 0).trans rfl
    have yB0_1 := fun o => (blk_cell (B0.out.alloc o).now 1).trans rfl
    go_wp2
    go_ret
    exact ⟨rfl, HB.out⟩
  rw [if_neg c0] at H
  have c0b : decide (t0_0 < 0) = false := decide_eq_false c0
  clear c0
  replace H := Option.bind_eq_some_iff.mp H
  obtain ⟨⟨t1_0, t1_1⟩, A1, H⟩ := H
  (try dsimp only at H)
  replace A1 := Aside0.mk A1
  replace H := Option.bind_eq_some_iff.mp H
  obtain ⟨⟨t2_0, t2_1, t2_2⟩, A2, H⟩ := H
  (try dsimp only at H)
  replace A2 := Aside0.mk A2
  replace H := Option.bind_eq_some_iff.mp H
  obtain ⟨⟨t3_0, t3_1, t3_2⟩, A3, H⟩ := H
  (try dsimp only at H)
  replace A3 := Aside0.mk A3
  replace H := Option.bind_eq_some_iff.mp H
  obtain ⟨t4_0, A4, H⟩ := H
  (try dsimp only at H)
  replace A4 := Aside0.mk A4
  replace H := of_ite H
  obtain ⟨⟨e1_0, e1_1⟩, H⟩ := H
  subst e1_0
  subst e1_1
  replace H := Option.bind_eq_some_iff.mp H
  obtain ⟨t5_0, A5, H⟩ := H
  (try dsimp only at H)
  replace A5 := Aside0.mk A5
  replace H := of_ite H
  obtain ⟨e2_0, H⟩ := H
  subst e2_0
  replace H := Option.bind_eq_some_iff.mp H
  obtain ⟨⟨t6_0, t6_1⟩, A6, H⟩ := H
  (try dsimp only at H)
  replace A6 := Aside0.mk A6
  replace H := of_ite H
  obtain ⟨e3_0, H⟩ := H
  have e3_0b : decide (t6_0 < 0) = false := decide_eq_false e3_0
  clear e3_0
  replace H := Option.bind_eq_some_iff.mp H
  obtain ⟨⟨t7_0, t7_1⟩, A7, H⟩ := H
  (try dsimp only at H)
  replace A7 := Aside0.mk A7
  replace H := Option.bind_eq_some_iff.mp H
  obtain ⟨t8_0, A8, H⟩ := H
  (try dsimp only at H)
  replace A8 := Aside0.mk A8
  replace H := of_ite H
  obtain ⟨e4_0, H⟩ := H
  have e4_0b : decide (t8_0 < 0) = false := decide_eq_false e4_0
  clear e4_0
  replace H := of_ite H
  obtain ⟨e5_0, H⟩ := H
  subst e5_0
  obtain rfl := Option.some.inj H
  clear H
  go_enter Try.func8, Try.ntmps8
  go_wp2_with fail
  refine letter_ ?_
  intro w2 eW
  have B0 := Aside0.mk (Lives.boxed eW)
  replace HB := Aside0.mk (below_at HB.out eW)
  have Z0 := Aside0.mk (size_at eW)
  clear eW
  have zB0_0 := (blk_cell B0.out.now 0).trans rfl
  have zB0_1 := (blk_cell B0.out.now 1).trans rfl
  have yB0_0 := fun o => (blk_cell (B0.out.alloc o).now 0).trans rfl
  have yB0_1 := fun o => (blk_cell (B0.out.alloc o).now 1).trans rfl
  refine (laws_szAlgebra.calls k a0_0 _ _ l0_1 1048576 t0_0 _ (Kd.C_below HR0_1.out HB.out) HC0_1.out A0.out).mono ?_
  rintro e w1 ⟨rfl, hb⟩
  clear zB0_0 yB0_0 zB0_1 yB0_1
  replace B0 := Aside0.mk (B0.out.below hb)
  have Z1 := Aside0.mk hb.size
  replace HB := Aside0.mk (below_step HB.out hb)
  clear hb
  have zB0_0 := (blk_cell B0.out.now 0).trans rfl
  have zB0_1 := (blk_cell B0.out.now 1).trans rfl
  have yB0_0 := fun o => (blk_cell (B0.out.alloc o).now 0).trans rfl
  have yB0_1 := fun o => (blk_cell (B0.out.alloc o).now 1).trans rfl
  go_wp2_with fail
  refine (laws_toAlgebra.calls k a0_0 _ _ l0_1 t1_0 t1_1 _ (Kd.C_below HR0_1.out HB.out) HC0_1.out A1.out).mono ?_
  rintro e w3 ⟨v1, rfl, ho1, hb⟩
  clear zB0_0 yB0_0 zB0_1 yB0_1
  replace B0 := Aside0.mk (B0.out.below hb)
  have Z2 := Aside0.mk hb.size
  obtain ⟨AR0, cR0, rfl⟩ := Kd.S_slice ho1
  have R0 := Aside0.mk (Lives.rowS (base := w.heap.size) ho1 hb.size HB.out.size)
  replace HB := Aside0.mk (below_step HB.out hb)
  clear hb ho1
  have zB0_0 := (blk_cell B0.out.now 0).trans rfl
  have zB0_1 := (blk_cell B0.out.now 1).trans rfl
  have yB0_0 := fun o => (blk_cell (B0.out.alloc o).now 0).trans rfl
  have yB0_1 := fun o => (blk_cell (B0.out.alloc o).now 1).trans rfl
  go_wp2_with fail
  refine (spec_ReverseArgs.calls k t1_0 _ _ t1_1 a1 t2_0 t2_1 t3_2 _ (Kd.S_reads' R0.out.now).2.2 (Kd.S_reads' R0.out.now).2.1 A2.out).mono ?_
  rintro e w4 ⟨v1, rfl, ho1, hb⟩
  clear zB0_0 yB0_0 zB0_1 yB0_1
  replace B0 := Aside0.mk (B0.out.below hb)
  replace R0 := Aside0.mk (R0.out.below hb)
  have Z3 := Aside0.mk hb.size
  obtain ⟨AR1, cR1, rfl⟩ := Kd.S_slice ho1
  have R1 := Aside0.mk (Lives.rowS (base := w.heap.size) ho1 hb.size HB.out.size)
  replace HB := Aside0.mk (below_step HB.out hb)
  clear hb ho1
  have zB0_0 := (blk_cell B0.out.now 0).trans rfl
  have zB0_1 := (blk_cell B0.out.now 1).trans rfl
  have yB0_0 := fun o => (blk_cell (B0.out.alloc o).now 0).trans rfl
  have yB0_1 := fun o => (blk_cell (B0.out.alloc o).now 1).trans rfl
  go_wp2_with fail
  clear zB0_0 yB0_0 zB0_1 yB0_1
  refine letter_ ?_
  intro w6 eW
  replace B0 := Aside0.mk (B0.out.at eW)
  replace R0 := Aside0.mk (R0.out.at eW)
  replace R1 := Aside0.mk (R1.out.at eW)
  have B1 := Aside0.mk (Lives.boxed eW)
  replace HB := Aside0.mk (below_at HB.out eW)
  have Z4 := Aside0.mk (size_at eW)
  clear eW
  have zB0_0 := (blk_cell B0.out.now 0).trans rfl
  have zB0_1 := (blk_cell B0.out.now 1).trans rfl
  have yB0_0 := fun o => (blk_cell (B0.out.alloc o).now 0).trans rfl
  have yB0_1 := fun o => (blk_cell (B0.out.alloc o).now 1).trans rfl
  have zB1_0 := (blk_cell B1.out.now 0).trans rfl
  have zB1_1 := (blk_cell B1.out.now 1).trans rfl
  have yB1_0 := fun o => (blk_cell (B1.out.alloc o).now 0).trans rfl
  have yB1_1 := fun o => (blk_cell (B1.out.alloc o).now 1).trans rfl
  refine (laws_toAlgebra.calls k a0_0 _ _ l0_1 t1_0 t1_1 _ (Kd.C_below HR0_1.out HB.out) HC0_1.out A1.out).mono ?_
  rintro e w5 ⟨v1, rfl, ho1, hb⟩
  clear zB0_0 yB0_0 zB0_1 yB0_1 zB1_0 yB1_0 zB1_1 yB1_1
  replace B0 := Aside0.mk (B0.out.below hb)
  replace R0 := Aside0.mk (R0.out.below hb)
  replace R1 := Aside0.mk (R1.out.below hb)
  replace B1 := Aside0.mk (B1.out.below hb)
  have Z5 := Aside0.mk hb.size
  obtain ⟨AR2, cR2, rfl⟩ := Kd.S_slice ho1
  have R2 := Aside0.mk (Lives.rowS (base := w.heap.size) ho1 hb.size HB.out.size)
  replace HB := Aside0.mk (below_step HB.out hb)
  clear hb ho1
  have zB0_0 := (blk_cell B0.out.now 0).trans rfl
  have zB0_1 := (blk_cell B0.out.now 1).trans rfl
  have yB0_0 := fun o => (blk_cell (B0.out.alloc o).now 0).trans rfl
  have yB0_1 := fun o => (blk_cell (B0.out.alloc o).now 1).trans rfl
  have zB1_0 := (blk_cell B1.out.now 0).trans rfl
  have zB1_1 := (blk_cell B1.out.now 1).trans rfl
  have yB1_0 := fun o => (blk_cell (B1.out.alloc o).now 0).trans rfl
  have yB1_1 := fun o => (blk_cell (B1.out.alloc o).now 1).trans rfl
  go_wp2_with fail
  clear zB0_0 yB0_0 zB0_1 yB0_1 zB1_0 yB1_0 zB1_1 yB1_1
  refine letter_ ?_
  intro w8 eW
  replace B0 := Aside0.mk (B0.out.at eW)
  replace R0 := Aside0.mk (R0.out.at eW)
  replace R1 := Aside0.mk (R1.out.at eW)
  replace B1 := Aside0.mk (B1.out.at eW)
  replace R2 := Aside0.mk (R2.out.at eW)
  have B2 := Aside0.mk (Lives.boxed eW)
  replace HB := Aside0.mk (below_at HB.out eW)
  have Z6 := Aside0.mk (size_at eW)
  clear eW
  have zB0_0 := (blk_cell B0.out.now 0).trans rfl
  have zB0_1 := (blk_cell B0.out.now 1).trans rfl
  have yB0_0 := fun o => (blk_cell (B0.out.alloc o).now 0).trans rfl
  have yB0_1 := fun o => (blk_cell (B0.out.alloc o).now 1).trans rfl
  have zB1_0 := (blk_cell B1.out.now 0).trans rfl
  have zB1_1 := (blk_cell B1.out.now 1).trans rfl
  have yB1_0 := fun o => (blk_cell (B1.out.alloc o).now 0).trans rfl
  have yB1_1 := fun o => (blk_cell (B1.out.alloc o).now 1).trans rfl
  have zB2_0 := (blk_cell B2.out.now 0).trans rfl
  have zB2_1 := (blk_cell B2.out.now 1).trans rfl
  have yB2_0 := fun o => (blk_cell (B2.out.alloc o).now 0).trans rfl
  have yB2_1 := fun o => (blk_cell (B2.out.alloc o).now 1).trans rfl
  refine (impl_ReverseArgs.calls k t1_0 _ _ t1_1 a1 t3_0 t3_1 t3_2 _ (Kd.S_reads' R2.out.now).2.2 (Kd.S_reads' R2.out.now).2.1 A3.out).mono ?_
  rintro e w7 ⟨v1, rfl, ho1, hb⟩
  clear zB0_0 yB0_0 zB0_1 yB0_1 zB1_0 yB1_0 zB1_1 yB1_1 zB2_0 yB2_0 zB2_1 yB2_1
  replace B0 := Aside0.mk (B0.out.below hb)
  replace R0 := Aside0.mk (R0.out.below hb)
  replace R1 := Aside0.mk (R1.out.below hb)
  replace B1 := Aside0.mk (B1.out.below hb)
  replace R2 := Aside0.mk (R2.out.below hb)
  replace B2 := Aside0.mk (B2.out.below hb)
  have Z7 := Aside0.mk hb.size
  obtain ⟨AR3, cR3, rfl⟩ := Kd.S_slice ho1
  have R3 := Aside0.mk (Lives.rowS (base := w.heap.size) ho1 hb.size HB.out.size)
  replace HB := Aside0.mk (below_step HB.out hb)
  clear hb ho1
  have zB0_0 := (blk_cell B0.out.now 0).trans rfl
  have zB0_1 := (blk_cell B0.out.now 1).trans rfl
  have yB0_0 := fun o => (blk_cell (B0.out.alloc o).now 0).trans rfl
  have yB0_1 := fun o => (blk_cell (B0.out.alloc o).now 1).trans rfl
  have zB1_0 := (blk_cell B1.out.now 0).trans rfl
  have zB1_1 := (blk_cell B1.out.now 1).trans rfl
  have yB1_0 := fun o => (blk_cell (B1.out.alloc o).now 0).trans rfl
  have yB1_1 := fun o => (blk_cell (B1.out.alloc o).now 1).trans rfl
  have zB2_0 := (blk_cell B2.out.now 0).trans rfl
  have zB2_1 := (blk_cell B2.out.now 1).trans rfl
  have yB2_0 := fun o => (blk_cell (B2.out.alloc o).now 0).trans rfl
  have yB2_1 := fun o => (blk_cell (B2.out.alloc o).now 1).trans rfl
  go_wp2_with fail
  clear zB0_0 yB0_0 zB0_1 yB0_1 zB1_0 yB1_0 zB1_1 yB1_1 zB2_0 yB2_0 zB2_1 yB2_1
  refine letter_ ?_
  intro w10 eW
  replace B0 := Aside0.mk (B0.out.at eW)
  replace R0 := Aside0.mk (R0.out.at eW)
  replace R1 := Aside0.mk (R1.out.at eW)
  replace B1 := Aside0.mk (B1.out.at eW)
  replace R2 := Aside0.mk (R2.out.at eW)
  replace B2 := Aside0.mk (B2.out.at eW)
  replace R3 := Aside0.mk (R3.out.at eW)
  have B3 := Aside0.mk (Lives.boxed eW)
  replace HB := Aside0.mk (below_at HB.out eW)
  have Z8 := Aside0.mk (size_at eW)
  clear eW
  have zB0_0 := (blk_cell B0.out.now 0).trans rfl
  have zB0_1 := (blk_cell B0.out.now 1).trans rfl
  have yB0_0 := fun o => (blk_cell (B0.out.alloc o).now 0).trans rfl
  have yB0_1 := fun o => (blk_cell (B0.out.alloc o).now 1).trans rfl
  have zB1_0 := (blk_cell B1.out.now 0).trans rfl
  have zB1_1 := (blk_cell B1.out.now 1).trans rfl
  have yB1_0 := fun o => (blk_cell (B1.out.alloc o).now 0).trans rfl
  have yB1_1 := fun o => (blk_cell (B1.out.alloc o).now 1).trans rfl
  have zB2_0 := (blk_cell B2.out.now 0).trans rfl
  have zB2_1 := (blk_cell B2.out.now 1).trans rfl
  have yB2_0 := fun o => (blk_cell (B2.out.alloc o).now 0).trans rfl
  have yB2_1 := fun o => (blk_cell (B2.out.alloc o).now 1).trans rfl
  have zB3_0 := (blk_cell B3.out.now 0).trans rfl
  have zB3_1 := (blk_cell B3.out.now 1).trans rfl
  have yB3_0 := fun o => (blk_cell (B3.out.alloc o).now 0).trans rfl
  have yB3_1 := fun o => (blk_cell (B3.out.alloc o).now 1).trans rfl
  refine (laws_eqAlgebra.calls k t3_0 _ _ t3_1 t2_0 _ _ t2_1 true _ (Kd.S_reads' R3.out.now).2.2 (Kd.S_reads' R3.out.now).2.1 (Kd.S_reads' R1.out.now).2.2 (Kd.S_reads' R1.out.now).2.1 A4.out).mono ?_
  rintro e w9 ⟨rfl, hb⟩
  clear zB0_0 yB0_0 zB0_1 yB0_1 zB1_0 yB1_0 zB1_1 yB1_1 zB2_0 yB2_0 zB2_1 yB2_1 zB3_0 yB3_0 zB3_1 yB3_1
  replace B0 := Aside0.mk (B0.out.below hb)
  replace R0 := Aside0.mk (R0.out.below hb)
  replace R1 := Aside0.mk (R1.out.below hb)
  replace B1 := Aside0.mk (B1.out.below hb)
  replace R2 := Aside0.mk (R2.out.below hb)
  replace B2 := Aside0.mk (B2.out.below hb)
  replace R3 := Aside0.mk (R3.out.below hb)
  replace B3 := Aside0.mk (B3.out.below hb)
  have Z9 := Aside0.mk hb.size
  replace HB := Aside0.mk (below_step HB.out hb)
  clear hb
  have zB0_0 := (blk_cell B0.out.now 0).trans rfl
  have zB0_1 := (blk_cell B0.out.now 1).trans rfl
  have yB0_0 := fun o => (blk_cell (B0.out.alloc o).now 0).trans rfl
  have yB0_1 := fun o => (blk_cell (B0.out.alloc o).now 1).trans rfl
  have zB1_0 := (blk_cell B1.out.now 0).trans rfl
  have zB1_1 := (blk_cell B1.out.now 1).trans rfl
  have yB1_0 := fun o => (blk_cell (B1.out.alloc o).now 0).trans rfl
  have yB1_1 := fun o => (blk_cell (B1.out.alloc o).now 1).trans rfl
  have zB2_0 := (blk_cell B2.out.now 0).trans rfl
  have zB2_1 := (blk_cell B2.out.now 1).trans rfl
  have yB2_0 := fun o => (blk_cell (B2.out.alloc o).now 0).trans rfl
  have yB2_1 := fun o => (blk_cell (B2.out.alloc o).now 1).trans rfl
  have zB3_0 := (blk_cell B3.out.now 0).trans rfl
  have zB3_1 := (blk_cell B3.out.now 1).trans rfl
  have yB3_0 := fun o => (blk_cell (B3.out.alloc o).now 0).trans rfl
  have yB3_1 := fun o => (blk_cell (B3.out.alloc o).now 1).trans rfl
  try go_wp2_with fail
  clear zB0_0 yB0_0 zB0_1 yB0_1 zB1_0 yB1_0 zB1_1 yB1_1 zB2_0 yB2_0 zB2_1 yB2_1 zB3_0 yB3_0 zB3_1 yB3_1
  replace B0 := Aside0.mk B0.out.drew
  replace R0 := Aside0.mk R0.out.drew
  replace R1 := Aside0.mk R1.out.drew
  replace B1 := Aside0.mk B1.out.drew
  replace R2 := Aside0.mk R2.out.drew
  replace B2 := Aside0.mk B2.out.drew
  replace R3 := Aside0.mk R3.out.drew
  replace B3 := Aside0.mk B3.out.drew
  replace HB := Aside0.mk (below_drew1 HB.out)
  have Z10 := Aside0.mk (show w9.heap.size ≤ w9.drew.heap.size from Nat.le_refl _)
  refine start_ (n := 5) (S := fun w' => w'.cell? ⟨w.heap.size, 0, none⟩ = some (.int .i64 a0_0) ∧ w'.cell? ⟨w.heap.size, 1, none⟩ = some (.slice A0_1 l0_1.length c0_1) ∧ w'.cell? ⟨w4.heap.size, 0, none⟩ = some (.int .i64 t2_0) ∧ w'.cell? ⟨w4.heap.size, 1, none⟩ = some (.slice AR1 t2_1.length cR1) ∧ w'.cell? ⟨w5.heap.size, 0, none⟩ = some (.int .i64 t1_0) ∧ w'.cell? ⟨w5.heap.size, 1, none⟩ = some (.slice AR2 t1_1.length cR2) ∧ w'.cell? ⟨w7.heap.size, 0, none⟩ = some (.int .i64 t3_0) ∧ w'.cell? ⟨w7.heap.size, 1, none⟩ = some (.slice AR3 t3_1.length cR3)) (ds := []) #[false, false, false, false, false] (by kernel_rfl) rfl rfl ⟨(blk_cell B0.out.now 0).trans rfl, (blk_cell B0.out.now 1).trans rfl, (blk_cell B1.out.now 0).trans rfl, (blk_cell B1.out.now 1).trans rfl, (blk_cell B2.out.now 0).trans rfl, (blk_cell B2.out.now 1).trans rfl, (blk_cell B3.out.now 0).trans rfl, (blk_cell B3.out.now 1).trans rfl⟩ (fun hHeld => ?_)
  generalize w9.drew = w11 at B0 R0 R1 B1 R2 B2 R3 B3 HB Z10 hHeld ⊢
  refine take_ (i := 0) (N := (some 45)) (v := ?_) (a' := ?_) #[true, false, false, false, false] rfl rfl (by kernel_rfl) (fun _ _ _ h => h) (Or.inl ⟨by rfl, ?_⟩) hHeld ?_ ?_
  rotate_left
  · rintro w' ⟨s0, s1, s2, s3, s4, s5, s6, s7⟩
    go_simp
    with_reducible rfl
  rotate_left
  · simp only [Act.put, List.setIfInBounds_toArray, List.set_cons_zero, List.set_cons_succ, i64_w, i32_w]
    rfl
  refine take_ (i := 1) (N := (some 46)) (v := ?_) (a' := ?_) #[true, true, false, false, false] rfl rfl (by kernel_rfl) (fun _ _ _ h => h) (Or.inl ⟨by rfl, ?_⟩) hHeld ?_ ?_
  rotate_left
  · rintro w' ⟨s0, s1, s2, s3, s4, s5, s6, s7⟩
    go_simp
    with_reducible rfl
  rotate_left
  · simp only [Act.put, List.setIfInBounds_toArray, List.set_cons_zero, List.set_cons_succ, i64_w, i32_w]
    rfl
  refine one_ (i := 2) (N := (some 47)) #[true, true, true, false, false] rfl rfl (by kernel_rfl) (by decide) (fun K hK => ?_)
  refine goes_ Try.func11 (by kernel_rfl) rfl #[.agg #[.int .i64 a0_0, .slice A0_1 l0_1.length c0_1]] (by rfl) rfl rfl (by (try simp only [List.map_toArray, List.map_cons, List.map_nil]); first | done | rfl | (simp only [List.length_drop, List.length_take]; rfl)) ?_
  refine (laws_toAlgebra.calls k a0_0 _ _ l0_1 t1_0 t1_1 _ (Kd.C_below HR0_1.out HB.out) HC0_1.out A1.out).mono ?_
  rintro e w12 ⟨v1, rfl, ho1, hb⟩
  refine ⟨_, rfl, ?_⟩
  replace B0 := Aside0.mk (B0.out.below hb)
  replace R0 := Aside0.mk (R0.out.below hb)
  replace R1 := Aside0.mk (R1.out.below hb)
  replace B1 := Aside0.mk (B1.out.below hb)
  replace R2 := Aside0.mk (R2.out.below hb)
  replace B2 := Aside0.mk (B2.out.below hb)
  replace R3 := Aside0.mk (R3.out.below hb)
  replace B3 := Aside0.mk (B3.out.below hb)
  have Z11 := Aside0.mk hb.size
  obtain ⟨AR4, cR4, rfl⟩ := Kd.S_slice ho1
  have R4 := Aside0.mk (Lives.rowS (base := w.heap.size) ho1 hb.size HB.out.size)
  replace HB := Aside0.mk (below_step HB.out hb)
  clear hb ho1
  have zB0_0 := (blk_cell B0.out.now 0).trans rfl
  have zB0_1 := (blk_cell B0.out.now 1).trans rfl
  have yB0_0 := fun o => (blk_cell (B0.out.alloc o).now 0).trans rfl
  have yB0_1 := fun o => (blk_cell (B0.out.alloc o).now 1).trans rfl
  have zB1_0 := (blk_cell B1.out.now 0).trans rfl
  have zB1_1 := (blk_cell B1.out.now 1).trans rfl
  have yB1_0 := fun o => (blk_cell (B1.out.alloc o).now 0).trans rfl
  have yB1_1 := fun o => (blk_cell (B1.out.alloc o).now 1).trans rfl
  have zB2_0 := (blk_cell B2.out.now 0).trans rfl
  have zB2_1 := (blk_cell B2.out.now 1).trans rfl
  have yB2_0 := fun o => (blk_cell (B2.out.alloc o).now 0).trans rfl
  have yB2_1 := fun o => (blk_cell (B2.out.alloc o).now 1).trans rfl
  have zB3_0 := (blk_cell B3.out.now 0).trans rfl
  have zB3_1 := (blk_cell B3.out.now 1).trans rfl
  have yB3_0 := fun o => (blk_cell (B3.out.alloc o).now 0).trans rfl
  have yB3_1 := fun o => (blk_cell (B3.out.alloc o).now 1).trans rfl
  clear zB0_0 yB0_0 zB0_1 yB0_1 zB1_0 yB1_0 zB1_1 yB1_1 zB2_0 yB2_0 zB2_1 yB2_1 zB3_0 yB3_0 zB3_1 yB3_1
  refine hK.out _ _ ⟨(blk_cell B0.out.now 0).trans rfl, (blk_cell B0.out.now 1).trans rfl, (blk_cell B1.out.now 0).trans rfl, (blk_cell B1.out.now 1).trans rfl, (blk_cell B2.out.now 0).trans rfl, (blk_cell B2.out.now 1).trans rfl, (blk_cell B3.out.now 0).trans rfl, (blk_cell B3.out.now 1).trans rfl⟩ (fun hHeld => ?_)
  clear hK K
  refine norm_ (a' := ?_) ?_ ?_
  rotate_left
  · show Act.put _ (some 47) _ = _
    simp only [Act.put, List.setIfInBounds_toArray, List.set_cons_zero, List.set_cons_succ, i64_w, i32_w]
    rfl
  refine one_ (i := 3) (N := (some 48)) #[true, true, true, true, false] rfl rfl (by kernel_rfl) (by decide) (fun K hK => ?_)
  refine goes_ Try.func15 (by kernel_rfl) rfl #[.agg #[.int .i64 t1_0, .slice AR2 t1_1.length cR2], .agg #[.int .i64 t1_0, .slice AR4 t1_1.length cR4]] (by rfl) rfl rfl (by (try simp only [List.map_toArray, List.map_cons, List.map_nil]); first | done | rfl | (simp only [List.length_drop, List.length_take]; rfl)) ?_
  refine (laws_eqAlgebra.calls k t1_0 _ _ t1_1 t1_0 _ _ t1_1 true _ (Kd.S_reads' R2.out.now).2.2 (Kd.S_reads' R2.out.now).2.1 (Kd.S_reads' R4.out.now).2.2 (Kd.S_reads' R4.out.now).2.1 A5.out).mono ?_
  rintro e w13 ⟨rfl, hb⟩
  refine ⟨_, rfl, ?_⟩
  replace B0 := Aside0.mk (B0.out.below hb)
  replace R0 := Aside0.mk (R0.out.below hb)
  replace R1 := Aside0.mk (R1.out.below hb)
  replace B1 := Aside0.mk (B1.out.below hb)
  replace R2 := Aside0.mk (R2.out.below hb)
  replace B2 := Aside0.mk (B2.out.below hb)
  replace R3 := Aside0.mk (R3.out.below hb)
  replace B3 := Aside0.mk (B3.out.below hb)
  replace R4 := Aside0.mk (R4.out.below hb)
  have Z12 := Aside0.mk hb.size
  replace HB := Aside0.mk (below_step HB.out hb)
  clear hb
  have zB0_0 := (blk_cell B0.out.now 0).trans rfl
  have zB0_1 := (blk_cell B0.out.now 1).trans rfl
  have yB0_0 := fun o => (blk_cell (B0.out.alloc o).now 0).trans rfl
  have yB0_1 := fun o => (blk_cell (B0.out.alloc o).now 1).trans rfl
  have zB1_0 := (blk_cell B1.out.now 0).trans rfl
  have zB1_1 := (blk_cell B1.out.now 1).trans rfl
  have yB1_0 := fun o => (blk_cell (B1.out.alloc o).now 0).trans rfl
  have yB1_1 := fun o => (blk_cell (B1.out.alloc o).now 1).trans rfl
  have zB2_0 := (blk_cell B2.out.now 0).trans rfl
  have zB2_1 := (blk_cell B2.out.now 1).trans rfl
  have yB2_0 := fun o => (blk_cell (B2.out.alloc o).now 0).trans rfl
  have yB2_1 := fun o => (blk_cell (B2.out.alloc o).now 1).trans rfl
  have zB3_0 := (blk_cell B3.out.now 0).trans rfl
  have zB3_1 := (blk_cell B3.out.now 1).trans rfl
  have yB3_0 := fun o => (blk_cell (B3.out.alloc o).now 0).trans rfl
  have yB3_1 := fun o => (blk_cell (B3.out.alloc o).now 1).trans rfl
  clear zB0_0 yB0_0 zB0_1 yB0_1 zB1_0 yB1_0 zB1_1 yB1_1 zB2_0 yB2_0 zB2_1 yB2_1 zB3_0 yB3_0 zB3_1 yB3_1
  refine hK.out _ _ ⟨(blk_cell B0.out.now 0).trans rfl, (blk_cell B0.out.now 1).trans rfl, (blk_cell B1.out.now 0).trans rfl, (blk_cell B1.out.now 1).trans rfl, (blk_cell B2.out.now 0).trans rfl, (blk_cell B2.out.now 1).trans rfl, (blk_cell B3.out.now 0).trans rfl, (blk_cell B3.out.now 1).trans rfl⟩ (fun hHeld => ?_)
  clear hK K
  refine norm_ (a' := ?_) ?_ ?_
  rotate_left
  · show Act.put _ (some 48) _ = _
    simp only [Act.put, List.setIfInBounds_toArray, List.set_cons_zero, List.set_cons_succ, i64_w, i32_w]
    rfl
  refine pure_ (i := 4) (N := (some 49)) (v := ?_) (a' := ?_) #[true, true, true, true, true] rfl rfl (by kernel_rfl) (fun _ _ _ h => h) (Or.inl ⟨by rfl, ?_⟩) ?_ ?_
  rotate_left
  · intro w'
    go_simp
    with_reducible rfl
  rotate_left
  · simp only [Act.put, List.setIfInBounds_toArray, List.set_cons_zero, List.set_cons_succ, i64_w, i32_w]
    rfl
  refine done_ (by kernel_rfl) ?_
  have zB0_0 := (blk_cell B0.out.now 0).trans rfl
  have zB0_1 := (blk_cell B0.out.now 1).trans rfl
  have yB0_0 := fun o => (blk_cell (B0.out.alloc o).now 0).trans rfl
  have yB0_1 := fun o => (blk_cell (B0.out.alloc o).now 1).trans rfl
  have zB1_0 := (blk_cell B1.out.now 0).trans rfl
  have zB1_1 := (blk_cell B1.out.now 1).trans rfl
  have yB1_0 := fun o => (blk_cell (B1.out.alloc o).now 0).trans rfl
  have yB1_1 := fun o => (blk_cell (B1.out.alloc o).now 1).trans rfl
  have zB2_0 := (blk_cell B2.out.now 0).trans rfl
  have zB2_1 := (blk_cell B2.out.now 1).trans rfl
  have yB2_0 := fun o => (blk_cell (B2.out.alloc o).now 0).trans rfl
  have yB2_1 := fun o => (blk_cell (B2.out.alloc o).now 1).trans rfl
  have zB3_0 := (blk_cell B3.out.now 0).trans rfl
  have zB3_1 := (blk_cell B3.out.now 1).trans rfl
  have yB3_0 := fun o => (blk_cell (B3.out.alloc o).now 0).trans rfl
  have yB3_1 := fun o => (blk_cell (B3.out.alloc o).now 1).trans rfl
  go_wp2_with fail
  refine (laws_markAlgebra.calls k (fun k_ => w6.heap.size ≤ k_ ∧ k_ < w5.heap.size) t1_0 _ t1_1 1 t6_0 t6_1 w _ HB.out R2.out.now A6.out).mono ?_
  rintro e w14 ⟨rfl, ho, hb, hk⟩
  clear zB0_0 yB0_0 zB0_1 yB0_1 zB1_0 yB1_0 zB1_1 yB1_1 zB2_0 yB2_0 zB2_1 yB2_1 zB3_0 yB3_0 zB3_1 yB3_1
  have Z13 := Aside0.mk hk.1
  replace B0 := Aside0.mk (B0.out.kept hk (by have := Z0.out; have := Z1.out; have := Z2.out; have := Z3.out; have := Z4.out; have := Z5.out; have := Z6.out; have := Z7.out; have := Z8.out; have := Z9.out; have := Z10.out; have := Z11.out; have := Z12.out; omega))
  replace R0 := Aside0.mk (R0.out.kept hk (by have := Z0.out; have := Z1.out; have := Z2.out; have := Z3.out; have := Z4.out; have := Z5.out; have := Z6.out; have := Z7.out; have := Z8.out; have := Z9.out; have := Z10.out; have := Z11.out; have := Z12.out; omega))
  replace R1 := Aside0.mk (R1.out.kept hk (by have := Z0.out; have := Z1.out; have := Z2.out; have := Z3.out; have := Z4.out; have := Z5.out; have := Z6.out; have := Z7.out; have := Z8.out; have := Z9.out; have := Z10.out; have := Z11.out; have := Z12.out; omega))
  replace B1 := Aside0.mk (B1.out.kept hk (by have := Z0.out; have := Z1.out; have := Z2.out; have := Z3.out; have := Z4.out; have := Z5.out; have := Z6.out; have := Z7.out; have := Z8.out; have := Z9.out; have := Z10.out; have := Z11.out; have := Z12.out; omega))
  replace R2 := Aside0.mk (R2.out.markedS ho hk.1)
  replace B2 := Aside0.mk (B2.out.kept hk (by have := Z0.out; have := Z1.out; have := Z2.out; have := Z3.out; have := Z4.out; have := Z5.out; have := Z6.out; have := Z7.out; have := Z8.out; have := Z9.out; have := Z10.out; have := Z11.out; have := Z12.out; omega))
  replace R3 := Aside0.mk (R3.out.kept hk (by have := Z0.out; have := Z1.out; have := Z2.out; have := Z3.out; have := Z4.out; have := Z5.out; have := Z6.out; have := Z7.out; have := Z8.out; have := Z9.out; have := Z10.out; have := Z11.out; have := Z12.out; omega))
  replace B3 := Aside0.mk (B3.out.kept hk (by have := Z0.out; have := Z1.out; have := Z2.out; have := Z3.out; have := Z4.out; have := Z5.out; have := Z6.out; have := Z7.out; have := Z8.out; have := Z9.out; have := Z10.out; have := Z11.out; have := Z12.out; omega))
  replace R4 := Aside0.mk (R4.out.kept hk (by have := Z0.out; have := Z1.out; have := Z2.out; have := Z3.out; have := Z4.out; have := Z5.out; have := Z6.out; have := Z7.out; have := Z8.out; have := Z9.out; have := Z10.out; have := Z11.out; have := Z12.out; omega))
  have LR2 := Aside0.mk (Kd.S_reads' ho).1
  replace HB := Aside0.mk hb
  clear ho hb hk
  have zB0_0 := (blk_cell B0.out.now 0).trans rfl
  have zB0_1 := (blk_cell B0.out.now 1).trans rfl
  have yB0_0 := fun o => (blk_cell (B0.out.alloc o).now 0).trans rfl
  have yB0_1 := fun o => (blk_cell (B0.out.alloc o).now 1).trans rfl
  have zB1_0 := (blk_cell B1.out.now 0).trans rfl
  have zB1_1 := (blk_cell B1.out.now 1).trans rfl
  have yB1_0 := fun o => (blk_cell (B1.out.alloc o).now 0).trans rfl
  have yB1_1 := fun o => (blk_cell (B1.out.alloc o).now 1).trans rfl
  have zB2_0 := (blk_cell B2.out.now 0).trans rfl
  have zB2_1 := (blk_cell B2.out.now 1).trans rfl
  have yB2_0 := fun o => (blk_cell (B2.out.alloc o).now 0).trans rfl
  have yB2_1 := fun o => (blk_cell (B2.out.alloc o).now 1).trans rfl
  have zB3_0 := (blk_cell B3.out.now 0).trans rfl
  have zB3_1 := (blk_cell B3.out.now 1).trans rfl
  have yB3_0 := fun o => (blk_cell (B3.out.alloc o).now 0).trans rfl
  have yB3_1 := fun o => (blk_cell (B3.out.alloc o).now 1).trans rfl
  go_wp2_with fail
  refine (laws_eqAlgebra.calls k t3_0 _ _ t3_1 t2_0 _ _ t2_1 true _ (Kd.S_reads' R3.out.now).2.2 (Kd.S_reads' R3.out.now).2.1 (Kd.S_reads' R1.out.now).2.2 (Kd.S_reads' R1.out.now).2.1 A4.out).mono ?_
  rintro e w15 ⟨rfl, hb⟩
  clear zB0_0 yB0_0 zB0_1 yB0_1 zB1_0 yB1_0 zB1_1 yB1_1 zB2_0 yB2_0 zB2_1 yB2_1 zB3_0 yB3_0 zB3_1 yB3_1
  replace B0 := Aside0.mk (B0.out.below hb)
  replace R0 := Aside0.mk (R0.out.below hb)
  replace R1 := Aside0.mk (R1.out.below hb)
  replace B1 := Aside0.mk (B1.out.below hb)
  replace R2 := Aside0.mk (R2.out.below hb)
  replace B2 := Aside0.mk (B2.out.below hb)
  replace R3 := Aside0.mk (R3.out.below hb)
  replace B3 := Aside0.mk (B3.out.below hb)
  replace R4 := Aside0.mk (R4.out.below hb)
  have Z14 := Aside0.mk hb.size
  replace HB := Aside0.mk (below_step HB.out hb)
  clear hb
  have zB0_0 := (blk_cell B0.out.now 0).trans rfl
  have zB0_1 := (blk_cell B0.out.now 1).trans rfl
  have yB0_0 := fun o => (blk_cell (B0.out.alloc o).now 0).trans rfl
  have yB0_1 := fun o => (blk_cell (B0.out.alloc o).now 1).trans rfl
  have zB1_0 := (blk_cell B1.out.now 0).trans rfl
  have zB1_1 := (blk_cell B1.out.now 1).trans rfl
  have yB1_0 := fun o => (blk_cell (B1.out.alloc o).now 0).trans rfl
  have yB1_1 := fun o => (blk_cell (B1.out.alloc o).now 1).trans rfl
  have zB2_0 := (blk_cell B2.out.now 0).trans rfl
  have zB2_1 := (blk_cell B2.out.now 1).trans rfl
  have yB2_0 := fun o => (blk_cell (B2.out.alloc o).now 0).trans rfl
  have yB2_1 := fun o => (blk_cell (B2.out.alloc o).now 1).trans rfl
  have zB3_0 := (blk_cell B3.out.now 0).trans rfl
  have zB3_1 := (blk_cell B3.out.now 1).trans rfl
  have yB3_0 := fun o => (blk_cell (B3.out.alloc o).now 0).trans rfl
  have yB3_1 := fun o => (blk_cell (B3.out.alloc o).now 1).trans rfl
  go_wp2_with fail
  refine (laws_markAlgebra.calls k (fun k_ => w8.heap.size ≤ k_ ∧ k_ < w7.heap.size) t3_0 _ t3_1 1 t8_0 t7_1 w _ HB.out R3.out.now A7.out).mono ?_
  rintro e w16 ⟨rfl, ho, hb, hk⟩
  clear zB0_0 yB0_0 zB0_1 yB0_1 zB1_0 yB1_0 zB1_1 yB1_1 zB2_0 yB2_0 zB2_1 yB2_1 zB3_0 yB3_0 zB3_1 yB3_1
  have Z15 := Aside0.mk hk.1
  replace B0 := Aside0.mk (B0.out.kept hk (by have := Z0.out; have := Z1.out; have := Z2.out; have := Z3.out; have := Z4.out; have := Z5.out; have := Z6.out; have := Z7.out; have := Z8.out; have := Z9.out; have := Z10.out; have := Z11.out; have := Z12.out; have := Z13.out; have := Z14.out; omega))
  replace R0 := Aside0.mk (R0.out.kept hk (by have := Z0.out; have := Z1.out; have := Z2.out; have := Z3.out; have := Z4.out; have := Z5.out; have := Z6.out; have := Z7.out; have := Z8.out; have := Z9.out; have := Z10.out; have := Z11.out; have := Z12.out; have := Z13.out; have := Z14.out; omega))
  replace R1 := Aside0.mk (R1.out.kept hk (by have := Z0.out; have := Z1.out; have := Z2.out; have := Z3.out; have := Z4.out; have := Z5.out; have := Z6.out; have := Z7.out; have := Z8.out; have := Z9.out; have := Z10.out; have := Z11.out; have := Z12.out; have := Z13.out; have := Z14.out; omega))
  replace B1 := Aside0.mk (B1.out.kept hk (by have := Z0.out; have := Z1.out; have := Z2.out; have := Z3.out; have := Z4.out; have := Z5.out; have := Z6.out; have := Z7.out; have := Z8.out; have := Z9.out; have := Z10.out; have := Z11.out; have := Z12.out; have := Z13.out; have := Z14.out; omega))
  replace R2 := Aside0.mk (R2.out.kept hk (by have := Z0.out; have := Z1.out; have := Z2.out; have := Z3.out; have := Z4.out; have := Z5.out; have := Z6.out; have := Z7.out; have := Z8.out; have := Z9.out; have := Z10.out; have := Z11.out; have := Z12.out; have := Z13.out; have := Z14.out; omega))
  replace B2 := Aside0.mk (B2.out.kept hk (by have := Z0.out; have := Z1.out; have := Z2.out; have := Z3.out; have := Z4.out; have := Z5.out; have := Z6.out; have := Z7.out; have := Z8.out; have := Z9.out; have := Z10.out; have := Z11.out; have := Z12.out; have := Z13.out; have := Z14.out; omega))
  replace R3 := Aside0.mk (R3.out.markedS ho hk.1)
  replace B3 := Aside0.mk (B3.out.kept hk (by have := Z0.out; have := Z1.out; have := Z2.out; have := Z3.out; have := Z4.out; have := Z5.out; have := Z6.out; have := Z7.out; have := Z8.out; have := Z9.out; have := Z10.out; have := Z11.out; have := Z12.out; have := Z13.out; have := Z14.out; omega))
  replace R4 := Aside0.mk (R4.out.kept hk (by have := Z0.out; have := Z1.out; have := Z2.out; have := Z3.out; have := Z4.out; have := Z5.out; have := Z6.out; have := Z7.out; have := Z8.out; have := Z9.out; have := Z10.out; have := Z11.out; have := Z12.out; have := Z13.out; have := Z14.out; omega))
  have LR3 := Aside0.mk (Kd.S_reads' ho).1
  replace HB := Aside0.mk hb
  clear ho hb hk
  have zB0_0 := (blk_cell B0.out.now 0).trans rfl
  have zB0_1 := (blk_cell B0.out.now 1).trans rfl
  have yB0_0 := fun o => (blk_cell (B0.out.alloc o).now 0).trans rfl
  have yB0_1 := fun o => (blk_cell (B0.out.alloc o).now 1).trans rfl
  have zB1_0 := (blk_cell B1.out.now 0).trans rfl
  have zB1_1 := (blk_cell B1.out.now 1).trans rfl
  have yB1_0 := fun o => (blk_cell (B1.out.alloc o).now 0).trans rfl
  have yB1_1 := fun o => (blk_cell (B1.out.alloc o).now 1).trans rfl
  have zB2_0 := (blk_cell B2.out.now 0).trans rfl
  have zB2_1 := (blk_cell B2.out.now 1).trans rfl
  have yB2_0 := fun o => (blk_cell (B2.out.alloc o).now 0).trans rfl
  have yB2_1 := fun o => (blk_cell (B2.out.alloc o).now 1).trans rfl
  have zB3_0 := (blk_cell B3.out.now 0).trans rfl
  have zB3_1 := (blk_cell B3.out.now 1).trans rfl
  have yB3_0 := fun o => (blk_cell (B3.out.alloc o).now 0).trans rfl
  have yB3_1 := fun o => (blk_cell (B3.out.alloc o).now 1).trans rfl
  go_wp2_with fail
  refine calls_of_args (args' := #[.agg #[.int .i64 t3_0, .slice AR3 t7_1.length cR3], .int .i64 1]) (by first | rw [LR3.out] | rw [← LR3.out]) ?_
  refine (laws_heldAlgebra.calls k t3_0 _ _ t7_1 1 t8_0 _ (Kd.S_reads' R3.out.now).2.2 (by have h_ := (Kd.S_reads' R3.out.now).2.1; have e_ := LR3.out; omega) A8.out).mono ?_
  rintro e w17 ⟨rfl, hb⟩
  clear zB0_0 yB0_0 zB0_1 yB0_1 zB1_0 yB1_0 zB1_1 yB1_1 zB2_0 yB2_0 zB2_1 yB2_1 zB3_0 yB3_0 zB3_1 yB3_1
  replace B0 := Aside0.mk (B0.out.below hb)
  replace R0 := Aside0.mk (R0.out.below hb)
  replace R1 := Aside0.mk (R1.out.below hb)
  replace B1 := Aside0.mk (B1.out.below hb)
  replace R2 := Aside0.mk (R2.out.below hb)
  replace B2 := Aside0.mk (B2.out.below hb)
  replace R3 := Aside0.mk (R3.out.below hb)
  replace B3 := Aside0.mk (B3.out.below hb)
  replace R4 := Aside0.mk (R4.out.below hb)
  have Z16 := Aside0.mk hb.size
  replace HB := Aside0.mk (below_step HB.out hb)
  clear hb
  have zB0_0 := (blk_cell B0.out.now 0).trans rfl
  have zB0_1 := (blk_cell B0.out.now 1).trans rfl
  have yB0_0 := fun o => (blk_cell (B0.out.alloc o).now 0).trans rfl
  have yB0_1 := fun o => (blk_cell (B0.out.alloc o).now 1).trans rfl
  have zB1_0 := (blk_cell B1.out.now 0).trans rfl
  have zB1_1 := (blk_cell B1.out.now 1).trans rfl
  have yB1_0 := fun o => (blk_cell (B1.out.alloc o).now 0).trans rfl
  have yB1_1 := fun o => (blk_cell (B1.out.alloc o).now 1).trans rfl
  have zB2_0 := (blk_cell B2.out.now 0).trans rfl
  have zB2_1 := (blk_cell B2.out.now 1).trans rfl
  have yB2_0 := fun o => (blk_cell (B2.out.alloc o).now 0).trans rfl
  have yB2_1 := fun o => (blk_cell (B2.out.alloc o).now 1).trans rfl
  have zB3_0 := (blk_cell B3.out.now 0).trans rfl
  have zB3_1 := (blk_cell B3.out.now 1).trans rfl
  have yB3_0 := fun o => (blk_cell (B3.out.alloc o).now 0).trans rfl
  have yB3_1 := fun o => (blk_cell (B3.out.alloc o).now 1).trans rfl
  go_wp2_with fail
  refine (laws_toAlgebra.calls k a0_0 _ _ l0_1 t1_0 t1_1 _ (Kd.C_below HR0_1.out HB.out) HC0_1.out A1.out).mono ?_
  rintro e w18 ⟨v1, rfl, ho1, hb⟩
  clear zB0_0 yB0_0 zB0_1 yB0_1 zB1_0 yB1_0 zB1_1 yB1_1 zB2_0 yB2_0 zB2_1 yB2_1 zB3_0 yB3_0 zB3_1 yB3_1
  replace B0 := Aside0.mk (B0.out.below hb)
  replace R0 := Aside0.mk (R0.out.below hb)
  replace R1 := Aside0.mk (R1.out.below hb)
  replace B1 := Aside0.mk (B1.out.below hb)
  replace R2 := Aside0.mk (R2.out.below hb)
  replace B2 := Aside0.mk (B2.out.below hb)
  replace R3 := Aside0.mk (R3.out.below hb)
  replace B3 := Aside0.mk (B3.out.below hb)
  replace R4 := Aside0.mk (R4.out.below hb)
  have Z17 := Aside0.mk hb.size
  obtain ⟨AR5, cR5, rfl⟩ := Kd.S_slice ho1
  have R5 := Aside0.mk (Lives.rowS (base := w.heap.size) ho1 hb.size HB.out.size)
  replace HB := Aside0.mk (below_step HB.out hb)
  clear hb ho1
  have zB0_0 := (blk_cell B0.out.now 0).trans rfl
  have zB0_1 := (blk_cell B0.out.now 1).trans rfl
  have yB0_0 := fun o => (blk_cell (B0.out.alloc o).now 0).trans rfl
  have yB0_1 := fun o => (blk_cell (B0.out.alloc o).now 1).trans rfl
  have zB1_0 := (blk_cell B1.out.now 0).trans rfl
  have zB1_1 := (blk_cell B1.out.now 1).trans rfl
  have yB1_0 := fun o => (blk_cell (B1.out.alloc o).now 0).trans rfl
  have yB1_1 := fun o => (blk_cell (B1.out.alloc o).now 1).trans rfl
  have zB2_0 := (blk_cell B2.out.now 0).trans rfl
  have zB2_1 := (blk_cell B2.out.now 1).trans rfl
  have yB2_0 := fun o => (blk_cell (B2.out.alloc o).now 0).trans rfl
  have yB2_1 := fun o => (blk_cell (B2.out.alloc o).now 1).trans rfl
  have zB3_0 := (blk_cell B3.out.now 0).trans rfl
  have zB3_1 := (blk_cell B3.out.now 1).trans rfl
  have yB3_0 := fun o => (blk_cell (B3.out.alloc o).now 0).trans rfl
  have yB3_1 := fun o => (blk_cell (B3.out.alloc o).now 1).trans rfl
  go_wp2_with fail
  refine (impl_ReverseArgs.calls k t1_0 _ _ t1_1 a1 t3_0 t3_1 t3_2 _ (Kd.S_reads' R5.out.now).2.2 (Kd.S_reads' R5.out.now).2.1 A3.out).mono ?_
  rintro e w19 ⟨v1, rfl, ho1, hb⟩
  clear zB0_0 yB0_0 zB0_1 yB0_1 zB1_0 yB1_0 zB1_1 yB1_1 zB2_0 yB2_0 zB2_1 yB2_1 zB3_0 yB3_0 zB3_1 yB3_1
  replace B0 := Aside0.mk (B0.out.below hb)
  replace R0 := Aside0.mk (R0.out.below hb)
  replace R1 := Aside0.mk (R1.out.below hb)
  replace B1 := Aside0.mk (B1.out.below hb)
  replace R2 := Aside0.mk (R2.out.below hb)
  replace B2 := Aside0.mk (B2.out.below hb)
  replace R3 := Aside0.mk (R3.out.below hb)
  replace B3 := Aside0.mk (B3.out.below hb)
  replace R4 := Aside0.mk (R4.out.below hb)
  replace R5 := Aside0.mk (R5.out.below hb)
  have Z18 := Aside0.mk hb.size
  obtain ⟨AR6, cR6, rfl⟩ := Kd.S_slice ho1
  have R6 := Aside0.mk (Lives.rowS (base := w.heap.size) ho1 hb.size HB.out.size)
  replace HB := Aside0.mk (below_step HB.out hb)
  clear hb ho1
  have zB0_0 := (blk_cell B0.out.now 0).trans rfl
  have zB0_1 := (blk_cell B0.out.now 1).trans rfl
  have yB0_0 := fun o => (blk_cell (B0.out.alloc o).now 0).trans rfl
  have yB0_1 := fun o => (blk_cell (B0.out.alloc o).now 1).trans rfl
  have zB1_0 := (blk_cell B1.out.now 0).trans rfl
  have zB1_1 := (blk_cell B1.out.now 1).trans rfl
  have yB1_0 := fun o => (blk_cell (B1.out.alloc o).now 0).trans rfl
  have yB1_1 := fun o => (blk_cell (B1.out.alloc o).now 1).trans rfl
  have zB2_0 := (blk_cell B2.out.now 0).trans rfl
  have zB2_1 := (blk_cell B2.out.now 1).trans rfl
  have yB2_0 := fun o => (blk_cell (B2.out.alloc o).now 0).trans rfl
  have yB2_1 := fun o => (blk_cell (B2.out.alloc o).now 1).trans rfl
  have zB3_0 := (blk_cell B3.out.now 0).trans rfl
  have zB3_1 := (blk_cell B3.out.now 1).trans rfl
  have yB3_0 := fun o => (blk_cell (B3.out.alloc o).now 0).trans rfl
  have yB3_1 := fun o => (blk_cell (B3.out.alloc o).now 1).trans rfl
  go_wp2_with fail
  clear zB0_0 yB0_0 zB0_1 yB0_1 zB1_0 yB1_0 zB1_1 yB1_1 zB2_0 yB2_0 zB2_1 yB2_1 zB3_0 yB3_0 zB3_1 yB3_1
  refine letter_ ?_
  intro w21 eW
  replace B0 := Aside0.mk (B0.out.at eW)
  replace R0 := Aside0.mk (R0.out.at eW)
  replace R1 := Aside0.mk (R1.out.at eW)
  replace B1 := Aside0.mk (B1.out.at eW)
  replace R2 := Aside0.mk (R2.out.at eW)
  replace B2 := Aside0.mk (B2.out.at eW)
  replace R3 := Aside0.mk (R3.out.at eW)
  replace B3 := Aside0.mk (B3.out.at eW)
  replace R4 := Aside0.mk (R4.out.at eW)
  replace R5 := Aside0.mk (R5.out.at eW)
  replace R6 := Aside0.mk (R6.out.at eW)
  have B4 := Aside0.mk (Lives.boxed eW)
  replace HB := Aside0.mk (below_at HB.out eW)
  have Z19 := Aside0.mk (size_at eW)
  clear eW
  have zB0_0 := (blk_cell B0.out.now 0).trans rfl
  have zB0_1 := (blk_cell B0.out.now 1).trans rfl
  have yB0_0 := fun o => (blk_cell (B0.out.alloc o).now 0).trans rfl
  have yB0_1 := fun o => (blk_cell (B0.out.alloc o).now 1).trans rfl
  have zB1_0 := (blk_cell B1.out.now 0).trans rfl
  have zB1_1 := (blk_cell B1.out.now 1).trans rfl
  have yB1_0 := fun o => (blk_cell (B1.out.alloc o).now 0).trans rfl
  have yB1_1 := fun o => (blk_cell (B1.out.alloc o).now 1).trans rfl
  have zB2_0 := (blk_cell B2.out.now 0).trans rfl
  have zB2_1 := (blk_cell B2.out.now 1).trans rfl
  have yB2_0 := fun o => (blk_cell (B2.out.alloc o).now 0).trans rfl
  have yB2_1 := fun o => (blk_cell (B2.out.alloc o).now 1).trans rfl
  have zB3_0 := (blk_cell B3.out.now 0).trans rfl
  have zB3_1 := (blk_cell B3.out.now 1).trans rfl
  have yB3_0 := fun o => (blk_cell (B3.out.alloc o).now 0).trans rfl
  have yB3_1 := fun o => (blk_cell (B3.out.alloc o).now 1).trans rfl
  have zB4_0 := (blk_cell B4.out.now 0).trans rfl
  have zB4_1 := (blk_cell B4.out.now 1).trans rfl
  have yB4_0 := fun o => (blk_cell (B4.out.alloc o).now 0).trans rfl
  have yB4_1 := fun o => (blk_cell (B4.out.alloc o).now 1).trans rfl
  refine (laws_eqAlgebra.calls k t3_0 _ _ t3_1 t2_0 _ _ t2_1 true _ (Kd.S_reads' R6.out.now).2.2 (Kd.S_reads' R6.out.now).2.1 (Kd.S_reads' R1.out.now).2.2 (Kd.S_reads' R1.out.now).2.1 A4.out).mono ?_
  rintro e w20 ⟨rfl, hb⟩
  clear zB0_0 yB0_0 zB0_1 yB0_1 zB1_0 yB1_0 zB1_1 yB1_1 zB2_0 yB2_0 zB2_1 yB2_1 zB3_0 yB3_0 zB3_1 yB3_1 zB4_0 yB4_0 zB4_1 yB4_1
  replace B0 := Aside0.mk (B0.out.below hb)
  replace R0 := Aside0.mk (R0.out.below hb)
  replace R1 := Aside0.mk (R1.out.below hb)
  replace B1 := Aside0.mk (B1.out.below hb)
  replace R2 := Aside0.mk (R2.out.below hb)
  replace B2 := Aside0.mk (B2.out.below hb)
  replace R3 := Aside0.mk (R3.out.below hb)
  replace B3 := Aside0.mk (B3.out.below hb)
  replace R4 := Aside0.mk (R4.out.below hb)
  replace R5 := Aside0.mk (R5.out.below hb)
  replace R6 := Aside0.mk (R6.out.below hb)
  replace B4 := Aside0.mk (B4.out.below hb)
  have Z20 := Aside0.mk hb.size
  replace HB := Aside0.mk (below_step HB.out hb)
  clear hb
  have zB0_0 := (blk_cell B0.out.now 0).trans rfl
  have zB0_1 := (blk_cell B0.out.now 1).trans rfl
  have yB0_0 := fun o => (blk_cell (B0.out.alloc o).now 0).trans rfl
  have yB0_1 := fun o => (blk_cell (B0.out.alloc o).now 1).trans rfl
  have zB1_0 := (blk_cell B1.out.now 0).trans rfl
  have zB1_1 := (blk_cell B1.out.now 1).trans rfl
  have yB1_0 := fun o => (blk_cell (B1.out.alloc o).now 0).trans rfl
  have yB1_1 := fun o => (blk_cell (B1.out.alloc o).now 1).trans rfl
  have zB2_0 := (blk_cell B2.out.now 0).trans rfl
  have zB2_1 := (blk_cell B2.out.now 1).trans rfl
  have yB2_0 := fun o => (blk_cell (B2.out.alloc o).now 0).trans rfl
  have yB2_1 := fun o => (blk_cell (B2.out.alloc o).now 1).trans rfl
  have zB3_0 := (blk_cell B3.out.now 0).trans rfl
  have zB3_1 := (blk_cell B3.out.now 1).trans rfl
  have yB3_0 := fun o => (blk_cell (B3.out.alloc o).now 0).trans rfl
  have yB3_1 := fun o => (blk_cell (B3.out.alloc o).now 1).trans rfl
  have zB4_0 := (blk_cell B4.out.now 0).trans rfl
  have zB4_1 := (blk_cell B4.out.now 1).trans rfl
  have yB4_0 := fun o => (blk_cell (B4.out.alloc o).now 0).trans rfl
  have yB4_1 := fun o => (blk_cell (B4.out.alloc o).now 1).trans rfl
  go_wp2_with fail
  refine calls_of_args (args' := #[.agg #[.int .i64 t3_0, .slice AR3 t7_1.length cR3], .int .i64 1]) (by first | rw [LR3.out] | rw [← LR3.out]) ?_
  refine (laws_heldAlgebra.calls k t3_0 _ _ t7_1 1 t8_0 _ (Kd.S_reads' R3.out.now).2.2 (by have h_ := (Kd.S_reads' R3.out.now).2.1; have e_ := LR3.out; omega) A8.out).mono ?_
  rintro e w22 ⟨rfl, hb⟩
  clear zB0_0 yB0_0 zB0_1 yB0_1 zB1_0 yB1_0 zB1_1 yB1_1 zB2_0 yB2_0 zB2_1 yB2_1 zB3_0 yB3_0 zB3_1 yB3_1 zB4_0 yB4_0 zB4_1 yB4_1
  replace B0 := Aside0.mk (B0.out.below hb)
  replace R0 := Aside0.mk (R0.out.below hb)
  replace R1 := Aside0.mk (R1.out.below hb)
  replace B1 := Aside0.mk (B1.out.below hb)
  replace R2 := Aside0.mk (R2.out.below hb)
  replace B2 := Aside0.mk (B2.out.below hb)
  replace R3 := Aside0.mk (R3.out.below hb)
  replace B3 := Aside0.mk (B3.out.below hb)
  replace R4 := Aside0.mk (R4.out.below hb)
  replace R5 := Aside0.mk (R5.out.below hb)
  replace R6 := Aside0.mk (R6.out.below hb)
  replace B4 := Aside0.mk (B4.out.below hb)
  have Z21 := Aside0.mk hb.size
  replace HB := Aside0.mk (below_step HB.out hb)
  clear hb
  have zB0_0 := (blk_cell B0.out.now 0).trans rfl
  have zB0_1 := (blk_cell B0.out.now 1).trans rfl
  have yB0_0 := fun o => (blk_cell (B0.out.alloc o).now 0).trans rfl
  have yB0_1 := fun o => (blk_cell (B0.out.alloc o).now 1).trans rfl
  have zB1_0 := (blk_cell B1.out.now 0).trans rfl
  have zB1_1 := (blk_cell B1.out.now 1).trans rfl
  have yB1_0 := fun o => (blk_cell (B1.out.alloc o).now 0).trans rfl
  have yB1_1 := fun o => (blk_cell (B1.out.alloc o).now 1).trans rfl
  have zB2_0 := (blk_cell B2.out.now 0).trans rfl
  have zB2_1 := (blk_cell B2.out.now 1).trans rfl
  have yB2_0 := fun o => (blk_cell (B2.out.alloc o).now 0).trans rfl
  have yB2_1 := fun o => (blk_cell (B2.out.alloc o).now 1).trans rfl
  have zB3_0 := (blk_cell B3.out.now 0).trans rfl
  have zB3_1 := (blk_cell B3.out.now 1).trans rfl
  have yB3_0 := fun o => (blk_cell (B3.out.alloc o).now 0).trans rfl
  have yB3_1 := fun o => (blk_cell (B3.out.alloc o).now 1).trans rfl
  have zB4_0 := (blk_cell B4.out.now 0).trans rfl
  have zB4_1 := (blk_cell B4.out.now 1).trans rfl
  have yB4_0 := fun o => (blk_cell (B4.out.alloc o).now 0).trans rfl
  have yB4_1 := fun o => (blk_cell (B4.out.alloc o).now 1).trans rfl
  go_wp2
  go_ret
  exact ⟨rfl, HB.out⟩

end Go.Proofs.Ytcgkgimkpndhmab.Q
