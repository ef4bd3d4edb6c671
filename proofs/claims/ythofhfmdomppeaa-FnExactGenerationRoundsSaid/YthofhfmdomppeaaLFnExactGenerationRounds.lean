/- The plain statement of FnExactGenerationRounds: for each algebra and list whose numbers fit 64 bits, the law's answer is true. -/
import Derived.Test.YthofhfmdomppeaaQx12
import Derived.Test.YthofhfmdomppeaaBase
import Derived.Test.YthofhfmdomppeaaOpens
import Derived.Test.YthofhfmdomppeaaClo
namespace Go.Proofs.Ythofhfmdomppeaa.LFnExactGenerationRounds
open Go.RowKit Go.Proofs.Ythofhfmdomppeaa.Q Go.Proofs.YthofhfmdomppeaaW.PrintWords Go.Proofs.YthofhfmdomppeaaW.PrintLast Go.Proofs.Ythofhfmdomppeaa.Base Go.Proofs.Ythofhfmdomppeaa.Opens
set_option linter.unusedVariables false
set_option linter.unusedSimpArgs false

-- laws_szIntS
theorem szIntS_v (l : List Int) (left : Int) (hl : l.length ≤ 9223372036854775807) (h0 : 0 ≤ left) (h1 : left ≤ 1048576) :
    ∃ r, laws_szIntS.f l left = some r ∧ (r < 0 ∨ (0 ≤ r ∧ r ≤ left ∧ l.length ≤ 1048576)) := by
  unfold laws_szIntS.f
  rw [w64 (by omega)]
  by_cases h : left - (l.length : Int) < 0
  · rw [if_pos h]; exact ⟨_, rfl, .inl (by omega)⟩
  · rw [if_neg h]; exact ⟨_, rfl, .inr (by omega)⟩
-- laws_szOp
theorem szOp_v (a : Int) (l : List Int) (left : Int) (hl : l.length ≤ 9223372036854775807) (h0 : 0 ≤ left) (h1 : left ≤ 1048576) :
    ∃ r, laws_szOp.f a l left = some r ∧ (r < 0 ∨ (0 ≤ r ∧ r ≤ left ∧ l.length ≤ 1048576)) := by
  obtain ⟨r, hr, h⟩ := szIntS_v l left hl h0 h1
  unfold laws_szOp.f
  rw [hr]; simp only [Option.bind_some]
  by_cases c : r < 0
  · rw [if_pos c]; exact ⟨_, rfl, .inl (by omega)⟩
  · rw [if_neg c]; exact ⟨_, rfl, h⟩
-- laws_szOpS
theorem rdTL_at {ops : List S102} {q : Nat} (hq : q < ops.length) : rd_T102 ops (q : Int) = ops[q] := getD_at hq
theorem szOpS_l (ops : List S102) (hl : ops.length ≤ 9223372036854775807) (ho : ∀ o ∈ ops, o.f1.length ≤ 9223372036854775807) : ∀ (d j : Nat) (left : Int), j + d = ops.length → 0 ≤ left → left ≤ 1048576 →
    ∃ r, Ev (fun k => laws_szOpS.l0 k ops left (j : Int)) r ∧ (r < 0 ∨ (0 ≤ r ∧ r ≤ left ∧ ∀ o ∈ ops.drop j, o.f1.length ≤ 1048576)) := by
  intro d
  induction d with
  | zero =>
    intro j left hj h0 h1
    refine ⟨left, Ev.succ ?_, .inr ⟨h0, Int.le_refl _, ?_⟩⟩
    · simp only [laws_szOpS.l0]
      exact Ev.neg (by omega) (Ev.now _)
    · rw [List.drop_of_length_le (by omega)]; simp
  | succ d ih =>
    intro j left hj h0 h1
    have hlt : j < ops.length := by omega
    obtain ⟨r, hr, h⟩ := szOp_v ops[j].f0 ops[j].f1 left (ho _ (List.getElem_mem hlt)) h0 h1
    by_cases c : r < 0
    · refine ⟨-1, Ev.succ ?_, .inl (by omega)⟩
      simp only [laws_szOpS.l0, rdTL_at hlt]
      exact Ev.pos (by omega) (Ev.pos (by omega) (Ev.bound hr (Ev.pos c (Ev.now _))))
    · obtain ⟨h2, h3, h4⟩ : 0 ≤ r ∧ r ≤ left ∧ ops[j].f1.length ≤ 1048576 := by omega
      obtain ⟨r', hr', h'⟩ := ih (j + 1) r (by omega) h2 (by omega)
      refine ⟨r', Ev.succ ?_, ?_⟩
      · simp only [laws_szOpS.l0, rdTL_at hlt, w64s hlt hl]
        exact Ev.pos (by omega) (Ev.pos (by omega) (Ev.bound hr (Ev.neg c hr')))
      · rcases h' with h' | ⟨h5, h6, h7⟩
        · exact .inl h'
        · refine .inr ⟨h5, by omega, ?_⟩
          rw [drop_cons hlt]
          intro o ho'
          rcases List.mem_cons.1 ho' with rfl | ho'
          · exact h4
          · exact h7 o ho'
/-- The tables are short. -/
def SmallA (ops : List S102) : Prop := ops.length ≤ 1048576 ∧ ∀ o ∈ ops, o.f1.length ≤ 1048576
theorem szOpS_v (ops : List S102) (left : Int) (hl : ops.length ≤ 9223372036854775807) (ho : ∀ o ∈ ops, o.f1.length ≤ 9223372036854775807) (h0 : 0 ≤ left) (h1 : left ≤ 1048576) :
    ∃ r, Ev (fun k => laws_szOpS.f k ops left) r ∧ (r < 0 ∨ (0 ≤ r ∧ r ≤ left ∧ SmallA ops)) := by
  by_cases c : left - (ops.length : Int) < 0
  · refine ⟨-1, ?_, .inl (by omega)⟩
    unfold laws_szOpS.f
    rw [w64 (by omega)]
    exact Ev.pos c (Ev.now _)
  · obtain ⟨r, hr, h⟩ := szOpS_l ops hl ho ops.length 0 (left - (ops.length : Int)) (by omega) (by omega) (by omega)
    refine ⟨r, ?_, ?_⟩
    · unfold laws_szOpS.f
      rw [w64 (by omega)]
      exact Ev.neg c hr
    · rcases h with h | ⟨h2, h3, h4⟩
      · exact .inl h
      · exact .inr ⟨h2, by omega, by omega, h4⟩
-- laws_szAlgebra
theorem szAlgebra_v (n : Int) (ops : List S102) (left : Int) (hl : ops.length ≤ 9223372036854775807) (ho : ∀ o ∈ ops, o.f1.length ≤ 9223372036854775807) (h0 : 0 ≤ left) (h1 : left ≤ 1048576) :
    ∃ r, Ev (fun k => laws_szAlgebra.f k n ops left) r ∧ (r < 0 ∨ (0 ≤ r ∧ r ≤ left ∧ SmallA ops)) := by
  obtain ⟨r, hr, h⟩ := szOpS_v ops left hl ho h0 h1
  by_cases c : r < 0
  · refine ⟨-1, ?_, .inl (by omega)⟩
    unfold laws_szAlgebra.f
    exact Ev.bind hr (Ev.pos c (Ev.now _))
  · refine ⟨r, ?_, h⟩
    unfold laws_szAlgebra.f
    exact Ev.bind hr (Ev.neg c (Ev.now _))
-- laws_toIntS
theorem toIntS_l (l : List Int) (hl : l.length ≤ 1048576) : ∀ (d j : Nat), j + d = l.length → Ev (fun k => laws_toIntS.l0 k l (l.take j ++ List.replicate d 0) (j : Int)) l := by
  intro d
  induction d with
  | zero =>
    intro j hj
    refine Ev.succ ?_
    simp only [laws_toIntS.l0]
    refine Ev.neg (by omega) (Ev.const ?_)
    rw [List.take_of_length_le (by omega)]; simp
  | succ d ih =>
    intro j hj
    have hlt : j < l.length := by omega
    refine Ev.succ ?_
    simp only [laws_toIntS.l0, rd_at hlt, w64s hlt (by omega : l.length ≤ 9223372036854775807), Int.toNat_natCast]
    refine Ev.pos (by omega) (Ev.pos (by omega) (Ev.pos (by simp; omega) ?_))
    rw [List.replicate_succ, set_mid _ _ _ _ j (by simp; omega)]
    have := ih (j + 1) (by omega)
    rw [take_snoc hlt, List.append_assoc] at this
    exact this
theorem toIntS_v (l : List Int) (hl : l.length ≤ 1048576) : Ev (fun k => laws_toIntS.f k l) l := by
  unfold laws_toIntS.f
  rw [Int.toNat_natCast]
  exact Ev.pos (by omega) (Ev.pos (by omega) (toIntS_l l hl l.length 0 (by omega)))
-- laws_toOp
theorem toOp_v (a : Int) (l : List Int) (hl : l.length ≤ 1048576) : Ev (fun k => laws_toOp.f k a l) (a, l) := by
  unfold laws_toOp.f
  exact Ev.bind (toIntS_v l hl) (Ev.now _)
-- laws_toOpS
def cvOp (o : S102) : S77 := ⟨o.f0, o.f1⟩
theorem toOpS_l (ops : List S102) (hl : ops.length ≤ 1048576) (ho : ∀ o ∈ ops, o.f1.length ≤ 1048576) : ∀ (d j : Nat), j + d = ops.length → Ev (fun k => laws_toOpS.l0 k ops ((ops.map cvOp).take j ++ List.replicate d z77) (j : Int)) (ops.map cvOp) := by
  intro d
  induction d with
  | zero =>
    intro j hj
    refine Ev.succ ?_
    simp only [laws_toOpS.l0]
    refine Ev.neg (by omega) (Ev.const ?_)
    rw [List.take_of_length_le (by simp; omega)]; simp
  | succ d ih =>
    intro j hj
    have hlt : j < ops.length := by omega
    have hlt' : j < (ops.map cvOp).length := by simpa using hlt
    refine Ev.succ ?_
    simp only [laws_toOpS.l0, rdTL_at hlt, w64s hlt (by omega : ops.length ≤ 9223372036854775807), Int.toNat_natCast]
    refine Ev.pos (by omega) (Ev.pos (by omega) (Ev.bind (toOp_v _ _ (ho _ (List.getElem_mem hlt))) (Ev.pos (by simp; omega) ?_)))
    rw [List.replicate_succ, set_mid _ _ _ _ j (by simp; omega)]
    have := ih (j + 1) (by omega)
    rw [take_snoc hlt', List.append_assoc, List.getElem_map] at this
    exact this
theorem toOpS_v (ops : List S102) (h : SmallA ops) : Ev (fun k => laws_toOpS.f k ops) (ops.map cvOp) := by
  unfold laws_toOpS.f
  rw [Int.toNat_natCast]
  exact Ev.pos (by omega) (Ev.pos (by have := h.1; omega) (toOpS_l ops h.1 h.2 ops.length 0 (by omega)))
-- laws_toAlgebra
theorem toAlgebra_v (n : Int) (ops : List S102) (h : SmallA ops) : Ev (fun k => laws_toAlgebra.f k n ops) (n, ops.map cvOp) := by
  unfold laws_toAlgebra.f
  exact Ev.bind (toOpS_v ops h) (Ev.now _)
-- laws_eqIntS
theorem eqIntS_l (l : List Int) (hl : l.length ≤ 9223372036854775807) : ∀ (d j : Nat), j + d = l.length → Ev (fun k => laws_eqIntS.l0 k l l (j : Int)) true := by
  intro d
  induction d with
  | zero =>
    intro j hj
    refine Ev.succ ?_
    simp only [laws_eqIntS.l0]
    exact Ev.neg (by omega) (Ev.now _)
  | succ d ih =>
    intro j hj
    have hlt : j < l.length := by omega
    refine Ev.succ ?_
    simp only [laws_eqIntS.l0, w64s hlt hl]
    exact Ev.pos (by omega) (Ev.pos (by omega) (Ev.pos (by omega) (Ev.pos trivial (ih (j + 1) (by omega)))))
theorem eqIntS_v (l : List Int) (hl : l.length ≤ 9223372036854775807) : Ev (fun k => laws_eqIntS.f k l l) true := by
  unfold laws_eqIntS.f
  exact Ev.pos rfl (eqIntS_l l hl l.length 0 (by omega))
-- laws_eqOp
theorem eqOp_v (a : Int) (l : List Int) (hl : l.length ≤ 9223372036854775807) : Ev (fun k => laws_eqOp.f k a l a l) true := by
  unfold laws_eqOp.f
  exact Ev.pos rfl (Ev.bind (eqIntS_v l hl) (Ev.pos rfl (Ev.now _)))
-- laws_toOpS
theorem rdT_at {ops : List S77} {q : Nat} (hq : q < ops.length) : rd_T77 ops (q : Int) = ops[q] := getD_at hq
-- laws_eqOpS
theorem eqOpS_l (l : List S77) (hl : l.length ≤ 9223372036854775807) (ho : ∀ o ∈ l, o.f1.length ≤ 9223372036854775807) : ∀ (d j : Nat), j + d = l.length → Ev (fun k => laws_eqOpS.l0 k l l (j : Int)) true := by
  intro d
  induction d with
  | zero =>
    intro j hj
    refine Ev.succ ?_
    simp only [laws_eqOpS.l0]
    exact Ev.neg (by omega) (Ev.now _)
  | succ d ih =>
    intro j hj
    have hlt : j < l.length := by omega
    refine Ev.succ ?_
    simp only [laws_eqOpS.l0, rdT_at hlt, w64s hlt hl]
    exact Ev.pos (by omega) (Ev.pos (by omega) (Ev.pos (by omega) (Ev.bind (eqOp_v _ _ (ho _ (List.getElem_mem hlt))) (Ev.pos rfl (ih (j + 1) (by omega))))))
theorem eqOpS_v (l : List S77) (hl : l.length ≤ 9223372036854775807) (ho : ∀ o ∈ l, o.f1.length ≤ 9223372036854775807) : Ev (fun k => laws_eqOpS.f k l l) true := by
  unfold laws_eqOpS.f
  exact Ev.pos rfl (eqOpS_l l hl ho l.length 0 (by omega))
-- laws_eqAlgebra
theorem eqAlgebra_v (n : Int) (l : List S77) (hl : l.length ≤ 9223372036854775807) (ho : ∀ o ∈ l, o.f1.length ≤ 9223372036854775807) : Ev (fun k => laws_eqAlgebra.f k n l n l) true := by
  unfold laws_eqAlgebra.f
  exact Ev.pos rfl (Ev.bind (eqOpS_v l hl ho) (Ev.pos rfl (Ev.now _)))
theorem eqAlgebra_cv (n : Int) (ops : List S102) (h : SmallA ops) : Ev (fun k => laws_eqAlgebra.f k n (ops.map cvOp) n (ops.map cvOp)) true := by
  refine eqAlgebra_v n _ (by have := h.1; simp; omega) ?_
  intro o ho
  obtain ⟨q, hq, rfl⟩ := List.mem_map.1 ho
  have := h.2 q hq
  show q.f1.length ≤ _
  omega
-- spec_l1In
theorem l1In_v (a b c : Int) : spec_l1In.f a b c = some (decide (b ≤ a ∧ a ≤ c)) := by
  unfold spec_l1In.f
  by_cases h : a ≥ b
  · rw [if_pos h]; congr 1; exact decide_eq_decide.2 ⟨fun k => ⟨h, k⟩, fun k => k.2⟩
  · rw [if_neg h]; congr 1; exact (decide_eq_false (fun k => h k.1)).symm
theorem l1In_yes {a b c : Int} (h : b ≤ a ∧ a ≤ c) : spec_l1In.f a b c = some true := by rw [l1In_v, decide_eq_true h]
theorem l1In_no {a b c : Int} (h : ¬ (b ≤ a ∧ a ≤ c)) : spec_l1In.f a b c = some false := by rw [l1In_v, decide_eq_false h]
-- impl_IsAlgebra
/-- A power of a size stays small. -/
theorem pow_bd {n : Int} (h1 : 1 ≤ n) (h8 : n ≤ 8) : ∀ {i : Nat}, i ≤ 6 → 1 ≤ n ^ i ∧ n ^ i ≤ 262144 := by
  intro i hi
  obtain ⟨m, rfl⟩ := int_nat (show 0 ≤ n by omega)
  have e : ((m : Int)) ^ i = ((m ^ i : Nat) : Int) := by rw [Int.natCast_pow]
  rw [e]
  have a1 : m ^ i ≤ 8 ^ i := Nat.pow_le_pow_left (by omega) i
  have a2 : (8 : Nat) ^ i ≤ 8 ^ 6 := Nat.pow_le_pow_right (by omega) hi
  have a3 : 0 < m ^ i := Nat.pow_pos (by omega)
  have a4 : (8 : Nat) ^ 6 = 262144 := by decide
  omega
theorem pow_next (n : Int) (i : Nat) : n ^ (i + 1) = n ^ i * n := Int.pow_succ n i
theorem mul_bd {a b A B : Int} (ha : 0 ≤ a) (hA : a ≤ A) (hb : 0 ≤ b) (hB : b ≤ B) : 0 ≤ a * b ∧ a * b ≤ A * B :=
  ⟨Int.mul_nonneg ha hb, Int.mul_le_mul hA hB hb (by omega)⟩
def okOp (n a : Int) (l : List Int) : Prop := 0 ≤ a ∧ a ≤ 3 ∧ (l.length : Int) = n ^ a.toNat ∧ ∀ x ∈ l, 0 ≤ x ∧ x < n
instance (n a : Int) (l : List Int) : Decidable (okOp n a l) := by unfold okOp; infer_instance
def okAlg (n : Int) (ops : List S77) : Prop := 1 ≤ n ∧ n ≤ 8 ∧ ops.length ≤ 4 ∧ ∀ o ∈ ops, okOp n o.f0 o.f1
instance (n : Int) (ops : List S77) : Decidable (okAlg n ops) := by unfold okAlg; infer_instance
theorem all_drop {P : Int → Prop} {l : List Int} {j : Nat} (h : j < l.length) : (∀ x ∈ l.drop j, P x) ↔ P l[j] ∧ ∀ x ∈ l.drop (j + 1), P x := by
  rw [drop_cons h, List.forall_mem_cons]
theorem allOp_drop {P : S77 → Prop} {l : List S77} {j : Nat} (h : j < l.length) : (∀ x ∈ l.drop j, P x) ↔ P l[j] ∧ ∀ x ∈ l.drop (j + 1), P x := by
  rw [drop_cons h, List.forall_mem_cons]
-- spec_l2Pow
theorem l2Pow_l {n : Int} (h1 : 1 ≤ n) (h8 : n ≤ 8) : ∀ (d i : Nat), i + d ≤ 6 → Ev (fun k => spec_l2Pow.l0 k n (d : Int) (n ^ i)) (n ^ (i + d)) := by
  intro d
  induction d with
  | zero =>
    intro i hi
    refine Ev.succ ?_
    simp only [spec_l2Pow.l0]
    exact Ev.neg (by omega) (Ev.now _)
  | succ d ih =>
    intro i hi
    have hp := pow_bd h1 h8 (show i + 1 ≤ 6 by omega)
    refine Ev.succ ?_
    simp only [spec_l2Pow.l0]
    rw [← pow_next, w64 (by omega), w64 (by omega), show ((d + 1 : Nat) : Int) - 1 = (d : Int) by omega]
    refine Ev.pos (by omega) ?_
    have := ih (i + 1) (by omega)
    rwa [show i + 1 + d = i + (d + 1) by omega] at this
theorem l2Pow_v {n e : Int} (h1 : 1 ≤ n) (h8 : n ≤ 8) (h0 : 0 ≤ e) (h6 : e ≤ 6) : Ev (fun k => spec_l2Pow.f k n e) (n ^ e.toNat) := by
  obtain ⟨d, rfl⟩ := int_nat h0
  have := l2Pow_l h1 h8 d 0 (by omega)
  rw [Nat.zero_add, Int.pow_zero] at this
  rw [Int.toNat_natCast]
  exact this
-- impl_power
theorem power_l {n : Int} (h1 : 1 ≤ n) (h8 : n ≤ 8) : ∀ (d i : Nat), i + d ≤ 6 → Ev (fun k => impl_power.l0 k n (d : Int) (n ^ i)) (n ^ (i + d)) := by
  intro d
  induction d with
  | zero =>
    intro i hi
    refine Ev.succ ?_
    simp only [impl_power.l0]
    exact Ev.neg (by omega) (Ev.now _)
  | succ d ih =>
    intro i hi
    have hp := pow_bd h1 h8 (show i + 1 ≤ 6 by omega)
    refine Ev.succ ?_
    simp only [impl_power.l0]
    rw [← pow_next, w64 (by omega), w64 (by omega), show ((d + 1 : Nat) : Int) - 1 = (d : Int) by omega]
    refine Ev.pos (by omega) ?_
    have := ih (i + 1) (by omega)
    rwa [show i + 1 + d = i + (d + 1) by omega] at this
theorem power_v {n e : Int} (h1 : 1 ≤ n) (h8 : n ≤ 8) (h0 : 0 ≤ e) (h6 : e ≤ 6) : Ev (fun k => impl_power.f k n e) (n ^ e.toNat) := by
  obtain ⟨d, rfl⟩ := int_nat h0
  have := power_l h1 h8 d 0 (by omega)
  rw [Nat.zero_add, Int.pow_zero] at this
  rw [Int.toNat_natCast]
  exact this
-- spec_l2Op
theorem l2Op_l {n a : Int} (l : List Int) (h1 : 1 ≤ n) (h8 : n ≤ 8) (hl : l.length ≤ 9223372036854775807) : ∀ (d j : Nat), j + d = l.length →
    Ev (fun k => spec_l2Op.l0 k n (j : Int) a l) (decide (∀ x ∈ l.drop j, 0 ≤ x ∧ x < n)) := by
  intro d
  induction d with
  | zero =>
    intro j hj
    refine Ev.succ ?_
    simp only [spec_l2Op.l0]
    refine Ev.neg (by omega) (Ev.const ?_)
    rw [List.drop_of_length_le (by omega)]; simp
  | succ d ih =>
    intro j hj
    have hlt : j < l.length := by omega
    refine Ev.succ ?_
    simp only [spec_l2Op.l0, rd_at hlt, w64s hlt hl]
    refine Ev.pos (by omega) (Ev.pos (by omega) ?_)
    by_cases c : 0 ≤ l[j] ∧ l[j] < n
    · refine Ev.bound (l1In_yes ?_) (Ev.pos rfl ?_)
      · rw [w64 (by omega)]; omega
      · refine Ev.eq (ih (j + 1) (by omega)) (decide_eq_decide.2 ?_)
        rw [all_drop hlt]
        exact ⟨fun h => ⟨c, h⟩, fun h => h.2⟩
    · refine Ev.bound (l1In_no ?_) (Ev.neg (by simp) (Ev.const ?_))
      · rw [w64 (by omega)]; omega
      · congr 1
        refine (decide_eq_false fun h => c ?_).symm
        exact ((all_drop hlt).1 h).1
theorem l2Op_v {n : Int} (a : Int) (l : List Int) (h1 : 1 ≤ n) (h8 : n ≤ 8) (hl : l.length ≤ 9223372036854775807) : Ev (fun k => spec_l2Op.f k n a l) (decide (okOp n a l)) := by
  unfold spec_l2Op.f
  by_cases c : 0 ≤ a ∧ a ≤ 3
  · refine Ev.bound (l1In_yes c) (Ev.pos rfl (Ev.bind (l2Pow_v h1 h8 c.1 (by omega)) (Ev.succ ?_)))
    simp only [spec_l2Op.j0]
    by_cases e : (l.length : Int) = n ^ a.toNat
    · refine Ev.neg (by simp [e]) (Ev.eq (l2Op_l l h1 h8 hl l.length 0 (by omega)) (decide_eq_decide.2 ?_))
      exact ⟨fun h => ⟨c.1, c.2, e, h⟩, fun h => h.2.2.2⟩
    · refine Ev.pos (by simp [e]) (Ev.const ?_)
      rw [decide_eq_false fun h => e h.2.2.1]
  · refine Ev.bound (l1In_no c) (Ev.neg (by simp) (Ev.succ ?_))
    simp only [spec_l2Op.j0]
    refine Ev.pos (by simp) (Ev.const ?_)
    rw [decide_eq_false fun h => c ⟨h.1, h.2.1⟩]
-- spec_l2Good
theorem l2Good_l {n : Int} (ops : List S77) (h1 : 1 ≤ n) (h8 : n ≤ 8) (hl : ops.length ≤ 4) (ho : ∀ o ∈ ops, o.f1.length ≤ 9223372036854775807) : ∀ (d j : Nat), j + d = ops.length →
    Ev (fun k => spec_l2Good.l0 k (j : Int) n ops) (decide (∀ o ∈ ops.drop j, okOp n o.f0 o.f1)) := by
  intro d
  induction d with
  | zero =>
    intro j hj
    refine Ev.succ ?_
    simp only [spec_l2Good.l0]
    refine Ev.neg (by omega) (Ev.const ?_)
    rw [List.drop_of_length_le (by omega)]; simp
  | succ d ih =>
    intro j hj
    have hlt : j < ops.length := by omega
    refine Ev.succ ?_
    simp only [spec_l2Good.l0, rdT_at hlt, w64s hlt (by omega : ops.length ≤ 9223372036854775807)]
    refine Ev.pos (by omega) (Ev.pos (by omega) (Ev.bind (l2Op_v _ _ h1 h8 (ho _ (List.getElem_mem hlt))) ?_))
    by_cases c : okOp n ops[j].f0 ops[j].f1
    · refine Ev.pos (decide_eq_true c) (Ev.eq (ih (j + 1) (by omega)) (decide_eq_decide.2 ?_))
      rw [allOp_drop hlt]
      exact ⟨fun h => ⟨c, h⟩, fun h => h.2⟩
    · refine Ev.neg (by simp [c]) (Ev.const ?_)
      congr 1
      exact (decide_eq_false fun h => c ((allOp_drop hlt).1 h).1).symm
theorem l2Good_v (n : Int) (ops : List S77) (ho : ∀ o ∈ ops, o.f1.length ≤ 9223372036854775807) : Ev (fun k => spec_l2Good.f k n ops) (decide (okAlg n ops)) := by
  unfold spec_l2Good.f
  by_cases c : 1 ≤ n ∧ n ≤ 8
  · refine Ev.bound (l1In_yes c) (Ev.pos rfl (Ev.succ ?_))
    simp only [spec_l2Good.j0]
    by_cases e : ops.length ≤ 4
    · refine Ev.neg (by simp; omega) (Ev.eq (l2Good_l ops c.1 c.2 e ho ops.length 0 (by omega)) (decide_eq_decide.2 ?_))
      exact ⟨fun h => ⟨c.1, c.2, e, h⟩, fun h => h.2.2.2⟩
    · refine Ev.pos (by simp; omega) (Ev.const ?_)
      rw [decide_eq_false fun h => e h.2.2.1]
  · refine Ev.bound (l1In_no c) (Ev.neg (by simp) (Ev.succ ?_))
    simp only [spec_l2Good.j0]
    refine Ev.pos (by simp) (Ev.const ?_)
    rw [decide_eq_false fun h => c ⟨h.1, h.2.1⟩]
-- impl_inSize
theorem inSize_l {n : Int} (l : List Int) (hl : l.length ≤ 9223372036854775807) : ∀ (d j : Nat), j + d = l.length →
    Ev (fun k => impl_inSize.l0 k n l (l.length : Int) (j : Int)) (decide (∀ x ∈ l.drop j, 0 ≤ x ∧ x < n)) := by
  intro d
  induction d with
  | zero =>
    intro j hj
    refine Ev.succ ?_
    simp only [impl_inSize.l0]
    refine Ev.neg (by omega) (Ev.const ?_)
    rw [List.drop_of_length_le (by omega)]; simp
  | succ d ih =>
    intro j hj
    have hlt : j < l.length := by omega
    refine Ev.succ ?_
    simp only [impl_inSize.l0, rd_at hlt, w64s hlt hl]
    refine Ev.pos (by omega) (Ev.pos (by omega) (Ev.pos (by omega) (Ev.cases (fun c => ?_) (fun c => Ev.cases (fun c' => ?_) (fun c' => ?_)))))
    · refine Ev.const ?_
      congr 1
      exact (decide_eq_false fun h => by have := ((all_drop hlt).1 h).1; omega).symm
    · refine Ev.const ?_
      congr 1
      exact (decide_eq_false fun h => by have := ((all_drop hlt).1 h).1; omega).symm
    · refine Ev.eq (ih (j + 1) (by omega)) (decide_eq_decide.2 ?_)
      rw [all_drop hlt]
      exact ⟨fun h => ⟨by omega, h⟩, fun h => h.2⟩
theorem inSize_v (l : List Int) (n : Int) (hl : l.length ≤ 9223372036854775807) : Ev (fun k => impl_inSize.f k l n) (decide (∀ x ∈ l, 0 ≤ x ∧ x < n)) :=
  inSize_l l hl l.length 0 (by omega)
-- impl_isOp
theorem isOp_v {n : Int} (a : Int) (l : List Int) (h1 : 1 ≤ n) (h8 : n ≤ 8) (hl : l.length ≤ 9223372036854775807) : Ev (fun k => impl_isOp.f k a l n) (decide (okOp n a l)) := by
  unfold impl_isOp.f
  refine Ev.cases (fun c => Ev.cases (fun c' => Ev.bind (power_v h1 h8 c (by omega)) (Ev.cases (fun e => Ev.bind (inSize_v l n hl) (Ev.const ?_)) (fun e => Ev.const ?_))) (fun c' => Ev.const ?_)) (fun c => Ev.const ?_)
  · congr 1
    exact decide_eq_decide.2 ⟨fun h => ⟨c, c', e, h⟩, fun h => h.2.2.2⟩
  · rw [decide_eq_false fun h => e h.2.2.1]
  · rw [decide_eq_false fun h => c' h.2.1]
  · rw [decide_eq_false fun h => c h.1]
-- impl_IsAlgebra
theorem implIsAlgebra_l {n : Int} (ops : List S77) (h1 : 1 ≤ n) (h8 : n ≤ 8) (hl : ops.length ≤ 4) (ho : ∀ o ∈ ops, o.f1.length ≤ 9223372036854775807) : ∀ (d j : Nat), j + d = ops.length →
    Ev (fun k => impl_IsAlgebra.l0 k ops (ops.length : Int) (j : Int) n ops) (decide (∀ o ∈ ops.drop j, okOp n o.f0 o.f1)) := by
  intro d
  induction d with
  | zero =>
    intro j hj
    refine Ev.succ ?_
    simp only [impl_IsAlgebra.l0]
    refine Ev.neg (by omega) (Ev.const ?_)
    rw [List.drop_of_length_le (by omega)]; simp
  | succ d ih =>
    intro j hj
    have hlt : j < ops.length := by omega
    refine Ev.succ ?_
    simp only [impl_IsAlgebra.l0, rdT_at hlt, w64s hlt (by omega : ops.length ≤ 9223372036854775807)]
    refine Ev.pos (by omega) (Ev.pos (by omega) (Ev.pos (by omega) (Ev.bind (isOp_v _ _ h1 h8 (ho _ (List.getElem_mem hlt))) ?_)))
    by_cases c : okOp n ops[j].f0 ops[j].f1
    · refine Ev.pos (decide_eq_true c) (Ev.eq (ih (j + 1) (by omega)) (decide_eq_decide.2 ?_))
      rw [allOp_drop hlt]
      exact ⟨fun h => ⟨c, h⟩, fun h => h.2⟩
    · refine Ev.neg (by simp [c]) (Ev.const ?_)
      congr 1
      exact (decide_eq_false fun h => c ((allOp_drop hlt).1 h).1).symm
theorem implIsAlgebra_v (n : Int) (ops : List S77) (ho : ∀ o ∈ ops, o.f1.length ≤ 9223372036854775807) : Ev (fun k => impl_IsAlgebra.f k n ops) (decide (okAlg n ops)) := by
  unfold impl_IsAlgebra.f
  refine Ev.cases (fun c => Ev.succ ?_) (fun c => Ev.cases (fun c' => Ev.succ ?_) (fun c' => Ev.succ ?_))
  · simp only [impl_IsAlgebra.j0]
    refine Ev.pos trivial (Ev.const ?_)
    rw [decide_eq_false fun h => by have := h.1; omega]
  · simp only [impl_IsAlgebra.j0]
    refine Ev.pos trivial (Ev.const ?_)
    rw [decide_eq_false fun h => by have := h.2.1; omega]
  · simp only [impl_IsAlgebra.j0]
    by_cases e : ops.length ≤ 4
    · refine Ev.neg (by simp; omega) (Ev.eq (implIsAlgebra_l ops (by omega) (by omega) e ho ops.length 0 (by omega)) (decide_eq_decide.2 ?_))
      exact ⟨fun h => ⟨by omega, by omega, e, h⟩, fun h => h.2.2.2⟩
    · refine Ev.pos (by simp; omega) (Ev.const ?_)
      rw [decide_eq_false fun h => e h.2.2.1]
-- impl_IsAlgebra
def ixF (n i : Int) (l : List Int) : Int := l.foldl (fun i x => i * n + x) i
theorem ix2 (n x y : Int) : ixF n 0 [x, y] = x * n + y := by simp [ixF]
theorem ix3 (n x y z : Int) : ixF n 0 [x, y, z] = (x * n + y) * n + z := by simp [ixF]
theorem ix_step {n : Int} (h1 : 1 ≤ n) (h8 : n ≤ 8) {i x : Int} {j : Nat} (hj : j ≤ 5) (h0 : 0 ≤ i) (hi : i < n ^ j) (hx : 0 ≤ x ∧ x < n) :
    0 ≤ i * n + x ∧ i * n + x < n ^ (j + 1) ∧ wrap64 (wrap64 (i * n) + x) = i * n + x := by
  have hp := pow_bd h1 h8 (show j + 1 ≤ 6 by omega)
  have a := Int.mul_le_mul_of_nonneg_right (show i + 1 ≤ n ^ j by omega) (show 0 ≤ n by omega)
  rw [← pow_next, Int.add_mul, Int.one_mul] at a
  have b : 0 ≤ i * n := Int.mul_nonneg h0 (by omega)
  refine ⟨by omega, by omega, ?_⟩
  rw [w64 (n := i * n) (by omega), w64 (by omega)]
theorem ix_bd {n : Int} (h1 : 1 ≤ n) (h8 : n ≤ 8) : ∀ (l : List Int) (i : Int) (j : Nat), j + l.length ≤ 6 → (∀ x ∈ l, 0 ≤ x ∧ x < n) → 0 ≤ i → i < n ^ j → 0 ≤ ixF n i l ∧ ixF n i l < n ^ (j + l.length) := by
  intro l
  induction l with
  | nil => intro i j _ _ h0 hi; exact ⟨h0, hi⟩
  | cons x l ih =>
    intro i j hj hx h0 hi
    rw [List.length_cons] at hj
    obtain ⟨a, b, _⟩ := ix_step h1 h8 (show j ≤ 5 by omega) h0 hi (hx x (by simp))
    have := ih (i * n + x) (j + 1) (by omega) (fun y hy => hx y (by simp [hy])) a b
    rw [List.length_cons, show j + (l.length + 1) = j + 1 + l.length by omega]
    exact this
theorem idx2 {n x y : Int} (hx : 0 ≤ x ∧ x < n) (hy : 0 ≤ y ∧ y < n) (h8 : n ≤ 8) : 0 ≤ x * n + y ∧ x * n + y < n ^ 2 ∧ wrap64 (wrap64 (x * n) + y) = x * n + y := by
  have := ix_step (n := n) (by omega) h8 (show 1 ≤ 5 by omega) hx.1 (by rw [show (1 : Nat) = 0 + 1 from rfl, Int.pow_succ, Int.pow_zero]; omega) hy
  exact this
theorem okAlg_op {n : Int} {ops : List S77} (h : okAlg n ops) {q : Nat} (hq : q < ops.length) : okOp n ops[q].f0 ops[q].f1 := h.2.2.2 _ (List.getElem_mem hq)
theorem rd_in {n : Int} {l : List Int} (h : ∀ x ∈ l, 0 ≤ x ∧ x < n) {i : Int} (h0 : 0 ≤ i) (h1 : i < l.length) : 0 ≤ rd l i ∧ rd l i < n := by
  obtain ⟨m, rfl⟩ := int_nat h0
  rw [rd_at (by omega)]
  exact h _ (List.getElem_mem _)
-- spec_l2Elements
theorem l2Elements_l {n : Int} (hn : I64 n) (l : List Int) (hl : l.length ≤ 9223372036854775807) : ∀ (d j : Nat), j + d = l.length → (0 < d → -9223372036854775807 ≤ n) →
    Ev (fun k => spec_l2Elements.l0 k n l (j : Int)) (decide (∀ x ∈ l.drop j, 0 ≤ x ∧ x < n)) := by
  intro d
  induction d with
  | zero =>
    intro j hj _
    refine Ev.succ ?_
    simp only [spec_l2Elements.l0]
    refine Ev.neg (by omega) (Ev.const ?_)
    rw [List.drop_of_length_le (by omega)]; simp
  | succ d ih =>
    intro j hj hm
    have hlt : j < l.length := by omega
    have hm' := hm (by omega)
    refine Ev.succ ?_
    simp only [spec_l2Elements.l0, rd_at hlt, w64s hlt hl]
    refine Ev.pos (by omega) (Ev.pos (by omega) ?_)
    unfold I64 at hn
    by_cases c : 0 ≤ l[j] ∧ l[j] < n
    · refine Ev.bound (l1In_yes ?_) (Ev.pos rfl ?_)
      · rw [w64 (by omega)]; omega
      · refine Ev.eq (ih (j + 1) (by omega) (fun _ => hm')) (decide_eq_decide.2 ?_)
        rw [all_drop hlt]
        exact ⟨fun h => ⟨c, h⟩, fun h => h.2⟩
    · refine Ev.bound (l1In_no ?_) (Ev.neg (by simp) (Ev.const ?_))
      · rw [w64 (by omega)]; omega
      · congr 1
        refine (decide_eq_false fun h => c ?_).symm
        exact ((all_drop hlt).1 h).1
theorem l2Elements_v (n : Int) (h0 : 0 ≤ n) (h1 : n ≤ 9223372036854775807) (l : List Int) (hl : l.length ≤ 9223372036854775807) : Ev (fun k => spec_l2Elements.f k n l) (decide (∀ x ∈ l, 0 ≤ x ∧ x < n)) :=
  l2Elements_l ⟨by omega, h1⟩ l hl l.length 0 (by omega) (fun _ => by omega)
-- laws_toAlgebra
/-- What is known of an argument that is an algebra. -/
def WfOp (o : S102) : Prop := I64 o.f0 ∧ o.f1.length ≤ 9223372036854775807 ∧ ∀ x ∈ o.f1, I64 x
theorem short_cv {ops : List S102} (h : SmallA ops) : ∀ o ∈ ops.map cvOp, o.f1.length ≤ 9223372036854775807 := by
  intro o ho
  obtain ⟨q, hq, rfl⟩ := List.mem_map.1 ho
  have := h.2 q hq
  show q.f1.length ≤ _
  omega
/-- The law's guard on the size of an algebra: either it is too large and the law is true, or its tables are short. -/
theorem szAlgebra_law {g : Nat → Int → Option Bool} {n : Int} {ops : List S102} {left : Int} (hl : ops.length ≤ 9223372036854775807) (ho : ∀ o ∈ ops, WfOp o) (h0 : 0 ≤ left) (h1 : left ≤ 1048576)
    (h : SmallA ops → ∀ r, 0 ≤ r → r ≤ 1048576 → Ev (fun k => g k r) true) : Ev (fun k => (laws_szAlgebra.f k n ops left).bind fun t => if t < 0 then some true else g k t) true := by
  obtain ⟨r, hr, c⟩ := szAlgebra_v n ops left hl (fun o h => (ho o h).2.1) h0 h1
  refine Ev.bind hr (Ev.cases (fun _ => Ev.now _) (fun d => h ?_ r (by omega) (by omega)))
  rcases c with c | c
  · omega
  · exact c.2.2
-- laws_markIntS
/-- The numbers that a mark writes: so many, rising from a. -/
def seqI (a : Int) (n : Nat) : List Int := (List.range n).map fun i : Nat => a + (i : Int)
theorem seqI_len (a : Int) (n : Nat) : (seqI a n).length = n := by simp [seqI]
theorem seqI_at {a : Int} {n j : Nat} (h : j < (seqI a n).length) : (seqI a n)[j] = a + (j : Int) := by simp [seqI]
theorem seqI_succ (a : Int) (n : Nat) : seqI a (n + 1) = seqI a n ++ [a + (n : Int)] := by simp [seqI, List.range_succ]
theorem markIntS_l (l : List Int) (a : Int) (h0 : 0 ≤ a) (h1 : a ≤ 4611686018427387904) (hl : l.length ≤ 1099511627776) : ∀ (d j : Nat), j + d = l.length →
    Ev (fun k => laws_markIntS.l0 k (seqI a j ++ l.drop j) (a + (j : Int)) (j : Int)) (a + (l.length : Int), seqI a l.length) := by
  intro d
  induction d with
  | zero =>
    intro j hj
    obtain rfl : j = l.length := by omega
    refine Ev.succ ?_
    simp only [laws_markIntS.l0]
    refine Ev.neg (by simp [seqI_len]) (Ev.const ?_)
    rw [List.drop_of_length_le (Nat.le_refl _), List.append_nil]
  | succ d ih =>
    intro j hj
    have hlt : j < l.length := by omega
    refine Ev.succ ?_
    simp only [laws_markIntS.l0, w64s hlt (by omega : l.length ≤ 9223372036854775807), Int.toNat_natCast]
    rw [w64 (n := a + (j : Int) + 1) (by omega)]
    refine Ev.pos (by simp [seqI_len]; omega) (Ev.pos (by omega) ?_)
    rw [drop_cons hlt, set_mid _ _ _ _ j (seqI_len a j)]
    have := ih (j + 1) (by omega)
    rw [seqI_succ, List.append_assoc, show a + ((j + 1 : Nat) : Int) = a + (j : Int) + 1 from by omega] at this
    exact this
theorem markIntS_v (l : List Int) (a : Int) (h0 : 0 ≤ a) (h1 : a ≤ 4611686018427387904) (hl : l.length ≤ 1099511627776) : Ev (fun k => laws_markIntS.f k l a) (a + (l.length : Int), seqI a l.length) := by
  unfold laws_markIntS.f
  have := markIntS_l l a h0 h1 hl l.length 0 (by omega)
  simpa [seqI] using this
-- laws_markIntS laws_heldIntS
theorem heldIntS_l (n : Nat) (a : Int) (h0 : 0 ≤ a) (h1 : a ≤ 4611686018427387904) (hn : n ≤ 1099511627776) : ∀ (d j : Nat), j + d = n →
    Ev (fun k => laws_heldIntS.l0 k (seqI a n) (a + (j : Int)) (j : Int)) (a + (n : Int)) := by
  intro d
  induction d with
  | zero =>
    intro j hj
    obtain rfl : j = n := by omega
    refine Ev.succ ?_
    simp only [laws_heldIntS.l0]
    exact Ev.neg (by simp [seqI_len]) (Ev.const rfl)
  | succ d ih =>
    intro j hj
    have hlt : j < (seqI a n).length := by rw [seqI_len]; omega
    refine Ev.succ ?_
    simp only [laws_heldIntS.l0, rd_at hlt, seqI_at hlt, w64s (show j < n by omega) (by omega : n ≤ 9223372036854775807)]
    rw [w64 (n := a + (j : Int) + 1) (by omega)]
    refine Ev.pos (by rw [seqI_len]; omega) (Ev.pos (by omega) (Ev.pos trivial ?_))
    have := ih (j + 1) (by omega)
    rw [show a + ((j + 1 : Nat) : Int) = a + (j : Int) + 1 from by omega] at this
    exact this
theorem heldIntS_v (n : Nat) (a : Int) (h0 : 0 ≤ a) (h1 : a ≤ 4611686018427387904) (hn : n ≤ 1099511627776) : Ev (fun k => laws_heldIntS.f k (seqI a n) a) (a + (n : Int)) := by
  unfold laws_heldIntS.f
  have := heldIntS_l n a h0 h1 hn n 0 (by omega)
  simpa using this
-- laws_markOpS
/-- What a mark makes of operations: the next number, and the operations. -/
def mkOps : Int → List S77 → Int × List S77
  | a, [] => (a, [])
  | a, o :: os => ((mkOps (a + 1 + (o.f1.length : Int)) os).1, ⟨a, seqI (a + 1) o.f1.length⟩ :: (mkOps (a + 1 + (o.f1.length : Int)) os).2)
theorem mkOps_len : ∀ (os : List S77) (a : Int), (mkOps a os).2.length = os.length
  | [], _ => rfl
  | _ :: os, a => by simp [mkOps, mkOps_len os]
theorem mkOps_bd : ∀ (os : List S77) (a : Int), (∀ o ∈ os, o.f1.length ≤ 1048576) → a ≤ (mkOps a os).1 ∧ (mkOps a os).1 ≤ a + (os.length : Int) * 1048577
  | [], a, _ => by simp [mkOps]
  | o :: os, a, h => by
    have := mkOps_bd os (a + 1 + (o.f1.length : Int)) (fun q hq => h q (List.mem_cons_of_mem _ hq))
    have := h o List.mem_cons_self
    simp only [mkOps, List.length_cons]
    omega
theorem markOpS_l : ∀ (os pre : List S77) (a : Int), 0 ≤ a → a + (os.length : Int) * 1048577 ≤ 2305843009213693952 → pre.length + os.length ≤ 1048576 → (∀ o ∈ os, o.f1.length ≤ 1048576) →
    Ev (fun k => laws_markOpS.l0 k (pre ++ os) a (pre.length : Int)) ((mkOps a os).1, pre ++ (mkOps a os).2) := by
  intro os
  induction os with
  | nil =>
    intro pre a h0 h1 hl ho
    refine Ev.succ ?_
    simp only [laws_markOpS.l0]
    exact Ev.neg (by simp) (Ev.const rfl)
  | cons o os ih =>
    intro pre a h0 h1 hl ho
    have hlt : pre.length < (pre ++ o :: os).length := by simp
    have ho1 := ho o List.mem_cons_self
    simp only [List.length_cons] at h1 hl
    refine Ev.succ ?_
    simp only [laws_markOpS.l0, rdT_at hlt, w64s (show pre.length < 1048577 by omega) (by omega), Int.toNat_natCast]
    rw [w64 (n := a + 1) (by omega)]
    refine Ev.pos (by simp; omega) (Ev.pos (by omega) ?_)
    have e : (pre ++ o :: os)[pre.length] = o := by simp
    rw [e]
    refine Ev.bind (markIntS_v o.f1 (a + 1) (by omega) (by omega) (by omega)) ?_
    rw [set_mid _ _ _ _ pre.length rfl]
    have := ih (pre ++ [⟨a, seqI (a + 1) o.f1.length⟩]) (a + 1 + (o.f1.length : Int)) (by omega) (by omega) (by simp; omega) (fun q hq => ho q (List.mem_cons_of_mem _ hq))
    simpa [mkOps, List.append_assoc] using this
-- laws_markAlgebra
theorem markAlgebra_v (n : Int) (os : List S77) (a : Int) (h0 : 0 ≤ a) (h1 : a ≤ 1048576) (hl : os.length ≤ 1048576) (ho : ∀ o ∈ os, o.f1.length ≤ 1048576) : Ev (fun k => laws_markAlgebra.f k n os a) (mkOps a os) := by
  unfold laws_markAlgebra.f laws_markOpS.f
  have := markOpS_l os [] a h0 (by omega) (by simpa using hl) ho
  simpa using this
theorem small_cv {ops : List S102} (h : SmallA ops) : ∀ o ∈ ops.map cvOp, o.f1.length ≤ 1048576 := by
  intro o hm
  obtain ⟨q, hq, rfl⟩ := List.mem_map.1 hm
  exact h.2 q hq
theorem markAlgebra_cv (n : Int) (ops : List S102) (h : SmallA ops) (a : Int) (h0 : 0 ≤ a) (h1 : a ≤ 1048576) : ∃ r, Ev (fun k => laws_markAlgebra.f k n (ops.map cvOp) a) r ∧ ¬ r.1 < 0 ∧ r.1 ≤ a + 1099512676352 := by
  have hl : (ops.map cvOp).length ≤ 1048576 := by simpa using h.1
  have ho : ∀ o ∈ ops.map cvOp, o.f1.length ≤ 1048576 := by
    intro o hm
    obtain ⟨q, hq, rfl⟩ := List.mem_map.1 hm
    exact h.2 q hq
  have := mkOps_bd (ops.map cvOp) a ho
  exact ⟨_, markAlgebra_v n _ a h0 h1 hl ho, by omega, by omega⟩
-- spec_l1In
theorem l1In_int (a b c : Int) (P : Prop) [Decidable P] (h : (b ≤ a ∧ a ≤ c) ↔ P) : spec_l1In.f a b c = some (decide P) := by
  rw [l1In_v]; congr 1; exact decide_eq_decide.2 h
-- impl_marked
/-- The numbers from i on, so many, of which p holds. -/
def fl (p : Nat → Bool) : Nat → Nat → List Int
  | _, 0 => []
  | i, n + 1 => if p i = true then (i : Int) :: fl p (i + 1) n else fl p (i + 1) n
theorem fl_len (p : Nat → Bool) : ∀ n i, (fl p i n).length ≤ n
  | 0, _ => by simp [fl]
  | n + 1, i => by
    have := fl_len p n (i + 1)
    unfold fl
    split
    · simp only [List.length_cons]; omega
    · omega
theorem fl_congr {p q : Nat → Bool} : ∀ n i, (∀ x, i ≤ x → p x = q x) → fl p i n = fl q i n
  | 0, _, _ => rfl
  | n + 1, i, h => by
    unfold fl
    rw [h i (Nat.le_refl _), fl_congr n (i + 1) (fun x hx => h x (by omega))]
theorem rep_false (n i : Nat) : (List.replicate n false).getD i false = false := by
  rw [List.getD_eq_getElem?_getD]
  by_cases h : i < n
  · rw [List.getElem?_eq_getElem (by simpa using h)]; simp
  · rw [List.getElem?_eq_none (by simpa using h)]; rfl
theorem fl_none : ∀ n i, fl (fun _ => false) i n = []
  | 0, _ => rfl
  | n + 1, i => by unfold fl; rw [if_neg (by simp), fl_none n (i + 1)]
theorem marked_l (h : List Bool) (p : Nat → Bool) (hp : ∀ i, i < h.length → h.getD i false = p i) (hl : h.length ≤ 1048576) : ∀ (d j : Nat) (acc : List Int), j + d = h.length → acc.length ≤ j →
    Ev (fun k => impl_marked.l0 k acc h (h.length : Int) (j : Int)) (acc ++ fl p j d) := by
  intro d
  induction d with
  | zero =>
    intro j acc hj ha
    refine Ev.succ ?_
    simp only [impl_marked.l0]
    refine Ev.neg (by omega) (Ev.const ?_)
    simp [fl]
  | succ d ih =>
    intro j acc hj ha
    have hlt : j < h.length := by omega
    have e : rdOf false h (j : Int) = p j := hp j hlt
    refine Ev.succ ?_
    simp only [impl_marked.l0, e, w64s hlt (by omega : h.length ≤ 9223372036854775807)]
    refine Ev.pos (by omega) (Ev.pos (by omega) (Ev.pos (by omega) (Ev.cases (fun c => Ev.pos (by omega) ?_) (fun c => ?_))))
    · refine Ev.eq (ih (j + 1) (acc ++ [(j : Int)]) (by omega) (by simp; omega)) ?_
      rw [fl, if_pos c, List.append_assoc]; rfl
    · refine Ev.eq (ih (j + 1) acc (by omega) (by omega)) ?_
      rw [fl, if_neg c]
theorem marked_v (h : List Bool) (p : Nat → Bool) (hp : ∀ i, i < h.length → h.getD i false = p i) (hl : h.length ≤ 1048576) : Ev (fun k => impl_marked.f k h) (fl p 0 h.length) := by
  unfold impl_marked.f
  have := marked_l h p hp hl h.length 0 [] (by omega) (by simp)
  simpa using this
-- laws_eqIntSS
theorem rdL_at {ls : List (List Int)} {j : Nat} (h : j < ls.length) : rd_L1 ls (j : Int) = ls[j] := getD_at h
/-- The lists are short. -/
def SmallSS (ls : List (List Int)) : Prop := ls.length ≤ 1048576 ∧ ∀ l ∈ ls, l.length ≤ 1048576
-- laws_eqIntSS
theorem eqIntSS_l (ls : List (List Int)) (h : SmallSS ls) : ∀ (d j : Nat), j + d = ls.length → Ev (fun k => laws_eqIntSS.l0 k ls ls (j : Int)) true := by
  have hl := h.1
  intro d
  induction d with
  | zero =>
    intro j hj
    refine Ev.succ ?_
    simp only [laws_eqIntSS.l0]
    exact Ev.neg (by omega) (Ev.now _)
  | succ d ih =>
    intro j hj
    have hlt : j < ls.length := by omega
    have hb := h.2 _ (List.getElem_mem hlt)
    refine Ev.succ ?_
    simp only [laws_eqIntSS.l0, rdL_at hlt, w64s hlt (by omega : ls.length ≤ 9223372036854775807)]
    exact Ev.pos (by omega) (Ev.pos (by omega) (Ev.pos (by omega) (Ev.bind (eqIntS_v _ (by omega)) (Ev.pos rfl (ih (j + 1) (by omega))))))
theorem eqIntSS_v (ls : List (List Int)) (h : SmallSS ls) : Ev (fun k => laws_eqIntSS.f k ls ls) true := by
  unfold laws_eqIntSS.f
  exact Ev.pos rfl (eqIntSS_l ls h ls.length 0 (by omega))
-- laws_markIntSS laws_eqIntSS
/-- What a mark makes of lists. -/
def mkSS : Int → List (List Int) → Int × List (List Int)
  | a, [] => (a, [])
  | a, l :: ls => ((mkSS (a + (l.length : Int)) ls).1, seqI a l.length :: (mkSS (a + (l.length : Int)) ls).2)
theorem mkSS_bd : ∀ (ls : List (List Int)) (a : Int), (∀ l ∈ ls, l.length ≤ 1048576) → a ≤ (mkSS a ls).1 ∧ (mkSS a ls).1 ≤ a + (ls.length : Int) * 1048576
  | [], a, _ => by simp [mkSS]
  | l :: ls, a, h => by
    have := mkSS_bd ls (a + (l.length : Int)) (fun q hq => h q (List.mem_cons_of_mem _ hq))
    have := h l List.mem_cons_self
    simp only [mkSS, List.length_cons]
    omega
theorem markIntSS_l : ∀ (ls pre : List (List Int)) (a : Int), 0 ≤ a → a + (ls.length : Int) * 1048576 ≤ 2305843009213693952 → pre.length + ls.length ≤ 1048576 → (∀ l ∈ ls, l.length ≤ 1048576) →
    Ev (fun k => laws_markIntSS.l0 k (pre ++ ls) a (pre.length : Int)) ((mkSS a ls).1, pre ++ (mkSS a ls).2) := by
  intro ls
  induction ls with
  | nil =>
    intro pre a h0 h1 hl ho
    refine Ev.succ ?_
    simp only [laws_markIntSS.l0]
    exact Ev.neg (by simp) (Ev.const rfl)
  | cons l ls ih =>
    intro pre a h0 h1 hl ho
    have hlt : pre.length < (pre ++ l :: ls).length := by simp
    have ho1 := ho l List.mem_cons_self
    simp only [List.length_cons] at h1 hl
    refine Ev.succ ?_
    simp only [laws_markIntSS.l0, getD_at hlt, w64s (show pre.length < 1048577 by omega) (by omega), Int.toNat_natCast]
    refine Ev.pos (by simp; omega) (Ev.pos (by omega) ?_)
    have e : (pre ++ l :: ls).getD pre.length [] = l := by simp [List.getD_eq_getElem?_getD]
    rw [e]
    refine Ev.bind (markIntS_v l a (by omega) (by omega) (by omega)) ?_
    rw [set_mid _ _ _ _ pre.length rfl]
    have := ih (pre ++ [seqI a l.length]) (a + (l.length : Int)) (by omega) (by omega) (by simp; omega) (fun q hq => ho q (List.mem_cons_of_mem _ hq))
    simpa [mkSS, List.append_assoc] using this
theorem markIntSS_v (ls : List (List Int)) (h : SmallSS ls) (a : Int) (h0 : 0 ≤ a) (h1 : a ≤ 1125899906842624) : Ev (fun k => laws_markIntSS.f k ls a) (mkSS a ls) := by
  have hl := h.1
  unfold laws_markIntSS.f
  have := markIntSS_l ls [] a h0 (by omega) (by simpa using hl) h.2
  simpa using this
-- laws_heldIntSS laws_markIntSS laws_eqIntSS
theorem mkSS_len : ∀ (ls : List (List Int)) (a : Int), (mkSS a ls).2.length = ls.length
  | [], _ => rfl
  | l :: ls, a => by simp only [mkSS, List.length_cons, mkSS_len ls]
theorem heldIntSS_l : ∀ (ls pre : List (List Int)) (a : Int), 0 ≤ a → a + (ls.length : Int) * 1048576 ≤ 2305843009213693952 → pre.length + ls.length ≤ 1048576 → (∀ l ∈ ls, l.length ≤ 1048576) →
    Ev (fun k => laws_heldIntSS.l0 k (pre ++ (mkSS a ls).2) a (pre.length : Int)) (mkSS a ls).1 := by
  intro ls
  induction ls with
  | nil =>
    intro pre a h0 h1 hl ho
    refine Ev.succ ?_
    simp only [laws_heldIntSS.l0, mkSS]
    exact Ev.neg (by simp) (Ev.const rfl)
  | cons l ls ih =>
    intro pre a h0 h1 hl ho
    have ho1 := ho l List.mem_cons_self
    have hb := mkSS_bd ls (a + (l.length : Int)) (fun q hq => ho q (List.mem_cons_of_mem _ hq))
    simp only [List.length_cons] at h1 hl
    have e : rd_L1 (pre ++ seqI a l.length :: (mkSS (a + (l.length : Int)) ls).2) ((pre.length : Nat) : Int) = seqI a l.length := by
      rw [rdL_at (by simp)]
      simp
    refine Ev.succ ?_
    simp only [laws_heldIntSS.l0, mkSS, e, w64s (show pre.length < 1048577 by omega) (by omega)]
    refine Ev.pos (by simp; omega) (Ev.pos (by omega) (Ev.bind (heldIntS_v _ a (by omega) (by omega) (by omega)) (Ev.neg (by omega) ?_)))
    have := ih (pre ++ [seqI a l.length]) (a + (l.length : Int)) (by omega) (by omega) (by simp; omega) (fun q hq => ho q (List.mem_cons_of_mem _ hq))
    simpa [List.append_assoc] using this
theorem heldIntSS_v (ls : List (List Int)) (h : SmallSS ls) (a : Int) (h0 : 0 ≤ a) (h1 : a ≤ 1125899906842624) : Ev (fun k => laws_heldIntSS.f k (mkSS a ls).2 a) (mkSS a ls).1 := by
  have hl := h.1
  unfold laws_heldIntSS.f
  have := heldIntSS_l ls [] a h0 (by omega) (by simpa using hl) h.2
  simpa using this
-- spec_l2Args
/-- The digits of a number at a base, lowest first. -/
def dig (n : Int) : Nat → Int → List Int
  | 0, _ => []
  | a + 1, i => Int.tmod i n :: dig n a (Int.tdiv i n)
theorem dig_in {n : Int} (h1 : 1 ≤ n) : ∀ (a : Nat) (i : Int), 0 ≤ i → ∀ x ∈ dig n a i, 0 ≤ x ∧ x < n
  | 0, _, _, x, hx => by simp [dig] at hx
  | a + 1, i, h0, x, hx => by
    simp only [dig, List.mem_cons] at hx
    rcases hx with rfl | hx
    · exact ⟨Int.tmod_nonneg n h0, Int.tmod_lt_of_pos i (by omega)⟩
    · exact dig_in h1 a _ (Int.tdiv_nonneg h0 (by omega)) x hx
theorem l2Args_l {n : Int} (h1 : 1 ≤ n) : ∀ (j : Nat) (rem : Int) (L : List Int), 0 ≤ rem → rem ≤ 4611686018427387904 → j ≤ L.length → L.length ≤ 1000 → Ev (fun k => spec_l2Args.l0 k n rem L ((j : Int) - 1)) ((dig n j rem).reverse ++ L.drop j) := by
  intro j
  induction j with
  | zero =>
    intro rem L h0 hr hj hl
    refine Ev.succ ?_
    simp only [spec_l2Args.l0]
    exact Ev.neg (by omega) (Ev.const (by simp [dig]))
  | succ j ih =>
    intro rem L h0 hr hj hl
    have hd0 : 0 ≤ Int.tdiv rem n := Int.tdiv_nonneg h0 (by omega)
    have hd1 : Int.tdiv rem n ≤ rem := by rw [Int.tdiv_eq_ediv_of_nonneg h0]; exact Int.ediv_le_self n h0
    rw [show (((j + 1 : Nat) : Int) - 1) = (j : Int) by omega]
    refine Ev.succ ?_
    simp only [spec_l2Args.l0]
    rw [w64 (n := Int.tdiv rem n) (by omega), w64 (n := (j : Int) - 1) (by omega), Int.toNat_natCast]
    refine Ev.pos (by omega) (Ev.neg (by omega) (Ev.pos (by omega) (Ev.pos (by omega) (Ev.eq (ih _ _ hd0 (by omega) (by rw [List.length_set]; omega) (by rw [List.length_set]; exact hl)) ?_))))
    have hlt : j < (L.set j (Int.tmod rem n)).length := by rw [List.length_set]; omega
    rw [drop_cons hlt, List.getElem_set_self, dig, List.reverse_cons, List.append_assoc, List.drop_set_of_lt (by omega)]
    rfl
theorem l2Args_v {n : Int} (h1 : 1 ≤ n) (a : Nat) (ha : a ≤ 100) (i : Int) (h0 : 0 ≤ i) (hi : i ≤ 4611686018427387904) : Ev (fun k => spec_l2Args.f k n (a : Int) i) (dig n a i).reverse := by
  unfold spec_l2Args.f
  rw [w64 (n := (a : Int) - 1) (by omega), Int.toNat_natCast]
  refine Ev.pos (by omega) (Ev.pos (by omega) (Ev.eq (l2Args_l h1 a i (List.replicate a 0) h0 hi (by simp) (by simp; omega)) ?_))
  rw [List.drop_of_length_le (by simp), List.append_nil]
-- impl_allIn spec_l2Args
theorem allIn_v {n : Int} (h1 : 1 ≤ n) (H : List Bool) (hH : n = (H.length : Int)) : ∀ (a : Nat) (i : Int), 0 ≤ i → i ≤ 4611686018427387904 → a ≤ 100 → Ev (fun k => impl_allIn.f k i (a : Int) n H) ((dig n a i).all (Clo.has H)) := by
  intro a
  induction a with
  | zero =>
    intro i h0 hi ha
    refine Ev.succ ?_
    simp only [impl_allIn.f, impl_allIn.l0]
    exact Ev.neg (by omega) (Ev.now _)
  | succ a ih =>
    intro i h0 hi ha
    have hd0 : 0 ≤ Int.tdiv i n := Int.tdiv_nonneg h0 (by omega)
    have hd1 : Int.tdiv i n ≤ i := by rw [Int.tdiv_eq_ediv_of_nonneg h0]; exact Int.ediv_le_self n h0
    have hm0 : 0 ≤ Int.tmod i n := Int.tmod_nonneg n h0
    have hm1 : Int.tmod i n < n := Int.tmod_lt_of_pos i (by omega)
    refine Ev.succ ?_
    simp only [impl_allIn.f, impl_allIn.l0]
    rw [w64 (n := Int.tdiv i n) (by omega), w64 (n := ((a + 1 : Nat) : Int) - 1) (by omega), show ((a + 1 : Nat) : Int) - 1 = (a : Int) by omega]
    have e : rdOf false H (Int.tmod i n) = Clo.has H (Int.tmod i n) := rfl
    rw [e]
    refine Ev.pos (by omega) (Ev.neg (by omega) (Ev.pos hm0 (Ev.pos (by omega) (Ev.cases (fun c => ?_) (fun c => Ev.const ?_)))))
    · refine Ev.eq (ih _ hd0 (by omega) (by omega)) ?_
      rw [dig, List.all_cons, c, Bool.true_and]
    · rw [dig, List.all_cons, Bool.eq_false_iff.2 c, Bool.false_and]
/-- The rules of a table: for each index its arguments and its value. -/
def rl (n : Int) (a : Nat) : Nat → List Int → List (List Int × Int)
  | _, [] => []
  | i, v :: r => (dig n a (i : Int), v) :: rl n a (i + 1) r
def rules (n : Int) (ops : List S77) : List (List Int × Int) := ops.flatMap fun o => rl n o.f0.toNat 0 o.f1
theorem rules_cons (n : Int) (o : S77) (ops : List S77) : rules n (o :: ops) = rl n o.f0.toNat 0 o.f1 ++ rules n ops := by simp [rules]
theorem rl_mem {n : Int} {a : Nat} : ∀ (l : List Int) (i : Nat) (e : List Int × Int), e ∈ rl n a i l → e.2 ∈ l ∧ ∃ j : Nat, e.1 = dig n a (j : Int)
  | [], _, _, h => by simp [rl] at h
  | v :: r, i, e, h => by
    simp only [rl, List.mem_cons] at h
    rcases h with rfl | h
    · exact ⟨by simp, i, rfl⟩
    · obtain ⟨h1, h2⟩ := rl_mem r (i + 1) e h
      exact ⟨List.mem_cons_of_mem _ h1, h2⟩
theorem rules_fit {n : Int} {ops : List S77} (h : okAlg n ops) : Clo.Fit n.toNat (rules n ops) := by
  have hn := h.1
  intro e he
  obtain ⟨o, ho, he⟩ := List.mem_flatMap.1 he
  obtain ⟨h1, j, h2⟩ := rl_mem _ _ _ he
  have hv := (h.2.2.2 o ho).2.2.2 _ h1
  refine ⟨by omega, fun x hx => ?_⟩
  rw [h2] at hx
  have := dig_in h.1 _ _ (Int.natCast_nonneg j) x hx
  omega
-- spec_l5Step impl_allIn spec_l2Args
/-- A rule's value is told if its arguments are told in another list. -/
def stp (I out : List Bool) (e : List Int × Int) : List Bool := if Clo.fires I e = true then out.set e.2.toNat true else out
theorem stp_len (I out : List Bool) (e : List Int × Int) : (stp I out e).length = out.length := by unfold stp; split <;> simp
theorem stps_len (I : List Bool) (E : List (List Int × Int)) : ∀ out : List Bool, (E.foldl (stp I) out).length = out.length := by
  induction E with
  | nil => intro out; rfl
  | cons e E ih => intro out; rw [List.foldl_cons]; exact (ih _).trans (stp_len I out e)
theorem has_stps {n : Nat} (I : List Bool) {x : Int} (hx : 0 ≤ x) : ∀ (E : List (List Int × Int)) (out : List Bool), out.length = n → Clo.Fit n E → (Clo.has (E.foldl (stp I) out) x = true ↔ Clo.has out x = true ∨ ∃ e ∈ E, Clo.fires I e = true ∧ e.2 = x)
  | [], out, _, _ => by simp
  | e :: E, out, hl, hF => by
    have he := hF e (by simp)
    rw [List.foldl_cons, has_stps I hx E (stp I out e) ((stp_len _ _ _).trans hl) (fun e' h => hF e' (List.mem_cons_of_mem _ h))]
    have key : Clo.has (stp I out e) x = true ↔ Clo.has out x = true ∨ (Clo.fires I e = true ∧ e.2 = x) := by
      unfold stp
      by_cases c : Clo.fires I e = true
      · rw [if_pos c, Clo.has_set he.1.1 (by omega) hx]
        constructor
        · rintro (h | h)
          · exact .inl h
          · exact .inr ⟨c, h.symm⟩
        · rintro (h | h)
          · exact .inl h
          · exact .inr h.2.symm
      · rw [if_neg c]
        constructor
        · exact .inl
        · rintro (h | h)
          · exact h
          · exact absurd h.1 c
    rw [key]
    constructor
    · rintro ((h | h) | ⟨e', h', h⟩)
      · exact .inl h
      · exact .inr ⟨e, by simp, h⟩
      · exact .inr ⟨e', List.mem_cons_of_mem _ h', h⟩
    · rintro (h | ⟨e', h', h⟩)
      · exact .inl (.inl h)
      · rcases List.mem_cons.1 h' with rfl | h'
        · exact .inl (.inr h)
        · exact .inr ⟨e', h', h⟩
theorem stps_eq {n : Nat} {E : List (List Int × Int)} {I : List Bool} (hl : I.length = n) (hF : Clo.Fit n E) : E.foldl (stp I) I = Clo.stepB n E I :=
  Clo.eq_of_le (by rw [stps_len, Clo.stepB_len, hl]) (fun x hx h => (Clo.has_stepB hl hF hx).2 ((has_stps I hx E I hl hF).1 h)) (fun x hx h => (has_stps I hx E I hl hF).2 ((Clo.has_stepB hl hF hx).1 h))
theorem l5s2 {n : Int} (I out : List Bool) (hI : n = (I.length : Int)) (ho : n = (out.length : Int)) (ops : List S77) (m : Nat) (hm : m < ops.length) (j : Nat) (hj : j < ops[m].f1.length) (hv : 0 ≤ ops[m].f1[j] ∧ ops[m].f1[j] < n) (L : List Int) (hL : ∀ x ∈ L, 0 ≤ x ∧ x < n) (hLl : L.length ≤ 1000) (r : List Bool) : ∀ (d i : Nat) (b : Bool), i + d = L.length →
    Ev (fun k => spec_l5Step.l1 k I (if (b && (L.drop i).all (Clo.has I)) = true then out.set ops[m].f1[j].toNat true else out) (m : Int) (wrap64 ((j : Int) + 1)) n ops) r →
    Ev (fun k => spec_l5Step.l2 k I out (m : Int) (j : Int) L b (i : Int) n ops) r := by
  intro d
  induction d with
  | zero =>
    intro i b hi hr
    rw [List.drop_of_length_le (by omega), List.all_nil, Bool.and_true] at hr
    refine Ev.succ ?_
    simp only [spec_l5Step.l2, rdT_at hm, rd_at hj]
    refine Ev.neg (by omega) (Ev.cases (fun c => ?_) (fun c => ?_))
    · rw [if_pos c] at hr
      exact Ev.pos (by omega) (Ev.pos (by omega) (Ev.pos (by omega) (Ev.pos (by omega) (Ev.pos hv.1 (Ev.pos (by omega) hr)))))
    · rw [if_neg c] at hr
      exact hr
  | succ d ih =>
    intro i b hi hr
    have hlt : i < L.length := by omega
    have hx := hL _ (List.getElem_mem hlt)
    refine Ev.succ ?_
    simp only [spec_l5Step.l2, rd_at hlt, w64s hlt (by omega : L.length ≤ 9223372036854775807)]
    rw [drop_cons hlt, List.all_cons] at hr
    refine Ev.pos (by omega) (Ev.cases (fun c => Ev.pos (by omega) (Ev.pos hx.1 (Ev.pos (by omega) ?_))) (fun c => ?_))
    · have e : rdOf false I L[i] = Clo.has I L[i] := rfl
      rw [e]
      refine ih (i + 1) _ (by omega) ?_
      rw [c, Bool.true_and] at hr
      exact hr
    · refine ih (i + 1) _ (by omega) ?_
      rw [Bool.eq_false_iff.2 c, Bool.false_and] at hr
      rw [Bool.false_and]
      exact hr
theorem l5s1 {n : Int} (I : List Bool) (hI : n = (I.length : Int)) (ops : List S77) (h : okAlg n ops) (m : Nat) (hm : m < ops.length) (r : List Bool) : ∀ (d j : Nat) (out : List Bool), j + d = ops[m].f1.length → n = (out.length : Int) →
    Ev (fun k => spec_l5Step.l0 k I ((rl n ops[m].f0.toNat j (ops[m].f1.drop j)).foldl (stp I) out) (wrap64 ((m : Int) + 1)) n ops) r →
    Ev (fun k => spec_l5Step.l1 k I out (m : Int) (j : Int) n ops) r := by
  have ho := h.2.2.2 _ (List.getElem_mem hm)
  have hp := pow_bd h.1 h.2.1 (show ops[m].f0.toNat ≤ 6 by have := ho.2.1; omega)
  have hlen := ho.2.2.1
  have h3 := ho.2.1
  obtain ⟨a, ha⟩ := int_nat ho.1
  have ha' : ops[m].f0.toNat = a := by omega
  rw [ha']
  intro d
  induction d with
  | zero =>
    intro j out hj hn hr
    rw [List.drop_of_length_le (by omega)] at hr
    refine Ev.succ ?_
    simp only [spec_l5Step.l1, rdT_at hm]
    exact Ev.pos (by omega) (Ev.pos (by omega) (Ev.neg (by omega) hr))
  | succ d ih =>
    intro j out hj hn hr
    have hlt : j < ops[m].f1.length := by omega
    have hx := ho.2.2.2 _ (List.getElem_mem hlt)
    rw [drop_cons hlt, rl, List.foldl_cons] at hr
    refine Ev.succ ?_
    simp only [spec_l5Step.l1, rdT_at hm]
    rw [ha]
    refine Ev.pos (by omega) (Ev.pos (by omega) (Ev.pos (by omega) (Ev.bind (l2Args_v h.1 a (by omega) (j : Int) (by omega) (by omega)) ?_)))
    refine l5s2 I out hI hn ops m hm j hlt hx _ (fun x hx => dig_in h.1 a (j : Int) (by omega) x (List.mem_reverse.1 hx)) (by
      rw [List.length_reverse]
      have : ∀ (a : Nat) (i : Int), (dig n a i).length = a := by
        intro a
        induction a with
        | zero => intro i; rfl
        | succ a ih => intro i; rw [dig, List.length_cons, ih]
      rw [this]; omega) r _ 0 true (by rw [Nat.zero_add]) ?_
    rw [w64s hlt (by omega), List.drop_zero, Bool.true_and, List.all_reverse]
    refine ih (j + 1) _ (by omega) (by split <;> simpa using hn) ?_
    exact hr
theorem l5s0 {n : Int} (I : List Bool) (hI : n = (I.length : Int)) (ops : List S77) (h : okAlg n ops) : ∀ (d m : Nat) (out : List Bool), m + d = ops.length → n = (out.length : Int) →
    Ev (fun k => spec_l5Step.l0 k I out (m : Int) n ops) ((rules n (ops.drop m)).foldl (stp I) out) := by
  have h4 := h.2.2.1
  intro d
  induction d with
  | zero =>
    intro m out hm hn
    rw [List.drop_of_length_le (by omega)]
    refine Ev.succ ?_
    simp only [spec_l5Step.l0]
    exact Ev.neg (by omega) (Ev.now _)
  | succ d ih =>
    intro m out hm hn
    have hlt : m < ops.length := by omega
    rw [drop_cons hlt, rules_cons, List.foldl_append]
    refine Ev.succ ?_
    simp only [spec_l5Step.l0]
    refine Ev.pos (by omega) (l5s1 I hI ops h m hlt _ ops[m].f1.length 0 out (by omega) hn ?_)
    rw [w64s hlt (by omega), List.drop_zero]
    exact ih (m + 1) _ (by omega) (by rw [stps_len]; exact hn)
theorem l5Step_v {n : Int} (I : List Bool) (hI : n = (I.length : Int)) (ops : List S77) (h : okAlg n ops) : Ev (fun k => spec_l5Step.f k n ops I) (Clo.stepB n.toNat (rules n ops) I) := by
  have h8 := h.2.1
  unfold spec_l5Step.f
  refine Ev.bound rfl (Ev.pos (by simp; omega) ?_)
  rw [List.nil_append, ← stps_eq (by omega) (rules_fit h)]
  exact l5s0 I hI ops h ops.length 0 I (by omega) hI
-- impl_marked
/-- The numbers that are told. -/
def lst (H : List Bool) : List Int := fl (fun i => H.getD i false) 0 H.length
theorem lst_len (H : List Bool) : (lst H).length ≤ H.length := fl_len _ _ _
theorem marked_lst (H : List Bool) (hl : H.length ≤ 1048576) : Ev (fun k => impl_marked.f k H) (lst H) := marked_v H _ (fun _ _ => rfl) hl
-- impl_marked spec_l5List
theorem l5List_l (h : List Bool) (hl : h.length ≤ 1048576) : ∀ (d j : Nat) (acc : List Int), j + d = h.length → acc.length ≤ j →
    Ev (fun k => spec_l5List.l0 k h acc (j : Int)) (acc ++ fl (fun i => h.getD i false) j d) := by
  intro d
  induction d with
  | zero =>
    intro j acc hj ha
    refine Ev.succ ?_
    simp only [spec_l5List.l0]
    refine Ev.neg (by omega) (Ev.const ?_)
    simp [fl]
  | succ d ih =>
    intro j acc hj ha
    have hlt : j < h.length := by omega
    have e : rdOf false h (j : Int) = h.getD j false := rfl
    refine Ev.succ ?_
    simp only [spec_l5List.l0, e, w64s hlt (by omega : h.length ≤ 9223372036854775807)]
    refine Ev.pos (by omega) (Ev.pos (by omega) (Ev.cases (fun c => Ev.pos (by omega) ?_) (fun c => ?_)))
    · refine Ev.eq (ih (j + 1) (acc ++ [(j : Int)]) (by omega) (by simp; omega)) ?_
      rw [fl, if_pos c, List.append_assoc]; rfl
    · refine Ev.eq (ih (j + 1) acc (by omega) (by omega)) ?_
      rw [fl, if_neg c]
theorem l5List_v (h : List Bool) (hl : h.length ≤ 1048576) : Ev (fun k => spec_l5List.f k h) (lst h) := by
  unfold spec_l5List.f
  have := l5List_l h hl h.length 0 [] (by omega) (by simp)
  rw [List.nil_append] at this
  exact this
-- impl_marks spec_l5In
def mks (H : List Bool) (l : List Int) : List Bool := l.foldl (fun H x => H.set x.toNat true) H
theorem mks_len (l : List Int) : ∀ H : List Bool, (mks H l).length = H.length := by
  induction l with
  | nil => intro H; rfl
  | cons x l ih => intro H; rw [mks, List.foldl_cons]; exact (ih _).trans (by simp)
theorem has_mks (l : List Int) {x : Int} (hx : 0 ≤ x) : ∀ H : List Bool, (∀ y ∈ l, 0 ≤ y ∧ y < H.length) → (Clo.has (mks H l) x = true ↔ Clo.has H x = true ∨ x ∈ l) := by
  induction l with
  | nil => intro H _; simp [mks]
  | cons y l ih =>
    intro H hl
    have hy := hl y (by simp)
    rw [mks, List.foldl_cons]
    refine (ih (H.set y.toNat true) (fun z hz => by rw [List.length_set]; exact hl z (List.mem_cons_of_mem _ hz))).trans ?_
    rw [Clo.has_set hy.1 hy.2 hx, List.mem_cons, or_assoc]
def mk0 (n : Int) (l : List Int) : List Bool := mks (List.replicate n.toNat false) l
theorem mk0_len (n : Int) (l : List Int) : (mk0 n l).length = n.toNat := by rw [mk0, mks_len, List.length_replicate]
theorem has_rep (m : Nat) (x : Int) : Clo.has (List.replicate m false) x = false := by
  unfold Clo.has
  rw [List.getD_eq_getElem?_getD, List.getElem?_replicate]
  split <;> rfl
theorem has_mk0 {n : Int} {l : List Int} (hl : ∀ y ∈ l, 0 ≤ y ∧ y < n) {x : Int} (hx : 0 ≤ x) : Clo.has (mk0 n l) x = true ↔ x ∈ l := by
  rw [mk0, has_mks l hx _ (fun y hy => by have := hl y hy; rw [List.length_replicate]; omega), has_rep]
  simp
theorem marks_l {n : Int} (l : List Int) (hl : l.length ≤ 4194304) (hv : ∀ y ∈ l, 0 ≤ y ∧ y < n) : ∀ (d j : Nat) (H : List Bool), j + d = l.length → n = (H.length : Int) → Ev (fun k => impl_marks.l0 k H l (l.length : Int) (j : Int)) (mks H (l.drop j)) := by
  intro d
  induction d with
  | zero =>
    intro j H hj hn
    rw [List.drop_of_length_le (by omega)]
    refine Ev.succ ?_
    simp only [impl_marks.l0]
    exact Ev.neg (by omega) (Ev.now _)
  | succ d ih =>
    intro j H hj hn
    have hlt : j < l.length := by omega
    have hx := hv _ (List.getElem_mem hlt)
    refine Ev.succ ?_
    simp only [impl_marks.l0, rd_at hlt, w64s hlt (by omega : l.length ≤ 9223372036854775807)]
    rw [drop_cons hlt, mks, List.foldl_cons]
    exact Ev.pos (by omega) (Ev.pos (by omega) (Ev.pos (by omega) (Ev.pos hx.1 (Ev.pos (by omega) (ih (j + 1) _ (by omega) (by simpa using hn))))))
theorem marks_v {n : Int} (h0 : 0 ≤ n) (h8 : n ≤ 8) (l : List Int) (hl : l.length ≤ 4194304) (hv : ∀ y ∈ l, 0 ≤ y ∧ y < n) : Ev (fun k => impl_marks.f k l n) (mk0 n l) := by
  unfold impl_marks.f
  exact Ev.pos h0 (Ev.pos (by omega) (marks_l l hl hv l.length 0 _ (by omega) (by simp; omega)))
theorem l5In_l {n : Int} (l : List Int) (hl : l.length ≤ 4194304) (hv : ∀ y ∈ l, 0 ≤ y ∧ y < n) : ∀ (d j : Nat) (H : List Bool), j + d = l.length → n = (H.length : Int) → Ev (fun k => spec_l5In.l0 k l H (j : Int)) (mks H (l.drop j)) := by
  intro d
  induction d with
  | zero =>
    intro j H hj hn
    rw [List.drop_of_length_le (by omega)]
    refine Ev.succ ?_
    simp only [spec_l5In.l0]
    exact Ev.neg (by omega) (Ev.now _)
  | succ d ih =>
    intro j H hj hn
    have hlt : j < l.length := by omega
    have hx := hv _ (List.getElem_mem hlt)
    refine Ev.succ ?_
    simp only [spec_l5In.l0, rd_at hlt, w64s hlt (by omega : l.length ≤ 9223372036854775807)]
    rw [drop_cons hlt, mks, List.foldl_cons]
    exact Ev.pos (by omega) (Ev.pos (by omega) (Ev.pos hx.1 (Ev.pos (by omega) (ih (j + 1) _ (by omega) (by simpa using hn)))))
theorem l5In_v {n : Int} (h0 : 0 ≤ n) (h8 : n ≤ 8) (l : List Int) (hl : l.length ≤ 4194304) (hv : ∀ y ∈ l, 0 ≤ y ∧ y < n) : Ev (fun k => spec_l5In.f k n l) (mk0 n l) := by
  unfold spec_l5In.f
  exact Ev.pos h0 (Ev.pos (by omega) (l5In_l l hl hv l.length 0 _ (by omega) (by simp; omega)))
-- spec_l5Some spec_l2Elements spec_l2Good
theorem l5Some_v (n : Int) (ops : List S77) (ho : ∀ o ∈ ops, o.f1.length ≤ 9223372036854775807) (t : List Int) (hlt : t.length ≤ 1048576) : Ev (fun k => spec_l5Some.f k n ops t) (decide (okAlg n ops ∧ (t.length : Int) ≤ 20 ∧ ∀ x ∈ t, 0 ≤ x ∧ x < n)) := by
  unfold spec_l5Some.f
  refine Ev.bind (l2Good_v n ops ho) (Ev.cases (fun c => ?_) (fun c => Ev.const ?_))
  · have c := of_decide_eq_true c
    refine Ev.cases (fun c2 => Ev.bind (l2Elements_v n (by have := c.1; omega) (by have := c.2.1; omega) t (by omega)) (Ev.const ?_)) (fun c2 => Ev.const ?_)
    · congr 1
      exact decide_eq_decide.2 ⟨fun h => ⟨c, c2, h⟩, fun h => h.2.2⟩
    · rw [decide_eq_false fun h => c2 h.2.1]
  · rw [decide_eq_false fun h => c (decide_eq_true h.1)]
-- impl_areElements impl_inSize impl_IsAlgebra
theorem areElements_v (n : Int) (ops : List S77) (ho : ∀ o ∈ ops, o.f1.length ≤ 9223372036854775807) (t : List Int) (hlt : t.length ≤ 1048576) : Ev (fun k => impl_areElements.f k n ops t) (decide (okAlg n ops ∧ (t.length : Int) ≤ 20 ∧ ∀ x ∈ t, 0 ≤ x ∧ x < n)) := by
  unfold impl_areElements.f
  refine Ev.bind (implIsAlgebra_v n ops ho) (Ev.cases (fun c => ?_) (fun c => Ev.const ?_))
  · have c := of_decide_eq_true c
    refine Ev.cases (fun c2 => Ev.bind (inSize_v t n (by omega)) (Ev.const ?_)) (fun c2 => Ev.const ?_)
    · congr 1
      exact decide_eq_decide.2 ⟨fun h => ⟨c, c2, h⟩, fun h => h.2.2⟩
    · rw [decide_eq_false fun h => c2 h.2.1]
  · rw [decide_eq_false fun h => c (decide_eq_true h.1)]
-- impl_marked
def risesB : List Int → Bool
  | [] => true
  | a :: r => r.all (fun b => decide (a < b)) && risesB r
theorem rises_cons {a : Int} {r : List Int} : risesB (a :: r) = true ↔ (∀ b ∈ r, a < b) ∧ risesB r = true := by
  simp [risesB]
/-- Next to each other is enough. -/
theorem rises_two (a b : Int) (r : List Int) : risesB (a :: b :: r) = (decide (a < b) && risesB (b :: r)) := by
  rw [Bool.eq_iff_iff, rises_cons, Bool.and_eq_true, decide_eq_true_eq]
  constructor
  · exact fun h => ⟨h.1 b (by simp), h.2⟩
  · refine fun h => ⟨fun c hc => ?_, h.2⟩
    rcases List.mem_cons.1 hc with rfl | hc
    · exact h.1
    · exact Int.lt_trans h.1 ((rises_cons.1 h.2).1 c hc)
theorem fl_rises : ∀ (m i : Nat) (l : List Int), risesB l = true → (∀ x ∈ l, (i : Int) ≤ x ∧ x < ((i + m : Nat) : Int)) → fl (fun x => decide ((x : Int) ∈ l)) i m = l
  | 0, i, l, _, h => by
    cases l with
    | nil => rfl
    | cons a r => have := h a (by simp); omega
  | m + 1, i, l, hr, h => by
    cases l with
    | nil => simp only [List.not_mem_nil, decide_false]; exact fl_none _ _
    | cons a r =>
      have ha := h a (by simp)
      obtain ⟨h1, h2⟩ := rises_cons.1 hr
      by_cases c : a = (i : Int)
      · have e : fl (fun x => decide ((x : Int) ∈ a :: r)) (i + 1) m = fl (fun x => decide ((x : Int) ∈ r)) (i + 1) m := fl_congr m (i + 1) (fun x hx => decide_eq_decide.2 (by
          rw [List.mem_cons]
          exact ⟨fun h => h.resolve_left (by omega), .inr⟩))
        unfold fl
        rw [if_pos (show decide ((i : Int) ∈ a :: r) = true by simp [c]), e, fl_rises m (i + 1) r h2 (fun x hx => by have := h1 x hx; have := h x (List.mem_cons_of_mem _ hx); omega), c]
      · unfold fl
        rw [if_neg (by
          rw [decide_eq_true_eq, List.mem_cons]
          rintro (h' | h')
          · omega
          · have := h1 _ h'; omega)]
        refine fl_rises m (i + 1) (a :: r) hr (fun x hx => ?_)
        rcases List.mem_cons.1 hx with rfl | hx'
        · omega
        · have := h1 x hx'; have := h x hx; omega
theorem fl_cnt (p : Nat → Bool) : ∀ (H : List Bool) (s : Nat), (∀ i, i < H.length → p (s + i) = H.getD i false) → (fl p s H.length).length = Clo.cnt H
  | [], s, _ => rfl
  | b :: H, s, h => by
    have h0 := h 0 (by simp)
    have hr := fl_cnt p H (s + 1) (fun i hi => by
      have := h (i + 1) (by simpa using hi)
      rw [show s + 1 + i = s + (i + 1) by omega, this]
      simp)
    simp only [Nat.add_zero, List.getD_cons_zero] at h0
    unfold Clo.cnt at *
    rw [List.length_cons, fl, List.count_cons, h0]
    cases b with
    | true => rw [if_pos rfl, List.length_cons, hr]; simp
    | false => rw [if_neg (by simp), hr]; simp
theorem lst_cnt (H : List Bool) : (lst H).length = Clo.cnt H := fl_cnt _ H 0 (fun i _ => by rw [Nat.zero_add])
theorem mem_fl (p : Nat → Bool) (x : Int) : ∀ (m i : Nat), x ∈ fl p i m ↔ (i : Int) ≤ x ∧ x < ((i + m : Nat) : Int) ∧ p x.toNat = true
  | 0, i => by simp only [fl, List.not_mem_nil, false_iff]; omega
  | m + 1, i => by
    unfold fl
    have ih := mem_fl p x m (i + 1)
    by_cases c : x = (i : Int)
    · have e : x.toNat = i := by omega
      by_cases c2 : p i = true
      · rw [if_pos c2]
        simp only [c, List.mem_cons, true_or, true_iff, Int.toNat_natCast]
        exact ⟨by omega, by omega, c2⟩
      · rw [if_neg c2, ih, e]
        exact ⟨fun h => by omega, fun h => absurd h.2.2 c2⟩
    · have : x ∈ (if p i = true then (i : Int) :: fl p (i + 1) m else fl p (i + 1) m) ↔ x ∈ fl p (i + 1) m := by
        split
        · rw [List.mem_cons]; exact ⟨fun h => h.resolve_left c, .inr⟩
        · rfl
      rw [this, ih]
      constructor
      · exact fun h => ⟨by omega, by omega, h.2.2⟩
      · exact fun h => ⟨by omega, by omega, h.2.2⟩
theorem mem_lst {H : List Bool} {x : Int} (hx : 0 ≤ x) : x ∈ lst H ↔ Clo.has H x = true := by
  unfold lst
  rw [mem_fl]
  constructor
  · exact fun h => h.2.2
  · intro h
    have := Clo.has_lt h
    exact ⟨by omega, by omega, h⟩
theorem lst_in {H : List Bool} {x : Int} (h : x ∈ lst H) : 0 ≤ x ∧ x < (H.length : Int) := by
  have := (mem_fl _ x _ _).1 h
  omega
-- impl_marks spec_l5In impl_marked
/-- A rising list is what its marks tell. -/
theorem lst_mk0 {n : Int} {l : List Int} (hr : risesB l = true) (hv : ∀ y ∈ l, 0 ≤ y ∧ y < n) : lst (mk0 n l) = l := by
  have e : fl (fun i => (mk0 n l).getD i false) 0 (mk0 n l).length = fl (fun x => decide ((x : Int) ∈ l)) 0 (mk0 n l).length := fl_congr _ _ (fun x _ => by
    have := has_mk0 hv (x := (x : Int)) (by omega)
    rw [Clo.has_nat] at this
    rw [Bool.eq_iff_iff, this, decide_eq_true_eq])
  unfold lst
  rw [e, mk0_len]
  exact fl_rises n.toNat 0 l hr (fun x hx => by have := hv x hx; omega)
/-- Being closed can be seen by the number of elements. -/
theorem cl_same {n : Int} {E : List (List Int × Int)} {l : List Int} {H : List Bool} (hr : risesB l = true) (hv : ∀ y ∈ l, 0 ≤ y ∧ y < n) (h : Clo.IsCl n.toNat E (mk0 n l) H) : (lst H).length = l.length ↔ lst H = l := by
  constructor
  · intro hl
    have hs := lst_mk0 hr hv
    have h1 := Clo.cnt_lt_of (show (mk0 n l).length = H.length by rw [mk0_len, h.1]) h.2.1
    have h2 := h1.2 (by rw [← lst_cnt, ← lst_cnt, hs, hl])
    rw [← h2, hs]
  · exact fun h => by rw [h]
/-- A rule tells its value as new if its arguments are told and it is not. -/
def nw (H F : List Bool) (e : List Int × Int) : List Bool := if (!Clo.has H e.2 && Clo.fires H e) = true then F.set e.2.toNat true else F
theorem nw_len (H F : List Bool) (e : List Int × Int) : (nw H F e).length = F.length := by unfold nw; split <;> simp
theorem nws_len (H : List Bool) (E : List (List Int × Int)) : ∀ F : List Bool, (E.foldl (nw H) F).length = F.length := by
  induction E with
  | nil => intro F; rfl
  | cons e E ih => intro F; rw [List.foldl_cons]; exact (ih _).trans (nw_len H F e)
theorem has_nws {n : Nat} (H : List Bool) {x : Int} (hx : 0 ≤ x) : ∀ (E : List (List Int × Int)) (F : List Bool), F.length = n → Clo.Fit n E → (Clo.has (E.foldl (nw H) F) x = true ↔ Clo.has F x = true ∨ (Clo.has H x = false ∧ ∃ e ∈ E, Clo.fires H e = true ∧ e.2 = x))
  | [], F, _, _ => by simp
  | e :: E, F, hl, hF => by
    have he := hF e (by simp)
    rw [List.foldl_cons, has_nws H hx E (nw H F e) ((nw_len _ _ _).trans hl) (fun e' h => hF e' (List.mem_cons_of_mem _ h))]
    have key : Clo.has (nw H F e) x = true ↔ Clo.has F x = true ∨ (Clo.has H x = false ∧ Clo.fires H e = true ∧ e.2 = x) := by
      unfold nw
      by_cases c : (!Clo.has H e.2 && Clo.fires H e) = true
      · have c' := c
        rw [Bool.and_eq_true, Bool.not_eq_true'] at c'
        rw [if_pos c, Clo.has_set he.1.1 (by omega) hx]
        constructor
        · rintro (h | rfl)
          · exact .inl h
          · exact .inr ⟨c'.1, c'.2, rfl⟩
        · rintro (h | ⟨_, _, h⟩)
          · exact .inl h
          · exact .inr h.symm
      · rw [if_neg c]
        constructor
        · exact .inl
        · rintro (h | ⟨h1, h2, rfl⟩)
          · exact h
          · exact absurd (by rw [h1, h2]; rfl) c
    rw [key]
    constructor
    · rintro ((h | ⟨h1, h2, h3⟩) | ⟨h0, e', h', h⟩)
      · exact .inl h
      · exact .inr ⟨h1, e, by simp, h2, h3⟩
      · exact .inr ⟨h0, e', List.mem_cons_of_mem _ h', h⟩
    · rintro (h | ⟨h0, e', h', h⟩)
      · exact .inl (.inl h)
      · rcases List.mem_cons.1 h' with rfl | h'
        · exact .inl (.inr ⟨h0, h⟩)
        · exact .inr ⟨h0, e', h', h⟩
def frs (n : Nat) (E : List (List Int × Int)) (H : List Bool) : List Bool := E.foldl (nw H) (List.replicate n false)
theorem frs_len (n : Nat) (E : List (List Int × Int)) (H : List Bool) : (frs n E H).length = n := by rw [frs, nws_len, List.length_replicate]
theorem has_frs {n : Nat} {E : List (List Int × Int)} {H : List Bool} (hF : Clo.Fit n E) {x : Int} (hx : 0 ≤ x) : Clo.has (frs n E H) x = true ↔ Clo.has H x = false ∧ ∃ e ∈ E, Clo.fires H e = true ∧ e.2 = x := by
  rw [frs, has_nws (n := n) H hx E _ (by simp) hF, has_rep]
  simp
/-- What is new, as the reference tells it. -/
theorem frs_lst {n : Nat} {E : List (List Int × Int)} {H : List Bool} (hl : H.length = n) (hF : Clo.Fit n E) : fl (fun i => (Clo.stepB n E H).getD i false && !H.getD i false) 0 n = lst (frs n E H) := by
  unfold lst
  rw [frs_len]
  refine fl_congr _ _ fun i _ => ?_
  have h1 := Clo.has_stepB (n := n) (E := E) hl hF (x := (i : Int)) (by omega)
  have h2 := has_frs (n := n) (E := E) (H := H) hF (x := (i : Int)) (by omega)
  rw [Clo.has_nat] at h1 h2
  rw [Clo.has_nat] at h1 h2
  rw [Bool.eq_iff_iff, Bool.and_eq_true, Bool.not_eq_true', h1, h2]
  constructor
  · rintro ⟨h | h, h3⟩
    · rw [h3] at h; cases h
    · exact ⟨h3, h⟩
  · exact fun h => ⟨.inr h.2, h.1⟩
theorem step_of_frs {n : Nat} {E : List (List Int × Int)} {H : List Bool} (hl : H.length = n) (hF : Clo.Fit n E) : mks H (lst (frs n E H)) = Clo.stepB n E H := by
  have hb : ∀ y ∈ lst (frs n E H), 0 ≤ y ∧ y < H.length := fun y hy => by
    have := lst_in hy
    rw [frs_len] at this
    omega
  refine Clo.eq_of_le (by rw [mks_len, Clo.stepB_len, hl]) (fun x hx h => ?_) (fun x hx h => ?_)
  · refine (Clo.has_stepB hl hF hx).2 ?_
    rcases (has_mks _ hx H hb).1 h with h | h
    · exact .inl h
    · exact .inr ((has_frs hF hx).1 ((mem_lst hx).1 h)).2
  · refine (has_mks _ hx H hb).2 ?_
    cases c : Clo.has H x with
    | true => exact .inl rfl
    | false =>
      rcases (Clo.has_stepB hl hF hx).1 h with h | h
      · rw [c] at h; cases h
      · exact .inr ((mem_lst hx).2 ((has_frs hF hx).2 ⟨c, h⟩))
theorem more_of_frs {n : Nat} {E : List (List Int × Int)} {H : List Bool} (hl : H.length = n) (hF : Clo.Fit n E) (h : (lst (frs n E H)).length ≠ 0) : Clo.cnt H < Clo.cnt (Clo.stepB n E H) := by
  have hq := Clo.cnt_lt_of (show H.length = (Clo.stepB n E H).length by rw [Clo.stepB_len, hl]) (Clo.le_stepB hl hF)
  rcases Nat.lt_or_eq_of_le hq.1 with h1 | h1
  · exact h1
  · exfalso
    have he := hq.2 h1
    cases hL : lst (frs n E H) with
    | nil => rw [hL] at h; exact h rfl
    | cons y r =>
      have hy : y ∈ lst (frs n E H) := by rw [hL]; simp
      have hb := lst_in hy
      have h2 := (has_frs hF hb.1).1 ((mem_lst hb.1).1 hy)
      have h3 := (Clo.has_stepB hl hF hb.1).2 (.inr h2.2)
      rw [← he, h2.1] at h3
      cases h3
theorem gr2 {n : Int} (h1 : 1 ≤ n) (H : List Bool) (hH : n = (H.length : Int)) (acc : List (List Int)) (ops : List S77) (m : Int) (a : Nat) (ha : a ≤ 100) (T : List Int) (hT : T.length ≤ 4611686018427387904) (hv : ∀ x ∈ T, 0 ≤ x ∧ x < n) (r : List (List Int) × Bool) : ∀ (d j : Nat) (F : List Bool), j + d = T.length → n = (F.length : Int) →
    Ev (fun k => impl_GenerationRounds.l1 k H acc ((rl n a j (T.drop j)).foldl (nw H) F) ops (ops.length : Int) (wrap64 (m + 1)) n ops) r →
    Ev (fun k => impl_GenerationRounds.l2 k H acc F ops (ops.length : Int) m T (T.length : Int) (j : Int) n ops (a : Int) T) r := by
  intro d
  induction d with
  | zero =>
    intro j F hj hn hr
    rw [List.drop_of_length_le (by omega)] at hr
    refine Ev.succ ?_
    simp only [impl_GenerationRounds.l2]
    exact Ev.neg (by omega) hr
  | succ d ih =>
    intro j F hj hn hr
    have hlt : j < T.length := by omega
    have hx := hv _ (List.getElem_mem hlt)
    rw [drop_cons hlt, rl, List.foldl_cons] at hr
    refine Ev.succ ?_
    simp only [impl_GenerationRounds.l2, rd_at hlt, w64s hlt (by omega : T.length ≤ 9223372036854775807)]
    have e : rdOf false H T[j] = Clo.has H T[j] := rfl
    rw [e]
    refine Ev.pos (by omega) (Ev.pos (by omega) (Ev.pos (by omega) (Ev.pos hx.1 (Ev.pos (by omega) (Ev.cases (fun c => ?_) (fun c => ?_))))))
    · have e2 : nw H F (dig n a (j : Int), T[j]) = F := by unfold nw; rw [if_neg (by simp [c])]
      rw [e2] at hr
      exact ih (j + 1) F (by omega) hn hr
    · refine Ev.bind (allIn_v h1 H hH a (j : Int) (by omega) (by omega) ha) (Ev.cases (fun c2 => Ev.pos (by omega) ?_) (fun c2 => ?_))
      · have e2 : nw H F (dig n a (j : Int), T[j]) = F.set T[j].toNat true := by
          unfold nw
          rw [if_pos (by simp [c, Clo.fires] at c2 ⊢; exact c2)]
        rw [e2] at hr
        exact ih (j + 1) _ (by omega) (by simpa using hn) hr
      · have e2 : nw H F (dig n a (j : Int), T[j]) = F := by unfold nw; rw [if_neg (by rw [Clo.fires, Bool.eq_false_iff.2 c2, Bool.and_false]; simp)]
        rw [e2] at hr
        exact ih (j + 1) F (by omega) hn hr
/-- How a round ends, once it has told what is new. -/
def endG (k : Nat) (H : List Bool) (acc : List (List Int)) (t : List Int) (n : Int) (ops : List S77) : Option (List (List Int) × Bool) :=
  if (t.length : Int) = 0 then (some (acc, true)) else (if acc.length < 5864062014805 then (impl_GenerationRounds.l3 k H (acc ++ [t]) t (t.length : Int) 0 n ops) else (none))
theorem gr1 {n : Int} (H : List Bool) (hH : n = (H.length : Int)) (acc : List (List Int)) (ops : List S77) (h : okAlg n ops) (r : List (List Int) × Bool) : ∀ (d m : Nat) (F : List Bool), m + d = ops.length → n = (F.length : Int) →
    Ev (fun k => endG k H acc (lst ((rules n (ops.drop m)).foldl (nw H) F)) n ops) r →
    Ev (fun k => impl_GenerationRounds.l1 k H acc F ops (ops.length : Int) (m : Int) n ops) r := by
  have h8 := h.2.1
  intro d
  induction d with
  | zero =>
    intro m F hm hn hr
    rw [List.drop_of_length_le (by omega)] at hr
    refine Ev.succ ?_
    simp only [impl_GenerationRounds.l1]
    exact Ev.neg (by omega) (Ev.bind (marked_lst F (by omega)) hr)
  | succ d ih =>
    intro m F hm hn hr
    have hlt : m < ops.length := by omega
    have ho := h.2.2.2 _ (List.getElem_mem hlt)
    have hp := pow_bd h.1 h.2.1 (show ops[m].f0.toNat ≤ 6 by have := ho.2.1; omega)
    have hlen := ho.2.2.1
    have h4 := h.2.2.1
    rw [drop_cons hlt, rules_cons, List.foldl_append] at hr
    refine Ev.succ ?_
    simp only [impl_GenerationRounds.l1, rdT_at hlt]
    refine Ev.pos (by omega) (Ev.pos (by omega) (Ev.pos (by omega) ?_))
    obtain ⟨a, ha⟩ := int_nat ho.1
    have := gr2 h.1 H hH acc ops (m : Int) a (by have := ho.2.1; omega) ops[m].f1 (by omega) ho.2.2.2 r ops[m].f1.length 0 F (by omega) hn (by
      rw [w64s hlt (by omega), List.drop_zero]
      refine ih (m + 1) _ (by omega) (by rw [nws_len]; exact hn) ?_
      rw [show a = ops[m].f0.toNat by omega]
      exact hr)
    rw [ha]
    exact this
theorem gr3 {n : Int} (acc : List (List Int)) (ops : List S77) (t : List Int) (hv : ∀ x ∈ t, 0 ≤ x ∧ x < n) (hl : t.length ≤ 1048576) (r : List (List Int) × Bool) : ∀ (d j : Nat) (H : List Bool), j + d = t.length → n = (H.length : Int) →
    Ev (fun k => impl_GenerationRounds.l0 k (mks H (t.drop j)) acc n ops) r → Ev (fun k => impl_GenerationRounds.l3 k H acc t (t.length : Int) (j : Int) n ops) r := by
  intro d
  induction d with
  | zero =>
    intro j H hj hn hr
    rw [List.drop_of_length_le (by omega)] at hr
    refine Ev.succ ?_
    simp only [impl_GenerationRounds.l3]
    exact Ev.neg (by omega) hr
  | succ d ih =>
    intro j H hj hn hr
    have hlt : j < t.length := by omega
    have hx := hv _ (List.getElem_mem hlt)
    rw [drop_cons hlt, mks, List.foldl_cons] at hr
    refine Ev.succ ?_
    simp only [impl_GenerationRounds.l3, rd_at hlt, w64s hlt (by omega : t.length ≤ 9223372036854775807)]
    exact Ev.pos (by omega) (Ev.pos (by omega) (Ev.pos (by omega) (Ev.pos hx.1 (Ev.pos (by omega) (ih (j + 1) _ (by omega) (by simpa using hn) hr)))))
theorem sr1 {n : Int} (hn8 : n ≤ 8) (h1 : 1 ≤ n) (H : List Bool) (hH : n = (H.length : Int)) (acc : List (List Int)) (x8 : Int) (N : List Bool) (hN : n = (N.length : Int)) (ops : List S77) (r : List (List Int) × Bool) : ∀ (d j : Nat) (t : List Int), (j : Int) + d = n → t.length ≤ j →
    Ev (fun k => if ((t ++ fl (fun i => N.getD i false && !H.getD i false) j d).length : Int) = 0 then (some (acc, true)) else (if acc.length < 5864062014805 then (spec_GenerationRounds.l0 k N (acc ++ [t ++ fl (fun i => N.getD i false && !H.getD i false) j d]) (wrap64 (x8 + 1)) n ops) else (none))) r →
    Ev (fun k => spec_GenerationRounds.l1 k H acc x8 N t (j : Int) n ops) r := by
  intro d
  induction d with
  | zero =>
    intro j t hj ht hr
    simp only [fl, List.append_nil] at hr
    refine Ev.succ ?_
    simp only [spec_GenerationRounds.l1]
    exact Ev.neg (by omega) hr
  | succ d ih =>
    intro j t hj ht hr
    have e1 : rdOf false N (j : Int) = N.getD j false := rfl
    have e2 : rdOf false H (j : Int) = H.getD j false := rfl
    refine Ev.succ ?_
    simp only [spec_GenerationRounds.l1, e1, e2, w64s (show j < 9 by omega) (by omega)]
    rw [fl] at hr
    refine Ev.pos (by omega) (Ev.pos (by omega) (Ev.pos (by omega) (Ev.cases (fun c => Ev.pos (by omega) (Ev.cases (fun c2 => ?_) (fun c2 => Ev.pos (by omega) ?_))) (fun c => ?_))))
    · rw [if_neg (by rw [c, c2]; simp)] at hr
      exact ih (j + 1) t (by omega) (by omega) hr
    · rw [if_pos (by rw [c, Bool.eq_false_iff.2 c2]; rfl)] at hr
      refine ih (j + 1) _ (by omega) (by simp; omega) ?_
      rw [List.append_assoc]
      exact hr
    · rw [if_neg (by rw [Bool.eq_false_iff.2 c]; simp)] at hr
      exact ih (j + 1) t (by omega) (by omega) hr
theorem rounds_v {n : Int} (ops : List S77) (h : okAlg n ops) : ∀ (d j : Nat) (H : List Bool) (acc : List (List Int)), n = (H.length : Int) → n.toNat ≤ Clo.cnt H + d → j + d ≤ n.toNat → acc.length ≤ j + 1 → (∀ l ∈ acc, l.length ≤ 8) →
    ∃ R : List (List Int), Ev (fun k => impl_GenerationRounds.l0 k H acc n ops) (R, true) ∧ Ev (fun k => spec_GenerationRounds.l0 k H acc (j : Int) n ops) (R, true) ∧ R.length ≤ 20 ∧ ∀ l ∈ R, l.length ≤ 8 := by
  have h1 := h.1
  have h8 := h.2.1
  have hF := rules_fit h
  intro d
  induction d with
  | zero =>
    intro j H acc hn hc hj ha hb
    have hl : H.length = n.toNat := by omega
    have hz : (lst (frs n.toNat (rules n ops) H)).length = 0 := by
      rcases Nat.eq_zero_or_pos (lst (frs n.toNat (rules n ops) H)).length with h0 | h0
      · exact h0
      · have := more_of_frs hl hF (by omega)
        have h2 := Clo.cnt_le (Clo.stepB n.toNat (rules n ops) H)
        rw [Clo.stepB_len] at h2
        omega
    refine ⟨acc, Ev.succ ?_, Ev.succ ?_, by omega, hb⟩
    · simp only [impl_GenerationRounds.l0]
      refine Ev.pos (by omega) (Ev.pos (by omega) (gr1 H hn acc ops h _ ops.length 0 _ (by omega) (by simp; omega) ?_))
      rw [List.drop_zero]
      unfold endG
      exact Ev.pos (by exact_mod_cast hz) (Ev.now _)
    · simp only [spec_GenerationRounds.l0]
      refine Ev.pos (by omega) (Ev.bind (l5Step_v H hn ops h) (sr1 h8 h1 H hn acc _ _ (by rw [Clo.stepB_len]; omega) ops _ n.toNat 0 [] (by omega) (by simp) ?_))
      rw [List.nil_append, frs_lst hl hF]
      exact Ev.pos (by exact_mod_cast hz) (Ev.now _)
  | succ d ih =>
    intro j H acc hn hc hj ha hb
    have hl : H.length = n.toNat := by omega
    by_cases hz : (lst (frs n.toNat (rules n ops) H)).length = 0
    · refine ⟨acc, Ev.succ ?_, Ev.succ ?_, by omega, hb⟩
      · simp only [impl_GenerationRounds.l0]
        refine Ev.pos (by omega) (Ev.pos (by omega) (gr1 H hn acc ops h _ ops.length 0 _ (by omega) (by simp; omega) ?_))
        rw [List.drop_zero]
        unfold endG
        exact Ev.pos (by exact_mod_cast hz) (Ev.now _)
      · simp only [spec_GenerationRounds.l0]
        refine Ev.pos (by omega) (Ev.bind (l5Step_v H hn ops h) (sr1 h8 h1 H hn acc _ _ (by rw [Clo.stepB_len]; omega) ops _ n.toNat 0 [] (by omega) (by simp) ?_))
        rw [List.nil_append, frs_lst hl hF]
        exact Ev.pos (by exact_mod_cast hz) (Ev.now _)
    · have hm := more_of_frs hl hF hz
      have hll := lst_len (frs n.toNat (rules n ops) H)
      rw [frs_len] at hll
      have hin : ∀ x ∈ lst (frs n.toNat (rules n ops) H), 0 ≤ x ∧ x < n := fun x hx => by
        have := lst_in hx
        rw [frs_len] at this
        omega
      obtain ⟨R, r1, r2, r3, r4⟩ := ih (j + 1) (Clo.stepB n.toNat (rules n ops) H) (acc ++ [lst (frs n.toNat (rules n ops) H)]) (by rw [Clo.stepB_len]; omega) (by omega) (by omega) (by simp; omega) (fun l hl' => by
        rcases List.mem_append.1 hl' with hl' | hl'
        · exact hb l hl'
        · rw [List.mem_singleton.1 hl']; omega)
      refine ⟨R, Ev.succ ?_, Ev.succ ?_, r3, r4⟩
      · simp only [impl_GenerationRounds.l0]
        refine Ev.pos (by omega) (Ev.pos (by omega) (gr1 H hn acc ops h _ ops.length 0 _ (by omega) (by simp; omega) ?_))
        rw [List.drop_zero]
        unfold endG
        refine Ev.neg (by exact_mod_cast hz) (Ev.pos (by omega) (gr3 _ ops _ hin (by omega) _ _ 0 H (Nat.zero_add _) hn ?_))
        rw [List.drop_zero]
        rw [step_of_frs hl hF]
        exact r1
      · simp only [spec_GenerationRounds.l0]
        refine Ev.pos (by omega) (Ev.bind (l5Step_v H hn ops h) (sr1 h8 h1 H hn acc _ _ (by rw [Clo.stepB_len]; omega) ops _ n.toNat 0 [] (by omega) (by simp) ?_))
        rw [List.nil_append, frs_lst hl hF, w64s (show j < 9 by omega) (by omega)]
        exact Ev.neg (by exact_mod_cast hz) (Ev.pos (by omega) r2)
theorem genRounds_v (n : Int) (ops : List S77) (ho : ∀ o ∈ ops, o.f1.length ≤ 9223372036854775807) (t : List Int) (hlt : t.length ≤ 1048576) :
    ∃ r : List (List Int) × Bool, Ev (fun k => spec_GenerationRounds.f k n ops t) r ∧ Ev (fun k => impl_GenerationRounds.f k n ops t) r ∧ SmallSS r.1 := by
  by_cases c : okAlg n ops ∧ (t.length : Int) ≤ 20 ∧ ∀ x ∈ t, 0 ≤ x ∧ x < n
  · have h1 := c.1.1
    have h8 := c.1.2.1
    have hm := mk0_len n t
    have hll := lst_len (mk0 n t)
    obtain ⟨R, r1, r2, r3, r4⟩ := rounds_v ops c.1 n.toNat 0 (mk0 n t) [lst (mk0 n t)] (by omega) (by omega) (by omega) (by simp) (fun l hl => by rw [List.mem_singleton.1 hl]; omega)
    refine ⟨(R, true), ?_, ?_, Nat.le_trans r3 (by omega), fun l hl => Nat.le_trans (r4 l hl) (by omega)⟩
    · unfold spec_GenerationRounds.f
      exact Ev.bind (l5Some_v n ops ho t hlt) (Ev.pos (decide_eq_true c) (Ev.bind (l5In_v (by omega) h8 t (by omega) c.2.2) (Ev.bind (l5List_v _ (by omega)) r2)))
    · unfold impl_GenerationRounds.f
      exact Ev.bind (areElements_v n ops ho t hlt) (Ev.pos (decide_eq_true c) (Ev.bind (marks_v (by omega) h8 t (by omega) c.2.2) (Ev.bind (marked_lst _ (by omega)) r1)))
  · refine ⟨([], false), ?_, ?_, by simp, fun l hl => by simp at hl⟩
    · unfold spec_GenerationRounds.f
      exact Ev.bind (l5Some_v n ops ho t hlt) (Ev.neg (by simp only [decide_eq_true_eq]; exact c) (Ev.now _))
    · unfold impl_GenerationRounds.f
      exact Ev.bind (areElements_v n ops ho t hlt) (Ev.neg (by simp only [decide_eq_true_eq]; exact c) (Ev.now _))
theorem pure (n : Int) (ops : List S102) (t : List Int) (hn : I64 n) (hl : ops.length ≤ 9223372036854775807) (ho : ∀ o ∈ ops, WfOp o) (hlt : t.length ≤ 9223372036854775807) (ht : ∀ x ∈ t, I64 x) : ∃ k, laws_FnExactGenerationRounds.f k n ops t = some true := by
  apply Ev.rounds
  unfold laws_FnExactGenerationRounds.f
  refine Ev.cases (fun _ => Ev.now _) (fun hs' => szAlgebra_law hl ho (by omega) (by omega) fun hs _ _ _ => ?_)
  obtain ⟨m, hm, hm0, hm1⟩ := markAlgebra_cv n ops hs 1 (by omega) (by omega)
  obtain ⟨r, h1, h2, hr⟩ := genRounds_v n (ops.map cvOp) (short_cv hs) t (by omega)
  have hb := mkSS_bd r.1 1 hr.2
  refine Ev.bind (toAlgebra_v n ops hs) (Ev.bind (toIntS_v t (by omega)) (Ev.bind h1 (Ev.bind h2 (Ev.bind (eqIntSS_v _ hr) (Ev.pos (by simp) (Ev.bind (eqAlgebra_cv n ops hs) (Ev.pos rfl (Ev.bind (eqIntS_v t hlt) (Ev.pos rfl (Ev.bind hm (Ev.bind (markIntS_v t m.1 (by omega) (by omega) (by omega)) (Ev.pos (by omega) ?_))))))))))))
  exact Ev.bind (markIntSS_v _ hr 1 (by omega) (by omega)) (Ev.bind (heldIntSS_v _ hr 1 (by omega) (by omega)) (Ev.pos (by omega) (Ev.pos rfl (Ev.now _))))

end Go.Proofs.Ythofhfmdomppeaa.LFnExactGenerationRounds
