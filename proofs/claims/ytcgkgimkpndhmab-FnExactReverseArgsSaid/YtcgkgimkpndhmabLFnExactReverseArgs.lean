/- The plain statement of FnExactReverseArgs: for each algebra whose numbers fit 64 bits and each number, the law's answer is true. -/
import Derived.Test.YtcgkgimkpndhmabQx11
import Derived.Test.YtcgkgimkpndhmabBase
import Derived.Test.YtcgkgimkpndhmabOpens
namespace Go.Proofs.Ytcgkgimkpndhmab.LFnExactReverseArgs
open Go.RowKit Go.Proofs.Ytcgkgimkpndhmab.Q Go.Proofs.YtcgkgimkpndhmabW.PrintWords Go.Proofs.YtcgkgimkpndhmabW.PrintLast Go.Proofs.Ytcgkgimkpndhmab.Base Go.Proofs.Ytcgkgimkpndhmab.Opens
set_option linter.unusedVariables false
set_option linter.unusedSimpArgs false

-- laws_szIntS
theorem szIntS_v (l : List Int) (left : Int) (hl : l.length ≤ 9223372036854775807) (h0 : 0 ≤ left) (h1 : left ≤ 1048576) :
    ∃ r, laws_szIntS.f l left = some r ∧ (r < 0 ∨ (0 ≤ r ∧ r ≤ left ∧ l.length ≤ 1048576)) := by
  unfold laws_szIntS.f
  rw [w64 (by omega)]
  by_cases h : left - (l.length : Int) < 0
  · rw [if_pos h]; exact ⟨_, rfl, .inl (by omega)⟩
  · rw [if_neg h]; exact ⟨_, rfl, .inr (by omega)⟩
-- laws_szOp
theorem szOp_v (a : Int) (l : List Int) (left : Int) (hl : l.length ≤ 9223372036854775807) (h0 : 0 ≤ left) (h1 : left ≤ 1048576) :
    ∃ r, laws_szOp.f a l left = some r ∧ (r < 0 ∨ (0 ≤ r ∧ r ≤ left ∧ l.length ≤ 1048576)) := by
  obtain ⟨r, hr, h⟩ := szIntS_v l left hl h0 h1
  unfold laws_szOp.f
  rw [hr]; simp only [Option.bind_some]
  by_cases c : r < 0
  · rw [if_pos c]; exact ⟨_, rfl, .inl (by omega)⟩
  · rw [if_neg c]; exact ⟨_, rfl, h⟩
-- laws_szOpS
theorem rdTL_at {ops : List S79} {q : Nat} (hq : q < ops.length) : rd_T79 ops (q : Int) = ops[q] := getD_at hq
theorem szOpS_l (ops : List S79) (hl : ops.length ≤ 9223372036854775807) (ho : ∀ o ∈ ops, o.f1.length ≤ 9223372036854775807) : ∀ (d j : Nat) (left : Int), j + d = ops.length → 0 ≤ left → left ≤ 1048576 →
    ∃ r, Ev (fun k => laws_szOpS.l0 k ops left (j : Int)) r ∧ (r < 0 ∨ (0 ≤ r ∧ r ≤ left ∧ ∀ o ∈ ops.drop j, o.f1.length ≤ 1048576)) := by
  intro d
  induction d with
  | zero =>
    intro j left hj h0 h1
    refine ⟨left, Ev.succ ?_, .inr ⟨h0, Int.le_refl _, ?_⟩⟩
    · simp only [laws_szOpS.l0]
      exact Ev.neg (by omega) (Ev.now _)
    · rw [List.drop_of_length_le (by omega)]; simp
  | succ d ih =>
    intro j left hj h0 h1
    have hlt : j < ops.length := by omega
    obtain ⟨r, hr, h⟩ := szOp_v ops[j].f0 ops[j].f1 left (ho _ (List.getElem_mem hlt)) h0 h1
    by_cases c : r < 0
    · refine ⟨-1, Ev.succ ?_, .inl (by omega)⟩
      simp only [laws_szOpS.l0, rdTL_at hlt]
      exact Ev.pos (by omega) (Ev.pos (by omega) (Ev.bound hr (Ev.pos c (Ev.now _))))
    · obtain ⟨h2, h3, h4⟩ : 0 ≤ r ∧ r ≤ left ∧ ops[j].f1.length ≤ 1048576 := by omega
      obtain ⟨r', hr', h'⟩ := ih (j + 1) r (by omega) h2 (by omega)
      refine ⟨r', Ev.succ ?_, ?_⟩
      · simp only [laws_szOpS.l0, rdTL_at hlt, w64s hlt hl]
        exact Ev.pos (by omega) (Ev.pos (by omega) (Ev.bound hr (Ev.neg c hr')))
      · rcases h' with h' | ⟨h5, h6, h7⟩
        · exact .inl h'
        · refine .inr ⟨h5, by omega, ?_⟩
          rw [drop_cons hlt]
          intro o ho'
          rcases List.mem_cons.1 ho' with rfl | ho'
          · exact h4
          · exact h7 o ho'
/-- The tables are short. -/
def SmallA (ops : List S79) : Prop := ops.length ≤ 1048576 ∧ ∀ o ∈ ops, o.f1.length ≤ 1048576
theorem szOpS_v (ops : List S79) (left : Int) (hl : ops.length ≤ 9223372036854775807) (ho : ∀ o ∈ ops, o.f1.length ≤ 9223372036854775807) (h0 : 0 ≤ left) (h1 : left ≤ 1048576) :
    ∃ r, Ev (fun k => laws_szOpS.f k ops left) r ∧ (r < 0 ∨ (0 ≤ r ∧ r ≤ left ∧ SmallA ops)) := by
  by_cases c : left - (ops.length : Int) < 0
  · refine ⟨-1, ?_, .inl (by omega)⟩
    unfold laws_szOpS.f
    rw [w64 (by omega)]
    exact Ev.pos c (Ev.now _)
  · obtain ⟨r, hr, h⟩ := szOpS_l ops hl ho ops.length 0 (left - (ops.length : Int)) (by omega) (by omega) (by omega)
    refine ⟨r, ?_, ?_⟩
    · unfold laws_szOpS.f
      rw [w64 (by omega)]
      exact Ev.neg c hr
    · rcases h with h | ⟨h2, h3, h4⟩
      · exact .inl h
      · exact .inr ⟨h2, by omega, by omega, h4⟩
-- laws_szAlgebra
theorem szAlgebra_v (n : Int) (ops : List S79) (left : Int) (hl : ops.length ≤ 9223372036854775807) (ho : ∀ o ∈ ops, o.f1.length ≤ 9223372036854775807) (h0 : 0 ≤ left) (h1 : left ≤ 1048576) :
    ∃ r, Ev (fun k => laws_szAlgebra.f k n ops left) r ∧ (r < 0 ∨ (0 ≤ r ∧ r ≤ left ∧ SmallA ops)) := by
  obtain ⟨r, hr, h⟩ := szOpS_v ops left hl ho h0 h1
  by_cases c : r < 0
  · refine ⟨-1, ?_, .inl (by omega)⟩
    unfold laws_szAlgebra.f
    exact Ev.bind hr (Ev.pos c (Ev.now _))
  · refine ⟨r, ?_, h⟩
    unfold laws_szAlgebra.f
    exact Ev.bind hr (Ev.neg c (Ev.now _))
-- laws_toIntS
theorem toIntS_l (l : List Int) (hl : l.length ≤ 1048576) : ∀ (d j : Nat), j + d = l.length → Ev (fun k => laws_toIntS.l0 k l (l.take j ++ List.replicate d 0) (j : Int)) l := by
  intro d
  induction d with
  | zero =>
    intro j hj
    refine Ev.succ ?_
    simp only [laws_toIntS.l0]
    refine Ev.neg (by omega) (Ev.const ?_)
    rw [List.take_of_length_le (by omega)]; simp
  | succ d ih =>
    intro j hj
    have hlt : j < l.length := by omega
    refine Ev.succ ?_
    simp only [laws_toIntS.l0, rd_at hlt, w64s hlt (by omega : l.length ≤ 9223372036854775807), Int.toNat_natCast]
    refine Ev.pos (by omega) (Ev.pos (by omega) (Ev.pos (by simp; omega) ?_))
    rw [List.replicate_succ, set_mid _ _ _ _ j (by simp; omega)]
    have := ih (j + 1) (by omega)
    rw [take_snoc hlt, List.append_assoc] at this
    exact this
theorem toIntS_v (l : List Int) (hl : l.length ≤ 1048576) : Ev (fun k => laws_toIntS.f k l) l := by
  unfold laws_toIntS.f
  rw [Int.toNat_natCast]
  exact Ev.pos (by omega) (Ev.pos (by omega) (toIntS_l l hl l.length 0 (by omega)))
-- laws_toOp
theorem toOp_v (a : Int) (l : List Int) (hl : l.length ≤ 1048576) : Ev (fun k => laws_toOp.f k a l) (a, l) := by
  unfold laws_toOp.f
  exact Ev.bind (toIntS_v l hl) (Ev.now _)
-- laws_toOpS
def cvOp (o : S79) : S75 := ⟨o.f0, o.f1⟩
theorem toOpS_l (ops : List S79) (hl : ops.length ≤ 1048576) (ho : ∀ o ∈ ops, o.f1.length ≤ 1048576) : ∀ (d j : Nat), j + d = ops.length → Ev (fun k => laws_toOpS.l0 k ops ((ops.map cvOp).take j ++ List.replicate d z75) (j : Int)) (ops.map cvOp) := by
  intro d
  induction d with
  | zero =>
    intro j hj
    refine Ev.succ ?_
    simp only [laws_toOpS.l0]
    refine Ev.neg (by omega) (Ev.const ?_)
    rw [List.take_of_length_le (by simp; omega)]; simp
  | succ d ih =>
    intro j hj
    have hlt : j < ops.length := by omega
    have hlt' : j < (ops.map cvOp).length := by simpa using hlt
    refine Ev.succ ?_
    simp only [laws_toOpS.l0, rdTL_at hlt, w64s hlt (by omega : ops.length ≤ 9223372036854775807), Int.toNat_natCast]
    refine Ev.pos (by omega) (Ev.pos (by omega) (Ev.bind (toOp_v _ _ (ho _ (List.getElem_mem hlt))) (Ev.pos (by simp; omega) ?_)))
    rw [List.replicate_succ, set_mid _ _ _ _ j (by simp; omega)]
    have := ih (j + 1) (by omega)
    rw [take_snoc hlt', List.append_assoc, List.getElem_map] at this
    exact this
theorem toOpS_v (ops : List S79) (h : SmallA ops) : Ev (fun k => laws_toOpS.f k ops) (ops.map cvOp) := by
  unfold laws_toOpS.f
  rw [Int.toNat_natCast]
  exact Ev.pos (by omega) (Ev.pos (by have := h.1; omega) (toOpS_l ops h.1 h.2 ops.length 0 (by omega)))
-- laws_toAlgebra
theorem toAlgebra_v (n : Int) (ops : List S79) (h : SmallA ops) : Ev (fun k => laws_toAlgebra.f k n ops) (n, ops.map cvOp) := by
  unfold laws_toAlgebra.f
  exact Ev.bind (toOpS_v ops h) (Ev.now _)
-- laws_eqIntS
theorem eqIntS_l (l : List Int) (hl : l.length ≤ 9223372036854775807) : ∀ (d j : Nat), j + d = l.length → Ev (fun k => laws_eqIntS.l0 k l l (j : Int)) true := by
  intro d
  induction d with
  | zero =>
    intro j hj
    refine Ev.succ ?_
    simp only [laws_eqIntS.l0]
    exact Ev.neg (by omega) (Ev.now _)
  | succ d ih =>
    intro j hj
    have hlt : j < l.length := by omega
    refine Ev.succ ?_
    simp only [laws_eqIntS.l0, w64s hlt hl]
    exact Ev.pos (by omega) (Ev.pos (by omega) (Ev.pos (by omega) (Ev.pos trivial (ih (j + 1) (by omega)))))
theorem eqIntS_v (l : List Int) (hl : l.length ≤ 9223372036854775807) : Ev (fun k => laws_eqIntS.f k l l) true := by
  unfold laws_eqIntS.f
  exact Ev.pos rfl (eqIntS_l l hl l.length 0 (by omega))
-- laws_eqOp
theorem eqOp_v (a : Int) (l : List Int) (hl : l.length ≤ 9223372036854775807) : Ev (fun k => laws_eqOp.f k a l a l) true := by
  unfold laws_eqOp.f
  exact Ev.pos rfl (Ev.bind (eqIntS_v l hl) (Ev.pos rfl (Ev.now _)))
-- laws_toOpS
theorem rdT_at {ops : List S75} {q : Nat} (hq : q < ops.length) : rd_T75 ops (q : Int) = ops[q] := getD_at hq
-- laws_eqOpS
theorem eqOpS_l (l : List S75) (hl : l.length ≤ 9223372036854775807) (ho : ∀ o ∈ l, o.f1.length ≤ 9223372036854775807) : ∀ (d j : Nat), j + d = l.length → Ev (fun k => laws_eqOpS.l0 k l l (j : Int)) true := by
  intro d
  induction d with
  | zero =>
    intro j hj
    refine Ev.succ ?_
    simp only [laws_eqOpS.l0]
    exact Ev.neg (by omega) (Ev.now _)
  | succ d ih =>
    intro j hj
    have hlt : j < l.length := by omega
    refine Ev.succ ?_
    simp only [laws_eqOpS.l0, rdT_at hlt, w64s hlt hl]
    exact Ev.pos (by omega) (Ev.pos (by omega) (Ev.pos (by omega) (Ev.bind (eqOp_v _ _ (ho _ (List.getElem_mem hlt))) (Ev.pos rfl (ih (j + 1) (by omega))))))
theorem eqOpS_v (l : List S75) (hl : l.length ≤ 9223372036854775807) (ho : ∀ o ∈ l, o.f1.length ≤ 9223372036854775807) : Ev (fun k => laws_eqOpS.f k l l) true := by
  unfold laws_eqOpS.f
  exact Ev.pos rfl (eqOpS_l l hl ho l.length 0 (by omega))
-- laws_eqAlgebra
theorem eqAlgebra_v (n : Int) (l : List S75) (hl : l.length ≤ 9223372036854775807) (ho : ∀ o ∈ l, o.f1.length ≤ 9223372036854775807) : Ev (fun k => laws_eqAlgebra.f k n l n l) true := by
  unfold laws_eqAlgebra.f
  exact Ev.pos rfl (Ev.bind (eqOpS_v l hl ho) (Ev.pos rfl (Ev.now _)))
theorem eqAlgebra_cv (n : Int) (ops : List S79) (h : SmallA ops) : Ev (fun k => laws_eqAlgebra.f k n (ops.map cvOp) n (ops.map cvOp)) true := by
  refine eqAlgebra_v n _ (by have := h.1; simp; omega) ?_
  intro o ho
  obtain ⟨q, hq, rfl⟩ := List.mem_map.1 ho
  have := h.2 q hq
  show q.f1.length ≤ _
  omega
-- spec_l1In
theorem l1In_v (a b c : Int) : spec_l1In.f a b c = some (decide (b ≤ a ∧ a ≤ c)) := by
  unfold spec_l1In.f
  by_cases h : a ≥ b
  · rw [if_pos h]; congr 1; exact decide_eq_decide.2 ⟨fun k => ⟨h, k⟩, fun k => k.2⟩
  · rw [if_neg h]; congr 1; exact (decide_eq_false (fun k => h k.1)).symm
theorem l1In_yes {a b c : Int} (h : b ≤ a ∧ a ≤ c) : spec_l1In.f a b c = some true := by rw [l1In_v, decide_eq_true h]
theorem l1In_no {a b c : Int} (h : ¬ (b ≤ a ∧ a ≤ c)) : spec_l1In.f a b c = some false := by rw [l1In_v, decide_eq_false h]
-- impl_IsAlgebra
/-- A power of a size stays small. -/
theorem pow_bd {n : Int} (h1 : 1 ≤ n) (h8 : n ≤ 8) : ∀ {i : Nat}, i ≤ 6 → 1 ≤ n ^ i ∧ n ^ i ≤ 262144 := by
  intro i hi
  obtain ⟨m, rfl⟩ := int_nat (show 0 ≤ n by omega)
  have e : ((m : Int)) ^ i = ((m ^ i : Nat) : Int) := by rw [Int.natCast_pow]
  rw [e]
  have a1 : m ^ i ≤ 8 ^ i := Nat.pow_le_pow_left (by omega) i
  have a2 : (8 : Nat) ^ i ≤ 8 ^ 6 := Nat.pow_le_pow_right (by omega) hi
  have a3 : 0 < m ^ i := Nat.pow_pos (by omega)
  have a4 : (8 : Nat) ^ 6 = 262144 := by decide
  omega
theorem pow_next (n : Int) (i : Nat) : n ^ (i + 1) = n ^ i * n := Int.pow_succ n i
theorem mul_bd {a b A B : Int} (ha : 0 ≤ a) (hA : a ≤ A) (hb : 0 ≤ b) (hB : b ≤ B) : 0 ≤ a * b ∧ a * b ≤ A * B :=
  ⟨Int.mul_nonneg ha hb, Int.mul_le_mul hA hB hb (by omega)⟩
def okOp (n a : Int) (l : List Int) : Prop := 0 ≤ a ∧ a ≤ 3 ∧ (l.length : Int) = n ^ a.toNat ∧ ∀ x ∈ l, 0 ≤ x ∧ x < n
instance (n a : Int) (l : List Int) : Decidable (okOp n a l) := by unfold okOp; infer_instance
def okAlg (n : Int) (ops : List S75) : Prop := 1 ≤ n ∧ n ≤ 8 ∧ ops.length ≤ 4 ∧ ∀ o ∈ ops, okOp n o.f0 o.f1
instance (n : Int) (ops : List S75) : Decidable (okAlg n ops) := by unfold okAlg; infer_instance
theorem all_drop {P : Int → Prop} {l : List Int} {j : Nat} (h : j < l.length) : (∀ x ∈ l.drop j, P x) ↔ P l[j] ∧ ∀ x ∈ l.drop (j + 1), P x := by
  rw [drop_cons h, List.forall_mem_cons]
theorem allOp_drop {P : S75 → Prop} {l : List S75} {j : Nat} (h : j < l.length) : (∀ x ∈ l.drop j, P x) ↔ P l[j] ∧ ∀ x ∈ l.drop (j + 1), P x := by
  rw [drop_cons h, List.forall_mem_cons]
-- spec_l2Pow
theorem l2Pow_l {n : Int} (h1 : 1 ≤ n) (h8 : n ≤ 8) : ∀ (d i : Nat), i + d ≤ 6 → Ev (fun k => spec_l2Pow.l0 k n (d : Int) (n ^ i)) (n ^ (i + d)) := by
  intro d
  induction d with
  | zero =>
    intro i hi
    refine Ev.succ ?_
    simp only [spec_l2Pow.l0]
    exact Ev.neg (by omega) (Ev.now _)
  | succ d ih =>
    intro i hi
    have hp := pow_bd h1 h8 (show i + 1 ≤ 6 by omega)
    refine Ev.succ ?_
    simp only [spec_l2Pow.l0]
    rw [← pow_next, w64 (by omega), w64 (by omega), show ((d + 1 : Nat) : Int) - 1 = (d : Int) by omega]
    refine Ev.pos (by omega) ?_
    have := ih (i + 1) (by omega)
    rwa [show i + 1 + d = i + (d + 1) by omega] at this
theorem l2Pow_v {n e : Int} (h1 : 1 ≤ n) (h8 : n ≤ 8) (h0 : 0 ≤ e) (h6 : e ≤ 6) : Ev (fun k => spec_l2Pow.f k n e) (n ^ e.toNat) := by
  obtain ⟨d, rfl⟩ := int_nat h0
  have := l2Pow_l h1 h8 d 0 (by omega)
  rw [Nat.zero_add, Int.pow_zero] at this
  rw [Int.toNat_natCast]
  exact this
-- impl_power
theorem power_l {n : Int} (h1 : 1 ≤ n) (h8 : n ≤ 8) : ∀ (d i : Nat), i + d ≤ 6 → Ev (fun k => impl_power.l0 k n (d : Int) (n ^ i)) (n ^ (i + d)) := by
  intro d
  induction d with
  | zero =>
    intro i hi
    refine Ev.succ ?_
    simp only [impl_power.l0]
    exact Ev.neg (by omega) (Ev.now _)
  | succ d ih =>
    intro i hi
    have hp := pow_bd h1 h8 (show i + 1 ≤ 6 by omega)
    refine Ev.succ ?_
    simp only [impl_power.l0]
    rw [← pow_next, w64 (by omega), w64 (by omega), show ((d + 1 : Nat) : Int) - 1 = (d : Int) by omega]
    refine Ev.pos (by omega) ?_
    have := ih (i + 1) (by omega)
    rwa [show i + 1 + d = i + (d + 1) by omega] at this
theorem power_v {n e : Int} (h1 : 1 ≤ n) (h8 : n ≤ 8) (h0 : 0 ≤ e) (h6 : e ≤ 6) : Ev (fun k => impl_power.f k n e) (n ^ e.toNat) := by
  obtain ⟨d, rfl⟩ := int_nat h0
  have := power_l h1 h8 d 0 (by omega)
  rw [Nat.zero_add, Int.pow_zero] at this
  rw [Int.toNat_natCast]
  exact this
-- spec_l2Op
theorem l2Op_l {n a : Int} (l : List Int) (h1 : 1 ≤ n) (h8 : n ≤ 8) (hl : l.length ≤ 9223372036854775807) : ∀ (d j : Nat), j + d = l.length →
    Ev (fun k => spec_l2Op.l0 k n (j : Int) a l) (decide (∀ x ∈ l.drop j, 0 ≤ x ∧ x < n)) := by
  intro d
  induction d with
  | zero =>
    intro j hj
    refine Ev.succ ?_
    simp only [spec_l2Op.l0]
    refine Ev.neg (by omega) (Ev.const ?_)
    rw [List.drop_of_length_le (by omega)]; simp
  | succ d ih =>
    intro j hj
    have hlt : j < l.length := by omega
    refine Ev.succ ?_
    simp only [spec_l2Op.l0, rd_at hlt, w64s hlt hl]
    refine Ev.pos (by omega) (Ev.pos (by omega) ?_)
    by_cases c : 0 ≤ l[j] ∧ l[j] < n
    · refine Ev.bound (l1In_yes ?_) (Ev.pos rfl ?_)
      · rw [w64 (by omega)]; omega
      · refine Ev.eq (ih (j + 1) (by omega)) (decide_eq_decide.2 ?_)
        rw [all_drop hlt]
        exact ⟨fun h => ⟨c, h⟩, fun h => h.2⟩
    · refine Ev.bound (l1In_no ?_) (Ev.neg (by simp) (Ev.const ?_))
      · rw [w64 (by omega)]; omega
      · congr 1
        refine (decide_eq_false fun h => c ?_).symm
        exact ((all_drop hlt).1 h).1
theorem l2Op_v {n : Int} (a : Int) (l : List Int) (h1 : 1 ≤ n) (h8 : n ≤ 8) (hl : l.length ≤ 9223372036854775807) : Ev (fun k => spec_l2Op.f k n a l) (decide (okOp n a l)) := by
  unfold spec_l2Op.f
  by_cases c : 0 ≤ a ∧ a ≤ 3
  · refine Ev.bound (l1In_yes c) (Ev.pos rfl (Ev.bind (l2Pow_v h1 h8 c.1 (by omega)) (Ev.succ ?_)))
    simp only [spec_l2Op.j0]
    by_cases e : (l.length : Int) = n ^ a.toNat
    · refine Ev.neg (by simp [e]) (Ev.eq (l2Op_l l h1 h8 hl l.length 0 (by omega)) (decide_eq_decide.2 ?_))
      exact ⟨fun h => ⟨c.1, c.2, e, h⟩, fun h => h.2.2.2⟩
    · refine Ev.pos (by simp [e]) (Ev.const ?_)
      rw [decide_eq_false fun h => e h.2.2.1]
  · refine Ev.bound (l1In_no c) (Ev.neg (by simp) (Ev.succ ?_))
    simp only [spec_l2Op.j0]
    refine Ev.pos (by simp) (Ev.const ?_)
    rw [decide_eq_false fun h => c ⟨h.1, h.2.1⟩]
-- spec_l2Good
theorem l2Good_l {n : Int} (ops : List S75) (h1 : 1 ≤ n) (h8 : n ≤ 8) (hl : ops.length ≤ 4) (ho : ∀ o ∈ ops, o.f1.length ≤ 9223372036854775807) : ∀ (d j : Nat), j + d = ops.length →
    Ev (fun k => spec_l2Good.l0 k (j : Int) n ops) (decide (∀ o ∈ ops.drop j, okOp n o.f0 o.f1)) := by
  intro d
  induction d with
  | zero =>
    intro j hj
    refine Ev.succ ?_
    simp only [spec_l2Good.l0]
    refine Ev.neg (by omega) (Ev.const ?_)
    rw [List.drop_of_length_le (by omega)]; simp
  | succ d ih =>
    intro j hj
    have hlt : j < ops.length := by omega
    refine Ev.succ ?_
    simp only [spec_l2Good.l0, rdT_at hlt, w64s hlt (by omega : ops.length ≤ 9223372036854775807)]
    refine Ev.pos (by omega) (Ev.pos (by omega) (Ev.bind (l2Op_v _ _ h1 h8 (ho _ (List.getElem_mem hlt))) ?_))
    by_cases c : okOp n ops[j].f0 ops[j].f1
    · refine Ev.pos (decide_eq_true c) (Ev.eq (ih (j + 1) (by omega)) (decide_eq_decide.2 ?_))
      rw [allOp_drop hlt]
      exact ⟨fun h => ⟨c, h⟩, fun h => h.2⟩
    · refine Ev.neg (by simp [c]) (Ev.const ?_)
      congr 1
      exact (decide_eq_false fun h => c ((allOp_drop hlt).1 h).1).symm
theorem l2Good_v (n : Int) (ops : List S75) (ho : ∀ o ∈ ops, o.f1.length ≤ 9223372036854775807) : Ev (fun k => spec_l2Good.f k n ops) (decide (okAlg n ops)) := by
  unfold spec_l2Good.f
  by_cases c : 1 ≤ n ∧ n ≤ 8
  · refine Ev.bound (l1In_yes c) (Ev.pos rfl (Ev.succ ?_))
    simp only [spec_l2Good.j0]
    by_cases e : ops.length ≤ 4
    · refine Ev.neg (by simp; omega) (Ev.eq (l2Good_l ops c.1 c.2 e ho ops.length 0 (by omega)) (decide_eq_decide.2 ?_))
      exact ⟨fun h => ⟨c.1, c.2, e, h⟩, fun h => h.2.2.2⟩
    · refine Ev.pos (by simp; omega) (Ev.const ?_)
      rw [decide_eq_false fun h => e h.2.2.1]
  · refine Ev.bound (l1In_no c) (Ev.neg (by simp) (Ev.succ ?_))
    simp only [spec_l2Good.j0]
    refine Ev.pos (by simp) (Ev.const ?_)
    rw [decide_eq_false fun h => c ⟨h.1, h.2.1⟩]
-- impl_inSize
theorem inSize_l {n : Int} (l : List Int) (hl : l.length ≤ 9223372036854775807) : ∀ (d j : Nat), j + d = l.length →
    Ev (fun k => impl_inSize.l0 k n l (l.length : Int) (j : Int)) (decide (∀ x ∈ l.drop j, 0 ≤ x ∧ x < n)) := by
  intro d
  induction d with
  | zero =>
    intro j hj
    refine Ev.succ ?_
    simp only [impl_inSize.l0]
    refine Ev.neg (by omega) (Ev.const ?_)
    rw [List.drop_of_length_le (by omega)]; simp
  | succ d ih =>
    intro j hj
    have hlt : j < l.length := by omega
    refine Ev.succ ?_
    simp only [impl_inSize.l0, rd_at hlt, w64s hlt hl]
    refine Ev.pos (by omega) (Ev.pos (by omega) (Ev.pos (by omega) (Ev.cases (fun c => ?_) (fun c => Ev.cases (fun c' => ?_) (fun c' => ?_)))))
    · refine Ev.const ?_
      congr 1
      exact (decide_eq_false fun h => by have := ((all_drop hlt).1 h).1; omega).symm
    · refine Ev.const ?_
      congr 1
      exact (decide_eq_false fun h => by have := ((all_drop hlt).1 h).1; omega).symm
    · refine Ev.eq (ih (j + 1) (by omega)) (decide_eq_decide.2 ?_)
      rw [all_drop hlt]
      exact ⟨fun h => ⟨by omega, h⟩, fun h => h.2⟩
theorem inSize_v (l : List Int) (n : Int) (hl : l.length ≤ 9223372036854775807) : Ev (fun k => impl_inSize.f k l n) (decide (∀ x ∈ l, 0 ≤ x ∧ x < n)) :=
  inSize_l l hl l.length 0 (by omega)
-- impl_isOp
theorem isOp_v {n : Int} (a : Int) (l : List Int) (h1 : 1 ≤ n) (h8 : n ≤ 8) (hl : l.length ≤ 9223372036854775807) : Ev (fun k => impl_isOp.f k a l n) (decide (okOp n a l)) := by
  unfold impl_isOp.f
  refine Ev.cases (fun c => Ev.cases (fun c' => Ev.bind (power_v h1 h8 c (by omega)) (Ev.cases (fun e => Ev.bind (inSize_v l n hl) (Ev.const ?_)) (fun e => Ev.const ?_))) (fun c' => Ev.const ?_)) (fun c => Ev.const ?_)
  · congr 1
    exact decide_eq_decide.2 ⟨fun h => ⟨c, c', e, h⟩, fun h => h.2.2.2⟩
  · rw [decide_eq_false fun h => e h.2.2.1]
  · rw [decide_eq_false fun h => c' h.2.1]
  · rw [decide_eq_false fun h => c h.1]
-- impl_IsAlgebra
theorem implIsAlgebra_l {n : Int} (ops : List S75) (h1 : 1 ≤ n) (h8 : n ≤ 8) (hl : ops.length ≤ 4) (ho : ∀ o ∈ ops, o.f1.length ≤ 9223372036854775807) : ∀ (d j : Nat), j + d = ops.length →
    Ev (fun k => impl_IsAlgebra.l0 k ops (ops.length : Int) (j : Int) n ops) (decide (∀ o ∈ ops.drop j, okOp n o.f0 o.f1)) := by
  intro d
  induction d with
  | zero =>
    intro j hj
    refine Ev.succ ?_
    simp only [impl_IsAlgebra.l0]
    refine Ev.neg (by omega) (Ev.const ?_)
    rw [List.drop_of_length_le (by omega)]; simp
  | succ d ih =>
    intro j hj
    have hlt : j < ops.length := by omega
    refine Ev.succ ?_
    simp only [impl_IsAlgebra.l0, rdT_at hlt, w64s hlt (by omega : ops.length ≤ 9223372036854775807)]
    refine Ev.pos (by omega) (Ev.pos (by omega) (Ev.pos (by omega) (Ev.bind (isOp_v _ _ h1 h8 (ho _ (List.getElem_mem hlt))) ?_)))
    by_cases c : okOp n ops[j].f0 ops[j].f1
    · refine Ev.pos (decide_eq_true c) (Ev.eq (ih (j + 1) (by omega)) (decide_eq_decide.2 ?_))
      rw [allOp_drop hlt]
      exact ⟨fun h => ⟨c, h⟩, fun h => h.2⟩
    · refine Ev.neg (by simp [c]) (Ev.const ?_)
      congr 1
      exact (decide_eq_false fun h => c ((allOp_drop hlt).1 h).1).symm
theorem implIsAlgebra_v (n : Int) (ops : List S75) (ho : ∀ o ∈ ops, o.f1.length ≤ 9223372036854775807) : Ev (fun k => impl_IsAlgebra.f k n ops) (decide (okAlg n ops)) := by
  unfold impl_IsAlgebra.f
  refine Ev.cases (fun c => Ev.succ ?_) (fun c => Ev.cases (fun c' => Ev.succ ?_) (fun c' => Ev.succ ?_))
  · simp only [impl_IsAlgebra.j0]
    refine Ev.pos trivial (Ev.const ?_)
    rw [decide_eq_false fun h => by have := h.1; omega]
  · simp only [impl_IsAlgebra.j0]
    refine Ev.pos trivial (Ev.const ?_)
    rw [decide_eq_false fun h => by have := h.2.1; omega]
  · simp only [impl_IsAlgebra.j0]
    by_cases e : ops.length ≤ 4
    · refine Ev.neg (by simp; omega) (Ev.eq (implIsAlgebra_l ops (by omega) (by omega) e ho ops.length 0 (by omega)) (decide_eq_decide.2 ?_))
      exact ⟨fun h => ⟨by omega, by omega, e, h⟩, fun h => h.2.2.2⟩
    · refine Ev.pos (by simp; omega) (Ev.const ?_)
      rw [decide_eq_false fun h => e h.2.2.1]
-- impl_IsAlgebra
def ixF (n i : Int) (l : List Int) : Int := l.foldl (fun i x => i * n + x) i
theorem ix2 (n x y : Int) : ixF n 0 [x, y] = x * n + y := by simp [ixF]
theorem ix3 (n x y z : Int) : ixF n 0 [x, y, z] = (x * n + y) * n + z := by simp [ixF]
theorem ix_step {n : Int} (h1 : 1 ≤ n) (h8 : n ≤ 8) {i x : Int} {j : Nat} (hj : j ≤ 5) (h0 : 0 ≤ i) (hi : i < n ^ j) (hx : 0 ≤ x ∧ x < n) :
    0 ≤ i * n + x ∧ i * n + x < n ^ (j + 1) ∧ wrap64 (wrap64 (i * n) + x) = i * n + x := by
  have hp := pow_bd h1 h8 (show j + 1 ≤ 6 by omega)
  have a := Int.mul_le_mul_of_nonneg_right (show i + 1 ≤ n ^ j by omega) (show 0 ≤ n by omega)
  rw [← pow_next, Int.add_mul, Int.one_mul] at a
  have b : 0 ≤ i * n := Int.mul_nonneg h0 (by omega)
  refine ⟨by omega, by omega, ?_⟩
  rw [w64 (n := i * n) (by omega), w64 (by omega)]
theorem ix_bd {n : Int} (h1 : 1 ≤ n) (h8 : n ≤ 8) : ∀ (l : List Int) (i : Int) (j : Nat), j + l.length ≤ 6 → (∀ x ∈ l, 0 ≤ x ∧ x < n) → 0 ≤ i → i < n ^ j → 0 ≤ ixF n i l ∧ ixF n i l < n ^ (j + l.length) := by
  intro l
  induction l with
  | nil => intro i j _ _ h0 hi; exact ⟨h0, hi⟩
  | cons x l ih =>
    intro i j hj hx h0 hi
    rw [List.length_cons] at hj
    obtain ⟨a, b, _⟩ := ix_step h1 h8 (show j ≤ 5 by omega) h0 hi (hx x (by simp))
    have := ih (i * n + x) (j + 1) (by omega) (fun y hy => hx y (by simp [hy])) a b
    rw [List.length_cons, show j + (l.length + 1) = j + 1 + l.length by omega]
    exact this
theorem idx2 {n x y : Int} (hx : 0 ≤ x ∧ x < n) (hy : 0 ≤ y ∧ y < n) (h8 : n ≤ 8) : 0 ≤ x * n + y ∧ x * n + y < n ^ 2 ∧ wrap64 (wrap64 (x * n) + y) = x * n + y := by
  have := ix_step (n := n) (by omega) h8 (show 1 ≤ 5 by omega) hx.1 (by rw [show (1 : Nat) = 0 + 1 from rfl, Int.pow_succ, Int.pow_zero]; omega) hy
  exact this
theorem okAlg_op {n : Int} {ops : List S75} (h : okAlg n ops) {q : Nat} (hq : q < ops.length) : okOp n ops[q].f0 ops[q].f1 := h.2.2.2 _ (List.getElem_mem hq)
theorem rd_in {n : Int} {l : List Int} (h : ∀ x ∈ l, 0 ≤ x ∧ x < n) {i : Int} (h0 : 0 ≤ i) (h1 : i < l.length) : 0 ≤ rd l i ∧ rd l i < n := by
  obtain ⟨m, rfl⟩ := int_nat h0
  rw [rd_at (by omega)]
  exact h _ (List.getElem_mem _)
-- spec_l2Value
theorem l2Value_l {n : Int} {ops : List S75} (h1 : 1 ≤ n) (h8 : n ≤ 8) {q : Nat} (hq : q < ops.length) (args : List Int) (ha : ∀ x ∈ args, 0 ≤ x ∧ x < n) (h3 : args.length ≤ 3) (hT : (ops[q].f1.length : Int) = n ^ args.length) :
    ∀ (d j : Nat) (i : Int), j + d = args.length → 0 ≤ i → i < n ^ j → Ev (fun k => spec_l2Value.l0 k (q : Int) args i (j : Int) n ops) (rd ops[q].f1 (ixF n i (args.drop j))) := by
  intro d
  induction d with
  | zero =>
    intro j i hj h0 hi
    obtain rfl : j = args.length := by omega
    refine Ev.succ ?_
    simp only [spec_l2Value.l0, rdT_at hq]
    refine Ev.neg (by omega) (Ev.pos (by omega) (Ev.pos (by omega) (Ev.pos h0 (Ev.pos (by rw [hT]; exact hi) (Ev.const ?_)))))
    rw [List.drop_length]; rfl
  | succ d ih =>
    intro j i hj h0 hi
    have hlt : j < args.length := by omega
    obtain ⟨a, b, e⟩ := ix_step h1 h8 (show j ≤ 5 by omega) h0 hi (ha _ (List.getElem_mem hlt))
    refine Ev.succ ?_
    simp only [spec_l2Value.l0, rd_at hlt, w64s hlt (by omega : args.length ≤ 9223372036854775807), e]
    refine Ev.pos (by omega) (Ev.pos (by omega) ?_)
    rw [drop_cons hlt]
    exact ih (j + 1) _ (by omega) a b
theorem l2Value_v {n : Int} {ops : List S75} (h : okAlg n ops) {q : Nat} (hq : q < ops.length) (args : List Int) (ha : ∀ x ∈ args, 0 ≤ x ∧ x < n) (hl : (args.length : Int) = ops[q].f0) :
    Ev (fun k => spec_l2Value.f k n ops (q : Int) args) (rd ops[q].f1 (ixF n 0 args)) := by
  obtain ⟨a, b, c, _⟩ := okAlg_op h hq
  rw [← hl, Int.toNat_natCast] at c
  exact l2Value_l h.1 h.2.1 hq args ha (by omega) c args.length 0 0 (by omega) (by omega) (by simp)
-- impl_indexOf
theorem indexOf_l {n : Int} (h1 : 1 ≤ n) (h8 : n ≤ 8) (args : List Int) (ha : ∀ x ∈ args, 0 ≤ x ∧ x < n) (h3 : args.length ≤ 6) :
    ∀ (d j : Nat) (i : Int), j + d = args.length → 0 ≤ i → i < n ^ j → Ev (fun k => impl_indexOf.l0 k n i args (args.length : Int) (j : Int)) (ixF n i (args.drop j)) := by
  intro d
  induction d with
  | zero =>
    intro j i hj h0 hi
    obtain rfl : j = args.length := by omega
    refine Ev.succ ?_
    simp only [impl_indexOf.l0]
    refine Ev.neg (by omega) (Ev.const ?_)
    rw [List.drop_length]; rfl
  | succ d ih =>
    intro j i hj h0 hi
    have hlt : j < args.length := by omega
    obtain ⟨a, b, e⟩ := ix_step h1 h8 (show j ≤ 5 by omega) h0 hi (ha _ (List.getElem_mem hlt))
    refine Ev.succ ?_
    simp only [impl_indexOf.l0, rd_at hlt, w64s hlt (by omega : args.length ≤ 9223372036854775807), e]
    refine Ev.pos (by omega) (Ev.pos (by omega) (Ev.pos (by omega) ?_))
    rw [drop_cons hlt]
    exact ih (j + 1) _ (by omega) a b
theorem indexOf_v {n : Int} (h1 : 1 ≤ n) (h8 : n ≤ 8) (args : List Int) (ha : ∀ x ∈ args, 0 ≤ x ∧ x < n) (h3 : args.length ≤ 6) : Ev (fun k => impl_indexOf.f k args n) (ixF n 0 args) :=
  indexOf_l h1 h8 args ha h3 args.length 0 0 (by omega) (by omega) (by simp)
-- impl_hasOp
theorem hasOp_v (n : Int) (ops : List S75) (ho : ∀ o ∈ ops, o.f1.length ≤ 9223372036854775807) (op : Int) : Ev (fun k => impl_hasOp.f k n ops op) (decide (okAlg n ops ∧ 0 ≤ op ∧ op < ops.length)) := by
  unfold impl_hasOp.f
  refine Ev.bind (implIsAlgebra_v n ops ho) (Ev.cases (fun c => Ev.cases (fun c' => Ev.const ?_) (fun c' => Ev.const ?_)) (fun c => Ev.const ?_))
  · congr 1
    exact decide_eq_decide.2 ⟨fun h => ⟨of_decide_eq_true c, c', h⟩, fun h => h.2.2⟩
  · rw [decide_eq_false fun h => c' h.2.1]
  · rw [decide_eq_false fun h => c (decide_eq_true h.1)]
-- spec_l2Takes
theorem l2Takes_v (n : Int) (ops : List S75) (ho : ∀ o ∈ ops, o.f1.length ≤ 9223372036854775807) (op : Int) : Ev (fun k => spec_l2Takes.f k n ops op) (decide (okAlg n ops ∧ 0 ≤ op ∧ op < ops.length)) := by
  unfold spec_l2Takes.f
  refine Ev.bind (l2Good_v n ops ho) (Ev.cases (fun c => Ev.bound (l1In_v _ _ _) (Ev.const ?_)) (fun c => Ev.const ?_))
  · have c := of_decide_eq_true c
    have := c.2.2.1
    congr 1
    rw [w64 (by omega)]
    exact decide_eq_decide.2 ⟨fun h => ⟨c, h.1, by omega⟩, fun h => ⟨h.2.1, by omega⟩⟩
  · rw [decide_eq_false fun h => c (decide_eq_true h.1)]
-- laws_toAlgebra
/-- What is known of an argument that is an algebra. -/
def WfOp (o : S79) : Prop := I64 o.f0 ∧ o.f1.length ≤ 9223372036854775807 ∧ ∀ x ∈ o.f1, I64 x
theorem short_cv {ops : List S79} (h : SmallA ops) : ∀ o ∈ ops.map cvOp, o.f1.length ≤ 9223372036854775807 := by
  intro o ho
  obtain ⟨q, hq, rfl⟩ := List.mem_map.1 ho
  have := h.2 q hq
  show q.f1.length ≤ _
  omega
/-- The law's guard on the size of an algebra: either it is too large and the law is true, or its tables are short. -/
theorem szAlgebra_law {g : Nat → Int → Option Bool} {n : Int} {ops : List S79} {left : Int} (hl : ops.length ≤ 9223372036854775807) (ho : ∀ o ∈ ops, WfOp o) (h0 : 0 ≤ left) (h1 : left ≤ 1048576)
    (h : SmallA ops → ∀ r, 0 ≤ r → r ≤ 1048576 → Ev (fun k => g k r) true) : Ev (fun k => (laws_szAlgebra.f k n ops left).bind fun t => if t < 0 then some true else g k t) true := by
  obtain ⟨r, hr, c⟩ := szAlgebra_v n ops left hl (fun o h => (ho o h).2.1) h0 h1
  refine Ev.bind hr (Ev.cases (fun _ => Ev.now _) (fun d => h ?_ r (by omega) (by omega)))
  rcases c with c | c
  · omega
  · exact c.2.2
-- spec_l1Own
theorem l1Own_v (l : List Int) (hl : l.length < 17592186044416) : spec_l1Own.f l = some l := by
  unfold spec_l1Own.f
  rw [Option.bind_some, if_pos (by simpa using hl), List.nil_append]
-- laws_markIntS
/-- The numbers that a mark writes: so many, rising from a. -/
def seqI (a : Int) (n : Nat) : List Int := (List.range n).map fun i : Nat => a + (i : Int)
theorem seqI_len (a : Int) (n : Nat) : (seqI a n).length = n := by simp [seqI]
theorem seqI_at {a : Int} {n j : Nat} (h : j < (seqI a n).length) : (seqI a n)[j] = a + (j : Int) := by simp [seqI]
theorem seqI_succ (a : Int) (n : Nat) : seqI a (n + 1) = seqI a n ++ [a + (n : Int)] := by simp [seqI, List.range_succ]
theorem markIntS_l (l : List Int) (a : Int) (h0 : 0 ≤ a) (h1 : a ≤ 4611686018427387904) (hl : l.length ≤ 1099511627776) : ∀ (d j : Nat), j + d = l.length →
    Ev (fun k => laws_markIntS.l0 k (seqI a j ++ l.drop j) (a + (j : Int)) (j : Int)) (a + (l.length : Int), seqI a l.length) := by
  intro d
  induction d with
  | zero =>
    intro j hj
    obtain rfl : j = l.length := by omega
    refine Ev.succ ?_
    simp only [laws_markIntS.l0]
    refine Ev.neg (by simp [seqI_len]) (Ev.const ?_)
    rw [List.drop_of_length_le (Nat.le_refl _), List.append_nil]
  | succ d ih =>
    intro j hj
    have hlt : j < l.length := by omega
    refine Ev.succ ?_
    simp only [laws_markIntS.l0, w64s hlt (by omega : l.length ≤ 9223372036854775807), Int.toNat_natCast]
    rw [w64 (n := a + (j : Int) + 1) (by omega)]
    refine Ev.pos (by simp [seqI_len]; omega) (Ev.pos (by omega) ?_)
    rw [drop_cons hlt, set_mid _ _ _ _ j (seqI_len a j)]
    have := ih (j + 1) (by omega)
    rw [seqI_succ, List.append_assoc, show a + ((j + 1 : Nat) : Int) = a + (j : Int) + 1 from by omega] at this
    exact this
theorem markIntS_v (l : List Int) (a : Int) (h0 : 0 ≤ a) (h1 : a ≤ 4611686018427387904) (hl : l.length ≤ 1099511627776) : Ev (fun k => laws_markIntS.f k l a) (a + (l.length : Int), seqI a l.length) := by
  unfold laws_markIntS.f
  have := markIntS_l l a h0 h1 hl l.length 0 (by omega)
  simpa [seqI] using this
-- laws_markIntS laws_heldIntS
theorem heldIntS_l (n : Nat) (a : Int) (h0 : 0 ≤ a) (h1 : a ≤ 4611686018427387904) (hn : n ≤ 1099511627776) : ∀ (d j : Nat), j + d = n →
    Ev (fun k => laws_heldIntS.l0 k (seqI a n) (a + (j : Int)) (j : Int)) (a + (n : Int)) := by
  intro d
  induction d with
  | zero =>
    intro j hj
    obtain rfl : j = n := by omega
    refine Ev.succ ?_
    simp only [laws_heldIntS.l0]
    exact Ev.neg (by simp [seqI_len]) (Ev.const rfl)
  | succ d ih =>
    intro j hj
    have hlt : j < (seqI a n).length := by rw [seqI_len]; omega
    refine Ev.succ ?_
    simp only [laws_heldIntS.l0, rd_at hlt, seqI_at hlt, w64s (show j < n by omega) (by omega : n ≤ 9223372036854775807)]
    rw [w64 (n := a + (j : Int) + 1) (by omega)]
    refine Ev.pos (by rw [seqI_len]; omega) (Ev.pos (by omega) (Ev.pos trivial ?_))
    have := ih (j + 1) (by omega)
    rw [show a + ((j + 1 : Nat) : Int) = a + (j : Int) + 1 from by omega] at this
    exact this
theorem heldIntS_v (n : Nat) (a : Int) (h0 : 0 ≤ a) (h1 : a ≤ 4611686018427387904) (hn : n ≤ 1099511627776) : Ev (fun k => laws_heldIntS.f k (seqI a n) a) (a + (n : Int)) := by
  unfold laws_heldIntS.f
  have := heldIntS_l n a h0 h1 hn n 0 (by omega)
  simpa using this
-- laws_markOpS
/-- What a mark makes of operations: the next number, and the operations. -/
def mkOps : Int → List S75 → Int × List S75
  | a, [] => (a, [])
  | a, o :: os => ((mkOps (a + 1 + (o.f1.length : Int)) os).1, ⟨a, seqI (a + 1) o.f1.length⟩ :: (mkOps (a + 1 + (o.f1.length : Int)) os).2)
theorem mkOps_len : ∀ (os : List S75) (a : Int), (mkOps a os).2.length = os.length
  | [], _ => rfl
  | _ :: os, a => by simp [mkOps, mkOps_len os]
theorem mkOps_bd : ∀ (os : List S75) (a : Int), (∀ o ∈ os, o.f1.length ≤ 1048576) → a ≤ (mkOps a os).1 ∧ (mkOps a os).1 ≤ a + (os.length : Int) * 1048577
  | [], a, _ => by simp [mkOps]
  | o :: os, a, h => by
    have := mkOps_bd os (a + 1 + (o.f1.length : Int)) (fun q hq => h q (List.mem_cons_of_mem _ hq))
    have := h o List.mem_cons_self
    simp only [mkOps, List.length_cons]
    omega
theorem markOpS_l : ∀ (os pre : List S75) (a : Int), 0 ≤ a → a + (os.length : Int) * 1048577 ≤ 2305843009213693952 → pre.length + os.length ≤ 1048576 → (∀ o ∈ os, o.f1.length ≤ 1048576) →
    Ev (fun k => laws_markOpS.l0 k (pre ++ os) a (pre.length : Int)) ((mkOps a os).1, pre ++ (mkOps a os).2) := by
  intro os
  induction os with
  | nil =>
    intro pre a h0 h1 hl ho
    refine Ev.succ ?_
    simp only [laws_markOpS.l0]
    exact Ev.neg (by simp) (Ev.const rfl)
  | cons o os ih =>
    intro pre a h0 h1 hl ho
    have hlt : pre.length < (pre ++ o :: os).length := by simp
    have ho1 := ho o List.mem_cons_self
    simp only [List.length_cons] at h1 hl
    refine Ev.succ ?_
    simp only [laws_markOpS.l0, rdT_at hlt, w64s (show pre.length < 1048577 by omega) (by omega), Int.toNat_natCast]
    rw [w64 (n := a + 1) (by omega)]
    refine Ev.pos (by simp; omega) (Ev.pos (by omega) ?_)
    have e : (pre ++ o :: os)[pre.length] = o := by simp
    rw [e]
    refine Ev.bind (markIntS_v o.f1 (a + 1) (by omega) (by omega) (by omega)) ?_
    rw [set_mid _ _ _ _ pre.length rfl]
    have := ih (pre ++ [⟨a, seqI (a + 1) o.f1.length⟩]) (a + 1 + (o.f1.length : Int)) (by omega) (by omega) (by simp; omega) (fun q hq => ho q (List.mem_cons_of_mem _ hq))
    simpa [mkOps, List.append_assoc] using this
-- laws_markAlgebra
theorem markAlgebra_v (n : Int) (os : List S75) (a : Int) (h0 : 0 ≤ a) (h1 : a ≤ 1048576) (hl : os.length ≤ 1048576) (ho : ∀ o ∈ os, o.f1.length ≤ 1048576) : Ev (fun k => laws_markAlgebra.f k n os a) (mkOps a os) := by
  unfold laws_markAlgebra.f laws_markOpS.f
  have := markOpS_l os [] a h0 (by omega) (by simpa using hl) ho
  simpa using this
theorem small_cv {ops : List S79} (h : SmallA ops) : ∀ o ∈ ops.map cvOp, o.f1.length ≤ 1048576 := by
  intro o hm
  obtain ⟨q, hq, rfl⟩ := List.mem_map.1 hm
  exact h.2 q hq
theorem markAlgebra_cv (n : Int) (ops : List S79) (h : SmallA ops) (a : Int) (h0 : 0 ≤ a) (h1 : a ≤ 1048576) : ∃ r, Ev (fun k => laws_markAlgebra.f k n (ops.map cvOp) a) r ∧ ¬ r.1 < 0 ∧ r.1 ≤ a + 1099512676352 := by
  have hl : (ops.map cvOp).length ≤ 1048576 := by simpa using h.1
  have ho : ∀ o ∈ ops.map cvOp, o.f1.length ≤ 1048576 := by
    intro o hm
    obtain ⟨q, hq, rfl⟩ := List.mem_map.1 hm
    exact h.2 q hq
  have := mkOps_bd (ops.map cvOp) a ho
  exact ⟨_, markAlgebra_v n _ a h0 h1 hl ho, by omega, by omega⟩
-- laws_markOpS laws_heldOpS
theorem heldOpS_l : ∀ (os pre : List S75) (a : Int), 0 ≤ a → a + (os.length : Int) * 1048577 ≤ 2305843009213693952 → pre.length + os.length ≤ 1048576 → (∀ o ∈ os, o.f1.length ≤ 1048576) →
    Ev (fun k => laws_heldOpS.l0 k (pre ++ (mkOps a os).2) a (pre.length : Int)) (mkOps a os).1 := by
  intro os
  induction os with
  | nil =>
    intro pre a h0 h1 hl ho
    refine Ev.succ ?_
    simp only [laws_heldOpS.l0, mkOps]
    exact Ev.neg (by simp) (Ev.const rfl)
  | cons o os ih =>
    intro pre a h0 h1 hl ho
    have ho1 := ho o List.mem_cons_self
    simp only [List.length_cons] at h1 hl
    have hlt : pre.length < (pre ++ (mkOps a (o :: os)).2).length := by simp [mkOps]
    have e : (pre ++ (mkOps a (o :: os)).2)[pre.length] = ⟨a, seqI (a + 1) o.f1.length⟩ := by simp [mkOps]
    refine Ev.succ ?_
    simp only [laws_heldOpS.l0, rdT_at hlt, e, w64s (show pre.length < 1048577 by omega) (by omega)]
    rw [w64 (n := a + 1) (by omega)]
    refine Ev.pos (by omega) (Ev.pos (by omega) (Ev.pos trivial (Ev.bind (heldIntS_v o.f1.length (a + 1) (by omega) (by omega) (by omega)) (Ev.neg (by omega) ?_))))
    have := ih (pre ++ [⟨a, seqI (a + 1) o.f1.length⟩]) (a + 1 + (o.f1.length : Int)) (by omega) (by omega) (by simp; omega) (fun q hq => ho q (List.mem_cons_of_mem _ hq))
    simpa [mkOps, List.append_assoc] using this
-- laws_markAlgebra laws_heldAlgebra
theorem heldAlgebra_v (n : Int) (os : List S75) (a : Int) (h0 : 0 ≤ a) (h1 : a ≤ 1048576) (hl : os.length ≤ 1048576) (ho : ∀ o ∈ os, o.f1.length ≤ 1048576) : Ev (fun k => laws_heldAlgebra.f k n (mkOps a os).2 a) (mkOps a os).1 := by
  unfold laws_heldAlgebra.f laws_heldOpS.f
  have h := heldOpS_l os [] a h0 (by omega) (by simpa using hl) ho
  have hb := mkOps_bd os a ho
  have h : Ev (fun k => laws_heldOpS.l0 k (mkOps a os).2 a 0) (mkOps a os).1 := by simpa using h
  exact Ev.bind h (Ev.neg (by omega) (Ev.now _))
-- impl_clone
theorem clone_v {l : List Int} (h : l.length < 17592186044416) : impl_clone.f l = some l := by
  unfold impl_clone.f
  simp [h]
-- spec_l1Own
theorem own_v {l : List Int} (h : l.length < 17592186044416) : spec_l1Own.f l = some l := by
  unfold spec_l1Own.f
  simp [h]
-- spec_l1In
theorem l1In_int (a b c : Int) (P : Prop) [Decidable P] (h : (b ≤ a ∧ a ≤ c) ↔ P) : spec_l1In.f a b c = some (decide P) := by
  rw [l1In_v]; congr 1; exact decide_eq_decide.2 h
-- spec_l2Args impl_argsAt
/-- Both spell an index as arguments in the same way. -/
theorem args_l {n : Int} (h1 : 1 ≤ n) : ∀ (j : Nat) (rem : Int) (L : List Int), 0 ≤ rem → rem ≤ 4611686018427387904 → j ≤ L.length → (∀ (i : Nat) (h : i < L.length), j ≤ i → 0 ≤ L[i] ∧ L[i] < n) →
    L.length ≤ 1000 → ∃ L', Ev (fun k => spec_l2Args.l0 k n rem L ((j : Int) - 1)) L' ∧ Ev (fun k => impl_argsAt.l0 k rem n L ((j : Int) - 1)) L' ∧ L'.length = L.length ∧ ∀ x ∈ L', 0 ≤ x ∧ x < n := by
  intro j
  induction j with
  | zero =>
    intro rem L h0 hr hj hL hl
    refine ⟨L, Ev.succ ?_, Ev.succ ?_, rfl, ?_⟩
    · simp only [spec_l2Args.l0]
      exact Ev.neg (by omega) (Ev.now _)
    · simp only [impl_argsAt.l0]
      exact Ev.neg (by omega) (Ev.now _)
    · intro x hx
      obtain ⟨i, hi, rfl⟩ := List.mem_iff_getElem.1 hx
      exact hL i hi (Nat.zero_le _)
  | succ j ih =>
    intro rem L h0 hr hj hL hl
    have ej : (((j + 1 : Nat) : Int) - 1) = (j : Int) := by omega
    have ew : wrap64 ((j : Int) - 1) = (j : Int) - 1 := w64 (by omega)
    have hd0 : 0 ≤ Int.tdiv rem n := Int.tdiv_nonneg h0 (by omega)
    have hd1 : Int.tdiv rem n ≤ rem := by rw [Int.tdiv_eq_ediv_of_nonneg h0]; exact Int.ediv_le_self n h0
    have hm0 : 0 ≤ Int.tmod rem n := Int.tmod_nonneg n h0
    have hm1 : Int.tmod rem n < n := Int.tmod_lt_of_pos rem (by omega)
    have ed : wrap64 (Int.tdiv rem n) = Int.tdiv rem n := w64 (by omega)
    obtain ⟨L', hs, hi, hl', hin⟩ := ih (Int.tdiv rem n) (L.set j (Int.tmod rem n)) hd0 (by omega) (by rw [List.length_set]; omega) (by
      intro i hi hji
      rw [List.getElem_set]
      split
      · exact ⟨hm0, hm1⟩
      · exact hL i (by rw [List.length_set] at hi; exact hi) (by omega)) (by rw [List.length_set]; exact hl)
    refine ⟨L', ?_, ?_, by rw [hl', List.length_set], hin⟩
    · rw [ej]
      refine Ev.succ ?_
      simp only [spec_l2Args.l0, ed, ew, Int.toNat_natCast]
      exact Ev.pos (by omega) (Ev.neg (by omega) (Ev.pos (by omega) (Ev.pos (by omega) hs)))
    · rw [ej]
      refine Ev.succ ?_
      simp only [impl_argsAt.l0, ed, ew, Int.toNat_natCast]
      exact Ev.pos (by omega) (Ev.neg (by omega) (Ev.pos (by omega) (Ev.pos (by omega) hi)))
theorem args_v {n : Int} (h1 : 1 ≤ n) (a : Nat) (ha : a ≤ 100) (i : Int) (h0 : 0 ≤ i) (hi : i ≤ 4611686018427387904) :
    ∃ L, Ev (fun k => spec_l2Args.f k n (a : Int) i) L ∧ Ev (fun k => impl_argsAt.f k i (a : Int) n) L ∧ L.length = a ∧ ∀ x ∈ L, 0 ≤ x ∧ x < n := by
  obtain ⟨L, hs, hm, hl, hin⟩ := args_l h1 a i (List.replicate a 0) h0 hi (by simp) (by intro i hi _; simp; omega) (by simp; omega)
  have ew : wrap64 ((a : Int) - 1) = (a : Int) - 1 := w64 (by omega)
  refine ⟨L, ?_, ?_, by rw [hl, List.length_replicate], hin⟩
  · unfold spec_l2Args.f
    rw [ew, Int.toNat_natCast]
    exact Ev.pos (by omega) (Ev.pos (by omega) hs)
  · unfold impl_argsAt.f
    rw [ew, Int.toNat_natCast]
    exact Ev.pos (by omega) (Ev.pos (by omega) hm)
-- spec_l2Args
/-- The digits of a number at a base, lowest first. -/
def dig (n : Int) : Nat → Int → List Int
  | 0, _ => []
  | a + 1, i => Int.tmod i n :: dig n a (Int.tdiv i n)
theorem dig_in {n : Int} (h1 : 1 ≤ n) : ∀ (a : Nat) (i : Int), 0 ≤ i → ∀ x ∈ dig n a i, 0 ≤ x ∧ x < n
  | 0, _, _, x, hx => by simp [dig] at hx
  | a + 1, i, h0, x, hx => by
    simp only [dig, List.mem_cons] at hx
    rcases hx with rfl | hx
    · exact ⟨Int.tmod_nonneg n h0, Int.tmod_lt_of_pos i (by omega)⟩
    · exact dig_in h1 a _ (Int.tdiv_nonneg h0 (by omega)) x hx
theorem l2Args_l {n : Int} (h1 : 1 ≤ n) : ∀ (j : Nat) (rem : Int) (L : List Int), 0 ≤ rem → rem ≤ 4611686018427387904 → j ≤ L.length → L.length ≤ 1000 → Ev (fun k => spec_l2Args.l0 k n rem L ((j : Int) - 1)) ((dig n j rem).reverse ++ L.drop j) := by
  intro j
  induction j with
  | zero =>
    intro rem L h0 hr hj hl
    refine Ev.succ ?_
    simp only [spec_l2Args.l0]
    exact Ev.neg (by omega) (Ev.const (by simp [dig]))
  | succ j ih =>
    intro rem L h0 hr hj hl
    have hd0 : 0 ≤ Int.tdiv rem n := Int.tdiv_nonneg h0 (by omega)
    have hd1 : Int.tdiv rem n ≤ rem := by rw [Int.tdiv_eq_ediv_of_nonneg h0]; exact Int.ediv_le_self n h0
    rw [show (((j + 1 : Nat) : Int) - 1) = (j : Int) by omega]
    refine Ev.succ ?_
    simp only [spec_l2Args.l0]
    rw [w64 (n := Int.tdiv rem n) (by omega), w64 (n := (j : Int) - 1) (by omega), Int.toNat_natCast]
    refine Ev.pos (by omega) (Ev.neg (by omega) (Ev.pos (by omega) (Ev.pos (by omega) (Ev.eq (ih _ _ hd0 (by omega) (by rw [List.length_set]; omega) (by rw [List.length_set]; exact hl)) ?_))))
    have hlt : j < (L.set j (Int.tmod rem n)).length := by rw [List.length_set]; omega
    rw [drop_cons hlt, List.getElem_set_self, dig, List.reverse_cons, List.append_assoc, List.drop_set_of_lt (by omega)]
    rfl
theorem l2Args_v {n : Int} (h1 : 1 ≤ n) (a : Nat) (ha : a ≤ 100) (i : Int) (h0 : 0 ≤ i) (hi : i ≤ 4611686018427387904) : Ev (fun k => spec_l2Args.f k n (a : Int) i) (dig n a i).reverse := by
  unfold spec_l2Args.f
  rw [w64 (n := (a : Int) - 1) (by omega), Int.toNat_natCast]
  refine Ev.pos (by omega) (Ev.pos (by omega) (Ev.eq (l2Args_l h1 a i (List.replicate a 0) h0 hi (by simp) (by simp; omega)) ?_))
  rw [List.drop_of_length_le (by simp), List.append_nil]
theorem Ev_det {α : Type} {g : Nat → Option α} {r r' : α} (h : Ev g r) (h' : Ev g r') : r = r' := by
  obtain ⟨K, h⟩ := h
  obtain ⟨K', h'⟩ := h'
  have a := h (max K K') (Nat.le_max_left _ _)
  have b := h' (max K K') (Nat.le_max_right _ _)
  rw [a] at b
  exact Option.some.inj b
theorem dig_len (n : Int) : ∀ (a : Nat) (i : Int), (dig n a i).length = a
  | 0, _ => rfl
  | a + 1, i => by rw [dig, List.length_cons, dig_len n a]
theorem argsAt_v {n : Int} (h1 : 1 ≤ n) (a : Nat) (ha : a ≤ 100) (i : Int) (h0 : 0 ≤ i) (hi : i ≤ 4611686018427387904) : Ev (fun k => impl_argsAt.f k i (a : Int) n) (dig n a i).reverse := by
  obtain ⟨L, hs, hm, -, -⟩ := args_v h1 a ha i h0 hi
  rw [← Ev_det hs (l2Args_v h1 a ha i h0 hi)]
  exact hm
theorem l2Back_l (L : List Int) (hL : L.length ≤ 1000) : ∀ (j : Nat), j ≤ L.length → Ev (fun k => spec_l2Back.l0 k L (L.drop j).reverse ((j : Int) - 1)) L.reverse := by
  intro j
  induction j with
  | zero =>
    intro _
    refine Ev.succ ?_
    simp only [spec_l2Back.l0]
    exact Ev.neg (by omega) (Ev.now _)
  | succ j ih =>
    intro hj
    have hlt : j < L.length := by omega
    rw [show ((j + 1 : Nat) : Int) - 1 = (j : Int) by omega]
    refine Ev.succ ?_
    simp only [spec_l2Back.l0, rd_at hlt]
    rw [w64 (n := (j : Int) - 1) (by omega), show (L.drop (j + 1)).reverse ++ [L[j]] = (L.drop j).reverse by rw [drop_cons hlt, List.reverse_cons]]
    exact Ev.pos (by omega) (Ev.pos (by omega) (Ev.pos (by omega) (Ev.pos (by rw [List.length_reverse, List.length_drop]; omega) (ih (by omega)))))
theorem l2Back_v (L : List Int) (hL : L.length ≤ 1000) : Ev (fun k => spec_l2Back.f k L) L.reverse := by
  unfold spec_l2Back.f
  rw [w64 (by omega)]
  have := l2Back_l L hL L.length (Nat.le_refl _)
  rw [List.drop_length] at this
  exact this
theorem l2Own_l (n : Int) (ops : List S75) (hl : ops.length ≤ 1048576) (ho : ∀ o ∈ ops, o.f1.length ≤ 1048576) : ∀ (d j : Nat), j + d = ops.length → Ev (fun k => spec_l2Own.l0 k (j : Int) n ops n (ops.take j)) (n, ops) := by
  intro d
  induction d with
  | zero =>
    intro j hj
    refine Ev.succ ?_
    simp only [spec_l2Own.l0]
    exact Ev.neg (by omega) (Ev.const (by rw [List.take_of_length_le (by omega)]))
  | succ d ih =>
    intro j hj
    have hlt : j < ops.length := by omega
    have hb := ho _ (List.getElem_mem hlt)
    refine Ev.succ ?_
    simp only [spec_l2Own.l0, rdT_at hlt, w64s hlt (by omega : ops.length ≤ 9223372036854775807)]
    have e : spec_l2Copy.f ops[j].f0 ops[j].f1 = some (ops[j].f0, ops[j].f1) := by
      unfold spec_l2Copy.f
      rw [own_v (by omega)]; rfl
    refine Ev.pos (by omega) (Ev.pos (by omega) (Ev.bound e (Ev.pos (by rw [List.length_take]; omega) ?_)))
    have := ih (j + 1) (by omega)
    rw [take_snoc hlt] at this
    exact this
theorem cloneA_l (n : Int) (ops : List S75) (hl : ops.length ≤ 1048576) (ho : ∀ o ∈ ops, o.f1.length ≤ 1048576) : ∀ (d j : Nat), j + d = ops.length → Ev (fun k => impl_cloneAlgebra.l0 k ops (ops.length : Int) (j : Int) n (ops.take j)) (n, ops) := by
  intro d
  induction d with
  | zero =>
    intro j hj
    refine Ev.succ ?_
    simp only [impl_cloneAlgebra.l0]
    exact Ev.neg (by omega) (Ev.const (by rw [List.take_of_length_le (by omega)]))
  | succ d ih =>
    intro j hj
    have hlt : j < ops.length := by omega
    have hb := ho _ (List.getElem_mem hlt)
    refine Ev.succ ?_
    simp only [impl_cloneAlgebra.l0, rdT_at hlt, w64s hlt (by omega : ops.length ≤ 9223372036854775807)]
    have e : impl_cloneOp.f ops[j].f0 ops[j].f1 = some (ops[j].f0, ops[j].f1) := by
      unfold impl_cloneOp.f
      rw [clone_v (by omega)]; rfl
    refine Ev.pos (by omega) (Ev.pos (by omega) (Ev.pos (by omega) (Ev.bound e (Ev.pos (by rw [List.length_take]; omega) ?_))))
    have := ih (j + 1) (by omega)
    rw [take_snoc hlt] at this
    exact this
/-- The first values of the turned table, and the old ones behind them. -/
def tab (n : Int) (a : Nat) (T : List Int) (i : Nat) : List Int := (List.range i).map fun (j : Nat) => rd T (ixF n 0 (dig n a (j : Int)))
theorem tab_len (n : Int) (a : Nat) (T : List Int) (i : Nat) : (tab n a T i).length = i := by simp [tab]
theorem tab_succ (n : Int) (a : Nat) (T : List Int) (i : Nat) : tab n a T (i + 1) = tab n a T i ++ [rd T (ixF n 0 (dig n a (i : Int)))] := by simp [tab, List.range_succ]
def opsB (n : Int) (ops : List S75) (q a : Nat) (T : List Int) (i : Nat) : List S75 := ops.set q ⟨(a : Int), tab n a T i ++ T.drop i⟩
theorem setT_at {ops : List S75} {q : Nat} (hq : q < ops.length) (y : S75) : rd_T75 (ops.set q y) (q : Int) = y := by
  rw [rdT_at (show q < (ops.set q y).length by rw [List.length_set]; exact hq), List.getElem_set_self]
theorem rev_exit {n : Int} {ops : List S75} (h : okAlg n ops) {q : Nat} (hq : q < ops.length) {a : Nat} (ha : ops[q].f0 = (a : Int)) (i : Nat) (hi : i < ops[q].f1.length) (x y : Int) (hxy : ¬ x < y) (r : Int × List S75 × Bool)
    (hr : Ev (fun k => impl_ReverseArgs.l0 k (q : Int) (ops[q].f1.length : Int) ((i + 1 : Nat) : Int) n ops n (opsB n ops q a ops[q].f1 (i + 1)) (a : Int) ops[q].f1) r) :
    Ev (fun k => impl_ReverseArgs.l1 k (q : Int) (i : Int) (dig n a (i : Int)) x y (ops[q].f1.length : Int) (i : Int) n ops n (opsB n ops q a ops[q].f1 i) (a : Int) ops[q].f1) r := by
  obtain ⟨o1, o2, o3, o4⟩ := okAlg_op h hq
  have hp := pow_bd h.1 h.2.1 (show ops[q].f0.toNat ≤ 6 by omega)
  have hd := dig_len n a (i : Int)
  have hin := dig_in h.1 a (i : Int) (by omega)
  have hx := ix_bd h.1 h.2.1 (dig n a (i : Int)) 0 0 (by omega) hin (by omega) (by simp)
  have et : ops[q].f0.toNat = a := by omega
  rw [hd, Nat.zero_add] at hx
  rw [et] at o3 hp
  have hlB : (opsB n ops q a ops[q].f1 i).length = ops.length := by simp [opsB]
  have hT : rd_T75 (opsB n ops q a ops[q].f1 i) (q : Int) = ⟨(a : Int), tab n a ops[q].f1 i ++ ops[q].f1.drop i⟩ := setT_at hq _
  refine Ev.succ ?_
  simp only [impl_ReverseArgs.l1, hT, w64s hi (by omega : ops[q].f1.length ≤ 9223372036854775807), Int.toNat_natCast]
  refine Ev.neg hxy (Ev.pos (by omega) (Ev.pos (by omega) (Ev.bind (indexOf_v h.1 h.2.1 _ hin (by omega)) (Ev.pos hx.1 (Ev.pos (by omega) (Ev.pos (by omega) (Ev.pos (by rw [List.length_append, tab_len, List.length_drop]; omega) ?_)))))))
  have e : (opsB n ops q a ops[q].f1 i).set q ⟨(a : Int), (tab n a ops[q].f1 i ++ ops[q].f1.drop i).set i (rd ops[q].f1 (ixF n 0 (dig n a (i : Int))))⟩ = opsB n ops q a ops[q].f1 (i + 1) := by
    unfold opsB
    rw [List.set_set, drop_cons hi, set_mid _ _ _ _ _ (tab_len _ _ _ _), tab_succ, List.append_assoc]
    rfl
  rw [e]
  exact hr
theorem rev_l {n : Int} {ops : List S75} (h : okAlg n ops) {q : Nat} (hq : q < ops.length) {a : Nat} (ha : ops[q].f0 = (a : Int)) (i : Nat) (hi : i < ops[q].f1.length) (r : Int × List S75 × Bool)
    (hr : Ev (fun k => impl_ReverseArgs.l0 k (q : Int) (ops[q].f1.length : Int) ((i + 1 : Nat) : Int) n ops n (opsB n ops q a ops[q].f1 (i + 1)) (a : Int) ops[q].f1) r) :
    ∀ L : List Int, L.reverse = dig n a (i : Int) → L.length = a → Ev (fun k => impl_ReverseArgs.l1 k (q : Int) (i : Int) L 0 (wrap64 ((L.length : Int) - 1)) (ops[q].f1.length : Int) (i : Int) n ops n (opsB n ops q a ops[q].f1 i) (a : Int) ops[q].f1) r := by
  obtain ⟨o1, o2, o3, o4⟩ := okAlg_op h hq
  intro L hL hlen
  match L, hL, hlen with
  | [], hL, hlen =>
    have := rev_exit h hq ha i hi 0 (wrap64 (((List.length ([] : List Int) : Nat) : Int) - 1)) (by rw [w64 (by simp)]; simp) r hr
    rw [← hL] at this
    exact this
  | [x], hL, hlen =>
    have := rev_exit h hq ha i hi 0 (wrap64 (((List.length [x] : Nat) : Int) - 1)) (by rw [w64 (by simp)]; simp) r hr
    rw [← hL] at this
    exact this
  | [x, y], hL, hlen =>
    have := rev_exit h hq ha i hi 1 0 (by omega) r hr
    rw [← hL] at this
    refine Ev.succ ?_
    simp only [impl_ReverseArgs.l1]
    rw [show wrap64 (((List.length [x, y] : Nat) : Int) - 1) = 1 by rw [w64 (by simp)]; simp, show wrap64 ((0 : Int) + 1) = 1 by rw [w64 (by omega)]; rfl, show wrap64 ((1 : Int) - 1) = 0 by rw [w64 (by omega)]; rfl]
    exact Ev.pos (by omega) (Ev.pos (by omega) (Ev.pos (by simp) (Ev.pos (by omega) (Ev.pos (by simp) this))))
  | [x, y, z], hL, hlen =>
    have := rev_exit h hq ha i hi 1 1 (by omega) r hr
    rw [← hL] at this
    refine Ev.succ ?_
    simp only [impl_ReverseArgs.l1]
    rw [show wrap64 (((List.length [x, y, z] : Nat) : Int) - 1) = 2 by rw [w64 (by simp)]; simp, show wrap64 ((0 : Int) + 1) = 1 by rw [w64 (by omega)]; rfl, show wrap64 ((2 : Int) - 1) = 1 by rw [w64 (by omega)]; rfl]
    exact Ev.pos (by omega) (Ev.pos (by omega) (Ev.pos (by simp) (Ev.pos (by omega) (Ev.pos (by simp) this))))
  | _ :: _ :: _ :: _ :: _, hL, hlen => simp only [List.length_cons] at hlen; omega
theorem revI_l {n : Int} {ops : List S75} (h : okAlg n ops) {q : Nat} (hq : q < ops.length) {a : Nat} (ha : ops[q].f0 = (a : Int)) : ∀ (d i : Nat), i + d = ops[q].f1.length →
    Ev (fun k => impl_ReverseArgs.l0 k (q : Int) (ops[q].f1.length : Int) (i : Int) n ops n (opsB n ops q a ops[q].f1 i) (a : Int) ops[q].f1) (n, opsB n ops q a ops[q].f1 ops[q].f1.length, true) := by
  obtain ⟨o1, o2, o3, o4⟩ := okAlg_op h hq
  have hp := pow_bd h.1 h.2.1 (show ops[q].f0.toNat ≤ 6 by omega)
  intro d
  induction d with
  | zero =>
    intro i hi
    obtain rfl : i = ops[q].f1.length := by omega
    refine Ev.succ ?_
    simp only [impl_ReverseArgs.l0]
    exact Ev.neg (by omega) (Ev.now _)
  | succ d ih =>
    intro i hi
    refine Ev.succ ?_
    simp only [impl_ReverseArgs.l0]
    refine Ev.pos (by omega) (Ev.bind (argsAt_v h.1 a (by omega) (i : Int) (by omega) (by omega)) ?_)
    exact rev_l h hq ha i (by omega) _ (ih (i + 1) (by omega)) _ (List.reverse_reverse _) (by rw [List.length_reverse, dig_len])
theorem revS_l {n : Int} {ops : List S75} (h : okAlg n ops) {q : Nat} (hq : q < ops.length) {a : Nat} (ha : ops[q].f0 = (a : Int)) : ∀ (d i : Nat), i + d = ops[q].f1.length →
    Ev (fun k => spec_ReverseArgs.l0 k (q : Int) (tab n a ops[q].f1 i) (i : Int) n ops n ops) (n, opsB n ops q a ops[q].f1 ops[q].f1.length, true) := by
  obtain ⟨o1, o2, o3, o4⟩ := okAlg_op h hq
  have hp := pow_bd h.1 h.2.1 (show ops[q].f0.toNat ≤ 6 by omega)
  intro d
  induction d with
  | zero =>
    intro i hi
    obtain rfl : i = ops[q].f1.length := by omega
    refine Ev.succ ?_
    simp only [spec_ReverseArgs.l0, rdT_at hq, Int.toNat_natCast]
    refine Ev.pos (by omega) (Ev.pos (by omega) (Ev.neg (by omega) (Ev.pos (by omega) (Ev.const ?_))))
    rw [opsB, List.drop_length, List.append_nil, ha]
  | succ d ih =>
    intro i hi
    refine Ev.succ ?_
    simp only [spec_ReverseArgs.l0, rdT_at hq]
    have hb := l2Back_v (dig n a (i : Int)).reverse (by rw [List.length_reverse, dig_len]; omega)
    rw [List.reverse_reverse] at hb
    rw [ha]
    refine Ev.pos (by omega) (Ev.pos (by omega) (Ev.pos (by omega) (Ev.bind (l2Args_v h.1 a (by omega) (i : Int) (by omega) (by omega)) (Ev.bind hb (Ev.bind (l2Value_v h hq _ (dig_in h.1 a (i : Int) (by omega)) (by rw [dig_len, ha])) (Ev.pos (by rw [tab_len]; omega) ?_))))))
    rw [w64 (n := (i : Int) + 1) (by omega), ← tab_succ]
    exact ih (i + 1) (by omega)
theorem reverse_v (n : Int) (ops : List S75) (ho : ∀ o ∈ ops, o.f1.length ≤ 1048576) (op : Int) :
    ∃ (m : Int) (r : List S75) (b : Bool), Ev (fun k => spec_ReverseArgs.f k n ops op) (m, r, b) ∧ Ev (fun k => impl_ReverseArgs.f k n ops op) (m, r, b) ∧ r.length ≤ 1048576 ∧ ∀ o ∈ r, o.f1.length ≤ 1048576 := by
  have ho' : ∀ o ∈ ops, o.f1.length ≤ 9223372036854775807 := fun o h => Nat.le_trans (ho o h) (by omega)
  by_cases c : okAlg n ops ∧ 0 ≤ op ∧ op < ops.length
  · obtain ⟨h, c0, c1⟩ := c
    obtain ⟨q, rfl⟩ := int_nat c0
    have hq : q < ops.length := by omega
    obtain ⟨a, ha⟩ := int_nat (okAlg_op h hq).1
    have h4 := h.2.2.1
    have e0 : opsB n ops q a ops[q].f1 0 = ops := by
      unfold opsB tab
      rw [← ha]
      simp
      exact List.set_getElem_self hq
    refine ⟨n, opsB n ops q a ops[q].f1 ops[q].f1.length, true, ?_, ?_, by unfold opsB; rw [List.length_set]; omega, ?_⟩
    · unfold spec_ReverseArgs.f spec_l2Own.f
      exact Ev.bind (l2Takes_v n ops ho' (q : Int)) (Ev.pos (decide_eq_true ⟨h, c0, c1⟩) (Ev.bind (l2Own_l n ops (by omega) ho ops.length 0 (by omega)) (revS_l h hq ha ops[q].f1.length 0 (by omega))))
    · unfold impl_ReverseArgs.f impl_cloneAlgebra.f
      refine Ev.bind (hasOp_v n ops ho' (q : Int)) (Ev.pos (decide_eq_true ⟨h, c0, c1⟩) (Ev.bind (cloneA_l n ops (by omega) ho ops.length 0 (by omega)) (Ev.pos c0 (Ev.pos c1 ?_))))
      have := revI_l h hq ha ops[q].f1.length 0 (by omega)
      rw [e0] at this
      rw [rdT_at hq, ha]
      exact this
    · intro o hm
      rcases List.mem_or_eq_of_mem_set hm with hm | rfl
      · exact ho o hm
      · have := ho _ (List.getElem_mem hq)
        simp only [List.length_append, tab_len, List.drop_length, List.length_nil, Nat.add_zero]
        exact this
  · refine ⟨0, [], false, ?_, ?_, by simp, by simp⟩
    · unfold spec_ReverseArgs.f
      exact Ev.bind (l2Takes_v n ops ho' op) (Ev.neg (by simp only [decide_eq_true_eq]; exact c) (Ev.now _))
    · unfold impl_ReverseArgs.f
      exact Ev.bind (hasOp_v n ops ho' op) (Ev.neg (by simp only [decide_eq_true_eq]; exact c) (Ev.now _))
theorem pure (n : Int) (ops : List S79) (op : Int) (hn : I64 n) (hl : ops.length ≤ 9223372036854775807) (ho : ∀ o ∈ ops, WfOp o) (hop : I64 op) : ∃ k, laws_FnExactReverseArgs.f k n ops op = some true := by
  apply Ev.rounds
  unfold laws_FnExactReverseArgs.f
  refine szAlgebra_law hl ho (by omega) (by omega) fun hs _ _ _ => ?_
  obtain ⟨m, hm, hm0, hm1⟩ := markAlgebra_cv n ops hs 1 (by omega) (by omega)
  obtain ⟨r0, r1, r2, h1, h2, hr, hr'⟩ := reverse_v n (ops.map cvOp) (small_cv hs) op
  have hb := mkOps_bd r1 1 hr'
  refine Ev.bind (toAlgebra_v n ops hs) (Ev.bind h1 (Ev.bind h2 (Ev.bind (eqAlgebra_v r0 r1 (by omega) (fun o h => Nat.le_trans (hr' o h) (by omega))) (Ev.pos (by simp) (Ev.bind (eqAlgebra_cv n ops hs) (Ev.pos rfl (Ev.bind hm (Ev.pos (by omega) ?_))))))))
  exact Ev.bind (markAlgebra_v r0 r1 1 (by omega) (by omega) hr hr') (Ev.bind (heldAlgebra_v r0 r1 1 (by omega) (by omega) hr hr') (Ev.pos (by omega) (Ev.pos rfl (Ev.now _))))

end Go.Proofs.Ytcgkgimkpndhmab.LFnExactReverseArgs
