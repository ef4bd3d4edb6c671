/- The plain statement of FnExactTermOp: for each algebra, list and number that fit 64 bits, the law's answer is true. -/
import Derived.Test.YtflkiiiomnogfaeQx14
import Derived.Test.YtflkiiiomnogfaeBase
import Derived.Test.YtflkiiiomnogfaeOpens
import Derived.Test.YtflkiiiomnogfaeTrm
namespace Go.Proofs.Ytflkiiiomnogfae.LFnExactTermOp
open Go.RowKit Go.Proofs.Ytflkiiiomnogfae.Q Go.Proofs.YtflkiiiomnogfaeW.PrintWords Go.Proofs.YtflkiiiomnogfaeW.PrintLast Go.Proofs.Ytflkiiiomnogfae.Base Go.Proofs.Ytflkiiiomnogfae.Opens
set_option linter.unusedVariables false
set_option linter.unusedSimpArgs false

-- laws_szIntS
theorem szIntS_v (l : List Int) (left : Int) (hl : l.length ≤ 9223372036854775807) (h0 : 0 ≤ left) (h1 : left ≤ 1048576) :
    ∃ r, laws_szIntS.f l left = some r ∧ (r < 0 ∨ (0 ≤ r ∧ r ≤ left ∧ l.length ≤ 1048576)) := by
  unfold laws_szIntS.f
  rw [w64 (by omega)]
  by_cases h : left - (l.length : Int) < 0
  · rw [if_pos h]; exact ⟨_, rfl, .inl (by omega)⟩
  · rw [if_neg h]; exact ⟨_, rfl, .inr (by omega)⟩
-- laws_szOp
theorem szOp_v (a : Int) (l : List Int) (left : Int) (hl : l.length ≤ 9223372036854775807) (h0 : 0 ≤ left) (h1 : left ≤ 1048576) :
    ∃ r, laws_szOp.f a l left = some r ∧ (r < 0 ∨ (0 ≤ r ∧ r ≤ left ∧ l.length ≤ 1048576)) := by
  obtain ⟨r, hr, h⟩ := szIntS_v l left hl h0 h1
  unfold laws_szOp.f
  rw [hr]; simp only [Option.bind_some]
  by_cases c : r < 0
  · rw [if_pos c]; exact ⟨_, rfl, .inl (by omega)⟩
  · rw [if_neg c]; exact ⟨_, rfl, h⟩
-- laws_szOpS
theorem rdTL_at {ops : List S82} {q : Nat} (hq : q < ops.length) : rd_T82 ops (q : Int) = ops[q] := getD_at hq
theorem szOpS_l (ops : List S82) (hl : ops.length ≤ 9223372036854775807) (ho : ∀ o ∈ ops, o.f1.length ≤ 9223372036854775807) : ∀ (d j : Nat) (left : Int), j + d = ops.length → 0 ≤ left → left ≤ 1048576 →
    ∃ r, Ev (fun k => laws_szOpS.l0 k ops left (j : Int)) r ∧ (r < 0 ∨ (0 ≤ r ∧ r ≤ left ∧ ∀ o ∈ ops.drop j, o.f1.length ≤ 1048576)) := by
  intro d
  induction d with
  | zero =>
    intro j left hj h0 h1
    refine ⟨left, Ev.succ ?_, .inr ⟨h0, Int.le_refl _, ?_⟩⟩
    · simp only [laws_szOpS.l0]
      exact Ev.neg (by omega) (Ev.now _)
    · rw [List.drop_of_length_le (by omega)]; simp
  | succ d ih =>
    intro j left hj h0 h1
    have hlt : j < ops.length := by omega
    obtain ⟨r, hr, h⟩ := szOp_v ops[j].f0 ops[j].f1 left (ho _ (List.getElem_mem hlt)) h0 h1
    by_cases c : r < 0
    · refine ⟨-1, Ev.succ ?_, .inl (by omega)⟩
      simp only [laws_szOpS.l0, rdTL_at hlt]
      exact Ev.pos (by omega) (Ev.pos (by omega) (Ev.bound hr (Ev.pos c (Ev.now _))))
    · obtain ⟨h2, h3, h4⟩ : 0 ≤ r ∧ r ≤ left ∧ ops[j].f1.length ≤ 1048576 := by omega
      obtain ⟨r', hr', h'⟩ := ih (j + 1) r (by omega) h2 (by omega)
      refine ⟨r', Ev.succ ?_, ?_⟩
      · simp only [laws_szOpS.l0, rdTL_at hlt, w64s hlt hl]
        exact Ev.pos (by omega) (Ev.pos (by omega) (Ev.bound hr (Ev.neg c hr')))
      · rcases h' with h' | ⟨h5, h6, h7⟩
        · exact .inl h'
        · refine .inr ⟨h5, by omega, ?_⟩
          rw [drop_cons hlt]
          intro o ho'
          rcases List.mem_cons.1 ho' with rfl | ho'
          · exact h4
          · exact h7 o ho'
/-- The tables are short. -/
def SmallA (ops : List S82) : Prop := ops.length ≤ 1048576 ∧ ∀ o ∈ ops, o.f1.length ≤ 1048576
theorem szOpS_v (ops : List S82) (left : Int) (hl : ops.length ≤ 9223372036854775807) (ho : ∀ o ∈ ops, o.f1.length ≤ 9223372036854775807) (h0 : 0 ≤ left) (h1 : left ≤ 1048576) :
    ∃ r, Ev (fun k => laws_szOpS.f k ops left) r ∧ (r < 0 ∨ (0 ≤ r ∧ r ≤ left ∧ SmallA ops)) := by
  by_cases c : left - (ops.length : Int) < 0
  · refine ⟨-1, ?_, .inl (by omega)⟩
    unfold laws_szOpS.f
    rw [w64 (by omega)]
    exact Ev.pos c (Ev.now _)
  · obtain ⟨r, hr, h⟩ := szOpS_l ops hl ho ops.length 0 (left - (ops.length : Int)) (by omega) (by omega) (by omega)
    refine ⟨r, ?_, ?_⟩
    · unfold laws_szOpS.f
      rw [w64 (by omega)]
      exact Ev.neg c hr
    · rcases h with h | ⟨h2, h3, h4⟩
      · exact .inl h
      · exact .inr ⟨h2, by omega, by omega, h4⟩
-- laws_szAlgebra
theorem szAlgebra_v (n : Int) (ops : List S82) (left : Int) (hl : ops.length ≤ 9223372036854775807) (ho : ∀ o ∈ ops, o.f1.length ≤ 9223372036854775807) (h0 : 0 ≤ left) (h1 : left ≤ 1048576) :
    ∃ r, Ev (fun k => laws_szAlgebra.f k n ops left) r ∧ (r < 0 ∨ (0 ≤ r ∧ r ≤ left ∧ SmallA ops)) := by
  obtain ⟨r, hr, h⟩ := szOpS_v ops left hl ho h0 h1
  by_cases c : r < 0
  · refine ⟨-1, ?_, .inl (by omega)⟩
    unfold laws_szAlgebra.f
    exact Ev.bind hr (Ev.pos c (Ev.now _))
  · refine ⟨r, ?_, h⟩
    unfold laws_szAlgebra.f
    exact Ev.bind hr (Ev.neg c (Ev.now _))
-- laws_toIntS
theorem toIntS_l (l : List Int) (hl : l.length ≤ 1048576) : ∀ (d j : Nat), j + d = l.length → Ev (fun k => laws_toIntS.l0 k l (l.take j ++ List.replicate d 0) (j : Int)) l := by
  intro d
  induction d with
  | zero =>
    intro j hj
    refine Ev.succ ?_
    simp only [laws_toIntS.l0]
    refine Ev.neg (by omega) (Ev.const ?_)
    rw [List.take_of_length_le (by omega)]; simp
  | succ d ih =>
    intro j hj
    have hlt : j < l.length := by omega
    refine Ev.succ ?_
    simp only [laws_toIntS.l0, rd_at hlt, w64s hlt (by omega : l.length ≤ 9223372036854775807), Int.toNat_natCast]
    refine Ev.pos (by omega) (Ev.pos (by omega) (Ev.pos (by simp; omega) ?_))
    rw [List.replicate_succ, set_mid _ _ _ _ j (by simp; omega)]
    have := ih (j + 1) (by omega)
    rw [take_snoc hlt, List.append_assoc] at this
    exact this
theorem toIntS_v (l : List Int) (hl : l.length ≤ 1048576) : Ev (fun k => laws_toIntS.f k l) l := by
  unfold laws_toIntS.f
  rw [Int.toNat_natCast]
  exact Ev.pos (by omega) (Ev.pos (by omega) (toIntS_l l hl l.length 0 (by omega)))
-- laws_toOp
theorem toOp_v (a : Int) (l : List Int) (hl : l.length ≤ 1048576) : Ev (fun k => laws_toOp.f k a l) (a, l) := by
  unfold laws_toOp.f
  exact Ev.bind (toIntS_v l hl) (Ev.now _)
-- laws_toOpS
def cvOp (o : S82) : S53 := ⟨o.f0, o.f1⟩
theorem toOpS_l (ops : List S82) (hl : ops.length ≤ 1048576) (ho : ∀ o ∈ ops, o.f1.length ≤ 1048576) : ∀ (d j : Nat), j + d = ops.length → Ev (fun k => laws_toOpS.l0 k ops ((ops.map cvOp).take j ++ List.replicate d z53) (j : Int)) (ops.map cvOp) := by
  intro d
  induction d with
  | zero =>
    intro j hj
    refine Ev.succ ?_
    simp only [laws_toOpS.l0]
    refine Ev.neg (by omega) (Ev.const ?_)
    rw [List.take_of_length_le (by simp; omega)]; simp
  | succ d ih =>
    intro j hj
    have hlt : j < ops.length := by omega
    have hlt' : j < (ops.map cvOp).length := by simpa using hlt
    refine Ev.succ ?_
    simp only [laws_toOpS.l0, rdTL_at hlt, w64s hlt (by omega : ops.length ≤ 9223372036854775807), Int.toNat_natCast]
    refine Ev.pos (by omega) (Ev.pos (by omega) (Ev.bind (toOp_v _ _ (ho _ (List.getElem_mem hlt))) (Ev.pos (by simp; omega) ?_)))
    rw [List.replicate_succ, set_mid _ _ _ _ j (by simp; omega)]
    have := ih (j + 1) (by omega)
    rw [take_snoc hlt', List.append_assoc, List.getElem_map] at this
    exact this
theorem toOpS_v (ops : List S82) (h : SmallA ops) : Ev (fun k => laws_toOpS.f k ops) (ops.map cvOp) := by
  unfold laws_toOpS.f
  rw [Int.toNat_natCast]
  exact Ev.pos (by omega) (Ev.pos (by have := h.1; omega) (toOpS_l ops h.1 h.2 ops.length 0 (by omega)))
-- laws_toAlgebra
theorem toAlgebra_v (n : Int) (ops : List S82) (h : SmallA ops) : Ev (fun k => laws_toAlgebra.f k n ops) (n, ops.map cvOp) := by
  unfold laws_toAlgebra.f
  exact Ev.bind (toOpS_v ops h) (Ev.now _)
-- laws_eqIntS
theorem eqIntS_l (l : List Int) (hl : l.length ≤ 9223372036854775807) : ∀ (d j : Nat), j + d = l.length → Ev (fun k => laws_eqIntS.l0 k l l (j : Int)) true := by
  intro d
  induction d with
  | zero =>
    intro j hj
    refine Ev.succ ?_
    simp only [laws_eqIntS.l0]
    exact Ev.neg (by omega) (Ev.now _)
  | succ d ih =>
    intro j hj
    have hlt : j < l.length := by omega
    refine Ev.succ ?_
    simp only [laws_eqIntS.l0, w64s hlt hl]
    exact Ev.pos (by omega) (Ev.pos (by omega) (Ev.pos (by omega) (Ev.pos trivial (ih (j + 1) (by omega)))))
theorem eqIntS_v (l : List Int) (hl : l.length ≤ 9223372036854775807) : Ev (fun k => laws_eqIntS.f k l l) true := by
  unfold laws_eqIntS.f
  exact Ev.pos rfl (eqIntS_l l hl l.length 0 (by omega))
-- laws_eqOp
theorem eqOp_v (a : Int) (l : List Int) (hl : l.length ≤ 9223372036854775807) : Ev (fun k => laws_eqOp.f k a l a l) true := by
  unfold laws_eqOp.f
  exact Ev.pos rfl (Ev.bind (eqIntS_v l hl) (Ev.pos rfl (Ev.now _)))
-- laws_toOpS
theorem rdT_at {ops : List S53} {q : Nat} (hq : q < ops.length) : rd_T53 ops (q : Int) = ops[q] := getD_at hq
-- laws_eqOpS
theorem eqOpS_l (l : List S53) (hl : l.length ≤ 9223372036854775807) (ho : ∀ o ∈ l, o.f1.length ≤ 9223372036854775807) : ∀ (d j : Nat), j + d = l.length → Ev (fun k => laws_eqOpS.l0 k l l (j : Int)) true := by
  intro d
  induction d with
  | zero =>
    intro j hj
    refine Ev.succ ?_
    simp only [laws_eqOpS.l0]
    exact Ev.neg (by omega) (Ev.now _)
  | succ d ih =>
    intro j hj
    have hlt : j < l.length := by omega
    refine Ev.succ ?_
    simp only [laws_eqOpS.l0, rdT_at hlt, w64s hlt hl]
    exact Ev.pos (by omega) (Ev.pos (by omega) (Ev.pos (by omega) (Ev.bind (eqOp_v _ _ (ho _ (List.getElem_mem hlt))) (Ev.pos rfl (ih (j + 1) (by omega))))))
theorem eqOpS_v (l : List S53) (hl : l.length ≤ 9223372036854775807) (ho : ∀ o ∈ l, o.f1.length ≤ 9223372036854775807) : Ev (fun k => laws_eqOpS.f k l l) true := by
  unfold laws_eqOpS.f
  exact Ev.pos rfl (eqOpS_l l hl ho l.length 0 (by omega))
-- laws_eqAlgebra
theorem eqAlgebra_v (n : Int) (l : List S53) (hl : l.length ≤ 9223372036854775807) (ho : ∀ o ∈ l, o.f1.length ≤ 9223372036854775807) : Ev (fun k => laws_eqAlgebra.f k n l n l) true := by
  unfold laws_eqAlgebra.f
  exact Ev.pos rfl (Ev.bind (eqOpS_v l hl ho) (Ev.pos rfl (Ev.now _)))
theorem eqAlgebra_cv (n : Int) (ops : List S82) (h : SmallA ops) : Ev (fun k => laws_eqAlgebra.f k n (ops.map cvOp) n (ops.map cvOp)) true := by
  refine eqAlgebra_v n _ (by have := h.1; simp; omega) ?_
  intro o ho
  obtain ⟨q, hq, rfl⟩ := List.mem_map.1 ho
  have := h.2 q hq
  show q.f1.length ≤ _
  omega
-- spec_l1In
theorem l1In_v (a b c : Int) : spec_l1In.f a b c = some (decide (b ≤ a ∧ a ≤ c)) := by
  unfold spec_l1In.f
  by_cases h : a ≥ b
  · rw [if_pos h]; congr 1; exact decide_eq_decide.2 ⟨fun k => ⟨h, k⟩, fun k => k.2⟩
  · rw [if_neg h]; congr 1; exact (decide_eq_false (fun k => h k.1)).symm
theorem l1In_yes {a b c : Int} (h : b ≤ a ∧ a ≤ c) : spec_l1In.f a b c = some true := by rw [l1In_v, decide_eq_true h]
theorem l1In_no {a b c : Int} (h : ¬ (b ≤ a ∧ a ≤ c)) : spec_l1In.f a b c = some false := by rw [l1In_v, decide_eq_false h]
-- impl_IsAlgebra
/-- A power of a size stays small. -/
theorem pow_bd {n : Int} (h1 : 1 ≤ n) (h8 : n ≤ 8) : ∀ {i : Nat}, i ≤ 6 → 1 ≤ n ^ i ∧ n ^ i ≤ 262144 := by
  intro i hi
  obtain ⟨m, rfl⟩ := int_nat (show 0 ≤ n by omega)
  have e : ((m : Int)) ^ i = ((m ^ i : Nat) : Int) := by rw [Int.natCast_pow]
  rw [e]
  have a1 : m ^ i ≤ 8 ^ i := Nat.pow_le_pow_left (by omega) i
  have a2 : (8 : Nat) ^ i ≤ 8 ^ 6 := Nat.pow_le_pow_right (by omega) hi
  have a3 : 0 < m ^ i := Nat.pow_pos (by omega)
  have a4 : (8 : Nat) ^ 6 = 262144 := by decide
  omega
theorem pow_next (n : Int) (i : Nat) : n ^ (i + 1) = n ^ i * n := Int.pow_succ n i
theorem mul_bd {a b A B : Int} (ha : 0 ≤ a) (hA : a ≤ A) (hb : 0 ≤ b) (hB : b ≤ B) : 0 ≤ a * b ∧ a * b ≤ A * B :=
  ⟨Int.mul_nonneg ha hb, Int.mul_le_mul hA hB hb (by omega)⟩
def okOp (n a : Int) (l : List Int) : Prop := 0 ≤ a ∧ a ≤ 3 ∧ (l.length : Int) = n ^ a.toNat ∧ ∀ x ∈ l, 0 ≤ x ∧ x < n
instance (n a : Int) (l : List Int) : Decidable (okOp n a l) := by unfold okOp; infer_instance
def okAlg (n : Int) (ops : List S53) : Prop := 1 ≤ n ∧ n ≤ 8 ∧ ops.length ≤ 4 ∧ ∀ o ∈ ops, okOp n o.f0 o.f1
instance (n : Int) (ops : List S53) : Decidable (okAlg n ops) := by unfold okAlg; infer_instance
theorem all_drop {P : Int → Prop} {l : List Int} {j : Nat} (h : j < l.length) : (∀ x ∈ l.drop j, P x) ↔ P l[j] ∧ ∀ x ∈ l.drop (j + 1), P x := by
  rw [drop_cons h, List.forall_mem_cons]
theorem allOp_drop {P : S53 → Prop} {l : List S53} {j : Nat} (h : j < l.length) : (∀ x ∈ l.drop j, P x) ↔ P l[j] ∧ ∀ x ∈ l.drop (j + 1), P x := by
  rw [drop_cons h, List.forall_mem_cons]
-- spec_l2Pow
theorem l2Pow_l {n : Int} (h1 : 1 ≤ n) (h8 : n ≤ 8) : ∀ (d i : Nat), i + d ≤ 6 → Ev (fun k => spec_l2Pow.l0 k n (d : Int) (n ^ i)) (n ^ (i + d)) := by
  intro d
  induction d with
  | zero =>
    intro i hi
    refine Ev.succ ?_
    simp only [spec_l2Pow.l0]
    exact Ev.neg (by omega) (Ev.now _)
  | succ d ih =>
    intro i hi
    have hp := pow_bd h1 h8 (show i + 1 ≤ 6 by omega)
    refine Ev.succ ?_
    simp only [spec_l2Pow.l0]
    rw [← pow_next, w64 (by omega), w64 (by omega), show ((d + 1 : Nat) : Int) - 1 = (d : Int) by omega]
    refine Ev.pos (by omega) ?_
    have := ih (i + 1) (by omega)
    rwa [show i + 1 + d = i + (d + 1) by omega] at this
theorem l2Pow_v {n e : Int} (h1 : 1 ≤ n) (h8 : n ≤ 8) (h0 : 0 ≤ e) (h6 : e ≤ 6) : Ev (fun k => spec_l2Pow.f k n e) (n ^ e.toNat) := by
  obtain ⟨d, rfl⟩ := int_nat h0
  have := l2Pow_l h1 h8 d 0 (by omega)
  rw [Nat.zero_add, Int.pow_zero] at this
  rw [Int.toNat_natCast]
  exact this
-- impl_power
theorem power_l {n : Int} (h1 : 1 ≤ n) (h8 : n ≤ 8) : ∀ (d i : Nat), i + d ≤ 6 → Ev (fun k => impl_power.l0 k n (d : Int) (n ^ i)) (n ^ (i + d)) := by
  intro d
  induction d with
  | zero =>
    intro i hi
    refine Ev.succ ?_
    simp only [impl_power.l0]
    exact Ev.neg (by omega) (Ev.now _)
  | succ d ih =>
    intro i hi
    have hp := pow_bd h1 h8 (show i + 1 ≤ 6 by omega)
    refine Ev.succ ?_
    simp only [impl_power.l0]
    rw [← pow_next, w64 (by omega), w64 (by omega), show ((d + 1 : Nat) : Int) - 1 = (d : Int) by omega]
    refine Ev.pos (by omega) ?_
    have := ih (i + 1) (by omega)
    rwa [show i + 1 + d = i + (d + 1) by omega] at this
theorem power_v {n e : Int} (h1 : 1 ≤ n) (h8 : n ≤ 8) (h0 : 0 ≤ e) (h6 : e ≤ 6) : Ev (fun k => impl_power.f k n e) (n ^ e.toNat) := by
  obtain ⟨d, rfl⟩ := int_nat h0
  have := power_l h1 h8 d 0 (by omega)
  rw [Nat.zero_add, Int.pow_zero] at this
  rw [Int.toNat_natCast]
  exact this
-- spec_l2Op
theorem l2Op_l {n a : Int} (l : List Int) (h1 : 1 ≤ n) (h8 : n ≤ 8) (hl : l.length ≤ 9223372036854775807) : ∀ (d j : Nat), j + d = l.length →
    Ev (fun k => spec_l2Op.l0 k n (j : Int) a l) (decide (∀ x ∈ l.drop j, 0 ≤ x ∧ x < n)) := by
  intro d
  induction d with
  | zero =>
    intro j hj
    refine Ev.succ ?_
    simp only [spec_l2Op.l0]
    refine Ev.neg (by omega) (Ev.const ?_)
    rw [List.drop_of_length_le (by omega)]; simp
  | succ d ih =>
    intro j hj
    have hlt : j < l.length := by omega
    refine Ev.succ ?_
    simp only [spec_l2Op.l0, rd_at hlt, w64s hlt hl]
    refine Ev.pos (by omega) (Ev.pos (by omega) ?_)
    by_cases c : 0 ≤ l[j] ∧ l[j] < n
    · refine Ev.bound (l1In_yes ?_) (Ev.pos rfl ?_)
      · rw [w64 (by omega)]; omega
      · refine Ev.eq (ih (j + 1) (by omega)) (decide_eq_decide.2 ?_)
        rw [all_drop hlt]
        exact ⟨fun h => ⟨c, h⟩, fun h => h.2⟩
    · refine Ev.bound (l1In_no ?_) (Ev.neg (by simp) (Ev.const ?_))
      · rw [w64 (by omega)]; omega
      · congr 1
        refine (decide_eq_false fun h => c ?_).symm
        exact ((all_drop hlt).1 h).1
theorem l2Op_v {n : Int} (a : Int) (l : List Int) (h1 : 1 ≤ n) (h8 : n ≤ 8) (hl : l.length ≤ 9223372036854775807) : Ev (fun k => spec_l2Op.f k n a l) (decide (okOp n a l)) := by
  unfold spec_l2Op.f
  by_cases c : 0 ≤ a ∧ a ≤ 3
  · refine Ev.bound (l1In_yes c) (Ev.pos rfl (Ev.bind (l2Pow_v h1 h8 c.1 (by omega)) (Ev.succ ?_)))
    simp only [spec_l2Op.j0]
    by_cases e : (l.length : Int) = n ^ a.toNat
    · refine Ev.neg (by simp [e]) (Ev.eq (l2Op_l l h1 h8 hl l.length 0 (by omega)) (decide_eq_decide.2 ?_))
      exact ⟨fun h => ⟨c.1, c.2, e, h⟩, fun h => h.2.2.2⟩
    · refine Ev.pos (by simp [e]) (Ev.const ?_)
      rw [decide_eq_false fun h => e h.2.2.1]
  · refine Ev.bound (l1In_no c) (Ev.neg (by simp) (Ev.succ ?_))
    simp only [spec_l2Op.j0]
    refine Ev.pos (by simp) (Ev.const ?_)
    rw [decide_eq_false fun h => c ⟨h.1, h.2.1⟩]
-- spec_l2Good
theorem l2Good_l {n : Int} (ops : List S53) (h1 : 1 ≤ n) (h8 : n ≤ 8) (hl : ops.length ≤ 4) (ho : ∀ o ∈ ops, o.f1.length ≤ 9223372036854775807) : ∀ (d j : Nat), j + d = ops.length →
    Ev (fun k => spec_l2Good.l0 k (j : Int) n ops) (decide (∀ o ∈ ops.drop j, okOp n o.f0 o.f1)) := by
  intro d
  induction d with
  | zero =>
    intro j hj
    refine Ev.succ ?_
    simp only [spec_l2Good.l0]
    refine Ev.neg (by omega) (Ev.const ?_)
    rw [List.drop_of_length_le (by omega)]; simp
  | succ d ih =>
    intro j hj
    have hlt : j < ops.length := by omega
    refine Ev.succ ?_
    simp only [spec_l2Good.l0, rdT_at hlt, w64s hlt (by omega : ops.length ≤ 9223372036854775807)]
    refine Ev.pos (by omega) (Ev.pos (by omega) (Ev.bind (l2Op_v _ _ h1 h8 (ho _ (List.getElem_mem hlt))) ?_))
    by_cases c : okOp n ops[j].f0 ops[j].f1
    · refine Ev.pos (decide_eq_true c) (Ev.eq (ih (j + 1) (by omega)) (decide_eq_decide.2 ?_))
      rw [allOp_drop hlt]
      exact ⟨fun h => ⟨c, h⟩, fun h => h.2⟩
    · refine Ev.neg (by simp [c]) (Ev.const ?_)
      congr 1
      exact (decide_eq_false fun h => c ((allOp_drop hlt).1 h).1).symm
theorem l2Good_v (n : Int) (ops : List S53) (ho : ∀ o ∈ ops, o.f1.length ≤ 9223372036854775807) : Ev (fun k => spec_l2Good.f k n ops) (decide (okAlg n ops)) := by
  unfold spec_l2Good.f
  by_cases c : 1 ≤ n ∧ n ≤ 8
  · refine Ev.bound (l1In_yes c) (Ev.pos rfl (Ev.succ ?_))
    simp only [spec_l2Good.j0]
    by_cases e : ops.length ≤ 4
    · refine Ev.neg (by simp; omega) (Ev.eq (l2Good_l ops c.1 c.2 e ho ops.length 0 (by omega)) (decide_eq_decide.2 ?_))
      exact ⟨fun h => ⟨c.1, c.2, e, h⟩, fun h => h.2.2.2⟩
    · refine Ev.pos (by simp; omega) (Ev.const ?_)
      rw [decide_eq_false fun h => e h.2.2.1]
  · refine Ev.bound (l1In_no c) (Ev.neg (by simp) (Ev.succ ?_))
    simp only [spec_l2Good.j0]
    refine Ev.pos (by simp) (Ev.const ?_)
    rw [decide_eq_false fun h => c ⟨h.1, h.2.1⟩]
-- impl_inSize
theorem inSize_l {n : Int} (l : List Int) (hl : l.length ≤ 9223372036854775807) : ∀ (d j : Nat), j + d = l.length →
    Ev (fun k => impl_inSize.l0 k n l (l.length : Int) (j : Int)) (decide (∀ x ∈ l.drop j, 0 ≤ x ∧ x < n)) := by
  intro d
  induction d with
  | zero =>
    intro j hj
    refine Ev.succ ?_
    simp only [impl_inSize.l0]
    refine Ev.neg (by omega) (Ev.const ?_)
    rw [List.drop_of_length_le (by omega)]; simp
  | succ d ih =>
    intro j hj
    have hlt : j < l.length := by omega
    refine Ev.succ ?_
    simp only [impl_inSize.l0, rd_at hlt, w64s hlt hl]
    refine Ev.pos (by omega) (Ev.pos (by omega) (Ev.pos (by omega) (Ev.cases (fun c => ?_) (fun c => Ev.cases (fun c' => ?_) (fun c' => ?_)))))
    · refine Ev.const ?_
      congr 1
      exact (decide_eq_false fun h => by have := ((all_drop hlt).1 h).1; omega).symm
    · refine Ev.const ?_
      congr 1
      exact (decide_eq_false fun h => by have := ((all_drop hlt).1 h).1; omega).symm
    · refine Ev.eq (ih (j + 1) (by omega)) (decide_eq_decide.2 ?_)
      rw [all_drop hlt]
      exact ⟨fun h => ⟨by omega, h⟩, fun h => h.2⟩
theorem inSize_v (l : List Int) (n : Int) (hl : l.length ≤ 9223372036854775807) : Ev (fun k => impl_inSize.f k l n) (decide (∀ x ∈ l, 0 ≤ x ∧ x < n)) :=
  inSize_l l hl l.length 0 (by omega)
-- impl_isOp
theorem isOp_v {n : Int} (a : Int) (l : List Int) (h1 : 1 ≤ n) (h8 : n ≤ 8) (hl : l.length ≤ 9223372036854775807) : Ev (fun k => impl_isOp.f k a l n) (decide (okOp n a l)) := by
  unfold impl_isOp.f
  refine Ev.cases (fun c => Ev.cases (fun c' => Ev.bind (power_v h1 h8 c (by omega)) (Ev.cases (fun e => Ev.bind (inSize_v l n hl) (Ev.const ?_)) (fun e => Ev.const ?_))) (fun c' => Ev.const ?_)) (fun c => Ev.const ?_)
  · congr 1
    exact decide_eq_decide.2 ⟨fun h => ⟨c, c', e, h⟩, fun h => h.2.2.2⟩
  · rw [decide_eq_false fun h => e h.2.2.1]
  · rw [decide_eq_false fun h => c' h.2.1]
  · rw [decide_eq_false fun h => c h.1]
-- impl_IsAlgebra
theorem implIsAlgebra_l {n : Int} (ops : List S53) (h1 : 1 ≤ n) (h8 : n ≤ 8) (hl : ops.length ≤ 4) (ho : ∀ o ∈ ops, o.f1.length ≤ 9223372036854775807) : ∀ (d j : Nat), j + d = ops.length →
    Ev (fun k => impl_IsAlgebra.l0 k ops (ops.length : Int) (j : Int) n ops) (decide (∀ o ∈ ops.drop j, okOp n o.f0 o.f1)) := by
  intro d
  induction d with
  | zero =>
    intro j hj
    refine Ev.succ ?_
    simp only [impl_IsAlgebra.l0]
    refine Ev.neg (by omega) (Ev.const ?_)
    rw [List.drop_of_length_le (by omega)]; simp
  | succ d ih =>
    intro j hj
    have hlt : j < ops.length := by omega
    refine Ev.succ ?_
    simp only [impl_IsAlgebra.l0, rdT_at hlt, w64s hlt (by omega : ops.length ≤ 9223372036854775807)]
    refine Ev.pos (by omega) (Ev.pos (by omega) (Ev.pos (by omega) (Ev.bind (isOp_v _ _ h1 h8 (ho _ (List.getElem_mem hlt))) ?_)))
    by_cases c : okOp n ops[j].f0 ops[j].f1
    · refine Ev.pos (decide_eq_true c) (Ev.eq (ih (j + 1) (by omega)) (decide_eq_decide.2 ?_))
      rw [allOp_drop hlt]
      exact ⟨fun h => ⟨c, h⟩, fun h => h.2⟩
    · refine Ev.neg (by simp [c]) (Ev.const ?_)
      congr 1
      exact (decide_eq_false fun h => c ((allOp_drop hlt).1 h).1).symm
theorem implIsAlgebra_v (n : Int) (ops : List S53) (ho : ∀ o ∈ ops, o.f1.length ≤ 9223372036854775807) : Ev (fun k => impl_IsAlgebra.f k n ops) (decide (okAlg n ops)) := by
  unfold impl_IsAlgebra.f
  refine Ev.cases (fun c => Ev.succ ?_) (fun c => Ev.cases (fun c' => Ev.succ ?_) (fun c' => Ev.succ ?_))
  · simp only [impl_IsAlgebra.j0]
    refine Ev.pos trivial (Ev.const ?_)
    rw [decide_eq_false fun h => by have := h.1; omega]
  · simp only [impl_IsAlgebra.j0]
    refine Ev.pos trivial (Ev.const ?_)
    rw [decide_eq_false fun h => by have := h.2.1; omega]
  · simp only [impl_IsAlgebra.j0]
    by_cases e : ops.length ≤ 4
    · refine Ev.neg (by simp; omega) (Ev.eq (implIsAlgebra_l ops (by omega) (by omega) e ho ops.length 0 (by omega)) (decide_eq_decide.2 ?_))
      exact ⟨fun h => ⟨by omega, by omega, e, h⟩, fun h => h.2.2.2⟩
    · refine Ev.pos (by simp; omega) (Ev.const ?_)
      rw [decide_eq_false fun h => e h.2.2.1]
-- impl_IsAlgebra
def ixF (n i : Int) (l : List Int) : Int := l.foldl (fun i x => i * n + x) i
theorem ix2 (n x y : Int) : ixF n 0 [x, y] = x * n + y := by simp [ixF]
theorem ix3 (n x y z : Int) : ixF n 0 [x, y, z] = (x * n + y) * n + z := by simp [ixF]
theorem ix_step {n : Int} (h1 : 1 ≤ n) (h8 : n ≤ 8) {i x : Int} {j : Nat} (hj : j ≤ 5) (h0 : 0 ≤ i) (hi : i < n ^ j) (hx : 0 ≤ x ∧ x < n) :
    0 ≤ i * n + x ∧ i * n + x < n ^ (j + 1) ∧ wrap64 (wrap64 (i * n) + x) = i * n + x := by
  have hp := pow_bd h1 h8 (show j + 1 ≤ 6 by omega)
  have a := Int.mul_le_mul_of_nonneg_right (show i + 1 ≤ n ^ j by omega) (show 0 ≤ n by omega)
  rw [← pow_next, Int.add_mul, Int.one_mul] at a
  have b : 0 ≤ i * n := Int.mul_nonneg h0 (by omega)
  refine ⟨by omega, by omega, ?_⟩
  rw [w64 (n := i * n) (by omega), w64 (by omega)]
theorem ix_bd {n : Int} (h1 : 1 ≤ n) (h8 : n ≤ 8) : ∀ (l : List Int) (i : Int) (j : Nat), j + l.length ≤ 6 → (∀ x ∈ l, 0 ≤ x ∧ x < n) → 0 ≤ i → i < n ^ j → 0 ≤ ixF n i l ∧ ixF n i l < n ^ (j + l.length) := by
  intro l
  induction l with
  | nil => intro i j _ _ h0 hi; exact ⟨h0, hi⟩
  | cons x l ih =>
    intro i j hj hx h0 hi
    rw [List.length_cons] at hj
    obtain ⟨a, b, _⟩ := ix_step h1 h8 (show j ≤ 5 by omega) h0 hi (hx x (by simp))
    have := ih (i * n + x) (j + 1) (by omega) (fun y hy => hx y (by simp [hy])) a b
    rw [List.length_cons, show j + (l.length + 1) = j + 1 + l.length by omega]
    exact this
theorem idx2 {n x y : Int} (hx : 0 ≤ x ∧ x < n) (hy : 0 ≤ y ∧ y < n) (h8 : n ≤ 8) : 0 ≤ x * n + y ∧ x * n + y < n ^ 2 ∧ wrap64 (wrap64 (x * n) + y) = x * n + y := by
  have := ix_step (n := n) (by omega) h8 (show 1 ≤ 5 by omega) hx.1 (by rw [show (1 : Nat) = 0 + 1 from rfl, Int.pow_succ, Int.pow_zero]; omega) hy
  exact this
theorem okAlg_op {n : Int} {ops : List S53} (h : okAlg n ops) {q : Nat} (hq : q < ops.length) : okOp n ops[q].f0 ops[q].f1 := h.2.2.2 _ (List.getElem_mem hq)
theorem rd_in {n : Int} {l : List Int} (h : ∀ x ∈ l, 0 ≤ x ∧ x < n) {i : Int} (h0 : 0 ≤ i) (h1 : i < l.length) : 0 ≤ rd l i ∧ rd l i < n := by
  obtain ⟨m, rfl⟩ := int_nat h0
  rw [rd_at (by omega)]
  exact h _ (List.getElem_mem _)
-- spec_l2Value
theorem l2Value_l {n : Int} {ops : List S53} (h1 : 1 ≤ n) (h8 : n ≤ 8) {q : Nat} (hq : q < ops.length) (args : List Int) (ha : ∀ x ∈ args, 0 ≤ x ∧ x < n) (h3 : args.length ≤ 3) (hT : (ops[q].f1.length : Int) = n ^ args.length) :
    ∀ (d j : Nat) (i : Int), j + d = args.length → 0 ≤ i → i < n ^ j → Ev (fun k => spec_l2Value.l0 k (q : Int) args i (j : Int) n ops) (rd ops[q].f1 (ixF n i (args.drop j))) := by
  intro d
  induction d with
  | zero =>
    intro j i hj h0 hi
    obtain rfl : j = args.length := by omega
    refine Ev.succ ?_
    simp only [spec_l2Value.l0, rdT_at hq]
    refine Ev.neg (by omega) (Ev.pos (by omega) (Ev.pos (by omega) (Ev.pos h0 (Ev.pos (by rw [hT]; exact hi) (Ev.const ?_)))))
    rw [List.drop_length]; rfl
  | succ d ih =>
    intro j i hj h0 hi
    have hlt : j < args.length := by omega
    obtain ⟨a, b, e⟩ := ix_step h1 h8 (show j ≤ 5 by omega) h0 hi (ha _ (List.getElem_mem hlt))
    refine Ev.succ ?_
    simp only [spec_l2Value.l0, rd_at hlt, w64s hlt (by omega : args.length ≤ 9223372036854775807), e]
    refine Ev.pos (by omega) (Ev.pos (by omega) ?_)
    rw [drop_cons hlt]
    exact ih (j + 1) _ (by omega) a b
theorem l2Value_v {n : Int} {ops : List S53} (h : okAlg n ops) {q : Nat} (hq : q < ops.length) (args : List Int) (ha : ∀ x ∈ args, 0 ≤ x ∧ x < n) (hl : (args.length : Int) = ops[q].f0) :
    Ev (fun k => spec_l2Value.f k n ops (q : Int) args) (rd ops[q].f1 (ixF n 0 args)) := by
  obtain ⟨a, b, c, _⟩ := okAlg_op h hq
  rw [← hl, Int.toNat_natCast] at c
  exact l2Value_l h.1 h.2.1 hq args ha (by omega) c args.length 0 0 (by omega) (by omega) (by simp)
-- laws_toAlgebra
/-- What is known of an argument that is an algebra. -/
def WfOp (o : S82) : Prop := I64 o.f0 ∧ o.f1.length ≤ 9223372036854775807 ∧ ∀ x ∈ o.f1, I64 x
theorem short_cv {ops : List S82} (h : SmallA ops) : ∀ o ∈ ops.map cvOp, o.f1.length ≤ 9223372036854775807 := by
  intro o ho
  obtain ⟨q, hq, rfl⟩ := List.mem_map.1 ho
  have := h.2 q hq
  show q.f1.length ≤ _
  omega
/-- The law's guard on the size of an algebra: either it is too large and the law is true, or its tables are short. -/
theorem szAlgebra_law {g : Nat → Int → Option Bool} {n : Int} {ops : List S82} {left : Int} (hl : ops.length ≤ 9223372036854775807) (ho : ∀ o ∈ ops, WfOp o) (h0 : 0 ≤ left) (h1 : left ≤ 1048576)
    (h : SmallA ops → ∀ r, 0 ≤ r → r ≤ 1048576 → Ev (fun k => g k r) true) : Ev (fun k => (laws_szAlgebra.f k n ops left).bind fun t => if t < 0 then some true else g k t) true := by
  obtain ⟨r, hr, c⟩ := szAlgebra_v n ops left hl (fun o h => (ho o h).2.1) h0 h1
  refine Ev.bind hr (Ev.cases (fun _ => Ev.now _) (fun d => h ?_ r (by omega) (by omega)))
  rcases c with c | c
  · omega
  · exact c.2.2
-- impl_endOf
/-- How many terms stand behind a number of a term. -/
def arOf (ops : List S53) (x : Int) : Option Nat := if x ≥ 6 then none else if x ≥ 0 then some 0 else if x < -(ops.length : Int) then none else some (rd_T53 ops (-1 - x)).f0.toNat
def endRes (j : Nat) : Option Nat → Int
  | none => -1
  | some e => (j : Int) + (e : Int)
theorem endRes_map (j : Nat) (o : Option Nat) : endRes j (o.map (· + 1)) = endRes (j + 1) o := by
  cases o with
  | none => rfl
  | some e => simp [endRes]; omega
/-- The arities are small. -/
def SmallAr (ops : List S53) : Prop := ops.length ≤ 4 ∧ ∀ o ∈ ops, 0 ≤ o.f0 ∧ o.f0 ≤ 3
theorem okAlg_small {n : Int} {ops : List S53} (h : okAlg n ops) : SmallAr ops := ⟨h.2.2.1, fun o ho => ⟨(h.2.2.2 o ho).1, (h.2.2.2 o ho).2.1⟩⟩
theorem arOf_op {ops : List S53} (hs : SmallAr ops) {x : Int} (h0 : x < 0) (h1 : -(ops.length : Int) ≤ x) :
    ∃ a : Nat, a ≤ 3 ∧ arOf ops x = some a ∧ (rd_T53 ops (-1 - x)).f0 = (a : Int) := by
  obtain ⟨q, hq⟩ := int_nat (show 0 ≤ -1 - x by omega)
  have hlt : q < ops.length := by omega
  have ho := hs.2 _ (List.getElem_mem hlt)
  obtain ⟨a, ha⟩ := int_nat ho.1
  have e : (rd_T53 ops (-1 - x)).f0 = (a : Int) := by rw [hq, rdT_at hlt]; exact ha
  refine ⟨a, by omega, ?_, e⟩
  unfold arOf
  rw [if_neg (by omega), if_neg (by omega), if_neg (by omega), e, Int.toNat_natCast]
theorem endOf_l {n : Int} {ops : List S53} (hs : SmallAr ops) (t : List Int) (ht : t.length ≤ 60) : ∀ (d j m : Nat), j + d = t.length → m ≤ 2 * j + 1 →
    Ev (fun k => impl_endOf.l0 k t (j : Int) (m : Int) n ops) (endRes j (Go.Proofs.Ytflkiiiomnogfae.Trm.eat (arOf ops) (t.drop j) m)) := by
  have h4 := hs.1
  intro d
  induction d with
  | zero =>
    intro j m hj hm
    refine Ev.succ ?_
    simp only [impl_endOf.l0]
    cases m with
    | zero =>
      refine Ev.neg (by omega) (Ev.const ?_)
      rw [Go.Proofs.Ytflkiiiomnogfae.Trm.eat_zero]; simp [endRes]
    | succ m =>
      refine Ev.pos (by omega) (Ev.pos (by omega) (Ev.const ?_))
      rw [List.drop_of_length_le (by omega), Go.Proofs.Ytflkiiiomnogfae.Trm.eat_nil]; rfl
  | succ d ih =>
    intro j m hj hm
    refine Ev.succ ?_
    simp only [impl_endOf.l0]
    cases m with
    | zero =>
      refine Ev.neg (by omega) (Ev.const ?_)
      rw [Go.Proofs.Ytflkiiiomnogfae.Trm.eat_zero]; simp [endRes]
    | succ m =>
      have hlt : j < t.length := by omega
      have wl : wrap64 (-(ops.length : Int)) = -(ops.length : Int) := w64 (by omega)
      have wj := w64s hlt (by omega : t.length ≤ 9223372036854775807)
      rw [rd_at hlt, drop_cons hlt, Go.Proofs.Ytflkiiiomnogfae.Trm.eat_cons, wl]
      refine Ev.pos (by omega) (Ev.neg (by omega) (Ev.pos (by omega) (Ev.pos (by omega) (Ev.cases (fun c => Ev.succ ?_) (fun c => Ev.succ ?_)))))
      · simp only [impl_endOf.j1]
        refine Ev.pos trivial (Ev.const ?_)
        unfold arOf
        rw [if_pos c]; rfl
      · simp only [impl_endOf.j1, wj]
        by_cases c' : t[j] < -(ops.length : Int)
        · refine Ev.pos (decide_eq_true c') (Ev.const ?_)
          unfold arOf
          rw [if_neg c, if_neg (by omega), if_pos c']; rfl
        · refine Ev.neg (by simp; omega) (Ev.cases (fun p => ?_) (fun p => ?_))
          · have e : arOf ops t[j] = some 0 := by unfold arOf; rw [if_neg c, if_pos p]
            have wm : wrap64 (((m + 1 : Nat) : Int) - 1) = (m : Int) := by unfold wrap64; omega
            rw [e, wm]
            simp only [Option.bind_some, Nat.add_zero]
            rw [endRes_map]
            exact ih (j + 1) m (by omega) (by omega)
          · obtain ⟨a, a3, ea, ef⟩ := arOf_op hs (show t[j] < 0 by omega) (by omega)
            have wx : wrap64 (-1 - t[j]) = -1 - t[j] := w64 (by omega)
            have wm : wrap64 (((m + 1 : Nat) : Int) + wrap64 ((a : Int) - 1)) = ((m + a : Nat) : Int) := by unfold wrap64; omega
            rw [wx, ef, wm, ea]
            simp only [Option.bind_some]
            rw [endRes_map]
            exact Ev.pos (by omega) (Ev.pos (by omega) (ih (j + 1) (m + a) (by omega) (by omega)))
theorem endOf_v {n : Int} {ops : List S53} (hs : SmallAr ops) (t : List Int) (ht : t.length ≤ 60) (j : Nat) (hj : j ≤ t.length) :
    Ev (fun k => impl_endOf.f k n ops t (j : Int)) (endRes j (Go.Proofs.Ytflkiiiomnogfae.Trm.eat (arOf ops) (t.drop j) 1)) := endOf_l hs t ht (t.length - j) j 1 (by omega) (by omega)
-- spec_l3End
theorem l3End_l {n : Int} {ops : List S53} (hs : SmallAr ops) (t : List Int) (ht : t.length ≤ 60) : ∀ (d j m : Nat), j + d = t.length → m ≤ 2 * j →
    Ev (fun k => spec_l3End.l0 k t ((m + 1 : Nat) : Int) (j : Int) n ops) (endRes j (Go.Proofs.Ytflkiiiomnogfae.Trm.eat (arOf ops) (t.drop j) (m + 1))) := by
  have h4 := hs.1
  intro d
  induction d with
  | zero =>
    intro j m hj hm
    refine Ev.succ ?_
    simp only [spec_l3End.l0]
    refine Ev.neg (by omega) (Ev.const ?_)
    rw [List.drop_of_length_le (by omega), Go.Proofs.Ytflkiiiomnogfae.Trm.eat_nil]; rfl
  | succ d ih =>
    intro j m hj hm
    have hlt : j < t.length := by omega
    have wl : wrap64 (-(ops.length : Int)) = -(ops.length : Int) := w64 (by omega)
    have wj := w64s hlt (by omega : t.length ≤ 9223372036854775807)
    have wm : wrap64 (((m + 1 : Nat) : Int) - 1) = (m : Int) := by unfold wrap64; omega
    refine Ev.succ ?_
    simp only [spec_l3End.l0, rd_at hlt, wl, wj, wm]
    clear wl wj wm
    rw [drop_cons hlt, Go.Proofs.Ytflkiiiomnogfae.Trm.eat_cons]
    refine Ev.pos (by omega) (Ev.pos (by omega) (Ev.cases (fun p => ?_) (fun p => Ev.cases (fun c => Ev.const ?_) (fun c => ?_))))
    · by_cases c' : t[j] < -(ops.length : Int)
      · refine Ev.bound (l1In_no (by omega)) (Ev.neg (by simp) (Ev.const ?_))
        unfold arOf
        rw [if_neg (by omega), if_neg (by omega), if_pos c']; rfl
      · obtain ⟨a, a3, ea, ef⟩ := arOf_op hs p (by omega)
        have wx : wrap64 (-1 - t[j]) = -1 - t[j] := w64 (by omega)
        have wa : wrap64 ((m : Int) + (a : Int)) = ((m + a : Nat) : Int) := by unfold wrap64; omega
        refine Ev.bound (l1In_yes (by clear wx wa; omega)) (Ev.pos rfl ?_)
        rw [wx, ef, wa, ea]
        clear wx wa
        simp only [Option.bind_some]
        rw [endRes_map]
        refine Ev.pos (by omega) (Ev.pos (by omega) (Ev.cases (fun z => Ev.const ?_) (fun z => ?_)))
        · rw [show m + a = 0 by omega, Go.Proofs.Ytflkiiiomnogfae.Trm.eat_zero]; simp [endRes]
        · obtain ⟨b, hb⟩ : ∃ b, m + a = b + 1 := ⟨m + a - 1, by omega⟩
          rw [hb]
          exact ih (j + 1) b (by omega) (by omega)
    · unfold arOf
      rw [if_pos c]; rfl
    · have e : arOf ops t[j] = some 0 := by unfold arOf; rw [if_neg c, if_pos (by omega)]
      rw [e]
      simp only [Option.bind_some, Nat.add_zero]
      rw [endRes_map]
      refine Ev.cases (fun z => Ev.const ?_) (fun z => ?_)
      · rw [show m = 0 by omega, Go.Proofs.Ytflkiiiomnogfae.Trm.eat_zero]; simp [endRes]
      · obtain ⟨b, rfl⟩ : ∃ b, m = b + 1 := ⟨m - 1, by omega⟩
        exact ih (j + 1) b (by omega) (by omega)
theorem l3End_v {n : Int} {ops : List S53} (hs : SmallAr ops) (t : List Int) (ht : t.length ≤ 60) (j : Nat) (hj : j ≤ t.length) :
    Ev (fun k => spec_l3End.f k n ops t (j : Int)) (endRes j (Go.Proofs.Ytflkiiiomnogfae.Trm.eat (arOf ops) (t.drop j) 1)) := l3End_l hs t ht (t.length - j) j 0 (by omega) (by omega)
-- impl_isTerm
def okT (ops : List S53) (t : List Int) : Prop := t.length ≤ 60 ∧ Go.Proofs.Ytflkiiiomnogfae.Trm.eat (arOf ops) t 1 = some t.length
instance (ops : List S53) (t : List Int) : Decidable (okT ops t) := by unfold okT; infer_instance
theorem endRes_len (o : Option Nat) (l : Nat) : (endRes 0 o == (l : Int)) = decide (o = some l) := by
  cases o with
  | none =>
    rw [decide_eq_false (by simp)]
    simp only [endRes, beq_eq_false_iff_ne]
    omega
  | some e =>
    simp only [endRes, Option.some.injEq]
    by_cases c : e = l
    · subst c; simp
    · rw [decide_eq_false c, beq_eq_false_iff_ne]; omega
theorem isTerm_v {n : Int} {ops : List S53} (hs : SmallAr ops) (t : List Int) : Ev (fun k => impl_isTerm.f k n ops t) (decide (okT ops t)) := by
  unfold impl_isTerm.f
  refine Ev.cases (fun c => ?_) (fun c => Ev.const ?_)
  · refine Ev.bind (endOf_v hs t (by omega) 0 (by omega)) (Ev.const ?_)
    rw [List.drop_zero, endRes_len]
    congr 1
    exact decide_eq_decide.2 ⟨fun h => ⟨by omega, h⟩, fun h => h.2⟩
  · congr 1
    exact (decide_eq_false fun h => c (by have := h.1; omega)).symm
-- impl_IsTerm
theorem IsTerm_v (n : Int) (ops : List S53) (ho : ∀ o ∈ ops, o.f1.length ≤ 9223372036854775807) (t : List Int) : Ev (fun k => impl_IsTerm.f k n ops t) (decide (okAlg n ops ∧ okT ops t)) := by
  unfold impl_IsTerm.f
  refine Ev.bind (implIsAlgebra_v n ops ho) (Ev.cases (fun c => ?_) (fun c => Ev.const ?_))
  · have c := of_decide_eq_true c
    refine Ev.bind (isTerm_v (okAlg_small c) t) (Ev.const ?_)
    congr 1
    exact decide_eq_decide.2 ⟨fun h => ⟨c, h⟩, fun h => h.2⟩
  · rw [decide_eq_false fun h => c (decide_eq_true h.1)]
-- spec_l3Good impl_isTerm
theorem l3Good_v {n : Int} {ops : List S53} (hs : SmallAr ops) (t : List Int) : Ev (fun k => spec_l3Good.f k n ops t) (decide (okT ops t)) := by
  unfold spec_l3Good.f
  refine Ev.cases (fun c0 => Ev.cases (fun c => ?_) (fun c => Ev.const ?_)) (fun c0 => Ev.const ?_)
  · refine Ev.bind (l3End_v hs t (by omega) 0 (by omega)) (Ev.const ?_)
    rw [List.drop_zero, endRes_len]
    congr 1
    exact decide_eq_decide.2 ⟨fun h => ⟨by omega, h⟩, fun h => h.2⟩
  · congr 1
    exact (decide_eq_false fun h => c (by have := h.1; omega)).symm
  · congr 1
    refine (decide_eq_false fun h => ?_).symm
    have e : t = [] := List.length_eq_zero_iff.1 (by omega)
    rw [e] at h
    exact absurd h.2 (by simp [Go.Proofs.Ytflkiiiomnogfae.Trm.eat])
-- spec_l3Takes impl_isTerm
theorem l3Takes_v (n : Int) (ops : List S53) (ho : ∀ o ∈ ops, o.f1.length ≤ 9223372036854775807) (t : List Int) : Ev (fun k => spec_l3Takes.f k n ops t) (decide (okAlg n ops ∧ okT ops t)) := by
  unfold spec_l3Takes.f
  refine Ev.bind (l2Good_v n ops ho) (Ev.cases (fun c => ?_) (fun c => Ev.const ?_))
  · have c := of_decide_eq_true c
    refine Ev.bind (l3Good_v (okAlg_small c) t) (Ev.const ?_)
    congr 1
    exact decide_eq_decide.2 ⟨fun h => ⟨c, h⟩, fun h => h.2⟩
  · rw [decide_eq_false fun h => c (decide_eq_true h.1)]
-- spec_l1Own
theorem l1Own_v (l : List Int) (hl : l.length < 17592186044416) : spec_l1Own.f l = some l := by
  unfold spec_l1Own.f
  rw [Option.bind_some, if_pos (by simpa using hl), List.nil_append]
-- laws_markIntS
/-- The numbers that a mark writes: so many, rising from a. -/
def seqI (a : Int) (n : Nat) : List Int := (List.range n).map fun i : Nat => a + (i : Int)
theorem seqI_len (a : Int) (n : Nat) : (seqI a n).length = n := by simp [seqI]
theorem seqI_at {a : Int} {n j : Nat} (h : j < (seqI a n).length) : (seqI a n)[j] = a + (j : Int) := by simp [seqI]
theorem seqI_succ (a : Int) (n : Nat) : seqI a (n + 1) = seqI a n ++ [a + (n : Int)] := by simp [seqI, List.range_succ]
theorem markIntS_l (l : List Int) (a : Int) (h0 : 0 ≤ a) (h1 : a ≤ 4611686018427387904) (hl : l.length ≤ 1099511627776) : ∀ (d j : Nat), j + d = l.length →
    Ev (fun k => laws_markIntS.l0 k (seqI a j ++ l.drop j) (a + (j : Int)) (j : Int)) (a + (l.length : Int), seqI a l.length) := by
  intro d
  induction d with
  | zero =>
    intro j hj
    obtain rfl : j = l.length := by omega
    refine Ev.succ ?_
    simp only [laws_markIntS.l0]
    refine Ev.neg (by simp [seqI_len]) (Ev.const ?_)
    rw [List.drop_of_length_le (Nat.le_refl _), List.append_nil]
  | succ d ih =>
    intro j hj
    have hlt : j < l.length := by omega
    refine Ev.succ ?_
    simp only [laws_markIntS.l0, w64s hlt (by omega : l.length ≤ 9223372036854775807), Int.toNat_natCast]
    rw [w64 (n := a + (j : Int) + 1) (by omega)]
    refine Ev.pos (by simp [seqI_len]; omega) (Ev.pos (by omega) ?_)
    rw [drop_cons hlt, set_mid _ _ _ _ j (seqI_len a j)]
    have := ih (j + 1) (by omega)
    rw [seqI_succ, List.append_assoc, show a + ((j + 1 : Nat) : Int) = a + (j : Int) + 1 from by omega] at this
    exact this
theorem markIntS_v (l : List Int) (a : Int) (h0 : 0 ≤ a) (h1 : a ≤ 4611686018427387904) (hl : l.length ≤ 1099511627776) : Ev (fun k => laws_markIntS.f k l a) (a + (l.length : Int), seqI a l.length) := by
  unfold laws_markIntS.f
  have := markIntS_l l a h0 h1 hl l.length 0 (by omega)
  simpa [seqI] using this
-- laws_markIntS laws_heldIntS
theorem heldIntS_l (n : Nat) (a : Int) (h0 : 0 ≤ a) (h1 : a ≤ 4611686018427387904) (hn : n ≤ 1099511627776) : ∀ (d j : Nat), j + d = n →
    Ev (fun k => laws_heldIntS.l0 k (seqI a n) (a + (j : Int)) (j : Int)) (a + (n : Int)) := by
  intro d
  induction d with
  | zero =>
    intro j hj
    obtain rfl : j = n := by omega
    refine Ev.succ ?_
    simp only [laws_heldIntS.l0]
    exact Ev.neg (by simp [seqI_len]) (Ev.const rfl)
  | succ d ih =>
    intro j hj
    have hlt : j < (seqI a n).length := by rw [seqI_len]; omega
    refine Ev.succ ?_
    simp only [laws_heldIntS.l0, rd_at hlt, seqI_at hlt, w64s (show j < n by omega) (by omega : n ≤ 9223372036854775807)]
    rw [w64 (n := a + (j : Int) + 1) (by omega)]
    refine Ev.pos (by rw [seqI_len]; omega) (Ev.pos (by omega) (Ev.pos trivial ?_))
    have := ih (j + 1) (by omega)
    rw [show a + ((j + 1 : Nat) : Int) = a + (j : Int) + 1 from by omega] at this
    exact this
theorem heldIntS_v (n : Nat) (a : Int) (h0 : 0 ≤ a) (h1 : a ≤ 4611686018427387904) (hn : n ≤ 1099511627776) : Ev (fun k => laws_heldIntS.f k (seqI a n) a) (a + (n : Int)) := by
  unfold laws_heldIntS.f
  have := heldIntS_l n a h0 h1 hn n 0 (by omega)
  simpa using this
-- laws_markOpS
/-- What a mark makes of operations: the next number, and the operations. -/
def mkOps : Int → List S53 → Int × List S53
  | a, [] => (a, [])
  | a, o :: os => ((mkOps (a + 1 + (o.f1.length : Int)) os).1, ⟨a, seqI (a + 1) o.f1.length⟩ :: (mkOps (a + 1 + (o.f1.length : Int)) os).2)
theorem mkOps_len : ∀ (os : List S53) (a : Int), (mkOps a os).2.length = os.length
  | [], _ => rfl
  | _ :: os, a => by simp [mkOps, mkOps_len os]
theorem mkOps_bd : ∀ (os : List S53) (a : Int), (∀ o ∈ os, o.f1.length ≤ 1048576) → a ≤ (mkOps a os).1 ∧ (mkOps a os).1 ≤ a + (os.length : Int) * 1048577
  | [], a, _ => by simp [mkOps]
  | o :: os, a, h => by
    have := mkOps_bd os (a + 1 + (o.f1.length : Int)) (fun q hq => h q (List.mem_cons_of_mem _ hq))
    have := h o List.mem_cons_self
    simp only [mkOps, List.length_cons]
    omega
theorem markOpS_l : ∀ (os pre : List S53) (a : Int), 0 ≤ a → a + (os.length : Int) * 1048577 ≤ 2305843009213693952 → pre.length + os.length ≤ 1048576 → (∀ o ∈ os, o.f1.length ≤ 1048576) →
    Ev (fun k => laws_markOpS.l0 k (pre ++ os) a (pre.length : Int)) ((mkOps a os).1, pre ++ (mkOps a os).2) := by
  intro os
  induction os with
  | nil =>
    intro pre a h0 h1 hl ho
    refine Ev.succ ?_
    simp only [laws_markOpS.l0]
    exact Ev.neg (by simp) (Ev.const rfl)
  | cons o os ih =>
    intro pre a h0 h1 hl ho
    have hlt : pre.length < (pre ++ o :: os).length := by simp
    have ho1 := ho o List.mem_cons_self
    simp only [List.length_cons] at h1 hl
    refine Ev.succ ?_
    simp only [laws_markOpS.l0, rdT_at hlt, w64s (show pre.length < 1048577 by omega) (by omega), Int.toNat_natCast]
    rw [w64 (n := a + 1) (by omega)]
    refine Ev.pos (by simp; omega) (Ev.pos (by omega) ?_)
    have e : (pre ++ o :: os)[pre.length] = o := by simp
    rw [e]
    refine Ev.bind (markIntS_v o.f1 (a + 1) (by omega) (by omega) (by omega)) ?_
    rw [set_mid _ _ _ _ pre.length rfl]
    have := ih (pre ++ [⟨a, seqI (a + 1) o.f1.length⟩]) (a + 1 + (o.f1.length : Int)) (by omega) (by omega) (by simp; omega) (fun q hq => ho q (List.mem_cons_of_mem _ hq))
    simpa [mkOps, List.append_assoc] using this
-- laws_markAlgebra
theorem markAlgebra_v (n : Int) (os : List S53) (a : Int) (h0 : 0 ≤ a) (h1 : a ≤ 1048576) (hl : os.length ≤ 1048576) (ho : ∀ o ∈ os, o.f1.length ≤ 1048576) : Ev (fun k => laws_markAlgebra.f k n os a) (mkOps a os) := by
  unfold laws_markAlgebra.f laws_markOpS.f
  have := markOpS_l os [] a h0 (by omega) (by simpa using hl) ho
  simpa using this
theorem small_cv {ops : List S82} (h : SmallA ops) : ∀ o ∈ ops.map cvOp, o.f1.length ≤ 1048576 := by
  intro o hm
  obtain ⟨q, hq, rfl⟩ := List.mem_map.1 hm
  exact h.2 q hq
theorem markAlgebra_cv (n : Int) (ops : List S82) (h : SmallA ops) (a : Int) (h0 : 0 ≤ a) (h1 : a ≤ 1048576) : ∃ r, Ev (fun k => laws_markAlgebra.f k n (ops.map cvOp) a) r ∧ ¬ r.1 < 0 ∧ r.1 ≤ a + 1099512676352 := by
  have hl : (ops.map cvOp).length ≤ 1048576 := by simpa using h.1
  have ho : ∀ o ∈ ops.map cvOp, o.f1.length ≤ 1048576 := by
    intro o hm
    obtain ⟨q, hq, rfl⟩ := List.mem_map.1 hm
    exact h.2 q hq
  have := mkOps_bd (ops.map cvOp) a ho
  exact ⟨_, markAlgebra_v n _ a h0 h1 hl ho, by omega, by omega⟩
-- spec_l1Own
theorem own_v {l : List Int} (h : l.length < 17592186044416) : spec_l1Own.f l = some l := by
  unfold spec_l1Own.f
  simp [h]
-- impl_endOf impl_isTerm
/-- Behind each place of a term stands a whole term. -/
theorem sub_end {ops : List S53} {t : List Int} (h : okT ops t) {j : Nat} (hj : j < t.length) : ∃ e, Go.Proofs.Ytflkiiiomnogfae.Trm.eat (arOf ops) (t.drop j) 1 = some e ∧ j + e ≤ t.length := by
  obtain ⟨m, hm, hm1⟩ := Go.Proofs.Ytflkiiiomnogfae.Trm.eat_drop t 1 h.2 j (by omega)
  have hm1 := hm1 hj
  rw [show m = 1 + (m - 1) by omega, Go.Proofs.Ytflkiiiomnogfae.Trm.eat_add] at hm
  obtain ⟨e, he, _⟩ := Option.bind_eq_some_iff.1 hm
  have := (Go.Proofs.Ytflkiiiomnogfae.Trm.eat_le _ _ _ he).2
  rw [List.length_drop] at this
  exact ⟨e, he, by omega⟩
-- spec_l1In
theorem l1In_int (a b c : Int) (P : Prop) [Decidable P] (h : (b ≤ a ∧ a ≤ c) ↔ P) : spec_l1In.f a b c = some (decide P) := by
  rw [l1In_v]; congr 1; exact decide_eq_decide.2 h
-- spec_l3Fits
theorem l3Fits_l (m : Int) (l : List Int) (hl : l.length ≤ 9223372036854775807) : ∀ (d j : Nat), j + d = l.length → Ev (fun k => spec_l3Fits.l0 k l m (j : Int)) (decide (∀ x ∈ l.drop j, x < m)) := by
  intro d
  induction d with
  | zero =>
    intro j hj
    refine Ev.succ ?_
    simp only [spec_l3Fits.l0]
    refine Ev.neg (by omega) (Ev.const ?_)
    rw [List.drop_of_length_le (by omega)]; simp
  | succ d ih =>
    intro j hj
    have hlt : j < l.length := by omega
    refine Ev.succ ?_
    simp only [spec_l3Fits.l0, rd_at hlt, w64s hlt hl]
    refine Ev.pos (by omega) (Ev.pos (by omega) (Ev.cases (fun c => Ev.const ?_) (fun c => ?_)))
    · congr 1
      refine (decide_eq_false fun h => ?_).symm
      have := (all_drop (P := fun x => x < m) hlt).1 h
      omega
    · refine Ev.eq (ih (j + 1) (by omega)) (decide_eq_decide.2 ?_)
      rw [all_drop (P := fun x => x < m) hlt]
      exact ⟨fun h => ⟨by omega, h⟩, fun h => h.2⟩
theorem l3Fits_v (m : Int) (l : List Int) (hl : l.length ≤ 9223372036854775807) : Ev (fun k => spec_l3Fits.f k l m) (decide (∀ x ∈ l, x < m)) := by
  unfold spec_l3Fits.f
  have := l3Fits_l m l hl l.length 0 (by omega)
  rwa [List.drop_zero] at this
-- impl_hasValues
theorem hasValues_l (m : Int) (l : List Int) (hl : l.length ≤ 9223372036854775807) : ∀ (d j : Nat), j + d = l.length → Ev (fun k => impl_hasValues.l0 k m l (l.length : Int) (j : Int)) (decide (∀ x ∈ l.drop j, x < m)) := by
  intro d
  induction d with
  | zero =>
    intro j hj
    refine Ev.succ ?_
    simp only [impl_hasValues.l0]
    refine Ev.neg (by omega) (Ev.const ?_)
    rw [List.drop_of_length_le (by omega)]; simp
  | succ d ih =>
    intro j hj
    have hlt : j < l.length := by omega
    refine Ev.succ ?_
    simp only [impl_hasValues.l0, rd_at hlt, w64s hlt hl]
    refine Ev.pos (by omega) (Ev.pos (by omega) (Ev.pos (by omega) (Ev.cases (fun c => Ev.const ?_) (fun c => ?_))))
    · congr 1
      refine (decide_eq_false fun h => ?_).symm
      have := (all_drop (P := fun x => x < m) hlt).1 h
      omega
    · refine Ev.eq (ih (j + 1) (by omega)) (decide_eq_decide.2 ?_)
      rw [all_drop (P := fun x => x < m) hlt]
      exact ⟨fun h => ⟨by omega, h⟩, fun h => h.2⟩
theorem hasValues_v (m : Int) (l : List Int) (hl : l.length ≤ 9223372036854775807) : Ev (fun k => impl_hasValues.f k l m) (decide (∀ x ∈ l, x < m)) := by
  unfold impl_hasValues.f
  have := hasValues_l m l hl l.length 0 (by omega)
  rwa [List.drop_zero] at this
-- impl_eval spec_l3Value
theorem back_ix {st : List Int} (hl : st.length ≤ 1048576) {i : Nat} (h : i < st.length) : wrap64 (wrap64 ((st.length : Int) - 1) - (i : Int)) = ((st.length - 1 - i : Nat) : Int) := by
  rw [w64 (n := (st.length : Int) - 1) (by omega), w64 (by omega)]; omega
theorem back_rd {st : List Int} {i : Nat} (h : i < st.length) : rd st ((st.length - 1 - i : Nat) : Int) = st.reverse[i]'(by simpa using h) := by
  rw [rd_at (by omega), List.getElem_reverse]
theorem ixF_snoc (n : Int) (l : List Int) (x : Int) : ixF n 0 (l ++ [x]) = ixF n 0 l * n + x := by simp [ixF, List.foldl_append]
theorem back_in {n : Int} {st : List Int} (hv : ∀ v ∈ st, 0 ≤ v ∧ v < n) (c : Nat) : ∀ v ∈ st.reverse.take c, 0 ≤ v ∧ v < n := fun v h => hv v (List.mem_reverse.1 (List.mem_of_mem_take h))
theorem l3Value_in {n : Int} {ops : List S53} (hA : okAlg n ops) {q : Nat} (hq : q < ops.length) (t vals st : List Int) (i : Int) (a : Nat) (ha : (ops[q]).f0 = (a : Int)) (hst : a ≤ st.length) (hl : st.length ≤ 1000) (hv : ∀ v ∈ st, 0 ≤ v ∧ v < n) {r : Int}
    (next : Ev (fun k => spec_l3Value.l0 k t vals (st.take (st.length - a) ++ [rd (ops[q]).f1 (ixF n 0 (st.reverse.take a))]) (wrap64 (i - 1)) n ops) r) : ∀ (d c : Nat), c + d = a →
    Ev (fun k => spec_l3Value.l1 k t vals st i (q : Int) (st.reverse.take c) (c : Int) n ops) r := by
  intro d
  induction d with
  | zero =>
    intro c hc
    obtain rfl : c = a := by omega
    have hla : (st.reverse.take c).length = c := by rw [List.length_take, List.length_reverse]; omega
    have e : wrap64 ((st.length : Int) - ((st.reverse.take c).length : Int)) = ((st.length - c : Nat) : Int) := by rw [hla, w64 (by omega)]; omega
    refine Ev.succ ?_
    simp only [spec_l3Value.l1, rdT_at hq, ha, e, Int.toNat_natCast]
    refine Ev.pos (by omega) (Ev.pos (by omega) (Ev.neg (by omega) (Ev.pos (by omega) (Ev.pos (by omega) (Ev.bound (own_v (by rw [List.length_take]; omega)) (Ev.bind (l2Value_v hA hq (st.reverse.take c) (back_in hv c) (by rw [hla, ha])) (Ev.pos (by rw [List.length_take]; omega) next)))))))
  | succ d ih =>
    intro c hc
    have hlt : c < st.length := by omega
    refine Ev.succ ?_
    simp only [spec_l3Value.l1, rdT_at hq, ha, back_ix (by omega : st.length ≤ 1048576) hlt, back_rd hlt, w64s (show c < 1000 by omega) (by omega)]
    refine Ev.pos (by omega) (Ev.pos (by omega) (Ev.pos (by omega) (Ev.pos (by omega) (Ev.pos (by omega) (Ev.pos (by rw [List.length_take, List.length_reverse]; omega) ?_)))))
    have := ih (c + 1) (by omega)
    rw [take_snoc (by simpa using hlt)] at this
    exact this
theorem eval_in {n : Int} {ops : List S53} (hA : okAlg n ops) {q : Nat} (hq : q < ops.length) (t vals st : List Int) (i : Int) (a : Nat) (ha : (ops[q]).f0 = (a : Int)) (hst : a ≤ st.length) (hl : st.length ≤ 1000) (hv : ∀ v ∈ st, 0 ≤ v ∧ v < n) {r : Int}
    (next : Ev (fun k => impl_eval.l0 k t vals (st.take (st.length - a) ++ [rd (ops[q]).f1 (ixF n 0 (st.reverse.take a))]) (wrap64 (i - 1)) n ops) r) : ∀ (d c : Nat), c + d = a →
    Ev (fun k => impl_eval.l1 k t vals st i (ixF n 0 (st.reverse.take c)) (c : Int) n ops (a : Int) (ops[q]).f1) r := by
  have hop := okAlg_op hA hq
  have h3 : a ≤ 3 := by have := hop.2.1; omega
  have hT : ((ops[q]).f1.length : Int) = n ^ a := by have := hop.2.2.1; rw [ha, Int.toNat_natCast] at this; exact this
  have bd : ∀ c, c ≤ a → 0 ≤ ixF n 0 (st.reverse.take c) ∧ ixF n 0 (st.reverse.take c) < n ^ c := by
    intro c hc
    have hla : (st.reverse.take c).length = c := by rw [List.length_take, List.length_reverse]; omega
    have := ix_bd hA.1 hA.2.1 (st.reverse.take c) 0 0 (by omega) (back_in hv c) (by omega) (by simp)
    rw [hla, Nat.zero_add] at this
    exact this
  intro d
  induction d with
  | zero =>
    intro c hc
    obtain rfl : c = a := by omega
    have e : wrap64 ((st.length : Int) - (c : Int)) = ((st.length - c : Nat) : Int) := by rw [w64 (by omega)]; omega
    have hb := bd c (Nat.le_refl _)
    refine Ev.succ ?_
    simp only [impl_eval.l1, e, Int.toNat_natCast]
    exact Ev.neg (by omega) (Ev.pos (by omega) (Ev.pos (by omega) (Ev.bound rfl (Ev.pos hb.1 (Ev.pos (by rw [hT]; exact hb.2) (Ev.pos (by rw [List.length_take]; omega) next))))))
  | succ d ih =>
    intro c hc
    have hlt : c < st.length := by omega
    have hb := bd c (by omega)
    have hx := hv _ (List.mem_reverse.1 (List.getElem_mem (show c < st.reverse.length by simpa using hlt)))
    have es := (ix_step hA.1 hA.2.1 (show c ≤ 5 by omega) hb.1 hb.2 hx).2.2
    refine Ev.succ ?_
    simp only [impl_eval.l1, back_ix (by omega : st.length ≤ 1048576) hlt, back_rd hlt, w64s (show c < 1000 by omega) (by omega), es]
    refine Ev.pos (by omega) (Ev.pos (by omega) (Ev.pos (by omega) ?_))
    have := ih (c + 1) (by omega)
    rw [take_snoc (by simpa using hlt), ixF_snoc] at this
    exact this
theorem eat_uniq {ar : Int → Option Nat} {l : List Int} {m m' : Nat} (h : Go.Proofs.Ytflkiiiomnogfae.Trm.eat ar l m = some l.length) (h' : Go.Proofs.Ytflkiiiomnogfae.Trm.eat ar l m' = some l.length) : m = m' := by
  have one : ∀ {a b : Nat}, Go.Proofs.Ytflkiiiomnogfae.Trm.eat ar l a = some l.length → Go.Proofs.Ytflkiiiomnogfae.Trm.eat ar l b = some l.length → ¬ a < b := by
    intro a b ha hb hlt
    rw [show b = a + (b - a - 1 + 1) by omega, Go.Proofs.Ytflkiiiomnogfae.Trm.eat_add, ha] at hb
    simp only [Option.bind_some, List.drop_length, Go.Proofs.Ytflkiiiomnogfae.Trm.eat_nil, Option.map_none] at hb
    cases hb
  have h1 := one h h'
  have h2 := one h' h
  omega
theorem eval_main {n : Int} {ops : List S53} (hA : okAlg n ops) {t vals : List Int} (ht : okT ops t) (h6 : vals.length ≤ 6) (hvals : ∀ v ∈ vals, 0 ≤ v ∧ v < n) (hfit : ∀ x ∈ t, x < (vals.length : Int)) : ∀ (j : Nat) (st : List Int), j ≤ t.length →
    (∀ v ∈ st, 0 ≤ v ∧ v < n) → Go.Proofs.Ytflkiiiomnogfae.Trm.eat (arOf ops) (t.drop j) st.length = some (t.length - j) →
    ∃ v, Ev (fun k => spec_l3Value.l0 k t vals st ((j : Int) - 1) n ops) v ∧ Ev (fun k => impl_eval.l0 k t vals st ((j : Int) - 1) n ops) v := by
  have h60 := ht.1
  intro j
  induction j with
  | zero =>
    intro st _ hv he
    have h1 : st.length = 1 := by
      rw [List.drop_zero, Nat.sub_zero] at he
      exact eat_uniq he ht.2
    refine ⟨rd st 0, Ev.succ ?_, Ev.succ ?_⟩
    · simp only [spec_l3Value.l0]
      exact Ev.neg (by omega) (Ev.pos (by omega) (Ev.now _))
    · simp only [impl_eval.l0]
      exact Ev.neg (by omega) (Ev.pos (by omega) (Ev.now _))
  | succ j ih =>
    intro st hj hv he
    have hlt : j < t.length := by omega
    have hx6 := hfit _ (List.getElem_mem hlt)
    obtain ⟨m, hm, hm1⟩ := Go.Proofs.Ytflkiiiomnogfae.Trm.eat_drop t 1 ht.2 j (by omega)
    have hm1 := hm1 hlt
    obtain ⟨p, rfl⟩ : ∃ p, m = p + 1 := ⟨m - 1, by omega⟩
    have hm' := hm
    rw [drop_cons hlt, Go.Proofs.Ytflkiiiomnogfae.Trm.eat_cons] at hm
    obtain ⟨a, ha, hm⟩ := Option.bind_eq_some_iff.1 hm
    obtain ⟨e', he', hee⟩ := Option.map_eq_some_iff.1 hm
    have hlen : st.length = p + a := by
      have e1 : (t.drop (j + 1)).length = t.length - (j + 1) := by rw [List.length_drop]
      refine eat_uniq (ar := arOf ops) (l := t.drop (j + 1)) (by rw [e1]; exact he) (by rw [e1, he']; congr 1; omega)
    have hst : st.length ≤ 60 := by have := (Go.Proofs.Ytflkiiiomnogfae.Trm.eat_le _ _ _ he).1; omega
    have ej : (((j + 1 : Nat) : Int) - 1) = (j : Int) := by omega
    have ew : wrap64 ((j : Int) - 1) = (j : Int) - 1 := w64 (by omega)
    rw [ej]
    by_cases c : t[j] ≥ 0
    · have ha0 : a = 0 := by
        unfold arOf at ha
        rw [if_neg (by omega), if_pos c] at ha
        injection ha with ha; omega
      obtain ⟨v, hs, hi⟩ := ih (st ++ [rd vals t[j]]) (by omega) (by
        intro y hy
        rcases List.mem_append.1 hy with hy | hy
        · exact hv y hy
        · rw [List.mem_singleton.1 hy]; exact rd_in hvals c (by omega)) (by rw [List.length_append, hlen, ha0]; exact hm')
      refine ⟨v, Ev.succ ?_, Ev.succ ?_⟩
      · simp only [spec_l3Value.l0, rd_at hlt, ew]
        exact Ev.pos (by omega) (Ev.pos (by omega) (Ev.pos (by omega) (Ev.pos c (Ev.pos (by omega) (Ev.pos (by omega) (Ev.pos (by omega) hs))))))
      · simp only [impl_eval.l0, rd_at hlt, ew]
        exact Ev.pos (by omega) (Ev.pos (by omega) (Ev.pos (by omega) (Ev.pos c (Ev.pos (by omega) (Ev.pos (by omega) (Ev.pos (by omega) hi))))))
    · have hlo : -(ops.length : Int) ≤ t[j] := by
        unfold arOf at ha
        rw [if_neg (by omega), if_neg c] at ha
        by_cases c2 : t[j] < -(ops.length : Int)
        · rw [if_pos c2] at ha; cases ha
        · omega
      obtain ⟨a', _, ha', hf⟩ := arOf_op (okAlg_small hA) (show t[j] < 0 by omega) hlo
      obtain rfl : a = a' := by rw [ha] at ha'; injection ha'
      obtain ⟨q, hq⟩ := int_nat (show 0 ≤ -1 - t[j] by omega)
      have hql : q < ops.length := by omega
      have h4 := hA.2.2.1
      have ew2 : wrap64 ((-1) - t[j]) = (q : Int) := by rw [w64 (by omega)]; exact hq
      rw [hq, rdT_at hql] at hf
      have hop := okAlg_op hA hql
      have hin := back_in hv a
      have hla : (st.reverse.take a).length = a := by rw [List.length_take, List.length_reverse]; omega
      have hbd := ix_bd hA.1 hA.2.1 (st.reverse.take a) 0 0 (by omega) hin (by omega) (by simp)
      rw [hla, Nat.zero_add] at hbd
      have hT : ((ops[q]).f1.length : Int) = n ^ a := by have := hop.2.2.1; rw [hf, Int.toNat_natCast] at this; exact this
      obtain ⟨v, hs, hi⟩ := ih (st.take (st.length - a) ++ [rd (ops[q]).f1 (ixF n 0 (st.reverse.take a))]) (by omega) (by
        intro y hy
        rcases List.mem_append.1 hy with hy | hy
        · exact hv y (List.mem_of_mem_take hy)
        · rw [List.mem_singleton.1 hy]; exact rd_in hop.2.2.2 hbd.1 (by rw [hT]; exact hbd.2)) (by
        rw [List.length_append, List.length_take, show min (st.length - a) st.length = p by omega]; exact hm')
      refine ⟨v, Ev.succ ?_, Ev.succ ?_⟩
      · simp only [spec_l3Value.l0, rd_at hlt, ew2]
        refine Ev.pos (by omega) (Ev.pos (by omega) (Ev.pos (by omega) (Ev.neg c ?_)))
        exact l3Value_in hA hql t vals st (j : Int) a hf (by omega) (by omega) hv (by rw [ew]; exact hs) a 0 (by omega)
      · simp only [impl_eval.l0, rd_at hlt, ew2, rdT_at hql, hf]
        refine Ev.pos (by omega) (Ev.pos (by omega) (Ev.pos (by omega) (Ev.neg c (Ev.pos (by omega) (Ev.pos (by omega) ?_)))))
        exact eval_in hA hql t vals st (j : Int) a hf (by omega) (by omega) hv (by rw [ew]; exact hi) a 0 (by omega)
theorem eval_v {n : Int} {ops : List S53} (hA : okAlg n ops) {t vals : List Int} (ht : okT ops t) (h6 : vals.length ≤ 6) (hvals : ∀ v ∈ vals, 0 ≤ v ∧ v < n) (hfit : ∀ x ∈ t, x < (vals.length : Int)) :
    ∃ v, Ev (fun k => spec_l3Value.f k n ops t vals) v ∧ Ev (fun k => impl_eval.f k n ops t vals) v := by
  have h60 := ht.1
  obtain ⟨v, hs, hi⟩ := eval_main hA ht h6 hvals hfit t.length [] (Nat.le_refl _) (by simp) (by simp [Go.Proofs.Ytflkiiiomnogfae.Trm.eat_zero])
  refine ⟨v, ?_, ?_⟩
  · unfold spec_l3Value.f
    rw [w64 (by omega)]; exact hs
  · unfold impl_eval.f
    rw [w64 (n := (t.length : Int) - 1) (by omega)]
    exact Ev.pos (by omega) (Ev.pos (by omega) hi)
-- spec_l2Args impl_argsAt
/-- Both spell an index as arguments in the same way. -/
theorem args_l {n : Int} (h1 : 1 ≤ n) : ∀ (j : Nat) (rem : Int) (L : List Int), 0 ≤ rem → rem ≤ 4611686018427387904 → j ≤ L.length → (∀ (i : Nat) (h : i < L.length), j ≤ i → 0 ≤ L[i] ∧ L[i] < n) →
    L.length ≤ 1000 → ∃ L', Ev (fun k => spec_l2Args.l0 k n rem L ((j : Int) - 1)) L' ∧ Ev (fun k => impl_argsAt.l0 k rem n L ((j : Int) - 1)) L' ∧ L'.length = L.length ∧ ∀ x ∈ L', 0 ≤ x ∧ x < n := by
  intro j
  induction j with
  | zero =>
    intro rem L h0 hr hj hL hl
    refine ⟨L, Ev.succ ?_, Ev.succ ?_, rfl, ?_⟩
    · simp only [spec_l2Args.l0]
      exact Ev.neg (by omega) (Ev.now _)
    · simp only [impl_argsAt.l0]
      exact Ev.neg (by omega) (Ev.now _)
    · intro x hx
      obtain ⟨i, hi, rfl⟩ := List.mem_iff_getElem.1 hx
      exact hL i hi (Nat.zero_le _)
  | succ j ih =>
    intro rem L h0 hr hj hL hl
    have ej : (((j + 1 : Nat) : Int) - 1) = (j : Int) := by omega
    have ew : wrap64 ((j : Int) - 1) = (j : Int) - 1 := w64 (by omega)
    have hd0 : 0 ≤ Int.tdiv rem n := Int.tdiv_nonneg h0 (by omega)
    have hd1 : Int.tdiv rem n ≤ rem := by rw [Int.tdiv_eq_ediv_of_nonneg h0]; exact Int.ediv_le_self n h0
    have hm0 : 0 ≤ Int.tmod rem n := Int.tmod_nonneg n h0
    have hm1 : Int.tmod rem n < n := Int.tmod_lt_of_pos rem (by omega)
    have ed : wrap64 (Int.tdiv rem n) = Int.tdiv rem n := w64 (by omega)
    obtain ⟨L', hs, hi, hl', hin⟩ := ih (Int.tdiv rem n) (L.set j (Int.tmod rem n)) hd0 (by omega) (by rw [List.length_set]; omega) (by
      intro i hi hji
      rw [List.getElem_set]
      split
      · exact ⟨hm0, hm1⟩
      · exact hL i (by rw [List.length_set] at hi; exact hi) (by omega)) (by rw [List.length_set]; exact hl)
    refine ⟨L', ?_, ?_, by rw [hl', List.length_set], hin⟩
    · rw [ej]
      refine Ev.succ ?_
      simp only [spec_l2Args.l0, ed, ew, Int.toNat_natCast]
      exact Ev.pos (by omega) (Ev.neg (by omega) (Ev.pos (by omega) (Ev.pos (by omega) hs)))
    · rw [ej]
      refine Ev.succ ?_
      simp only [impl_argsAt.l0, ed, ew, Int.toNat_natCast]
      exact Ev.pos (by omega) (Ev.neg (by omega) (Ev.pos (by omega) (Ev.pos (by omega) hi)))
theorem args_v {n : Int} (h1 : 1 ≤ n) (a : Nat) (ha : a ≤ 100) (i : Int) (h0 : 0 ≤ i) (hi : i ≤ 4611686018427387904) :
    ∃ L, Ev (fun k => spec_l2Args.f k n (a : Int) i) L ∧ Ev (fun k => impl_argsAt.f k i (a : Int) n) L ∧ L.length = a ∧ ∀ x ∈ L, 0 ≤ x ∧ x < n := by
  obtain ⟨L, hs, hm, hl, hin⟩ := args_l h1 a i (List.replicate a 0) h0 hi (by simp) (by intro i hi _; simp; omega) (by simp; omega)
  have ew : wrap64 ((a : Int) - 1) = (a : Int) - 1 := w64 (by omega)
  refine ⟨L, ?_, ?_, by rw [hl, List.length_replicate], hin⟩
  · unfold spec_l2Args.f
    rw [ew, Int.toNat_natCast]
    exact Ev.pos (by omega) (Ev.pos (by omega) hs)
  · unfold impl_argsAt.f
    rw [ew, Int.toNat_natCast]
    exact Ev.pos (by omega) (Ev.pos (by omega) hm)
theorem tables_l {n : Int} {ops : List S53} (hA : okAlg n ops) {t : List Int} (ht : okT ops t) (a : Nat) (ha : a ≤ 3) (hfit : ∀ x ∈ t, x < (a : Int)) (N : Nat) (hN : (N : Int) = n ^ a) : ∀ (d i : Nat) (acc : List Int), i + d = N → acc.length = i →
    ∃ T : List Int, Ev (fun k => spec_l3Op.l0 k t (a : Int) (i : Int) n ops (a : Int) acc) ((a : Int), T) ∧ Ev (fun k => impl_termTable.l0 k t (a : Int) acc (i : Int) n ops) T ∧ T.length = N := by
  have hb := pow_bd hA.1 hA.2.1 (show a ≤ 6 by omega)
  have hP := l2Pow_v (e := (a : Int)) hA.1 hA.2.1 (by omega) (by omega)
  have hQ := power_v (e := (a : Int)) hA.1 hA.2.1 (by omega) (by omega)
  rw [Int.toNat_natCast, ← hN] at hP hQ
  rw [← hN] at hb
  intro d
  induction d with
  | zero =>
    intro i acc hi hacc
    refine ⟨acc, Ev.succ ?_, Ev.succ ?_, by omega⟩
    · simp only [spec_l3Op.l0]
      exact Ev.bind hP (Ev.neg (by omega) (Ev.now _))
    · simp only [impl_termTable.l0]
      exact Ev.bind hQ (Ev.neg (by omega) (Ev.now _))
  | succ d ih =>
    intro i acc hi hacc
    obtain ⟨L, h1, h2, hl, hin⟩ := args_v hA.1 a (by omega) (i : Int) (by omega) (by omega)
    obtain ⟨v, e1, e2⟩ := eval_v hA ht (by omega) hin (by rw [hl]; exact hfit)
    obtain ⟨T, hs, hm, hT⟩ := ih (i + 1) (acc ++ [v]) (by omega) (by simp [hacc])
    have ew := w64s (show i < N by omega) (by omega : N ≤ 9223372036854775807)
    refine ⟨T, Ev.succ ?_, Ev.succ ?_, hT⟩
    · simp only [spec_l3Op.l0, ew]
      exact Ev.bind hP (Ev.pos (by omega) (Ev.bind h1 (Ev.bind e1 (Ev.pos (by omega) hs))))
    · simp only [impl_termTable.l0, ew]
      exact Ev.bind hQ (Ev.pos (by omega) (Ev.bind h2 (Ev.bind e2 (Ev.pos (by omega) hm))))
theorem termOp_v (n : Int) (ops : List S53) (ho : ∀ o ∈ ops, o.f1.length ≤ 9223372036854775807) (t : List Int) (hlt : t.length ≤ 1048576) (a : Int) :
    ∃ (r0 : Int) (r1 : List Int) (r2 : Bool), Ev (fun k => spec_TermOp.f k n ops t a) (r0, r1, r2) ∧ Ev (fun k => impl_TermOp.f k n ops t a) (r0, r1, r2) ∧ r1.length ≤ 1048576 := by
  by_cases c : okAlg n ops ∧ okT ops t
  · have hF := l3Fits_v a t (by omega)
    have hH := hasValues_v a t (by omega)
    by_cases c2 : 0 ≤ a ∧ a ≤ 3
    · by_cases cf : ∀ x ∈ t, x < a
      · obtain ⟨q, rfl⟩ := int_nat c2.1
        have hb := pow_bd c.1.1 c.1.2.1 (show q ≤ 6 by omega)
        obtain ⟨N, hN⟩ := int_nat (show 0 ≤ n ^ q by omega)
        obtain ⟨T, h1, h2, hl⟩ := tables_l c.1 c.2 q (by omega) cf N hN.symm N 0 [] (by omega) rfl
        refine ⟨(q : Int), T, true, ?_, ?_, by omega⟩
        · unfold spec_TermOp.f
          exact Ev.bind (l3Takes_v n ops ho t) (Ev.pos (decide_eq_true c) (Ev.bound (l1In_yes c2) (Ev.pos rfl (Ev.bind hF (Ev.pos (decide_eq_true cf) (Ev.bind (a := ((q : Int), T)) h1 (Ev.now _)))))))
        · unfold impl_TermOp.f
          exact Ev.bind (IsTerm_v n ops ho t) (Ev.pos (decide_eq_true c) (Ev.neg (by omega) (Ev.neg (by omega) (Ev.bind hH (Ev.pos (decide_eq_true cf) (Ev.bind (a := T) h2 (Ev.now _)))))))
      · refine ⟨0, [], false, ?_, ?_, by simp⟩
        · unfold spec_TermOp.f
          exact Ev.bind (l3Takes_v n ops ho t) (Ev.pos (decide_eq_true c) (Ev.bound (l1In_yes c2) (Ev.pos rfl (Ev.bind hF (Ev.neg (by rw [decide_eq_false cf]; simp) (Ev.now _))))))
        · unfold impl_TermOp.f
          exact Ev.bind (IsTerm_v n ops ho t) (Ev.pos (decide_eq_true c) (Ev.neg (by omega) (Ev.neg (by omega) (Ev.bind hH (Ev.neg (by rw [decide_eq_false cf]; simp) (Ev.now _))))))
    · refine ⟨0, [], false, ?_, ?_, by simp⟩
      · unfold spec_TermOp.f
        exact Ev.bind (l3Takes_v n ops ho t) (Ev.pos (decide_eq_true c) (Ev.bound (l1In_no c2) (Ev.neg (by simp) (Ev.now _))))
      · unfold impl_TermOp.f
        exact Ev.bind (IsTerm_v n ops ho t) (Ev.pos (decide_eq_true c) (Ev.cases (fun _ => Ev.now _) (fun c3 => Ev.pos (by omega) (Ev.now _))))
  · refine ⟨0, [], false, ?_, ?_, by simp⟩
    · unfold spec_TermOp.f
      exact Ev.bind (l3Takes_v n ops ho t) (Ev.neg (by simp only [decide_eq_true_eq]; exact c) (Ev.now _))
    · unfold impl_TermOp.f
      exact Ev.bind (IsTerm_v n ops ho t) (Ev.neg (by simp only [decide_eq_true_eq]; exact c) (Ev.now _))
theorem pure (n : Int) (ops : List S82) (t : List Int) (a : Int) (hn : I64 n) (hl : ops.length ≤ 9223372036854775807) (ho : ∀ o ∈ ops, WfOp o) (hlt : t.length ≤ 9223372036854775807) (ht : ∀ x ∈ t, I64 x) (ha : I64 a) : ∃ k, laws_FnExactTermOp.f k n ops t a = some true := by
  apply Ev.rounds
  unfold laws_FnExactTermOp.f
  refine Ev.cases (fun _ => Ev.now _) (fun hs' => szAlgebra_law hl ho (by omega) (by omega) fun hs _ _ _ => ?_)
  obtain ⟨m, hm, hm0, hm1⟩ := markAlgebra_cv n ops hs 1 (by omega) (by omega)
  obtain ⟨r0, r1, r2, h1, h2, hr⟩ := termOp_v n (ops.map cvOp) (short_cv hs) t (by omega) a
  have hM : Ev (fun k => laws_markOp.f k r0 r1 1) (1 + (r1.length : Int), seqI 1 r1.length) := by
    unfold laws_markOp.f
    exact Ev.bind (markIntS_v r1 1 (by omega) (by omega) (by omega)) (Ev.now _)
  have hH : Ev (fun k => laws_heldOp.f k r0 (seqI 1 r1.length) 1) (1 + (r1.length : Int)) := by
    unfold laws_heldOp.f
    exact Ev.bind (heldIntS_v r1.length 1 (by omega) (by omega) (by omega)) (Ev.neg (by omega) (Ev.now _))
  refine Ev.bind (toAlgebra_v n ops hs) (Ev.bind (toIntS_v t (by omega)) (Ev.bind h1 (Ev.bind h2 (Ev.bind (eqOp_v r0 r1 (by omega)) (Ev.pos (by simp) (Ev.bind (eqAlgebra_cv n ops hs) (Ev.pos rfl (Ev.bind (eqIntS_v t hlt) (Ev.pos rfl (Ev.bind hm (Ev.bind (markIntS_v t m.1 (by omega) (by omega) (by omega)) (Ev.pos (by omega) ?_))))))))))))
  exact Ev.bind hM (Ev.bind hH (Ev.pos (by omega) (Ev.pos rfl (Ev.now _))))

end Go.Proofs.Ytflkiiiomnogfae.LFnExactTermOp
