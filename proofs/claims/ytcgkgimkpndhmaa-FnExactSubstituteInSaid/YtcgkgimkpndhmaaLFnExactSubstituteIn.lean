/- The plain statement of FnExactSubstituteIn: for each algebra, list and lists whose numbers fit 64 bits, the law's answer is true. -/
import Derived.Test.YtcgkgimkpndhmaaQx12
import Derived.Test.YtcgkgimkpndhmaaBase
import Derived.Test.YtcgkgimkpndhmaaOpens
import Derived.Test.YtcgkgimkpndhmaaTrm
namespace Go.Proofs.Ytcgkgimkpndhmaa.LFnExactSubstituteIn
open Go.RowKit Go.Proofs.Ytcgkgimkpndhmaa.Q Go.Proofs.YtcgkgimkpndhmaaW.PrintWords Go.Proofs.YtcgkgimkpndhmaaW.PrintLast Go.Proofs.Ytcgkgimkpndhmaa.Base Go.Proofs.Ytcgkgimkpndhmaa.Opens
set_option linter.unusedVariables false
set_option linter.unusedSimpArgs false

-- laws_szIntS
theorem szIntS_v (l : List Int) (left : Int) (hl : l.length ≤ 9223372036854775807) (h0 : 0 ≤ left) (h1 : left ≤ 1048576) :
    ∃ r, laws_szIntS.f l left = some r ∧ (r < 0 ∨ (0 ≤ r ∧ r ≤ left ∧ l.length ≤ 1048576)) := by
  unfold laws_szIntS.f
  rw [w64 (by omega)]
  by_cases h : left - (l.length : Int) < 0
  · rw [if_pos h]; exact ⟨_, rfl, .inl (by omega)⟩
  · rw [if_neg h]; exact ⟨_, rfl, .inr (by omega)⟩
-- laws_szOp
theorem szOp_v (a : Int) (l : List Int) (left : Int) (hl : l.length ≤ 9223372036854775807) (h0 : 0 ≤ left) (h1 : left ≤ 1048576) :
    ∃ r, laws_szOp.f a l left = some r ∧ (r < 0 ∨ (0 ≤ r ∧ r ≤ left ∧ l.length ≤ 1048576)) := by
  obtain ⟨r, hr, h⟩ := szIntS_v l left hl h0 h1
  unfold laws_szOp.f
  rw [hr]; simp only [Option.bind_some]
  by_cases c : r < 0
  · rw [if_pos c]; exact ⟨_, rfl, .inl (by omega)⟩
  · rw [if_neg c]; exact ⟨_, rfl, h⟩
-- laws_szOpS
theorem rdTL_at {ops : List S64} {q : Nat} (hq : q < ops.length) : rd_T64 ops (q : Int) = ops[q] := getD_at hq
theorem szOpS_l (ops : List S64) (hl : ops.length ≤ 9223372036854775807) (ho : ∀ o ∈ ops, o.f1.length ≤ 9223372036854775807) : ∀ (d j : Nat) (left : Int), j + d = ops.length → 0 ≤ left → left ≤ 1048576 →
    ∃ r, Ev (fun k => laws_szOpS.l0 k ops left (j : Int)) r ∧ (r < 0 ∨ (0 ≤ r ∧ r ≤ left ∧ ∀ o ∈ ops.drop j, o.f1.length ≤ 1048576)) := by
  intro d
  induction d with
  | zero =>
    intro j left hj h0 h1
    refine ⟨left, Ev.succ ?_, .inr ⟨h0, Int.le_refl _, ?_⟩⟩
    · simp only [laws_szOpS.l0]
      exact Ev.neg (by omega) (Ev.now _)
    · rw [List.drop_of_length_le (by omega)]; simp
  | succ d ih =>
    intro j left hj h0 h1
    have hlt : j < ops.length := by omega
    obtain ⟨r, hr, h⟩ := szOp_v ops[j].f0 ops[j].f1 left (ho _ (List.getElem_mem hlt)) h0 h1
    by_cases c : r < 0
    · refine ⟨-1, Ev.succ ?_, .inl (by omega)⟩
      simp only [laws_szOpS.l0, rdTL_at hlt]
      exact Ev.pos (by omega) (Ev.pos (by omega) (Ev.bound hr (Ev.pos c (Ev.now _))))
    · obtain ⟨h2, h3, h4⟩ : 0 ≤ r ∧ r ≤ left ∧ ops[j].f1.length ≤ 1048576 := by omega
      obtain ⟨r', hr', h'⟩ := ih (j + 1) r (by omega) h2 (by omega)
      refine ⟨r', Ev.succ ?_, ?_⟩
      · simp only [laws_szOpS.l0, rdTL_at hlt, w64s hlt hl]
        exact Ev.pos (by omega) (Ev.pos (by omega) (Ev.bound hr (Ev.neg c hr')))
      · rcases h' with h' | ⟨h5, h6, h7⟩
        · exact .inl h'
        · refine .inr ⟨h5, by omega, ?_⟩
          rw [drop_cons hlt]
          intro o ho'
          rcases List.mem_cons.1 ho' with rfl | ho'
          · exact h4
          · exact h7 o ho'
/-- The tables are short. -/
def SmallA (ops : List S64) : Prop := ops.length ≤ 1048576 ∧ ∀ o ∈ ops, o.f1.length ≤ 1048576
theorem szOpS_v (ops : List S64) (left : Int) (hl : ops.length ≤ 9223372036854775807) (ho : ∀ o ∈ ops, o.f1.length ≤ 9223372036854775807) (h0 : 0 ≤ left) (h1 : left ≤ 1048576) :
    ∃ r, Ev (fun k => laws_szOpS.f k ops left) r ∧ (r < 0 ∨ (0 ≤ r ∧ r ≤ left ∧ SmallA ops)) := by
  by_cases c : left - (ops.length : Int) < 0
  · refine ⟨-1, ?_, .inl (by omega)⟩
    unfold laws_szOpS.f
    rw [w64 (by omega)]
    exact Ev.pos c (Ev.now _)
  · obtain ⟨r, hr, h⟩ := szOpS_l ops hl ho ops.length 0 (left - (ops.length : Int)) (by omega) (by omega) (by omega)
    refine ⟨r, ?_, ?_⟩
    · unfold laws_szOpS.f
      rw [w64 (by omega)]
      exact Ev.neg c hr
    · rcases h with h | ⟨h2, h3, h4⟩
      · exact .inl h
      · exact .inr ⟨h2, by omega, by omega, h4⟩
-- laws_szAlgebra
theorem szAlgebra_v (n : Int) (ops : List S64) (left : Int) (hl : ops.length ≤ 9223372036854775807) (ho : ∀ o ∈ ops, o.f1.length ≤ 9223372036854775807) (h0 : 0 ≤ left) (h1 : left ≤ 1048576) :
    ∃ r, Ev (fun k => laws_szAlgebra.f k n ops left) r ∧ (r < 0 ∨ (0 ≤ r ∧ r ≤ left ∧ SmallA ops)) := by
  obtain ⟨r, hr, h⟩ := szOpS_v ops left hl ho h0 h1
  by_cases c : r < 0
  · refine ⟨-1, ?_, .inl (by omega)⟩
    unfold laws_szAlgebra.f
    exact Ev.bind hr (Ev.pos c (Ev.now _))
  · refine ⟨r, ?_, h⟩
    unfold laws_szAlgebra.f
    exact Ev.bind hr (Ev.neg c (Ev.now _))
-- laws_toIntS
theorem toIntS_l (l : List Int) (hl : l.length ≤ 1048576) : ∀ (d j : Nat), j + d = l.length → Ev (fun k => laws_toIntS.l0 k l (l.take j ++ List.replicate d 0) (j : Int)) l := by
  intro d
  induction d with
  | zero =>
    intro j hj
    refine Ev.succ ?_
    simp only [laws_toIntS.l0]
    refine Ev.neg (by omega) (Ev.const ?_)
    rw [List.take_of_length_le (by omega)]; simp
  | succ d ih =>
    intro j hj
    have hlt : j < l.length := by omega
    refine Ev.succ ?_
    simp only [laws_toIntS.l0, rd_at hlt, w64s hlt (by omega : l.length ≤ 9223372036854775807), Int.toNat_natCast]
    refine Ev.pos (by omega) (Ev.pos (by omega) (Ev.pos (by simp; omega) ?_))
    rw [List.replicate_succ, set_mid _ _ _ _ j (by simp; omega)]
    have := ih (j + 1) (by omega)
    rw [take_snoc hlt, List.append_assoc] at this
    exact this
theorem toIntS_v (l : List Int) (hl : l.length ≤ 1048576) : Ev (fun k => laws_toIntS.f k l) l := by
  unfold laws_toIntS.f
  rw [Int.toNat_natCast]
  exact Ev.pos (by omega) (Ev.pos (by omega) (toIntS_l l hl l.length 0 (by omega)))
-- laws_toOp
theorem toOp_v (a : Int) (l : List Int) (hl : l.length ≤ 1048576) : Ev (fun k => laws_toOp.f k a l) (a, l) := by
  unfold laws_toOp.f
  exact Ev.bind (toIntS_v l hl) (Ev.now _)
-- laws_toOpS
def cvOp (o : S64) : S65 := ⟨o.f0, o.f1⟩
theorem toOpS_l (ops : List S64) (hl : ops.length ≤ 1048576) (ho : ∀ o ∈ ops, o.f1.length ≤ 1048576) : ∀ (d j : Nat), j + d = ops.length → Ev (fun k => laws_toOpS.l0 k ops ((ops.map cvOp).take j ++ List.replicate d z65) (j : Int)) (ops.map cvOp) := by
  intro d
  induction d with
  | zero =>
    intro j hj
    refine Ev.succ ?_
    simp only [laws_toOpS.l0]
    refine Ev.neg (by omega) (Ev.const ?_)
    rw [List.take_of_length_le (by simp; omega)]; simp
  | succ d ih =>
    intro j hj
    have hlt : j < ops.length := by omega
    have hlt' : j < (ops.map cvOp).length := by simpa using hlt
    refine Ev.succ ?_
    simp only [laws_toOpS.l0, rdTL_at hlt, w64s hlt (by omega : ops.length ≤ 9223372036854775807), Int.toNat_natCast]
    refine Ev.pos (by omega) (Ev.pos (by omega) (Ev.bind (toOp_v _ _ (ho _ (List.getElem_mem hlt))) (Ev.pos (by simp; omega) ?_)))
    rw [List.replicate_succ, set_mid _ _ _ _ j (by simp; omega)]
    have := ih (j + 1) (by omega)
    rw [take_snoc hlt', List.append_assoc, List.getElem_map] at this
    exact this
theorem toOpS_v (ops : List S64) (h : SmallA ops) : Ev (fun k => laws_toOpS.f k ops) (ops.map cvOp) := by
  unfold laws_toOpS.f
  rw [Int.toNat_natCast]
  exact Ev.pos (by omega) (Ev.pos (by have := h.1; omega) (toOpS_l ops h.1 h.2 ops.length 0 (by omega)))
-- laws_toAlgebra
theorem toAlgebra_v (n : Int) (ops : List S64) (h : SmallA ops) : Ev (fun k => laws_toAlgebra.f k n ops) (n, ops.map cvOp) := by
  unfold laws_toAlgebra.f
  exact Ev.bind (toOpS_v ops h) (Ev.now _)
-- laws_eqIntS
theorem eqIntS_l (l : List Int) (hl : l.length ≤ 9223372036854775807) : ∀ (d j : Nat), j + d = l.length → Ev (fun k => laws_eqIntS.l0 k l l (j : Int)) true := by
  intro d
  induction d with
  | zero =>
    intro j hj
    refine Ev.succ ?_
    simp only [laws_eqIntS.l0]
    exact Ev.neg (by omega) (Ev.now _)
  | succ d ih =>
    intro j hj
    have hlt : j < l.length := by omega
    refine Ev.succ ?_
    simp only [laws_eqIntS.l0, w64s hlt hl]
    exact Ev.pos (by omega) (Ev.pos (by omega) (Ev.pos (by omega) (Ev.pos trivial (ih (j + 1) (by omega)))))
theorem eqIntS_v (l : List Int) (hl : l.length ≤ 9223372036854775807) : Ev (fun k => laws_eqIntS.f k l l) true := by
  unfold laws_eqIntS.f
  exact Ev.pos rfl (eqIntS_l l hl l.length 0 (by omega))
-- laws_eqOp
theorem eqOp_v (a : Int) (l : List Int) (hl : l.length ≤ 9223372036854775807) : Ev (fun k => laws_eqOp.f k a l a l) true := by
  unfold laws_eqOp.f
  exact Ev.pos rfl (Ev.bind (eqIntS_v l hl) (Ev.pos rfl (Ev.now _)))
-- laws_toOpS
theorem rdT_at {ops : List S65} {q : Nat} (hq : q < ops.length) : rd_T65 ops (q : Int) = ops[q] := getD_at hq
-- laws_eqOpS
theorem eqOpS_l (l : List S65) (hl : l.length ≤ 9223372036854775807) (ho : ∀ o ∈ l, o.f1.length ≤ 9223372036854775807) : ∀ (d j : Nat), j + d = l.length → Ev (fun k => laws_eqOpS.l0 k l l (j : Int)) true := by
  intro d
  induction d with
  | zero =>
    intro j hj
    refine Ev.succ ?_
    simp only [laws_eqOpS.l0]
    exact Ev.neg (by omega) (Ev.now _)
  | succ d ih =>
    intro j hj
    have hlt : j < l.length := by omega
    refine Ev.succ ?_
    simp only [laws_eqOpS.l0, rdT_at hlt, w64s hlt hl]
    exact Ev.pos (by omega) (Ev.pos (by omega) (Ev.pos (by omega) (Ev.bind (eqOp_v _ _ (ho _ (List.getElem_mem hlt))) (Ev.pos rfl (ih (j + 1) (by omega))))))
theorem eqOpS_v (l : List S65) (hl : l.length ≤ 9223372036854775807) (ho : ∀ o ∈ l, o.f1.length ≤ 9223372036854775807) : Ev (fun k => laws_eqOpS.f k l l) true := by
  unfold laws_eqOpS.f
  exact Ev.pos rfl (eqOpS_l l hl ho l.length 0 (by omega))
-- laws_eqAlgebra
theorem eqAlgebra_v (n : Int) (l : List S65) (hl : l.length ≤ 9223372036854775807) (ho : ∀ o ∈ l, o.f1.length ≤ 9223372036854775807) : Ev (fun k => laws_eqAlgebra.f k n l n l) true := by
  unfold laws_eqAlgebra.f
  exact Ev.pos rfl (Ev.bind (eqOpS_v l hl ho) (Ev.pos rfl (Ev.now _)))
theorem eqAlgebra_cv (n : Int) (ops : List S64) (h : SmallA ops) : Ev (fun k => laws_eqAlgebra.f k n (ops.map cvOp) n (ops.map cvOp)) true := by
  refine eqAlgebra_v n _ (by have := h.1; simp; omega) ?_
  intro o ho
  obtain ⟨q, hq, rfl⟩ := List.mem_map.1 ho
  have := h.2 q hq
  show q.f1.length ≤ _
  omega
-- spec_l1In
theorem l1In_v (a b c : Int) : spec_l1In.f a b c = some (decide (b ≤ a ∧ a ≤ c)) := by
  unfold spec_l1In.f
  by_cases h : a ≥ b
  · rw [if_pos h]; congr 1; exact decide_eq_decide.2 ⟨fun k => ⟨h, k⟩, fun k => k.2⟩
  · rw [if_neg h]; congr 1; exact (decide_eq_false (fun k => h k.1)).symm
theorem l1In_yes {a b c : Int} (h : b ≤ a ∧ a ≤ c) : spec_l1In.f a b c = some true := by rw [l1In_v, decide_eq_true h]
theorem l1In_no {a b c : Int} (h : ¬ (b ≤ a ∧ a ≤ c)) : spec_l1In.f a b c = some false := by rw [l1In_v, decide_eq_false h]
-- impl_IsAlgebra
/-- A power of a size stays small. -/
theorem pow_bd {n : Int} (h1 : 1 ≤ n) (h8 : n ≤ 8) : ∀ {i : Nat}, i ≤ 6 → 1 ≤ n ^ i ∧ n ^ i ≤ 262144 := by
  intro i hi
  obtain ⟨m, rfl⟩ := int_nat (show 0 ≤ n by omega)
  have e : ((m : Int)) ^ i = ((m ^ i : Nat) : Int) := by rw [Int.natCast_pow]
  rw [e]
  have a1 : m ^ i ≤ 8 ^ i := Nat.pow_le_pow_left (by omega) i
  have a2 : (8 : Nat) ^ i ≤ 8 ^ 6 := Nat.pow_le_pow_right (by omega) hi
  have a3 : 0 < m ^ i := Nat.pow_pos (by omega)
  have a4 : (8 : Nat) ^ 6 = 262144 := by decide
  omega
theorem pow_next (n : Int) (i : Nat) : n ^ (i + 1) = n ^ i * n := Int.pow_succ n i
theorem mul_bd {a b A B : Int} (ha : 0 ≤ a) (hA : a ≤ A) (hb : 0 ≤ b) (hB : b ≤ B) : 0 ≤ a * b ∧ a * b ≤ A * B :=
  ⟨Int.mul_nonneg ha hb, Int.mul_le_mul hA hB hb (by omega)⟩
def okOp (n a : Int) (l : List Int) : Prop := 0 ≤ a ∧ a ≤ 3 ∧ (l.length : Int) = n ^ a.toNat ∧ ∀ x ∈ l, 0 ≤ x ∧ x < n
instance (n a : Int) (l : List Int) : Decidable (okOp n a l) := by unfold okOp; infer_instance
def okAlg (n : Int) (ops : List S65) : Prop := 1 ≤ n ∧ n ≤ 8 ∧ ops.length ≤ 4 ∧ ∀ o ∈ ops, okOp n o.f0 o.f1
instance (n : Int) (ops : List S65) : Decidable (okAlg n ops) := by unfold okAlg; infer_instance
theorem all_drop {P : Int → Prop} {l : List Int} {j : Nat} (h : j < l.length) : (∀ x ∈ l.drop j, P x) ↔ P l[j] ∧ ∀ x ∈ l.drop (j + 1), P x := by
  rw [drop_cons h, List.forall_mem_cons]
theorem allOp_drop {P : S65 → Prop} {l : List S65} {j : Nat} (h : j < l.length) : (∀ x ∈ l.drop j, P x) ↔ P l[j] ∧ ∀ x ∈ l.drop (j + 1), P x := by
  rw [drop_cons h, List.forall_mem_cons]
-- spec_l2Pow
theorem l2Pow_l {n : Int} (h1 : 1 ≤ n) (h8 : n ≤ 8) : ∀ (d i : Nat), i + d ≤ 6 → Ev (fun k => spec_l2Pow.l0 k n (d : Int) (n ^ i)) (n ^ (i + d)) := by
  intro d
  induction d with
  | zero =>
    intro i hi
    refine Ev.succ ?_
    simp only [spec_l2Pow.l0]
    exact Ev.neg (by omega) (Ev.now _)
  | succ d ih =>
    intro i hi
    have hp := pow_bd h1 h8 (show i + 1 ≤ 6 by omega)
    refine Ev.succ ?_
    simp only [spec_l2Pow.l0]
    rw [← pow_next, w64 (by omega), w64 (by omega), show ((d + 1 : Nat) : Int) - 1 = (d : Int) by omega]
    refine Ev.pos (by omega) ?_
    have := ih (i + 1) (by omega)
    rwa [show i + 1 + d = i + (d + 1) by omega] at this
theorem l2Pow_v {n e : Int} (h1 : 1 ≤ n) (h8 : n ≤ 8) (h0 : 0 ≤ e) (h6 : e ≤ 6) : Ev (fun k => spec_l2Pow.f k n e) (n ^ e.toNat) := by
  obtain ⟨d, rfl⟩ := int_nat h0
  have := l2Pow_l h1 h8 d 0 (by omega)
  rw [Nat.zero_add, Int.pow_zero] at this
  rw [Int.toNat_natCast]
  exact this
-- impl_power
theorem power_l {n : Int} (h1 : 1 ≤ n) (h8 : n ≤ 8) : ∀ (d i : Nat), i + d ≤ 6 → Ev (fun k => impl_power.l0 k n (d : Int) (n ^ i)) (n ^ (i + d)) := by
  intro d
  induction d with
  | zero =>
    intro i hi
    refine Ev.succ ?_
    simp only [impl_power.l0]
    exact Ev.neg (by omega) (Ev.now _)
  | succ d ih =>
    intro i hi
    have hp := pow_bd h1 h8 (show i + 1 ≤ 6 by omega)
    refine Ev.succ ?_
    simp only [impl_power.l0]
    rw [← pow_next, w64 (by omega), w64 (by omega), show ((d + 1 : Nat) : Int) - 1 = (d : Int) by omega]
    refine Ev.pos (by omega) ?_
    have := ih (i + 1) (by omega)
    rwa [show i + 1 + d = i + (d + 1) by omega] at this
theorem power_v {n e : Int} (h1 : 1 ≤ n) (h8 : n ≤ 8) (h0 : 0 ≤ e) (h6 : e ≤ 6) : Ev (fun k => impl_power.f k n e) (n ^ e.toNat) := by
  obtain ⟨d, rfl⟩ := int_nat h0
  have := power_l h1 h8 d 0 (by omega)
  rw [Nat.zero_add, Int.pow_zero] at this
  rw [Int.toNat_natCast]
  exact this
-- spec_l2Op
theorem l2Op_l {n a : Int} (l : List Int) (h1 : 1 ≤ n) (h8 : n ≤ 8) (hl : l.length ≤ 9223372036854775807) : ∀ (d j : Nat), j + d = l.length →
    Ev (fun k => spec_l2Op.l0 k n (j : Int) a l) (decide (∀ x ∈ l.drop j, 0 ≤ x ∧ x < n)) := by
  intro d
  induction d with
  | zero =>
    intro j hj
    refine Ev.succ ?_
    simp only [spec_l2Op.l0]
    refine Ev.neg (by omega) (Ev.const ?_)
    rw [List.drop_of_length_le (by omega)]; simp
  | succ d ih =>
    intro j hj
    have hlt : j < l.length := by omega
    refine Ev.succ ?_
    simp only [spec_l2Op.l0, rd_at hlt, w64s hlt hl]
    refine Ev.pos (by omega) (Ev.pos (by omega) ?_)
    by_cases c : 0 ≤ l[j] ∧ l[j] < n
    · refine Ev.bound (l1In_yes ?_) (Ev.pos rfl ?_)
      · rw [w64 (by omega)]; omega
      · refine Ev.eq (ih (j + 1) (by omega)) (decide_eq_decide.2 ?_)
        rw [all_drop hlt]
        exact ⟨fun h => ⟨c, h⟩, fun h => h.2⟩
    · refine Ev.bound (l1In_no ?_) (Ev.neg (by simp) (Ev.const ?_))
      · rw [w64 (by omega)]; omega
      · congr 1
        refine (decide_eq_false fun h => c ?_).symm
        exact ((all_drop hlt).1 h).1
theorem l2Op_v {n : Int} (a : Int) (l : List Int) (h1 : 1 ≤ n) (h8 : n ≤ 8) (hl : l.length ≤ 9223372036854775807) : Ev (fun k => spec_l2Op.f k n a l) (decide (okOp n a l)) := by
  unfold spec_l2Op.f
  by_cases c : 0 ≤ a ∧ a ≤ 3
  · refine Ev.bound (l1In_yes c) (Ev.pos rfl (Ev.bind (l2Pow_v h1 h8 c.1 (by omega)) (Ev.succ ?_)))
    simp only [spec_l2Op.j0]
    by_cases e : (l.length : Int) = n ^ a.toNat
    · refine Ev.neg (by simp [e]) (Ev.eq (l2Op_l l h1 h8 hl l.length 0 (by omega)) (decide_eq_decide.2 ?_))
      exact ⟨fun h => ⟨c.1, c.2, e, h⟩, fun h => h.2.2.2⟩
    · refine Ev.pos (by simp [e]) (Ev.const ?_)
      rw [decide_eq_false fun h => e h.2.2.1]
  · refine Ev.bound (l1In_no c) (Ev.neg (by simp) (Ev.succ ?_))
    simp only [spec_l2Op.j0]
    refine Ev.pos (by simp) (Ev.const ?_)
    rw [decide_eq_false fun h => c ⟨h.1, h.2.1⟩]
-- spec_l2Good
theorem l2Good_l {n : Int} (ops : List S65) (h1 : 1 ≤ n) (h8 : n ≤ 8) (hl : ops.length ≤ 4) (ho : ∀ o ∈ ops, o.f1.length ≤ 9223372036854775807) : ∀ (d j : Nat), j + d = ops.length →
    Ev (fun k => spec_l2Good.l0 k (j : Int) n ops) (decide (∀ o ∈ ops.drop j, okOp n o.f0 o.f1)) := by
  intro d
  induction d with
  | zero =>
    intro j hj
    refine Ev.succ ?_
    simp only [spec_l2Good.l0]
    refine Ev.neg (by omega) (Ev.const ?_)
    rw [List.drop_of_length_le (by omega)]; simp
  | succ d ih =>
    intro j hj
    have hlt : j < ops.length := by omega
    refine Ev.succ ?_
    simp only [spec_l2Good.l0, rdT_at hlt, w64s hlt (by omega : ops.length ≤ 9223372036854775807)]
    refine Ev.pos (by omega) (Ev.pos (by omega) (Ev.bind (l2Op_v _ _ h1 h8 (ho _ (List.getElem_mem hlt))) ?_))
    by_cases c : okOp n ops[j].f0 ops[j].f1
    · refine Ev.pos (decide_eq_true c) (Ev.eq (ih (j + 1) (by omega)) (decide_eq_decide.2 ?_))
      rw [allOp_drop hlt]
      exact ⟨fun h => ⟨c, h⟩, fun h => h.2⟩
    · refine Ev.neg (by simp [c]) (Ev.const ?_)
      congr 1
      exact (decide_eq_false fun h => c ((allOp_drop hlt).1 h).1).symm
theorem l2Good_v (n : Int) (ops : List S65) (ho : ∀ o ∈ ops, o.f1.length ≤ 9223372036854775807) : Ev (fun k => spec_l2Good.f k n ops) (decide (okAlg n ops)) := by
  unfold spec_l2Good.f
  by_cases c : 1 ≤ n ∧ n ≤ 8
  · refine Ev.bound (l1In_yes c) (Ev.pos rfl (Ev.succ ?_))
    simp only [spec_l2Good.j0]
    by_cases e : ops.length ≤ 4
    · refine Ev.neg (by simp; omega) (Ev.eq (l2Good_l ops c.1 c.2 e ho ops.length 0 (by omega)) (decide_eq_decide.2 ?_))
      exact ⟨fun h => ⟨c.1, c.2, e, h⟩, fun h => h.2.2.2⟩
    · refine Ev.pos (by simp; omega) (Ev.const ?_)
      rw [decide_eq_false fun h => e h.2.2.1]
  · refine Ev.bound (l1In_no c) (Ev.neg (by simp) (Ev.succ ?_))
    simp only [spec_l2Good.j0]
    refine Ev.pos (by simp) (Ev.const ?_)
    rw [decide_eq_false fun h => c ⟨h.1, h.2.1⟩]
-- impl_inSize
theorem inSize_l {n : Int} (l : List Int) (hl : l.length ≤ 9223372036854775807) : ∀ (d j : Nat), j + d = l.length →
    Ev (fun k => impl_inSize.l0 k n l (l.length : Int) (j : Int)) (decide (∀ x ∈ l.drop j, 0 ≤ x ∧ x < n)) := by
  intro d
  induction d with
  | zero =>
    intro j hj
    refine Ev.succ ?_
    simp only [impl_inSize.l0]
    refine Ev.neg (by omega) (Ev.const ?_)
    rw [List.drop_of_length_le (by omega)]; simp
  | succ d ih =>
    intro j hj
    have hlt : j < l.length := by omega
    refine Ev.succ ?_
    simp only [impl_inSize.l0, rd_at hlt, w64s hlt hl]
    refine Ev.pos (by omega) (Ev.pos (by omega) (Ev.pos (by omega) (Ev.cases (fun c => ?_) (fun c => Ev.cases (fun c' => ?_) (fun c' => ?_)))))
    · refine Ev.const ?_
      congr 1
      exact (decide_eq_false fun h => by have := ((all_drop hlt).1 h).1; omega).symm
    · refine Ev.const ?_
      congr 1
      exact (decide_eq_false fun h => by have := ((all_drop hlt).1 h).1; omega).symm
    · refine Ev.eq (ih (j + 1) (by omega)) (decide_eq_decide.2 ?_)
      rw [all_drop hlt]
      exact ⟨fun h => ⟨by omega, h⟩, fun h => h.2⟩
theorem inSize_v (l : List Int) (n : Int) (hl : l.length ≤ 9223372036854775807) : Ev (fun k => impl_inSize.f k l n) (decide (∀ x ∈ l, 0 ≤ x ∧ x < n)) :=
  inSize_l l hl l.length 0 (by omega)
-- impl_isOp
theorem isOp_v {n : Int} (a : Int) (l : List Int) (h1 : 1 ≤ n) (h8 : n ≤ 8) (hl : l.length ≤ 9223372036854775807) : Ev (fun k => impl_isOp.f k a l n) (decide (okOp n a l)) := by
  unfold impl_isOp.f
  refine Ev.cases (fun c => Ev.cases (fun c' => Ev.bind (power_v h1 h8 c (by omega)) (Ev.cases (fun e => Ev.bind (inSize_v l n hl) (Ev.const ?_)) (fun e => Ev.const ?_))) (fun c' => Ev.const ?_)) (fun c => Ev.const ?_)
  · congr 1
    exact decide_eq_decide.2 ⟨fun h => ⟨c, c', e, h⟩, fun h => h.2.2.2⟩
  · rw [decide_eq_false fun h => e h.2.2.1]
  · rw [decide_eq_false fun h => c' h.2.1]
  · rw [decide_eq_false fun h => c h.1]
-- impl_IsAlgebra
theorem implIsAlgebra_l {n : Int} (ops : List S65) (h1 : 1 ≤ n) (h8 : n ≤ 8) (hl : ops.length ≤ 4) (ho : ∀ o ∈ ops, o.f1.length ≤ 9223372036854775807) : ∀ (d j : Nat), j + d = ops.length →
    Ev (fun k => impl_IsAlgebra.l0 k ops (ops.length : Int) (j : Int) n ops) (decide (∀ o ∈ ops.drop j, okOp n o.f0 o.f1)) := by
  intro d
  induction d with
  | zero =>
    intro j hj
    refine Ev.succ ?_
    simp only [impl_IsAlgebra.l0]
    refine Ev.neg (by omega) (Ev.const ?_)
    rw [List.drop_of_length_le (by omega)]; simp
  | succ d ih =>
    intro j hj
    have hlt : j < ops.length := by omega
    refine Ev.succ ?_
    simp only [impl_IsAlgebra.l0, rdT_at hlt, w64s hlt (by omega : ops.length ≤ 9223372036854775807)]
    refine Ev.pos (by omega) (Ev.pos (by omega) (Ev.pos (by omega) (Ev.bind (isOp_v _ _ h1 h8 (ho _ (List.getElem_mem hlt))) ?_)))
    by_cases c : okOp n ops[j].f0 ops[j].f1
    · refine Ev.pos (decide_eq_true c) (Ev.eq (ih (j + 1) (by omega)) (decide_eq_decide.2 ?_))
      rw [allOp_drop hlt]
      exact ⟨fun h => ⟨c, h⟩, fun h => h.2⟩
    · refine Ev.neg (by simp [c]) (Ev.const ?_)
      congr 1
      exact (decide_eq_false fun h => c ((allOp_drop hlt).1 h).1).symm
theorem implIsAlgebra_v (n : Int) (ops : List S65) (ho : ∀ o ∈ ops, o.f1.length ≤ 9223372036854775807) : Ev (fun k => impl_IsAlgebra.f k n ops) (decide (okAlg n ops)) := by
  unfold impl_IsAlgebra.f
  refine Ev.cases (fun c => Ev.succ ?_) (fun c => Ev.cases (fun c' => Ev.succ ?_) (fun c' => Ev.succ ?_))
  · simp only [impl_IsAlgebra.j0]
    refine Ev.pos trivial (Ev.const ?_)
    rw [decide_eq_false fun h => by have := h.1; omega]
  · simp only [impl_IsAlgebra.j0]
    refine Ev.pos trivial (Ev.const ?_)
    rw [decide_eq_false fun h => by have := h.2.1; omega]
  · simp only [impl_IsAlgebra.j0]
    by_cases e : ops.length ≤ 4
    · refine Ev.neg (by simp; omega) (Ev.eq (implIsAlgebra_l ops (by omega) (by omega) e ho ops.length 0 (by omega)) (decide_eq_decide.2 ?_))
      exact ⟨fun h => ⟨by omega, by omega, e, h⟩, fun h => h.2.2.2⟩
    · refine Ev.pos (by simp; omega) (Ev.const ?_)
      rw [decide_eq_false fun h => e h.2.2.1]
-- impl_IsAlgebra
def ixF (n i : Int) (l : List Int) : Int := l.foldl (fun i x => i * n + x) i
theorem ix2 (n x y : Int) : ixF n 0 [x, y] = x * n + y := by simp [ixF]
theorem ix3 (n x y z : Int) : ixF n 0 [x, y, z] = (x * n + y) * n + z := by simp [ixF]
theorem ix_step {n : Int} (h1 : 1 ≤ n) (h8 : n ≤ 8) {i x : Int} {j : Nat} (hj : j ≤ 5) (h0 : 0 ≤ i) (hi : i < n ^ j) (hx : 0 ≤ x ∧ x < n) :
    0 ≤ i * n + x ∧ i * n + x < n ^ (j + 1) ∧ wrap64 (wrap64 (i * n) + x) = i * n + x := by
  have hp := pow_bd h1 h8 (show j + 1 ≤ 6 by omega)
  have a := Int.mul_le_mul_of_nonneg_right (show i + 1 ≤ n ^ j by omega) (show 0 ≤ n by omega)
  rw [← pow_next, Int.add_mul, Int.one_mul] at a
  have b : 0 ≤ i * n := Int.mul_nonneg h0 (by omega)
  refine ⟨by omega, by omega, ?_⟩
  rw [w64 (n := i * n) (by omega), w64 (by omega)]
theorem ix_bd {n : Int} (h1 : 1 ≤ n) (h8 : n ≤ 8) : ∀ (l : List Int) (i : Int) (j : Nat), j + l.length ≤ 6 → (∀ x ∈ l, 0 ≤ x ∧ x < n) → 0 ≤ i → i < n ^ j → 0 ≤ ixF n i l ∧ ixF n i l < n ^ (j + l.length) := by
  intro l
  induction l with
  | nil => intro i j _ _ h0 hi; exact ⟨h0, hi⟩
  | cons x l ih =>
    intro i j hj hx h0 hi
    rw [List.length_cons] at hj
    obtain ⟨a, b, _⟩ := ix_step h1 h8 (show j ≤ 5 by omega) h0 hi (hx x (by simp))
    have := ih (i * n + x) (j + 1) (by omega) (fun y hy => hx y (by simp [hy])) a b
    rw [List.length_cons, show j + (l.length + 1) = j + 1 + l.length by omega]
    exact this
theorem idx2 {n x y : Int} (hx : 0 ≤ x ∧ x < n) (hy : 0 ≤ y ∧ y < n) (h8 : n ≤ 8) : 0 ≤ x * n + y ∧ x * n + y < n ^ 2 ∧ wrap64 (wrap64 (x * n) + y) = x * n + y := by
  have := ix_step (n := n) (by omega) h8 (show 1 ≤ 5 by omega) hx.1 (by rw [show (1 : Nat) = 0 + 1 from rfl, Int.pow_succ, Int.pow_zero]; omega) hy
  exact this
theorem okAlg_op {n : Int} {ops : List S65} (h : okAlg n ops) {q : Nat} (hq : q < ops.length) : okOp n ops[q].f0 ops[q].f1 := h.2.2.2 _ (List.getElem_mem hq)
theorem rd_in {n : Int} {l : List Int} (h : ∀ x ∈ l, 0 ≤ x ∧ x < n) {i : Int} (h0 : 0 ≤ i) (h1 : i < l.length) : 0 ≤ rd l i ∧ rd l i < n := by
  obtain ⟨m, rfl⟩ := int_nat h0
  rw [rd_at (by omega)]
  exact h _ (List.getElem_mem _)
-- laws_toAlgebra
/-- What is known of an argument that is an algebra. -/
def WfOp (o : S64) : Prop := I64 o.f0 ∧ o.f1.length ≤ 9223372036854775807 ∧ ∀ x ∈ o.f1, I64 x
theorem short_cv {ops : List S64} (h : SmallA ops) : ∀ o ∈ ops.map cvOp, o.f1.length ≤ 9223372036854775807 := by
  intro o ho
  obtain ⟨q, hq, rfl⟩ := List.mem_map.1 ho
  have := h.2 q hq
  show q.f1.length ≤ _
  omega
/-- The law's guard on the size of an algebra: either it is too large and the law is true, or its tables are short. -/
theorem szAlgebra_law {g : Nat → Int → Option Bool} {n : Int} {ops : List S64} {left : Int} (hl : ops.length ≤ 9223372036854775807) (ho : ∀ o ∈ ops, WfOp o) (h0 : 0 ≤ left) (h1 : left ≤ 1048576)
    (h : SmallA ops → ∀ r, 0 ≤ r → r ≤ 1048576 → Ev (fun k => g k r) true) : Ev (fun k => (laws_szAlgebra.f k n ops left).bind fun t => if t < 0 then some true else g k t) true := by
  obtain ⟨r, hr, c⟩ := szAlgebra_v n ops left hl (fun o h => (ho o h).2.1) h0 h1
  refine Ev.bind hr (Ev.cases (fun _ => Ev.now _) (fun d => h ?_ r (by omega) (by omega)))
  rcases c with c | c
  · omega
  · exact c.2.2
-- impl_endOf
/-- How many terms stand behind a number of a term. -/
def arOf (ops : List S65) (x : Int) : Option Nat := if x ≥ 6 then none else if x ≥ 0 then some 0 else if x < -(ops.length : Int) then none else some (rd_T65 ops (-1 - x)).f0.toNat
def endRes (j : Nat) : Option Nat → Int
  | none => -1
  | some e => (j : Int) + (e : Int)
theorem endRes_map (j : Nat) (o : Option Nat) : endRes j (o.map (· + 1)) = endRes (j + 1) o := by
  cases o with
  | none => rfl
  | some e => simp [endRes]; omega
/-- The arities are small. -/
def SmallAr (ops : List S65) : Prop := ops.length ≤ 4 ∧ ∀ o ∈ ops, 0 ≤ o.f0 ∧ o.f0 ≤ 3
theorem okAlg_small {n : Int} {ops : List S65} (h : okAlg n ops) : SmallAr ops := ⟨h.2.2.1, fun o ho => ⟨(h.2.2.2 o ho).1, (h.2.2.2 o ho).2.1⟩⟩
theorem arOf_op {ops : List S65} (hs : SmallAr ops) {x : Int} (h0 : x < 0) (h1 : -(ops.length : Int) ≤ x) :
    ∃ a : Nat, a ≤ 3 ∧ arOf ops x = some a ∧ (rd_T65 ops (-1 - x)).f0 = (a : Int) := by
  obtain ⟨q, hq⟩ := int_nat (show 0 ≤ -1 - x by omega)
  have hlt : q < ops.length := by omega
  have ho := hs.2 _ (List.getElem_mem hlt)
  obtain ⟨a, ha⟩ := int_nat ho.1
  have e : (rd_T65 ops (-1 - x)).f0 = (a : Int) := by rw [hq, rdT_at hlt]; exact ha
  refine ⟨a, by omega, ?_, e⟩
  unfold arOf
  rw [if_neg (by omega), if_neg (by omega), if_neg (by omega), e, Int.toNat_natCast]
theorem endOf_l {n : Int} {ops : List S65} (hs : SmallAr ops) (t : List Int) (ht : t.length ≤ 60) : ∀ (d j m : Nat), j + d = t.length → m ≤ 2 * j + 1 →
    Ev (fun k => impl_endOf.l0 k t (j : Int) (m : Int) n ops) (endRes j (Go.Proofs.Ytcgkgimkpndhmaa.Trm.eat (arOf ops) (t.drop j) m)) := by
  have h4 := hs.1
  intro d
  induction d with
  | zero =>
    intro j m hj hm
    refine Ev.succ ?_
    simp only [impl_endOf.l0]
    cases m with
    | zero =>
      refine Ev.neg (by omega) (Ev.const ?_)
      rw [Go.Proofs.Ytcgkgimkpndhmaa.Trm.eat_zero]; simp [endRes]
    | succ m =>
      refine Ev.pos (by omega) (Ev.pos (by omega) (Ev.const ?_))
      rw [List.drop_of_length_le (by omega), Go.Proofs.Ytcgkgimkpndhmaa.Trm.eat_nil]; rfl
  | succ d ih =>
    intro j m hj hm
    refine Ev.succ ?_
    simp only [impl_endOf.l0]
    cases m with
    | zero =>
      refine Ev.neg (by omega) (Ev.const ?_)
      rw [Go.Proofs.Ytcgkgimkpndhmaa.Trm.eat_zero]; simp [endRes]
    | succ m =>
      have hlt : j < t.length := by omega
      have wl : wrap64 (-(ops.length : Int)) = -(ops.length : Int) := w64 (by omega)
      have wj := w64s hlt (by omega : t.length ≤ 9223372036854775807)
      rw [rd_at hlt, drop_cons hlt, Go.Proofs.Ytcgkgimkpndhmaa.Trm.eat_cons, wl]
      refine Ev.pos (by omega) (Ev.neg (by omega) (Ev.pos (by omega) (Ev.pos (by omega) (Ev.cases (fun c => Ev.succ ?_) (fun c => Ev.succ ?_)))))
      · simp only [impl_endOf.j1]
        refine Ev.pos trivial (Ev.const ?_)
        unfold arOf
        rw [if_pos c]; rfl
      · simp only [impl_endOf.j1, wj]
        by_cases c' : t[j] < -(ops.length : Int)
        · refine Ev.pos (decide_eq_true c') (Ev.const ?_)
          unfold arOf
          rw [if_neg c, if_neg (by omega), if_pos c']; rfl
        · refine Ev.neg (by simp; omega) (Ev.cases (fun p => ?_) (fun p => ?_))
          · have e : arOf ops t[j] = some 0 := by unfold arOf; rw [if_neg c, if_pos p]
            have wm : wrap64 (((m + 1 : Nat) : Int) - 1) = (m : Int) := by unfold wrap64; omega
            rw [e, wm]
            simp only [Option.bind_some, Nat.add_zero]
            rw [endRes_map]
            exact ih (j + 1) m (by omega) (by omega)
          · obtain ⟨a, a3, ea, ef⟩ := arOf_op hs (show t[j] < 0 by omega) (by omega)
            have wx : wrap64 (-1 - t[j]) = -1 - t[j] := w64 (by omega)
            have wm : wrap64 (((m + 1 : Nat) : Int) + wrap64 ((a : Int) - 1)) = ((m + a : Nat) : Int) := by unfold wrap64; omega
            rw [wx, ef, wm, ea]
            simp only [Option.bind_some]
            rw [endRes_map]
            exact Ev.pos (by omega) (Ev.pos (by omega) (ih (j + 1) (m + a) (by omega) (by omega)))
theorem endOf_v {n : Int} {ops : List S65} (hs : SmallAr ops) (t : List Int) (ht : t.length ≤ 60) (j : Nat) (hj : j ≤ t.length) :
    Ev (fun k => impl_endOf.f k n ops t (j : Int)) (endRes j (Go.Proofs.Ytcgkgimkpndhmaa.Trm.eat (arOf ops) (t.drop j) 1)) := endOf_l hs t ht (t.length - j) j 1 (by omega) (by omega)
-- spec_l3End
theorem l3End_l {n : Int} {ops : List S65} (hs : SmallAr ops) (t : List Int) (ht : t.length ≤ 60) : ∀ (d j m : Nat), j + d = t.length → m ≤ 2 * j →
    Ev (fun k => spec_l3End.l0 k t ((m + 1 : Nat) : Int) (j : Int) n ops) (endRes j (Go.Proofs.Ytcgkgimkpndhmaa.Trm.eat (arOf ops) (t.drop j) (m + 1))) := by
  have h4 := hs.1
  intro d
  induction d with
  | zero =>
    intro j m hj hm
    refine Ev.succ ?_
    simp only [spec_l3End.l0]
    refine Ev.neg (by omega) (Ev.const ?_)
    rw [List.drop_of_length_le (by omega), Go.Proofs.Ytcgkgimkpndhmaa.Trm.eat_nil]; rfl
  | succ d ih =>
    intro j m hj hm
    have hlt : j < t.length := by omega
    have wl : wrap64 (-(ops.length : Int)) = -(ops.length : Int) := w64 (by omega)
    have wj := w64s hlt (by omega : t.length ≤ 9223372036854775807)
    have wm : wrap64 (((m + 1 : Nat) : Int) - 1) = (m : Int) := by unfold wrap64; omega
    refine Ev.succ ?_
    simp only [spec_l3End.l0, rd_at hlt, wl, wj, wm]
    clear wl wj wm
    rw [drop_cons hlt, Go.Proofs.Ytcgkgimkpndhmaa.Trm.eat_cons]
    refine Ev.pos (by omega) (Ev.pos (by omega) (Ev.cases (fun p => ?_) (fun p => Ev.cases (fun c => Ev.const ?_) (fun c => ?_))))
    · by_cases c' : t[j] < -(ops.length : Int)
      · refine Ev.bound (l1In_no (by omega)) (Ev.neg (by simp) (Ev.const ?_))
        unfold arOf
        rw [if_neg (by omega), if_neg (by omega), if_pos c']; rfl
      · obtain ⟨a, a3, ea, ef⟩ := arOf_op hs p (by omega)
        have wx : wrap64 (-1 - t[j]) = -1 - t[j] := w64 (by omega)
        have wa : wrap64 ((m : Int) + (a : Int)) = ((m + a : Nat) : Int) := by unfold wrap64; omega
        refine Ev.bound (l1In_yes (by clear wx wa; omega)) (Ev.pos rfl ?_)
        rw [wx, ef, wa, ea]
        clear wx wa
        simp only [Option.bind_some]
        rw [endRes_map]
        refine Ev.pos (by omega) (Ev.pos (by omega) (Ev.cases (fun z => Ev.const ?_) (fun z => ?_)))
        · rw [show m + a = 0 by omega, Go.Proofs.Ytcgkgimkpndhmaa.Trm.eat_zero]; simp [endRes]
        · obtain ⟨b, hb⟩ : ∃ b, m + a = b + 1 := ⟨m + a - 1, by omega⟩
          rw [hb]
          exact ih (j + 1) b (by omega) (by omega)
    · unfold arOf
      rw [if_pos c]; rfl
    · have e : arOf ops t[j] = some 0 := by unfold arOf; rw [if_neg c, if_pos (by omega)]
      rw [e]
      simp only [Option.bind_some, Nat.add_zero]
      rw [endRes_map]
      refine Ev.cases (fun z => Ev.const ?_) (fun z => ?_)
      · rw [show m = 0 by omega, Go.Proofs.Ytcgkgimkpndhmaa.Trm.eat_zero]; simp [endRes]
      · obtain ⟨b, rfl⟩ : ∃ b, m = b + 1 := ⟨m - 1, by omega⟩
        exact ih (j + 1) b (by omega) (by omega)
theorem l3End_v {n : Int} {ops : List S65} (hs : SmallAr ops) (t : List Int) (ht : t.length ≤ 60) (j : Nat) (hj : j ≤ t.length) :
    Ev (fun k => spec_l3End.f k n ops t (j : Int)) (endRes j (Go.Proofs.Ytcgkgimkpndhmaa.Trm.eat (arOf ops) (t.drop j) 1)) := l3End_l hs t ht (t.length - j) j 0 (by omega) (by omega)
-- impl_isTerm
def okT (ops : List S65) (t : List Int) : Prop := t.length ≤ 60 ∧ Go.Proofs.Ytcgkgimkpndhmaa.Trm.eat (arOf ops) t 1 = some t.length
instance (ops : List S65) (t : List Int) : Decidable (okT ops t) := by unfold okT; infer_instance
theorem endRes_len (o : Option Nat) (l : Nat) : (endRes 0 o == (l : Int)) = decide (o = some l) := by
  cases o with
  | none =>
    rw [decide_eq_false (by simp)]
    simp only [endRes, beq_eq_false_iff_ne]
    omega
  | some e =>
    simp only [endRes, Option.some.injEq]
    by_cases c : e = l
    · subst c; simp
    · rw [decide_eq_false c, beq_eq_false_iff_ne]; omega
theorem isTerm_v {n : Int} {ops : List S65} (hs : SmallAr ops) (t : List Int) : Ev (fun k => impl_isTerm.f k n ops t) (decide (okT ops t)) := by
  unfold impl_isTerm.f
  refine Ev.cases (fun c => ?_) (fun c => Ev.const ?_)
  · refine Ev.bind (endOf_v hs t (by omega) 0 (by omega)) (Ev.const ?_)
    rw [List.drop_zero, endRes_len]
    congr 1
    exact decide_eq_decide.2 ⟨fun h => ⟨by omega, h⟩, fun h => h.2⟩
  · congr 1
    exact (decide_eq_false fun h => c (by have := h.1; omega)).symm
-- impl_IsTerm
theorem IsTerm_v (n : Int) (ops : List S65) (ho : ∀ o ∈ ops, o.f1.length ≤ 9223372036854775807) (t : List Int) : Ev (fun k => impl_IsTerm.f k n ops t) (decide (okAlg n ops ∧ okT ops t)) := by
  unfold impl_IsTerm.f
  refine Ev.bind (implIsAlgebra_v n ops ho) (Ev.cases (fun c => ?_) (fun c => Ev.const ?_))
  · have c := of_decide_eq_true c
    refine Ev.bind (isTerm_v (okAlg_small c) t) (Ev.const ?_)
    congr 1
    exact decide_eq_decide.2 ⟨fun h => ⟨c, h⟩, fun h => h.2⟩
  · rw [decide_eq_false fun h => c (decide_eq_true h.1)]
-- spec_l3Good impl_isTerm
theorem l3Good_v {n : Int} {ops : List S65} (hs : SmallAr ops) (t : List Int) : Ev (fun k => spec_l3Good.f k n ops t) (decide (okT ops t)) := by
  unfold spec_l3Good.f
  refine Ev.cases (fun c0 => Ev.cases (fun c => ?_) (fun c => Ev.const ?_)) (fun c0 => Ev.const ?_)
  · refine Ev.bind (l3End_v hs t (by omega) 0 (by omega)) (Ev.const ?_)
    rw [List.drop_zero, endRes_len]
    congr 1
    exact decide_eq_decide.2 ⟨fun h => ⟨by omega, h⟩, fun h => h.2⟩
  · congr 1
    exact (decide_eq_false fun h => c (by have := h.1; omega)).symm
  · congr 1
    refine (decide_eq_false fun h => ?_).symm
    have e : t = [] := List.length_eq_zero_iff.1 (by omega)
    rw [e] at h
    exact absurd h.2 (by simp [Go.Proofs.Ytcgkgimkpndhmaa.Trm.eat])
-- spec_l3Takes impl_isTerm
theorem l3Takes_v (n : Int) (ops : List S65) (ho : ∀ o ∈ ops, o.f1.length ≤ 9223372036854775807) (t : List Int) : Ev (fun k => spec_l3Takes.f k n ops t) (decide (okAlg n ops ∧ okT ops t)) := by
  unfold spec_l3Takes.f
  refine Ev.bind (l2Good_v n ops ho) (Ev.cases (fun c => ?_) (fun c => Ev.const ?_))
  · have c := of_decide_eq_true c
    refine Ev.bind (l3Good_v (okAlg_small c) t) (Ev.const ?_)
    congr 1
    exact decide_eq_decide.2 ⟨fun h => ⟨c, h⟩, fun h => h.2⟩
  · rw [decide_eq_false fun h => c (decide_eq_true h.1)]
-- laws_markIntS
/-- The numbers that a mark writes: so many, rising from a. -/
def seqI (a : Int) (n : Nat) : List Int := (List.range n).map fun i : Nat => a + (i : Int)
theorem seqI_len (a : Int) (n : Nat) : (seqI a n).length = n := by simp [seqI]
theorem seqI_at {a : Int} {n j : Nat} (h : j < (seqI a n).length) : (seqI a n)[j] = a + (j : Int) := by simp [seqI]
theorem seqI_succ (a : Int) (n : Nat) : seqI a (n + 1) = seqI a n ++ [a + (n : Int)] := by simp [seqI, List.range_succ]
theorem markIntS_l (l : List Int) (a : Int) (h0 : 0 ≤ a) (h1 : a ≤ 4611686018427387904) (hl : l.length ≤ 1099511627776) : ∀ (d j : Nat), j + d = l.length →
    Ev (fun k => laws_markIntS.l0 k (seqI a j ++ l.drop j) (a + (j : Int)) (j : Int)) (a + (l.length : Int), seqI a l.length) := by
  intro d
  induction d with
  | zero =>
    intro j hj
    obtain rfl : j = l.length := by omega
    refine Ev.succ ?_
    simp only [laws_markIntS.l0]
    refine Ev.neg (by simp [seqI_len]) (Ev.const ?_)
    rw [List.drop_of_length_le (Nat.le_refl _), List.append_nil]
  | succ d ih =>
    intro j hj
    have hlt : j < l.length := by omega
    refine Ev.succ ?_
    simp only [laws_markIntS.l0, w64s hlt (by omega : l.length ≤ 9223372036854775807), Int.toNat_natCast]
    rw [w64 (n := a + (j : Int) + 1) (by omega)]
    refine Ev.pos (by simp [seqI_len]; omega) (Ev.pos (by omega) ?_)
    rw [drop_cons hlt, set_mid _ _ _ _ j (seqI_len a j)]
    have := ih (j + 1) (by omega)
    rw [seqI_succ, List.append_assoc, show a + ((j + 1 : Nat) : Int) = a + (j : Int) + 1 from by omega] at this
    exact this
theorem markIntS_v (l : List Int) (a : Int) (h0 : 0 ≤ a) (h1 : a ≤ 4611686018427387904) (hl : l.length ≤ 1099511627776) : Ev (fun k => laws_markIntS.f k l a) (a + (l.length : Int), seqI a l.length) := by
  unfold laws_markIntS.f
  have := markIntS_l l a h0 h1 hl l.length 0 (by omega)
  simpa [seqI] using this
-- laws_markIntS laws_heldIntS
theorem heldIntS_l (n : Nat) (a : Int) (h0 : 0 ≤ a) (h1 : a ≤ 4611686018427387904) (hn : n ≤ 1099511627776) : ∀ (d j : Nat), j + d = n →
    Ev (fun k => laws_heldIntS.l0 k (seqI a n) (a + (j : Int)) (j : Int)) (a + (n : Int)) := by
  intro d
  induction d with
  | zero =>
    intro j hj
    obtain rfl : j = n := by omega
    refine Ev.succ ?_
    simp only [laws_heldIntS.l0]
    exact Ev.neg (by simp [seqI_len]) (Ev.const rfl)
  | succ d ih =>
    intro j hj
    have hlt : j < (seqI a n).length := by rw [seqI_len]; omega
    refine Ev.succ ?_
    simp only [laws_heldIntS.l0, rd_at hlt, seqI_at hlt, w64s (show j < n by omega) (by omega : n ≤ 9223372036854775807)]
    rw [w64 (n := a + (j : Int) + 1) (by omega)]
    refine Ev.pos (by rw [seqI_len]; omega) (Ev.pos (by omega) (Ev.pos trivial ?_))
    have := ih (j + 1) (by omega)
    rw [show a + ((j + 1 : Nat) : Int) = a + (j : Int) + 1 from by omega] at this
    exact this
theorem heldIntS_v (n : Nat) (a : Int) (h0 : 0 ≤ a) (h1 : a ≤ 4611686018427387904) (hn : n ≤ 1099511627776) : Ev (fun k => laws_heldIntS.f k (seqI a n) a) (a + (n : Int)) := by
  unfold laws_heldIntS.f
  have := heldIntS_l n a h0 h1 hn n 0 (by omega)
  simpa using this
-- laws_markOpS
/-- What a mark makes of operations: the next number, and the operations. -/
def mkOps : Int → List S65 → Int × List S65
  | a, [] => (a, [])
  | a, o :: os => ((mkOps (a + 1 + (o.f1.length : Int)) os).1, ⟨a, seqI (a + 1) o.f1.length⟩ :: (mkOps (a + 1 + (o.f1.length : Int)) os).2)
theorem mkOps_len : ∀ (os : List S65) (a : Int), (mkOps a os).2.length = os.length
  | [], _ => rfl
  | _ :: os, a => by simp [mkOps, mkOps_len os]
theorem mkOps_bd : ∀ (os : List S65) (a : Int), (∀ o ∈ os, o.f1.length ≤ 1048576) → a ≤ (mkOps a os).1 ∧ (mkOps a os).1 ≤ a + (os.length : Int) * 1048577
  | [], a, _ => by simp [mkOps]
  | o :: os, a, h => by
    have := mkOps_bd os (a + 1 + (o.f1.length : Int)) (fun q hq => h q (List.mem_cons_of_mem _ hq))
    have := h o List.mem_cons_self
    simp only [mkOps, List.length_cons]
    omega
theorem markOpS_l : ∀ (os pre : List S65) (a : Int), 0 ≤ a → a + (os.length : Int) * 1048577 ≤ 2305843009213693952 → pre.length + os.length ≤ 1048576 → (∀ o ∈ os, o.f1.length ≤ 1048576) →
    Ev (fun k => laws_markOpS.l0 k (pre ++ os) a (pre.length : Int)) ((mkOps a os).1, pre ++ (mkOps a os).2) := by
  intro os
  induction os with
  | nil =>
    intro pre a h0 h1 hl ho
    refine Ev.succ ?_
    simp only [laws_markOpS.l0]
    exact Ev.neg (by simp) (Ev.const rfl)
  | cons o os ih =>
    intro pre a h0 h1 hl ho
    have hlt : pre.length < (pre ++ o :: os).length := by simp
    have ho1 := ho o List.mem_cons_self
    simp only [List.length_cons] at h1 hl
    refine Ev.succ ?_
    simp only [laws_markOpS.l0, rdT_at hlt, w64s (show pre.length < 1048577 by omega) (by omega), Int.toNat_natCast]
    rw [w64 (n := a + 1) (by omega)]
    refine Ev.pos (by simp; omega) (Ev.pos (by omega) ?_)
    have e : (pre ++ o :: os)[pre.length] = o := by simp
    rw [e]
    refine Ev.bind (markIntS_v o.f1 (a + 1) (by omega) (by omega) (by omega)) ?_
    rw [set_mid _ _ _ _ pre.length rfl]
    have := ih (pre ++ [⟨a, seqI (a + 1) o.f1.length⟩]) (a + 1 + (o.f1.length : Int)) (by omega) (by omega) (by simp; omega) (fun q hq => ho q (List.mem_cons_of_mem _ hq))
    simpa [mkOps, List.append_assoc] using this
-- laws_markAlgebra
theorem markAlgebra_v (n : Int) (os : List S65) (a : Int) (h0 : 0 ≤ a) (h1 : a ≤ 1048576) (hl : os.length ≤ 1048576) (ho : ∀ o ∈ os, o.f1.length ≤ 1048576) : Ev (fun k => laws_markAlgebra.f k n os a) (mkOps a os) := by
  unfold laws_markAlgebra.f laws_markOpS.f
  have := markOpS_l os [] a h0 (by omega) (by simpa using hl) ho
  simpa using this
theorem small_cv {ops : List S64} (h : SmallA ops) : ∀ o ∈ ops.map cvOp, o.f1.length ≤ 1048576 := by
  intro o hm
  obtain ⟨q, hq, rfl⟩ := List.mem_map.1 hm
  exact h.2 q hq
theorem markAlgebra_cv (n : Int) (ops : List S64) (h : SmallA ops) (a : Int) (h0 : 0 ≤ a) (h1 : a ≤ 1048576) : ∃ r, Ev (fun k => laws_markAlgebra.f k n (ops.map cvOp) a) r ∧ ¬ r.1 < 0 ∧ r.1 ≤ a + 1099512676352 := by
  have hl : (ops.map cvOp).length ≤ 1048576 := by simpa using h.1
  have ho : ∀ o ∈ ops.map cvOp, o.f1.length ≤ 1048576 := by
    intro o hm
    obtain ⟨q, hq, rfl⟩ := List.mem_map.1 hm
    exact h.2 q hq
  have := mkOps_bd (ops.map cvOp) a ho
  exact ⟨_, markAlgebra_v n _ a h0 h1 hl ho, by omega, by omega⟩
-- impl_endOf impl_isTerm
/-- Behind each place of a term stands a whole term. -/
theorem sub_end {ops : List S65} {t : List Int} (h : okT ops t) {j : Nat} (hj : j < t.length) : ∃ e, Go.Proofs.Ytcgkgimkpndhmaa.Trm.eat (arOf ops) (t.drop j) 1 = some e ∧ j + e ≤ t.length := by
  obtain ⟨m, hm, hm1⟩ := Go.Proofs.Ytcgkgimkpndhmaa.Trm.eat_drop t 1 h.2 j (by omega)
  have hm1 := hm1 hj
  rw [show m = 1 + (m - 1) by omega, Go.Proofs.Ytcgkgimkpndhmaa.Trm.eat_add] at hm
  obtain ⟨e, he, _⟩ := Option.bind_eq_some_iff.1 hm
  have := (Go.Proofs.Ytcgkgimkpndhmaa.Trm.eat_le _ _ _ he).2
  rw [List.length_drop] at this
  exact ⟨e, he, by omega⟩
-- spec_l1In
theorem l1In_int (a b c : Int) (P : Prop) [Decidable P] (h : (b ≤ a ∧ a ≤ c) ↔ P) : spec_l1In.f a b c = some (decide P) := by
  rw [l1In_v]; congr 1; exact decide_eq_decide.2 h
-- laws_szIntSS
theorem rdL_at {ls : List (List Int)} {j : Nat} (h : j < ls.length) : rd_L1 ls (j : Int) = ls[j] := getD_at h
/-- The lists are short. -/
def SmallSS (ls : List (List Int)) : Prop := ls.length ≤ 1048576 ∧ ∀ l ∈ ls, l.length ≤ 1048576
theorem szIntSS_l (ls : List (List Int)) (hl : ls.length ≤ 9223372036854775807) (ho : ∀ l ∈ ls, l.length ≤ 9223372036854775807) : ∀ (d j : Nat) (left : Int), j + d = ls.length → 0 ≤ left → left ≤ 1048576 →
    ∃ r, Ev (fun k => laws_szIntSS.l0 k ls left (j : Int)) r ∧ (r < 0 ∨ (0 ≤ r ∧ r ≤ left ∧ ∀ l ∈ ls.drop j, l.length ≤ 1048576)) := by
  intro d
  induction d with
  | zero =>
    intro j left hj h0 h1
    refine ⟨left, Ev.succ ?_, .inr ⟨h0, Int.le_refl _, ?_⟩⟩
    · simp only [laws_szIntSS.l0]
      exact Ev.neg (by omega) (Ev.now _)
    · rw [List.drop_of_length_le (by omega)]; simp
  | succ d ih =>
    intro j left hj h0 h1
    have hlt : j < ls.length := by omega
    obtain ⟨r, hr, h⟩ := szIntS_v ls[j] left (ho _ (List.getElem_mem hlt)) h0 h1
    by_cases c : r < 0
    · refine ⟨-1, Ev.succ ?_, .inl (by omega)⟩
      simp only [laws_szIntSS.l0, rdL_at hlt]
      exact Ev.pos (by omega) (Ev.pos (by omega) (Ev.bound hr (Ev.pos c (Ev.now _))))
    · obtain ⟨h2, h3, h4⟩ : 0 ≤ r ∧ r ≤ left ∧ ls[j].length ≤ 1048576 := by omega
      obtain ⟨r', hr', h'⟩ := ih (j + 1) r (by omega) h2 (by omega)
      refine ⟨r', Ev.succ ?_, ?_⟩
      · simp only [laws_szIntSS.l0, rdL_at hlt, w64s hlt hl]
        exact Ev.pos (by omega) (Ev.pos (by omega) (Ev.bound hr (Ev.neg c hr')))
      · rcases h' with h' | ⟨h5, h6, h7⟩
        · exact .inl h'
        · refine .inr ⟨h5, by omega, ?_⟩
          rw [drop_cons hlt]
          intro o ho'
          rcases List.mem_cons.1 ho' with rfl | ho'
          · exact h4
          · exact h7 o ho'
theorem szIntSS_v (ls : List (List Int)) (left : Int) (hl : ls.length ≤ 9223372036854775807) (ho : ∀ l ∈ ls, l.length ≤ 9223372036854775807) (h0 : 0 ≤ left) (h1 : left ≤ 1048576) :
    ∃ r, Ev (fun k => laws_szIntSS.f k ls left) r ∧ (r < 0 ∨ (0 ≤ r ∧ r ≤ left ∧ SmallSS ls)) := by
  by_cases c : left - (ls.length : Int) < 0
  · refine ⟨-1, ?_, .inl (by omega)⟩
    unfold laws_szIntSS.f
    rw [w64 (by omega)]
    exact Ev.pos c (Ev.now _)
  · obtain ⟨r, hr, h⟩ := szIntSS_l ls hl ho ls.length 0 (left - (ls.length : Int)) (by omega) (by omega) (by omega)
    refine ⟨r, ?_, ?_⟩
    · unfold laws_szIntSS.f
      rw [w64 (by omega)]
      exact Ev.neg c hr
    · rcases h with h | ⟨h2, h3, h4⟩
      · exact .inl h
      · exact .inr ⟨h2, by omega, by omega, h4⟩
theorem szIntSS_law {g : Nat → Int → Option Bool} {ls : List (List Int)} {left : Int} (hl : ls.length ≤ 9223372036854775807) (ho : ∀ l ∈ ls, l.length ≤ 9223372036854775807) (h0 : 0 ≤ left) (h1 : left ≤ 1048576)
    (h : SmallSS ls → ∀ r, 0 ≤ r → r ≤ 1048576 → Ev (fun k => g k r) true) : Ev (fun k => (laws_szIntSS.f k ls left).bind fun t => if t < 0 then some true else g k t) true := by
  obtain ⟨r, hr, c⟩ := szIntSS_v ls left hl ho h0 h1
  refine Ev.bind hr (Ev.cases (fun _ => Ev.now _) (fun d => h ?_ r (by omega) (by omega)))
  rcases c with c | c
  · omega
  · exact c.2.2
-- laws_toIntSS laws_szIntSS
theorem toIntSS_l (ls : List (List Int)) (h : SmallSS ls) : ∀ (d j : Nat), j + d = ls.length → Ev (fun k => laws_toIntSS.l0 k ls (ls.take j ++ List.replicate d []) (j : Int)) ls := by
  have hl := h.1
  intro d
  induction d with
  | zero =>
    intro j hj
    refine Ev.succ ?_
    simp only [laws_toIntSS.l0]
    refine Ev.neg (by omega) (Ev.const ?_)
    rw [List.take_of_length_le (by omega)]; simp
  | succ d ih =>
    intro j hj
    have hlt : j < ls.length := by omega
    refine Ev.succ ?_
    simp only [laws_toIntSS.l0, rdL_at hlt, w64s hlt (by omega : ls.length ≤ 9223372036854775807), Int.toNat_natCast]
    refine Ev.pos (by omega) (Ev.pos (by omega) (Ev.bind (toIntS_v _ (h.2 _ (List.getElem_mem hlt))) (Ev.pos (by simp; omega) ?_)))
    rw [List.replicate_succ, set_mid _ _ _ _ j (by simp; omega)]
    have := ih (j + 1) (by omega)
    rw [take_snoc hlt, List.append_assoc] at this
    exact this
theorem toIntSS_v (ls : List (List Int)) (h : SmallSS ls) : Ev (fun k => laws_toIntSS.f k ls) ls := by
  have hl := h.1
  unfold laws_toIntSS.f
  rw [Int.toNat_natCast]
  exact Ev.pos (by omega) (Ev.pos (by omega) (toIntSS_l ls h ls.length 0 (by omega)))
-- laws_eqIntSS laws_szIntSS
theorem eqIntSS_l (ls : List (List Int)) (h : SmallSS ls) : ∀ (d j : Nat), j + d = ls.length → Ev (fun k => laws_eqIntSS.l0 k ls ls (j : Int)) true := by
  have hl := h.1
  intro d
  induction d with
  | zero =>
    intro j hj
    refine Ev.succ ?_
    simp only [laws_eqIntSS.l0]
    exact Ev.neg (by omega) (Ev.now _)
  | succ d ih =>
    intro j hj
    have hlt : j < ls.length := by omega
    have hb := h.2 _ (List.getElem_mem hlt)
    refine Ev.succ ?_
    simp only [laws_eqIntSS.l0, rdL_at hlt, w64s hlt (by omega : ls.length ≤ 9223372036854775807)]
    exact Ev.pos (by omega) (Ev.pos (by omega) (Ev.pos (by omega) (Ev.bind (eqIntS_v _ (by omega)) (Ev.pos rfl (ih (j + 1) (by omega))))))
theorem eqIntSS_v (ls : List (List Int)) (h : SmallSS ls) : Ev (fun k => laws_eqIntSS.f k ls ls) true := by
  unfold laws_eqIntSS.f
  exact Ev.pos rfl (eqIntSS_l ls h ls.length 0 (by omega))
-- laws_markIntSS laws_szIntSS
/-- What a mark makes of lists. -/
def mkSS : Int → List (List Int) → Int × List (List Int)
  | a, [] => (a, [])
  | a, l :: ls => ((mkSS (a + (l.length : Int)) ls).1, seqI a l.length :: (mkSS (a + (l.length : Int)) ls).2)
theorem mkSS_bd : ∀ (ls : List (List Int)) (a : Int), (∀ l ∈ ls, l.length ≤ 1048576) → a ≤ (mkSS a ls).1 ∧ (mkSS a ls).1 ≤ a + (ls.length : Int) * 1048576
  | [], a, _ => by simp [mkSS]
  | l :: ls, a, h => by
    have := mkSS_bd ls (a + (l.length : Int)) (fun q hq => h q (List.mem_cons_of_mem _ hq))
    have := h l List.mem_cons_self
    simp only [mkSS, List.length_cons]
    omega
theorem markIntSS_l : ∀ (ls pre : List (List Int)) (a : Int), 0 ≤ a → a + (ls.length : Int) * 1048576 ≤ 2305843009213693952 → pre.length + ls.length ≤ 1048576 → (∀ l ∈ ls, l.length ≤ 1048576) →
    Ev (fun k => laws_markIntSS.l0 k (pre ++ ls) a (pre.length : Int)) ((mkSS a ls).1, pre ++ (mkSS a ls).2) := by
  intro ls
  induction ls with
  | nil =>
    intro pre a h0 h1 hl ho
    refine Ev.succ ?_
    simp only [laws_markIntSS.l0]
    exact Ev.neg (by simp) (Ev.const rfl)
  | cons l ls ih =>
    intro pre a h0 h1 hl ho
    have hlt : pre.length < (pre ++ l :: ls).length := by simp
    have ho1 := ho l List.mem_cons_self
    simp only [List.length_cons] at h1 hl
    refine Ev.succ ?_
    simp only [laws_markIntSS.l0, getD_at hlt, w64s (show pre.length < 1048577 by omega) (by omega), Int.toNat_natCast]
    refine Ev.pos (by simp; omega) (Ev.pos (by omega) ?_)
    have e : (pre ++ l :: ls).getD pre.length [] = l := by simp [List.getD_eq_getElem?_getD]
    rw [e]
    refine Ev.bind (markIntS_v l a (by omega) (by omega) (by omega)) ?_
    rw [set_mid _ _ _ _ pre.length rfl]
    have := ih (pre ++ [seqI a l.length]) (a + (l.length : Int)) (by omega) (by omega) (by simp; omega) (fun q hq => ho q (List.mem_cons_of_mem _ hq))
    simpa [mkSS, List.append_assoc] using this
theorem markIntSS_v (ls : List (List Int)) (h : SmallSS ls) (a : Int) (h0 : 0 ≤ a) (h1 : a ≤ 1125899906842624) : Ev (fun k => laws_markIntSS.f k ls a) (mkSS a ls) := by
  have hl := h.1
  unfold laws_markIntSS.f
  have := markIntSS_l ls [] a h0 (by omega) (by simpa using hl) h.2
  simpa using this
theorem allL_drop {P : List Int → Prop} {l : List (List Int)} {j : Nat} (h : j < l.length) : (∀ x ∈ l.drop j, P x) ↔ P l[j] ∧ ∀ x ∈ l.drop (j + 1), P x := by
  rw [drop_cons h, List.forall_mem_cons]
theorem l3List_l {n : Int} {ops : List S65} (hs : SmallAr ops) (ls : List (List Int)) (hl : ls.length ≤ 1048576) : ∀ (d j : Nat), j + d = ls.length → Ev (fun k => spec_l3List.l0 k ls (j : Int) n ops) (decide (∀ l ∈ ls.drop j, okT ops l)) := by
  intro d
  induction d with
  | zero =>
    intro j hj
    refine Ev.succ ?_
    simp only [spec_l3List.l0]
    refine Ev.neg (by omega) (Ev.const ?_)
    rw [List.drop_of_length_le (by omega)]; simp
  | succ d ih =>
    intro j hj
    have hlt : j < ls.length := by omega
    refine Ev.succ ?_
    simp only [spec_l3List.l0, rdL_at hlt, w64s hlt (by omega : ls.length ≤ 9223372036854775807)]
    refine Ev.pos (by omega) (Ev.pos (by omega) (Ev.bind (l3Good_v hs _) (Ev.cases (fun c => ?_) (fun c => Ev.const ?_))))
    · refine Ev.eq (ih (j + 1) (by omega)) (decide_eq_decide.2 ?_)
      rw [allL_drop hlt]
      exact ⟨fun h => ⟨of_decide_eq_true c, h⟩, fun h => h.2⟩
    · congr 1
      exact (decide_eq_false fun h => c (decide_eq_true ((allL_drop hlt).1 h).1)).symm
theorem areTerms_l {n : Int} {ops : List S65} (hs : SmallAr ops) (ls : List (List Int)) (hl : ls.length ≤ 1048576) : ∀ (d j : Nat), j + d = ls.length → Ev (fun k => impl_areTerms.l0 k ls (ls.length : Int) (j : Int) n ops) (decide (∀ l ∈ ls.drop j, okT ops l)) := by
  intro d
  induction d with
  | zero =>
    intro j hj
    refine Ev.succ ?_
    simp only [impl_areTerms.l0]
    refine Ev.neg (by omega) (Ev.const ?_)
    rw [List.drop_of_length_le (by omega)]; simp
  | succ d ih =>
    intro j hj
    have hlt : j < ls.length := by omega
    refine Ev.succ ?_
    simp only [impl_areTerms.l0, rdL_at hlt, w64s hlt (by omega : ls.length ≤ 9223372036854775807)]
    refine Ev.pos (by omega) (Ev.pos (by omega) (Ev.pos (by omega) (Ev.bind (isTerm_v hs _) (Ev.cases (fun c => ?_) (fun c => Ev.const ?_)))))
    · refine Ev.eq (ih (j + 1) (by omega)) (decide_eq_decide.2 ?_)
      rw [allL_drop hlt]
      exact ⟨fun h => ⟨of_decide_eq_true c, h⟩, fun h => h.2⟩
    · congr 1
      exact (decide_eq_false fun h => c (decide_eq_true ((allL_drop hlt).1 h).1)).symm
theorem rdL_len {ls : List (List Int)} (h : ∀ l ∈ ls, l.length ≤ 60) {x : Int} (h0 : 0 ≤ x) (h1 : x < (ls.length : Int)) : (rd_L1 ls x).length ≤ 60 := by
  obtain ⟨q, rfl⟩ := int_nat h0
  have hq : q < ls.length := by omega
  rw [rdL_at hq]
  exact h _ (List.getElem_mem hq)
/-- A list that is too long stays so. -/
theorem sub_long (t : List Int) (ht : t.length ≤ 60) (ls : List (List Int)) (hls : ∀ l ∈ ls, l.length ≤ 60) : ∀ (d j : Nat) (acc : List Int), j + d = t.length → 60 < acc.length → acc.length ≤ 200 + j →
    Ev (fun k => impl_substitute.l0 k ls acc t (t.length : Int) (j : Int)) ([], false) := by
  intro d
  induction d with
  | zero =>
    intro j acc hj h1 h2
    refine Ev.succ ?_
    simp only [impl_substitute.l0]
    exact Ev.neg (by omega) (Ev.pos (by omega) (Ev.now _))
  | succ d ih =>
    intro j acc hj h1 h2
    have hlt : j < t.length := by omega
    refine Ev.succ ?_
    simp only [impl_substitute.l0, rd_at hlt, w64s hlt (by omega : t.length ≤ 9223372036854775807)]
    refine Ev.pos (by omega) (Ev.pos (by omega) (Ev.pos (by omega) (Ev.cases (fun c => Ev.pos (by omega) (ih (j + 1) _ (by omega) (by simp; omega) (by simp; omega))) (fun c => Ev.cases (fun _ => Ev.now _) (fun c2 => ?_)))))
    have := rdL_len hls (show 0 ≤ t[j] by omega) (by omega)
    exact Ev.pos (by omega) (Ev.pos (by omega) (Ev.pos (by omega) (Ev.bound rfl (Ev.pos (by simp only [List.length_append]; omega) (Ev.now _)))))
theorem sub_l (t : List Int) (ht : t.length ≤ 60) (ls : List (List Int)) (hls : ∀ l ∈ ls, l.length ≤ 60) : ∀ (d j : Nat) (acc : List Int), j + d = t.length → acc.length ≤ 60 →
    ∃ r : List Int × Bool, Ev (fun k => spec_l3Substitute.l0 k t ls acc (j : Int)) r ∧ Ev (fun k => impl_substitute.l0 k ls acc t (t.length : Int) (j : Int)) r ∧ r.1.length ≤ 60 := by
  intro d
  induction d with
  | zero =>
    intro j acc hj h1
    refine ⟨(acc, true), Ev.succ ?_, Ev.succ ?_, h1⟩
    · simp only [spec_l3Substitute.l0]
      exact Ev.neg (by omega) (Ev.now _)
    · simp only [impl_substitute.l0]
      exact Ev.neg (by omega) (Ev.neg (by omega) (Ev.now _))
  | succ d ih =>
    intro j acc hj h1
    have hlt : j < t.length := by omega
    have ew := w64s hlt (by omega : t.length ≤ 9223372036854775807)
    by_cases c1 : t[j] ≥ (ls.length : Int)
    · refine ⟨([], false), Ev.succ ?_, Ev.succ ?_, by simp⟩
      · simp only [spec_l3Substitute.l0, rd_at hlt]
        exact Ev.pos (by omega) (Ev.pos (by omega) (Ev.pos c1 (Ev.now _)))
      · simp only [impl_substitute.l0, rd_at hlt]
        exact Ev.pos (by omega) (Ev.pos (by omega) (Ev.pos (by omega) (Ev.neg (by omega) (Ev.pos c1 (Ev.now _)))))
    · by_cases c2 : t[j] < 0
      · by_cases c3 : ((acc ++ [t[j]]).length : Int) > 60
        · refine ⟨([], false), Ev.succ ?_, Ev.succ ?_, by simp⟩
          · simp only [spec_l3Substitute.l0, rd_at hlt]
            exact Ev.pos (by omega) (Ev.pos (by omega) (Ev.neg c1 (Ev.pos c2 (Ev.pos (by omega) (Ev.bound rfl (Ev.pos c3 (Ev.now _)))))))
          · simp only [impl_substitute.l0, rd_at hlt, ew]
            exact Ev.pos (by omega) (Ev.pos (by omega) (Ev.pos (by omega) (Ev.pos c2 (Ev.pos (by omega) (sub_long t ht ls hls d (j + 1) _ (by omega) (by omega) (by simp; omega))))))
        · obtain ⟨r, hs, hm, hr⟩ := ih (j + 1) (acc ++ [t[j]]) (by omega) (by omega)
          refine ⟨r, Ev.succ ?_, Ev.succ ?_, hr⟩
          · simp only [spec_l3Substitute.l0, rd_at hlt, ew]
            exact Ev.pos (by omega) (Ev.pos (by omega) (Ev.neg c1 (Ev.pos c2 (Ev.pos (by omega) (Ev.bound rfl (Ev.neg c3 hs))))))
          · simp only [impl_substitute.l0, rd_at hlt, ew]
            exact Ev.pos (by omega) (Ev.pos (by omega) (Ev.pos (by omega) (Ev.pos c2 (Ev.pos (by omega) hm))))
      · have hb := rdL_len hls (show 0 ≤ t[j] by omega) (by omega)
        by_cases c3 : ((acc ++ rd_L1 ls t[j]).length : Int) > 60
        · refine ⟨([], false), Ev.succ ?_, Ev.succ ?_, by simp⟩
          · simp only [spec_l3Substitute.l0, rd_at hlt]
            exact Ev.pos (by omega) (Ev.pos (by omega) (Ev.neg c1 (Ev.neg c2 (Ev.pos (by omega) (Ev.pos (by omega) (Ev.pos (by omega) (Ev.bound rfl (Ev.pos c3 (Ev.now _)))))))))
          · simp only [impl_substitute.l0, rd_at hlt]
            exact Ev.pos (by omega) (Ev.pos (by omega) (Ev.pos (by omega) (Ev.neg c2 (Ev.neg c1 (Ev.pos (by omega) (Ev.pos (by omega) (Ev.pos (by omega) (Ev.bound rfl (Ev.pos c3 (Ev.now _))))))))))
        · obtain ⟨r, hs, hm, hr⟩ := ih (j + 1) (acc ++ rd_L1 ls t[j]) (by omega) (by omega)
          refine ⟨r, Ev.succ ?_, Ev.succ ?_, hr⟩
          · simp only [spec_l3Substitute.l0, rd_at hlt, ew]
            exact Ev.pos (by omega) (Ev.pos (by omega) (Ev.neg c1 (Ev.neg c2 (Ev.pos (by omega) (Ev.pos (by omega) (Ev.pos (by omega) (Ev.bound rfl (Ev.neg c3 hs))))))))
          · simp only [impl_substitute.l0, rd_at hlt, ew]
            exact Ev.pos (by omega) (Ev.pos (by omega) (Ev.pos (by omega) (Ev.neg c2 (Ev.neg c1 (Ev.pos (by omega) (Ev.pos (by omega) (Ev.pos (by omega) (Ev.bound rfl (Ev.neg c3 hm)))))))))
theorem substituteIn_v (n : Int) (ops : List S65) (ho : ∀ o ∈ ops, o.f1.length ≤ 9223372036854775807) (t : List Int) (ls : List (List Int)) (hl : ls.length ≤ 1048576) :
    ∃ r : List Int × Bool, Ev (fun k => spec_SubstituteIn.f k n ops t ls) r ∧ Ev (fun k => impl_SubstituteIn.f k n ops t ls) r ∧ r.1.length ≤ 1048576 := by
  by_cases c : okAlg n ops ∧ okT ops t
  · by_cases c6 : (ls.length : Int) > 6
    · refine ⟨([], false), ?_, ?_, by simp⟩
      · unfold spec_SubstituteIn.f
        exact Ev.bind (l3Takes_v n ops ho t) (Ev.pos (decide_eq_true c) (Ev.pos c6 (Ev.now _)))
      · unfold impl_SubstituteIn.f
        exact Ev.bind (IsTerm_v n ops ho t) (Ev.pos (decide_eq_true c) (Ev.pos c6 (Ev.now _)))
    · have hS := l3List_l (n := n) (okAlg_small c.1) ls hl ls.length 0 (by omega)
      have hI := areTerms_l (n := n) (okAlg_small c.1) ls hl ls.length 0 (by omega)
      rw [List.drop_zero] at hS hI
      by_cases cl : ∀ l ∈ ls, okT ops l
      · obtain ⟨r, h1, h2, h3⟩ := sub_l t c.2.1 ls (fun l h => (cl l h).1) t.length 0 [] (by omega) (by simp)
        refine ⟨r, ?_, ?_, by omega⟩
        · unfold spec_SubstituteIn.f spec_l3List.f spec_l3Substitute.f
          exact Ev.bind (l3Takes_v n ops ho t) (Ev.pos (decide_eq_true c) (Ev.neg c6 (Ev.bind hS (Ev.pos (decide_eq_true cl) (Ev.bind h1 (Ev.now _))))))
        · unfold impl_SubstituteIn.f impl_areTerms.f impl_substitute.f
          exact Ev.bind (IsTerm_v n ops ho t) (Ev.pos (decide_eq_true c) (Ev.neg c6 (Ev.bind hI (Ev.pos (decide_eq_true cl) (Ev.bind h2 (Ev.now _))))))
      · refine ⟨([], false), ?_, ?_, by simp⟩
        · unfold spec_SubstituteIn.f spec_l3List.f
          exact Ev.bind (l3Takes_v n ops ho t) (Ev.pos (decide_eq_true c) (Ev.neg c6 (Ev.bind hS (Ev.neg (by rw [decide_eq_false cl]; simp) (Ev.now _)))))
        · unfold impl_SubstituteIn.f impl_areTerms.f
          exact Ev.bind (IsTerm_v n ops ho t) (Ev.pos (decide_eq_true c) (Ev.neg c6 (Ev.bind hI (Ev.neg (by rw [decide_eq_false cl]; simp) (Ev.now _)))))
  · refine ⟨([], false), ?_, ?_, by simp⟩
    · unfold spec_SubstituteIn.f
      exact Ev.bind (l3Takes_v n ops ho t) (Ev.neg (by simp only [decide_eq_true_eq]; exact c) (Ev.now _))
    · unfold impl_SubstituteIn.f
      exact Ev.bind (IsTerm_v n ops ho t) (Ev.neg (by simp only [decide_eq_true_eq]; exact c) (Ev.now _))
theorem pure (n : Int) (ops : List S64) (t : List Int) (ls : List (List Int)) (hn : I64 n) (hl : ops.length ≤ 9223372036854775807) (ho : ∀ o ∈ ops, WfOp o) (hlt : t.length ≤ 9223372036854775807) (ht : ∀ x ∈ t, I64 x) (hls : ls.length ≤ 9223372036854775807) (hlv : ∀ l ∈ ls, l.length ≤ 9223372036854775807 ∧ ∀ x ∈ l, I64 x) :
    ∃ k, laws_FnExactSubstituteIn.f k n ops t ls = some true := by
  apply Ev.rounds
  unfold laws_FnExactSubstituteIn.f
  refine Ev.cases (fun _ => Ev.now _) (fun hs' => szAlgebra_law hl ho (by omega) (by omega) fun hs left hz0 hz1 => szIntSS_law hls (fun l h => (hlv l h).1) hz0 hz1 fun hss _ _ _ => ?_)
  obtain ⟨m, hm, hm0, hm1⟩ := markAlgebra_cv n ops hs 1 (by omega) (by omega)
  obtain ⟨r, h1, h2, hr⟩ := substituteIn_v n (ops.map cvOp) (short_cv hs) t ls hss.1
  have hb := mkSS_bd ls (m.1 + (t.length : Int)) hss.2
  have hq := hss.1
  refine Ev.bind (toAlgebra_v n ops hs) (Ev.bind (toIntS_v t (by omega)) (Ev.bind (toIntSS_v ls hss) (Ev.bind h1 (Ev.bind h2 (Ev.bind (eqIntS_v _ (by omega)) (Ev.pos (by simp) (Ev.bind (eqAlgebra_cv n ops hs) (Ev.pos rfl (Ev.bind (eqIntS_v t hlt) (Ev.pos rfl (Ev.bind (eqIntSS_v ls hss) (Ev.pos rfl (Ev.bind hm (Ev.bind (markIntS_v t m.1 (by omega) (by omega) (by omega)) (Ev.bind (markIntSS_v ls hss _ (by omega) (by omega)) (Ev.pos (by show ¬ (mkSS (m.1 + (t.length : Int)) ls).1 < 0; omega) ?_))))))))))))))))
  exact Ev.bind (markIntS_v _ 1 (by omega) (by omega) (by omega)) (Ev.bind (heldIntS_v _ 1 (by omega) (by omega) (by omega)) (Ev.pos (by omega) (Ev.pos rfl (Ev.now _))))

end Go.Proofs.Ytcgkgimkpndhmaa.LFnExactSubstituteIn
