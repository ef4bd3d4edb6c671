/- The plain statement of FnExactFirstCounter: for each algebra and identity whose numbers fit 64 bits, the law's answer is true. -/
import Derived.Test.YtcgkgimkpndhmabQx19
import Derived.Test.YtcgkgimkpndhmabBase
import Derived.Test.YtcgkgimkpndhmabOpens
import Derived.Test.YtcgkgimkpndhmabTrm
import Derived.Test.YtcgkgimkpndhmabClo
namespace Go.Proofs.Ytcgkgimkpndhmab.LFnExactFirstCounter
open Go.RowKit Go.Proofs.Ytcgkgimkpndhmab.Q Go.Proofs.YtcgkgimkpndhmabW.PrintWords Go.Proofs.YtcgkgimkpndhmabW.PrintLast Go.Proofs.Ytcgkgimkpndhmab.Base Go.Proofs.Ytcgkgimkpndhmab.Opens
set_option linter.unusedVariables false
set_option linter.unusedSimpArgs false
theorem szIntS_v (l : List Int) (left : Int) (hl : l.length ≤ 9223372036854775807) (h0 : 0 ≤ left) (h1 : left ≤ 1048576) :
    ∃ r, laws_szIntS.f l left = some r ∧ (r < 0 ∨ (0 ≤ r ∧ r ≤ left ∧ l.length ≤ 1048576)) := by
  unfold laws_szIntS.f
  rw [w64 (by omega)]
  by_cases h : left - (l.length : Int) < 0
  · rw [if_pos h]; exact ⟨_, rfl, .inl (by omega)⟩
  · rw [if_neg h]; exact ⟨_, rfl, .inr (by omega)⟩
theorem szOp_v (a : Int) (l : List Int) (left : Int) (hl : l.length ≤ 9223372036854775807) (h0 : 0 ≤ left) (h1 : left ≤ 1048576) :
    ∃ r, laws_szOp.f a l left = some r ∧ (r < 0 ∨ (0 ≤ r ∧ r ≤ left ∧ l.length ≤ 1048576)) := by
  obtain ⟨r, hr, h⟩ := szIntS_v l left hl h0 h1
  unfold laws_szOp.f
  rw [hr]; simp only [Option.bind_some]
  by_cases c : r < 0
  · rw [if_pos c]; exact ⟨_, rfl, .inl (by omega)⟩
  · rw [if_neg c]; exact ⟨_, rfl, h⟩
theorem rdTL_at {ops : List S79} {q : Nat} (hq : q < ops.length) : rd_T79 ops (q : Int) = ops[q] := getD_at hq
theorem szOpS_l (ops : List S79) (hl : ops.length ≤ 9223372036854775807) (ho : ∀ o ∈ ops, o.f1.length ≤ 9223372036854775807) : ∀ (d j : Nat) (left : Int), j + d = ops.length → 0 ≤ left → left ≤ 1048576 →
    ∃ r, Ev (fun k => laws_szOpS.l0 k ops left (j : Int)) r ∧ (r < 0 ∨ (0 ≤ r ∧ r ≤ left ∧ ∀ o ∈ ops.drop j, o.f1.length ≤ 1048576)) := by
  intro d
  induction d with
  | zero =>
    intro j left hj h0 h1
    refine ⟨left, Ev.succ ?_, .inr ⟨h0, Int.le_refl _, ?_⟩⟩
    · simp only [laws_szOpS.l0]
      exact Ev.neg (by omega) (Ev.now _)
    · rw [List.drop_of_length_le (by omega)]; simp
  | succ d ih =>
    intro j left hj h0 h1
    have hlt : j < ops.length := by omega
    obtain ⟨r, hr, h⟩ := szOp_v ops[j].f0 ops[j].f1 left (ho _ (List.getElem_mem hlt)) h0 h1
    by_cases c : r < 0
    · refine ⟨-1, Ev.succ ?_, .inl (by omega)⟩
      simp only [laws_szOpS.l0, rdTL_at hlt]
      exact Ev.pos (by omega) (Ev.pos (by omega) (Ev.bound hr (Ev.pos c (Ev.now _))))
    · obtain ⟨h2, h3, h4⟩ : 0 ≤ r ∧ r ≤ left ∧ ops[j].f1.length ≤ 1048576 := by omega
      obtain ⟨r', hr', h'⟩ := ih (j + 1) r (by omega) h2 (by omega)
      refine ⟨r', Ev.succ ?_, ?_⟩
      · simp only [laws_szOpS.l0, rdTL_at hlt, w64s hlt hl]
        exact Ev.pos (by omega) (Ev.pos (by omega) (Ev.bound hr (Ev.neg c hr')))
      · rcases h' with h' | ⟨h5, h6, h7⟩
        · exact .inl h'
        · refine .inr ⟨h5, by omega, ?_⟩
          rw [drop_cons hlt]
          intro o ho'
          rcases List.mem_cons.1 ho' with rfl | ho'
          · exact h4
          · exact h7 o ho'
def SmallA (ops : List S79) : Prop := ops.length ≤ 1048576 ∧ ∀ o ∈ ops, o.f1.length ≤ 1048576
theorem szOpS_v (ops : List S79) (left : Int) (hl : ops.length ≤ 9223372036854775807) (ho : ∀ o ∈ ops, o.f1.length ≤ 9223372036854775807) (h0 : 0 ≤ left) (h1 : left ≤ 1048576) :
    ∃ r, Ev (fun k => laws_szOpS.f k ops left) r ∧ (r < 0 ∨ (0 ≤ r ∧ r ≤ left ∧ SmallA ops)) := by
  by_cases c : left - (ops.length : Int) < 0
  · refine ⟨-1, ?_, .inl (by omega)⟩
    unfold laws_szOpS.f
    rw [w64 (by omega)]
    exact Ev.pos c (Ev.now _)
  · obtain ⟨r, hr, h⟩ := szOpS_l ops hl ho ops.length 0 (left - (ops.length : Int)) (by omega) (by omega) (by omega)
    refine ⟨r, ?_, ?_⟩
    · unfold laws_szOpS.f
      rw [w64 (by omega)]
      exact Ev.neg c hr
    · rcases h with h | ⟨h2, h3, h4⟩
      · exact .inl h
      · exact .inr ⟨h2, by omega, by omega, h4⟩
theorem szAlgebra_v (n : Int) (ops : List S79) (left : Int) (hl : ops.length ≤ 9223372036854775807) (ho : ∀ o ∈ ops, o.f1.length ≤ 9223372036854775807) (h0 : 0 ≤ left) (h1 : left ≤ 1048576) :
    ∃ r, Ev (fun k => laws_szAlgebra.f k n ops left) r ∧ (r < 0 ∨ (0 ≤ r ∧ r ≤ left ∧ SmallA ops)) := by
  obtain ⟨r, hr, h⟩ := szOpS_v ops left hl ho h0 h1
  by_cases c : r < 0
  · refine ⟨-1, ?_, .inl (by omega)⟩
    unfold laws_szAlgebra.f
    exact Ev.bind hr (Ev.pos c (Ev.now _))
  · refine ⟨r, ?_, h⟩
    unfold laws_szAlgebra.f
    exact Ev.bind hr (Ev.neg c (Ev.now _))
theorem toIntS_l (l : List Int) (hl : l.length ≤ 1048576) : ∀ (d j : Nat), j + d = l.length → Ev (fun k => laws_toIntS.l0 k l (l.take j ++ List.replicate d 0) (j : Int)) l := by
  intro d
  induction d with
  | zero =>
    intro j hj
    refine Ev.succ ?_
    simp only [laws_toIntS.l0]
    refine Ev.neg (by omega) (Ev.const ?_)
    rw [List.take_of_length_le (by omega)]; simp
  | succ d ih =>
    intro j hj
    have hlt : j < l.length := by omega
    refine Ev.succ ?_
    simp only [laws_toIntS.l0, rd_at hlt, w64s hlt (by omega : l.length ≤ 9223372036854775807), Int.toNat_natCast]
    refine Ev.pos (by omega) (Ev.pos (by omega) (Ev.pos (by simp; omega) ?_))
    rw [List.replicate_succ, set_mid _ _ _ _ j (by simp; omega)]
    have := ih (j + 1) (by omega)
    rw [take_snoc hlt, List.append_assoc] at this
    exact this
theorem toIntS_v (l : List Int) (hl : l.length ≤ 1048576) : Ev (fun k => laws_toIntS.f k l) l := by
  unfold laws_toIntS.f
  rw [Int.toNat_natCast]
  exact Ev.pos (by omega) (Ev.pos (by omega) (toIntS_l l hl l.length 0 (by omega)))
theorem toOp_v (a : Int) (l : List Int) (hl : l.length ≤ 1048576) : Ev (fun k => laws_toOp.f k a l) (a, l) := by
  unfold laws_toOp.f
  exact Ev.bind (toIntS_v l hl) (Ev.now _)
def cvOp (o : S79) : S75 := ⟨o.f0, o.f1⟩
theorem toOpS_l (ops : List S79) (hl : ops.length ≤ 1048576) (ho : ∀ o ∈ ops, o.f1.length ≤ 1048576) : ∀ (d j : Nat), j + d = ops.length → Ev (fun k => laws_toOpS.l0 k ops ((ops.map cvOp).take j ++ List.replicate d z75) (j : Int)) (ops.map cvOp) := by
  intro d
  induction d with
  | zero =>
    intro j hj
    refine Ev.succ ?_
    simp only [laws_toOpS.l0]
    refine Ev.neg (by omega) (Ev.const ?_)
    rw [List.take_of_length_le (by simp; omega)]; simp
  | succ d ih =>
    intro j hj
    have hlt : j < ops.length := by omega
    have hlt' : j < (ops.map cvOp).length := by simpa using hlt
    refine Ev.succ ?_
    simp only [laws_toOpS.l0, rdTL_at hlt, w64s hlt (by omega : ops.length ≤ 9223372036854775807), Int.toNat_natCast]
    refine Ev.pos (by omega) (Ev.pos (by omega) (Ev.bind (toOp_v _ _ (ho _ (List.getElem_mem hlt))) (Ev.pos (by simp; omega) ?_)))
    rw [List.replicate_succ, set_mid _ _ _ _ j (by simp; omega)]
    have := ih (j + 1) (by omega)
    rw [take_snoc hlt', List.append_assoc, List.getElem_map] at this
    exact this
theorem toOpS_v (ops : List S79) (h : SmallA ops) : Ev (fun k => laws_toOpS.f k ops) (ops.map cvOp) := by
  unfold laws_toOpS.f
  rw [Int.toNat_natCast]
  exact Ev.pos (by omega) (Ev.pos (by have := h.1; omega) (toOpS_l ops h.1 h.2 ops.length 0 (by omega)))
theorem toAlgebra_v (n : Int) (ops : List S79) (h : SmallA ops) : Ev (fun k => laws_toAlgebra.f k n ops) (n, ops.map cvOp) := by
  unfold laws_toAlgebra.f
  exact Ev.bind (toOpS_v ops h) (Ev.now _)
theorem eqIntS_l (l : List Int) (hl : l.length ≤ 9223372036854775807) : ∀ (d j : Nat), j + d = l.length → Ev (fun k => laws_eqIntS.l0 k l l (j : Int)) true := by
  intro d
  induction d with
  | zero =>
    intro j hj
    refine Ev.succ ?_
    simp only [laws_eqIntS.l0]
    exact Ev.neg (by omega) (Ev.now _)
  | succ d ih =>
    intro j hj
    have hlt : j < l.length := by omega
    refine Ev.succ ?_
    simp only [laws_eqIntS.l0, w64s hlt hl]
    exact Ev.pos (by omega) (Ev.pos (by omega) (Ev.pos (by omega) (Ev.pos trivial (ih (j + 1) (by omega)))))
theorem eqIntS_v (l : List Int) (hl : l.length ≤ 9223372036854775807) : Ev (fun k => laws_eqIntS.f k l l) true := by
  unfold laws_eqIntS.f
  exact Ev.pos rfl (eqIntS_l l hl l.length 0 (by omega))
theorem eqOp_v (a : Int) (l : List Int) (hl : l.length ≤ 9223372036854775807) : Ev (fun k => laws_eqOp.f k a l a l) true := by
  unfold laws_eqOp.f
  exact Ev.pos rfl (Ev.bind (eqIntS_v l hl) (Ev.pos rfl (Ev.now _)))
theorem rdT_at {ops : List S75} {q : Nat} (hq : q < ops.length) : rd_T75 ops (q : Int) = ops[q] := getD_at hq
theorem eqOpS_l (l : List S75) (hl : l.length ≤ 9223372036854775807) (ho : ∀ o ∈ l, o.f1.length ≤ 9223372036854775807) : ∀ (d j : Nat), j + d = l.length → Ev (fun k => laws_eqOpS.l0 k l l (j : Int)) true := by
  intro d
  induction d with
  | zero =>
    intro j hj
    refine Ev.succ ?_
    simp only [laws_eqOpS.l0]
    exact Ev.neg (by omega) (Ev.now _)
  | succ d ih =>
    intro j hj
    have hlt : j < l.length := by omega
    refine Ev.succ ?_
    simp only [laws_eqOpS.l0, rdT_at hlt, w64s hlt hl]
    exact Ev.pos (by omega) (Ev.pos (by omega) (Ev.pos (by omega) (Ev.bind (eqOp_v _ _ (ho _ (List.getElem_mem hlt))) (Ev.pos rfl (ih (j + 1) (by omega))))))
theorem eqOpS_v (l : List S75) (hl : l.length ≤ 9223372036854775807) (ho : ∀ o ∈ l, o.f1.length ≤ 9223372036854775807) : Ev (fun k => laws_eqOpS.f k l l) true := by
  unfold laws_eqOpS.f
  exact Ev.pos rfl (eqOpS_l l hl ho l.length 0 (by omega))
theorem eqAlgebra_v (n : Int) (l : List S75) (hl : l.length ≤ 9223372036854775807) (ho : ∀ o ∈ l, o.f1.length ≤ 9223372036854775807) : Ev (fun k => laws_eqAlgebra.f k n l n l) true := by
  unfold laws_eqAlgebra.f
  exact Ev.pos rfl (Ev.bind (eqOpS_v l hl ho) (Ev.pos rfl (Ev.now _)))
theorem eqAlgebra_cv (n : Int) (ops : List S79) (h : SmallA ops) : Ev (fun k => laws_eqAlgebra.f k n (ops.map cvOp) n (ops.map cvOp)) true := by
  refine eqAlgebra_v n _ (by have := h.1; simp; omega) ?_
  intro o ho
  obtain ⟨q, hq, rfl⟩ := List.mem_map.1 ho
  have := h.2 q hq
  show q.f1.length ≤ _
  omega
theorem l1In_v (a b c : Int) : spec_l1In.f a b c = some (decide (b ≤ a ∧ a ≤ c)) := by
  unfold spec_l1In.f
  by_cases h : a ≥ b
  · rw [if_pos h]; congr 1; exact decide_eq_decide.2 ⟨fun k => ⟨h, k⟩, fun k => k.2⟩
  · rw [if_neg h]; congr 1; exact (decide_eq_false (fun k => h k.1)).symm
theorem l1In_yes {a b c : Int} (h : b ≤ a ∧ a ≤ c) : spec_l1In.f a b c = some true := by rw [l1In_v, decide_eq_true h]
theorem l1In_no {a b c : Int} (h : ¬ (b ≤ a ∧ a ≤ c)) : spec_l1In.f a b c = some false := by rw [l1In_v, decide_eq_false h]
theorem pow_bd {n : Int} (h1 : 1 ≤ n) (h8 : n ≤ 8) : ∀ {i : Nat}, i ≤ 6 → 1 ≤ n ^ i ∧ n ^ i ≤ 262144 := by
  intro i hi
  obtain ⟨m, rfl⟩ := int_nat (show 0 ≤ n by omega)
  have e : ((m : Int)) ^ i = ((m ^ i : Nat) : Int) := by rw [Int.natCast_pow]
  rw [e]
  have a1 : m ^ i ≤ 8 ^ i := Nat.pow_le_pow_left (by omega) i
  have a2 : (8 : Nat) ^ i ≤ 8 ^ 6 := Nat.pow_le_pow_right (by omega) hi
  have a3 : 0 < m ^ i := Nat.pow_pos (by omega)
  have a4 : (8 : Nat) ^ 6 = 262144 := by decide
  omega
theorem pow_next (n : Int) (i : Nat) : n ^ (i + 1) = n ^ i * n := Int.pow_succ n i
def okOp (n a : Int) (l : List Int) : Prop := 0 ≤ a ∧ a ≤ 3 ∧ (l.length : Int) = n ^ a.toNat ∧ ∀ x ∈ l, 0 ≤ x ∧ x < n
instance (n a : Int) (l : List Int) : Decidable (okOp n a l) := by unfold okOp; infer_instance
def okAlg (n : Int) (ops : List S75) : Prop := 1 ≤ n ∧ n ≤ 8 ∧ ops.length ≤ 4 ∧ ∀ o ∈ ops, okOp n o.f0 o.f1
instance (n : Int) (ops : List S75) : Decidable (okAlg n ops) := by unfold okAlg; infer_instance
theorem all_drop {P : Int → Prop} {l : List Int} {j : Nat} (h : j < l.length) : (∀ x ∈ l.drop j, P x) ↔ P l[j] ∧ ∀ x ∈ l.drop (j + 1), P x := by
  rw [drop_cons h, List.forall_mem_cons]
theorem allOp_drop {P : S75 → Prop} {l : List S75} {j : Nat} (h : j < l.length) : (∀ x ∈ l.drop j, P x) ↔ P l[j] ∧ ∀ x ∈ l.drop (j + 1), P x := by
  rw [drop_cons h, List.forall_mem_cons]
theorem l2Pow_l {n : Int} (h1 : 1 ≤ n) (h8 : n ≤ 8) : ∀ (d i : Nat), i + d ≤ 6 → Ev (fun k => spec_l2Pow.l0 k n (d : Int) (n ^ i)) (n ^ (i + d)) := by
  intro d
  induction d with
  | zero =>
    intro i hi
    refine Ev.succ ?_
    simp only [spec_l2Pow.l0]
    exact Ev.neg (by omega) (Ev.now _)
  | succ d ih =>
    intro i hi
    have hp := pow_bd h1 h8 (show i + 1 ≤ 6 by omega)
    refine Ev.succ ?_
    simp only [spec_l2Pow.l0]
    rw [← pow_next, w64 (by omega), w64 (by omega), show ((d + 1 : Nat) : Int) - 1 = (d : Int) by omega]
    refine Ev.pos (by omega) ?_
    have := ih (i + 1) (by omega)
    rwa [show i + 1 + d = i + (d + 1) by omega] at this
theorem l2Pow_v {n e : Int} (h1 : 1 ≤ n) (h8 : n ≤ 8) (h0 : 0 ≤ e) (h6 : e ≤ 6) : Ev (fun k => spec_l2Pow.f k n e) (n ^ e.toNat) := by
  obtain ⟨d, rfl⟩ := int_nat h0
  have := l2Pow_l h1 h8 d 0 (by omega)
  rw [Nat.zero_add, Int.pow_zero] at this
  rw [Int.toNat_natCast]
  exact this
theorem power_l {n : Int} (h1 : 1 ≤ n) (h8 : n ≤ 8) : ∀ (d i : Nat), i + d ≤ 6 → Ev (fun k => impl_power.l0 k n (d : Int) (n ^ i)) (n ^ (i + d)) := by
  intro d
  induction d with
  | zero =>
    intro i hi
    refine Ev.succ ?_
    simp only [impl_power.l0]
    exact Ev.neg (by omega) (Ev.now _)
  | succ d ih =>
    intro i hi
    have hp := pow_bd h1 h8 (show i + 1 ≤ 6 by omega)
    refine Ev.succ ?_
    simp only [impl_power.l0]
    rw [← pow_next, w64 (by omega), w64 (by omega), show ((d + 1 : Nat) : Int) - 1 = (d : Int) by omega]
    refine Ev.pos (by omega) ?_
    have := ih (i + 1) (by omega)
    rwa [show i + 1 + d = i + (d + 1) by omega] at this
theorem power_v {n e : Int} (h1 : 1 ≤ n) (h8 : n ≤ 8) (h0 : 0 ≤ e) (h6 : e ≤ 6) : Ev (fun k => impl_power.f k n e) (n ^ e.toNat) := by
  obtain ⟨d, rfl⟩ := int_nat h0
  have := power_l h1 h8 d 0 (by omega)
  rw [Nat.zero_add, Int.pow_zero] at this
  rw [Int.toNat_natCast]
  exact this
theorem l2Op_l {n a : Int} (l : List Int) (h1 : 1 ≤ n) (h8 : n ≤ 8) (hl : l.length ≤ 9223372036854775807) : ∀ (d j : Nat), j + d = l.length →
    Ev (fun k => spec_l2Op.l0 k n (j : Int) a l) (decide (∀ x ∈ l.drop j, 0 ≤ x ∧ x < n)) := by
  intro d
  induction d with
  | zero =>
    intro j hj
    refine Ev.succ ?_
    simp only [spec_l2Op.l0]
    refine Ev.neg (by omega) (Ev.const ?_)
    rw [List.drop_of_length_le (by omega)]; simp
  | succ d ih =>
    intro j hj
    have hlt : j < l.length := by omega
    refine Ev.succ ?_
    simp only [spec_l2Op.l0, rd_at hlt, w64s hlt hl]
    refine Ev.pos (by omega) (Ev.pos (by omega) ?_)
    by_cases c : 0 ≤ l[j] ∧ l[j] < n
    · refine Ev.bound (l1In_yes ?_) (Ev.pos rfl ?_)
      · rw [w64 (by omega)]; omega
      · refine Ev.eq (ih (j + 1) (by omega)) (decide_eq_decide.2 ?_)
        rw [all_drop hlt]
        exact ⟨fun h => ⟨c, h⟩, fun h => h.2⟩
    · refine Ev.bound (l1In_no ?_) (Ev.neg (by simp) (Ev.const ?_))
      · rw [w64 (by omega)]; omega
      · congr 1
        refine (decide_eq_false fun h => c ?_).symm
        exact ((all_drop hlt).1 h).1
theorem l2Op_v {n : Int} (a : Int) (l : List Int) (h1 : 1 ≤ n) (h8 : n ≤ 8) (hl : l.length ≤ 9223372036854775807) : Ev (fun k => spec_l2Op.f k n a l) (decide (okOp n a l)) := by
  unfold spec_l2Op.f
  by_cases c : 0 ≤ a ∧ a ≤ 3
  · refine Ev.bound (l1In_yes c) (Ev.pos rfl (Ev.bind (l2Pow_v h1 h8 c.1 (by omega)) (Ev.succ ?_)))
    simp only [spec_l2Op.j0]
    by_cases e : (l.length : Int) = n ^ a.toNat
    · refine Ev.neg (by simp [e]) (Ev.eq (l2Op_l l h1 h8 hl l.length 0 (by omega)) (decide_eq_decide.2 ?_))
      exact ⟨fun h => ⟨c.1, c.2, e, h⟩, fun h => h.2.2.2⟩
    · refine Ev.pos (by simp [e]) (Ev.const ?_)
      rw [decide_eq_false fun h => e h.2.2.1]
  · refine Ev.bound (l1In_no c) (Ev.neg (by simp) (Ev.succ ?_))
    simp only [spec_l2Op.j0]
    refine Ev.pos (by simp) (Ev.const ?_)
    rw [decide_eq_false fun h => c ⟨h.1, h.2.1⟩]
theorem l2Good_l {n : Int} (ops : List S75) (h1 : 1 ≤ n) (h8 : n ≤ 8) (hl : ops.length ≤ 4) (ho : ∀ o ∈ ops, o.f1.length ≤ 9223372036854775807) : ∀ (d j : Nat), j + d = ops.length →
    Ev (fun k => spec_l2Good.l0 k (j : Int) n ops) (decide (∀ o ∈ ops.drop j, okOp n o.f0 o.f1)) := by
  intro d
  induction d with
  | zero =>
    intro j hj
    refine Ev.succ ?_
    simp only [spec_l2Good.l0]
    refine Ev.neg (by omega) (Ev.const ?_)
    rw [List.drop_of_length_le (by omega)]; simp
  | succ d ih =>
    intro j hj
    have hlt : j < ops.length := by omega
    refine Ev.succ ?_
    simp only [spec_l2Good.l0, rdT_at hlt, w64s hlt (by omega : ops.length ≤ 9223372036854775807)]
    refine Ev.pos (by omega) (Ev.pos (by omega) (Ev.bind (l2Op_v _ _ h1 h8 (ho _ (List.getElem_mem hlt))) ?_))
    by_cases c : okOp n ops[j].f0 ops[j].f1
    · refine Ev.pos (decide_eq_true c) (Ev.eq (ih (j + 1) (by omega)) (decide_eq_decide.2 ?_))
      rw [allOp_drop hlt]
      exact ⟨fun h => ⟨c, h⟩, fun h => h.2⟩
    · refine Ev.neg (by simp [c]) (Ev.const ?_)
      congr 1
      exact (decide_eq_false fun h => c ((allOp_drop hlt).1 h).1).symm
theorem l2Good_v (n : Int) (ops : List S75) (ho : ∀ o ∈ ops, o.f1.length ≤ 9223372036854775807) : Ev (fun k => spec_l2Good.f k n ops) (decide (okAlg n ops)) := by
  unfold spec_l2Good.f
  by_cases c : 1 ≤ n ∧ n ≤ 8
  · refine Ev.bound (l1In_yes c) (Ev.pos rfl (Ev.succ ?_))
    simp only [spec_l2Good.j0]
    by_cases e : ops.length ≤ 4
    · refine Ev.neg (by simp; omega) (Ev.eq (l2Good_l ops c.1 c.2 e ho ops.length 0 (by omega)) (decide_eq_decide.2 ?_))
      exact ⟨fun h => ⟨c.1, c.2, e, h⟩, fun h => h.2.2.2⟩
    · refine Ev.pos (by simp; omega) (Ev.const ?_)
      rw [decide_eq_false fun h => e h.2.2.1]
  · refine Ev.bound (l1In_no c) (Ev.neg (by simp) (Ev.succ ?_))
    simp only [spec_l2Good.j0]
    refine Ev.pos (by simp) (Ev.const ?_)
    rw [decide_eq_false fun h => c ⟨h.1, h.2.1⟩]
theorem inSize_l {n : Int} (l : List Int) (hl : l.length ≤ 9223372036854775807) : ∀ (d j : Nat), j + d = l.length →
    Ev (fun k => impl_inSize.l0 k n l (l.length : Int) (j : Int)) (decide (∀ x ∈ l.drop j, 0 ≤ x ∧ x < n)) := by
  intro d
  induction d with
  | zero =>
    intro j hj
    refine Ev.succ ?_
    simp only [impl_inSize.l0]
    refine Ev.neg (by omega) (Ev.const ?_)
    rw [List.drop_of_length_le (by omega)]; simp
  | succ d ih =>
    intro j hj
    have hlt : j < l.length := by omega
    refine Ev.succ ?_
    simp only [impl_inSize.l0, rd_at hlt, w64s hlt hl]
    refine Ev.pos (by omega) (Ev.pos (by omega) (Ev.pos (by omega) (Ev.cases (fun c => ?_) (fun c => Ev.cases (fun c' => ?_) (fun c' => ?_)))))
    · refine Ev.const ?_
      congr 1
      exact (decide_eq_false fun h => by have := ((all_drop hlt).1 h).1; omega).symm
    · refine Ev.const ?_
      congr 1
      exact (decide_eq_false fun h => by have := ((all_drop hlt).1 h).1; omega).symm
    · refine Ev.eq (ih (j + 1) (by omega)) (decide_eq_decide.2 ?_)
      rw [all_drop hlt]
      exact ⟨fun h => ⟨by omega, h⟩, fun h => h.2⟩
theorem inSize_v (l : List Int) (n : Int) (hl : l.length ≤ 9223372036854775807) : Ev (fun k => impl_inSize.f k l n) (decide (∀ x ∈ l, 0 ≤ x ∧ x < n)) :=
  inSize_l l hl l.length 0 (by omega)
theorem isOp_v {n : Int} (a : Int) (l : List Int) (h1 : 1 ≤ n) (h8 : n ≤ 8) (hl : l.length ≤ 9223372036854775807) : Ev (fun k => impl_isOp.f k a l n) (decide (okOp n a l)) := by
  unfold impl_isOp.f
  refine Ev.cases (fun c => Ev.cases (fun c' => Ev.bind (power_v h1 h8 c (by omega)) (Ev.cases (fun e => Ev.bind (inSize_v l n hl) (Ev.const ?_)) (fun e => Ev.const ?_))) (fun c' => Ev.const ?_)) (fun c => Ev.const ?_)
  · congr 1
    exact decide_eq_decide.2 ⟨fun h => ⟨c, c', e, h⟩, fun h => h.2.2.2⟩
  · rw [decide_eq_false fun h => e h.2.2.1]
  · rw [decide_eq_false fun h => c' h.2.1]
  · rw [decide_eq_false fun h => c h.1]
theorem implIsAlgebra_l {n : Int} (ops : List S75) (h1 : 1 ≤ n) (h8 : n ≤ 8) (hl : ops.length ≤ 4) (ho : ∀ o ∈ ops, o.f1.length ≤ 9223372036854775807) : ∀ (d j : Nat), j + d = ops.length →
    Ev (fun k => impl_IsAlgebra.l0 k ops (ops.length : Int) (j : Int) n ops) (decide (∀ o ∈ ops.drop j, okOp n o.f0 o.f1)) := by
  intro d
  induction d with
  | zero =>
    intro j hj
    refine Ev.succ ?_
    simp only [impl_IsAlgebra.l0]
    refine Ev.neg (by omega) (Ev.const ?_)
    rw [List.drop_of_length_le (by omega)]; simp
  | succ d ih =>
    intro j hj
    have hlt : j < ops.length := by omega
    refine Ev.succ ?_
    simp only [impl_IsAlgebra.l0, rdT_at hlt, w64s hlt (by omega : ops.length ≤ 9223372036854775807)]
    refine Ev.pos (by omega) (Ev.pos (by omega) (Ev.pos (by omega) (Ev.bind (isOp_v _ _ h1 h8 (ho _ (List.getElem_mem hlt))) ?_)))
    by_cases c : okOp n ops[j].f0 ops[j].f1
    · refine Ev.pos (decide_eq_true c) (Ev.eq (ih (j + 1) (by omega)) (decide_eq_decide.2 ?_))
      rw [allOp_drop hlt]
      exact ⟨fun h => ⟨c, h⟩, fun h => h.2⟩
    · refine Ev.neg (by simp [c]) (Ev.const ?_)
      congr 1
      exact (decide_eq_false fun h => c ((allOp_drop hlt).1 h).1).symm
theorem implIsAlgebra_v (n : Int) (ops : List S75) (ho : ∀ o ∈ ops, o.f1.length ≤ 9223372036854775807) : Ev (fun k => impl_IsAlgebra.f k n ops) (decide (okAlg n ops)) := by
  unfold impl_IsAlgebra.f
  refine Ev.cases (fun c => Ev.succ ?_) (fun c => Ev.cases (fun c' => Ev.succ ?_) (fun c' => Ev.succ ?_))
  · simp only [impl_IsAlgebra.j0]
    refine Ev.pos trivial (Ev.const ?_)
    rw [decide_eq_false fun h => by have := h.1; omega]
  · simp only [impl_IsAlgebra.j0]
    refine Ev.pos trivial (Ev.const ?_)
    rw [decide_eq_false fun h => by have := h.2.1; omega]
  · simp only [impl_IsAlgebra.j0]
    by_cases e : ops.length ≤ 4
    · refine Ev.neg (by simp; omega) (Ev.eq (implIsAlgebra_l ops (by omega) (by omega) e ho ops.length 0 (by omega)) (decide_eq_decide.2 ?_))
      exact ⟨fun h => ⟨by omega, by omega, e, h⟩, fun h => h.2.2.2⟩
    · refine Ev.pos (by simp; omega) (Ev.const ?_)
      rw [decide_eq_false fun h => e h.2.2.1]
def ixF (n i : Int) (l : List Int) : Int := l.foldl (fun i x => i * n + x) i
theorem ix_step {n : Int} (h1 : 1 ≤ n) (h8 : n ≤ 8) {i x : Int} {j : Nat} (hj : j ≤ 5) (h0 : 0 ≤ i) (hi : i < n ^ j) (hx : 0 ≤ x ∧ x < n) :
    0 ≤ i * n + x ∧ i * n + x < n ^ (j + 1) ∧ wrap64 (wrap64 (i * n) + x) = i * n + x := by
  have hp := pow_bd h1 h8 (show j + 1 ≤ 6 by omega)
  have a := Int.mul_le_mul_of_nonneg_right (show i + 1 ≤ n ^ j by omega) (show 0 ≤ n by omega)
  rw [← pow_next, Int.add_mul, Int.one_mul] at a
  have b : 0 ≤ i * n := Int.mul_nonneg h0 (by omega)
  refine ⟨by omega, by omega, ?_⟩
  rw [w64 (n := i * n) (by omega), w64 (by omega)]
theorem ix_bd {n : Int} (h1 : 1 ≤ n) (h8 : n ≤ 8) : ∀ (l : List Int) (i : Int) (j : Nat), j + l.length ≤ 6 → (∀ x ∈ l, 0 ≤ x ∧ x < n) → 0 ≤ i → i < n ^ j → 0 ≤ ixF n i l ∧ ixF n i l < n ^ (j + l.length) := by
  intro l
  induction l with
  | nil => intro i j _ _ h0 hi; exact ⟨h0, hi⟩
  | cons x l ih =>
    intro i j hj hx h0 hi
    rw [List.length_cons] at hj
    obtain ⟨a, b, _⟩ := ix_step h1 h8 (show j ≤ 5 by omega) h0 hi (hx x (by simp))
    have := ih (i * n + x) (j + 1) (by omega) (fun y hy => hx y (by simp [hy])) a b
    rw [List.length_cons, show j + (l.length + 1) = j + 1 + l.length by omega]
    exact this
theorem okAlg_op {n : Int} {ops : List S75} (h : okAlg n ops) {q : Nat} (hq : q < ops.length) : okOp n ops[q].f0 ops[q].f1 := h.2.2.2 _ (List.getElem_mem hq)
theorem rd_in {n : Int} {l : List Int} (h : ∀ x ∈ l, 0 ≤ x ∧ x < n) {i : Int} (h0 : 0 ≤ i) (h1 : i < l.length) : 0 ≤ rd l i ∧ rd l i < n := by
  obtain ⟨m, rfl⟩ := int_nat h0
  rw [rd_at (by omega)]
  exact h _ (List.getElem_mem _)
theorem l2Value_l {n : Int} {ops : List S75} (h1 : 1 ≤ n) (h8 : n ≤ 8) {q : Nat} (hq : q < ops.length) (args : List Int) (ha : ∀ x ∈ args, 0 ≤ x ∧ x < n) (h3 : args.length ≤ 3) (hT : (ops[q].f1.length : Int) = n ^ args.length) :
    ∀ (d j : Nat) (i : Int), j + d = args.length → 0 ≤ i → i < n ^ j → Ev (fun k => spec_l2Value.l0 k (q : Int) args i (j : Int) n ops) (rd ops[q].f1 (ixF n i (args.drop j))) := by
  intro d
  induction d with
  | zero =>
    intro j i hj h0 hi
    obtain rfl : j = args.length := by omega
    refine Ev.succ ?_
    simp only [spec_l2Value.l0, rdT_at hq]
    refine Ev.neg (by omega) (Ev.pos (by omega) (Ev.pos (by omega) (Ev.pos h0 (Ev.pos (by rw [hT]; exact hi) (Ev.const ?_)))))
    rw [List.drop_length]; rfl
  | succ d ih =>
    intro j i hj h0 hi
    have hlt : j < args.length := by omega
    obtain ⟨a, b, e⟩ := ix_step h1 h8 (show j ≤ 5 by omega) h0 hi (ha _ (List.getElem_mem hlt))
    refine Ev.succ ?_
    simp only [spec_l2Value.l0, rd_at hlt, w64s hlt (by omega : args.length ≤ 9223372036854775807), e]
    refine Ev.pos (by omega) (Ev.pos (by omega) ?_)
    rw [drop_cons hlt]
    exact ih (j + 1) _ (by omega) a b
theorem l2Value_v {n : Int} {ops : List S75} (h : okAlg n ops) {q : Nat} (hq : q < ops.length) (args : List Int) (ha : ∀ x ∈ args, 0 ≤ x ∧ x < n) (hl : (args.length : Int) = ops[q].f0) :
    Ev (fun k => spec_l2Value.f k n ops (q : Int) args) (rd ops[q].f1 (ixF n 0 args)) := by
  obtain ⟨a, b, c, _⟩ := okAlg_op h hq
  rw [← hl, Int.toNat_natCast] at c
  exact l2Value_l h.1 h.2.1 hq args ha (by omega) c args.length 0 0 (by omega) (by omega) (by simp)
def WfOp (o : S79) : Prop := I64 o.f0 ∧ o.f1.length ≤ 9223372036854775807 ∧ ∀ x ∈ o.f1, I64 x
theorem short_cv {ops : List S79} (h : SmallA ops) : ∀ o ∈ ops.map cvOp, o.f1.length ≤ 9223372036854775807 := by
  intro o ho
  obtain ⟨q, hq, rfl⟩ := List.mem_map.1 ho
  have := h.2 q hq
  show q.f1.length ≤ _
  omega
theorem szAlgebra_law {g : Nat → Int → Option Bool} {n : Int} {ops : List S79} {left : Int} (hl : ops.length ≤ 9223372036854775807) (ho : ∀ o ∈ ops, WfOp o) (h0 : 0 ≤ left) (h1 : left ≤ 1048576)
    (h : SmallA ops → ∀ r, 0 ≤ r → r ≤ 1048576 → Ev (fun k => g k r) true) : Ev (fun k => (laws_szAlgebra.f k n ops left).bind fun t => if t < 0 then some true else g k t) true := by
  obtain ⟨r, hr, c⟩ := szAlgebra_v n ops left hl (fun o h => (ho o h).2.1) h0 h1
  refine Ev.bind hr (Ev.cases (fun _ => Ev.now _) (fun d => h ?_ r (by omega) (by omega)))
  rcases c with c | c
  · omega
  · exact c.2.2
def arOf (ops : List S75) (x : Int) : Option Nat := if x ≥ 6 then none else if x ≥ 0 then some 0 else if x < -(ops.length : Int) then none else some (rd_T75 ops (-1 - x)).f0.toNat
def endRes (j : Nat) : Option Nat → Int
  | none => -1
  | some e => (j : Int) + (e : Int)
theorem endRes_map (j : Nat) (o : Option Nat) : endRes j (o.map (· + 1)) = endRes (j + 1) o := by
  cases o with
  | none => rfl
  | some e => simp [endRes]; omega
def SmallAr (ops : List S75) : Prop := ops.length ≤ 4 ∧ ∀ o ∈ ops, 0 ≤ o.f0 ∧ o.f0 ≤ 3
theorem okAlg_small {n : Int} {ops : List S75} (h : okAlg n ops) : SmallAr ops := ⟨h.2.2.1, fun o ho => ⟨(h.2.2.2 o ho).1, (h.2.2.2 o ho).2.1⟩⟩
theorem arOf_op {ops : List S75} (hs : SmallAr ops) {x : Int} (h0 : x < 0) (h1 : -(ops.length : Int) ≤ x) :
    ∃ a : Nat, a ≤ 3 ∧ arOf ops x = some a ∧ (rd_T75 ops (-1 - x)).f0 = (a : Int) := by
  obtain ⟨q, hq⟩ := int_nat (show 0 ≤ -1 - x by omega)
  have hlt : q < ops.length := by omega
  have ho := hs.2 _ (List.getElem_mem hlt)
  obtain ⟨a, ha⟩ := int_nat ho.1
  have e : (rd_T75 ops (-1 - x)).f0 = (a : Int) := by rw [hq, rdT_at hlt]; exact ha
  refine ⟨a, by omega, ?_, e⟩
  unfold arOf
  rw [if_neg (by omega), if_neg (by omega), if_neg (by omega), e, Int.toNat_natCast]
theorem endOf_l {n : Int} {ops : List S75} (hs : SmallAr ops) (t : List Int) (ht : t.length ≤ 60) : ∀ (d j m : Nat), j + d = t.length → m ≤ 2 * j + 1 →
    Ev (fun k => impl_endOf.l0 k t (j : Int) (m : Int) n ops) (endRes j (Go.Proofs.Ytcgkgimkpndhmab.Trm.eat (arOf ops) (t.drop j) m)) := by
  have h4 := hs.1
  intro d
  induction d with
  | zero =>
    intro j m hj hm
    refine Ev.succ ?_
    simp only [impl_endOf.l0]
    cases m with
    | zero =>
      refine Ev.neg (by omega) (Ev.const ?_)
      rw [Go.Proofs.Ytcgkgimkpndhmab.Trm.eat_zero]; simp [endRes]
    | succ m =>
      refine Ev.pos (by omega) (Ev.pos (by omega) (Ev.const ?_))
      rw [List.drop_of_length_le (by omega), Go.Proofs.Ytcgkgimkpndhmab.Trm.eat_nil]; rfl
  | succ d ih =>
    intro j m hj hm
    refine Ev.succ ?_
    simp only [impl_endOf.l0]
    cases m with
    | zero =>
      refine Ev.neg (by omega) (Ev.const ?_)
      rw [Go.Proofs.Ytcgkgimkpndhmab.Trm.eat_zero]; simp [endRes]
    | succ m =>
      have hlt : j < t.length := by omega
      have wl : wrap64 (-(ops.length : Int)) = -(ops.length : Int) := w64 (by omega)
      have wj := w64s hlt (by omega : t.length ≤ 9223372036854775807)
      rw [rd_at hlt, drop_cons hlt, Go.Proofs.Ytcgkgimkpndhmab.Trm.eat_cons, wl]
      refine Ev.pos (by omega) (Ev.neg (by omega) (Ev.pos (by omega) (Ev.pos (by omega) (Ev.cases (fun c => Ev.succ ?_) (fun c => Ev.succ ?_)))))
      · simp only [impl_endOf.j1]
        refine Ev.pos trivial (Ev.const ?_)
        unfold arOf
        rw [if_pos c]; rfl
      · simp only [impl_endOf.j1, wj]
        by_cases c' : t[j] < -(ops.length : Int)
        · refine Ev.pos (decide_eq_true c') (Ev.const ?_)
          unfold arOf
          rw [if_neg c, if_neg (by omega), if_pos c']; rfl
        · refine Ev.neg (by simp; omega) (Ev.cases (fun p => ?_) (fun p => ?_))
          · have e : arOf ops t[j] = some 0 := by unfold arOf; rw [if_neg c, if_pos p]
            have wm : wrap64 (((m + 1 : Nat) : Int) - 1) = (m : Int) := by unfold wrap64; omega
            rw [e, wm]
            simp only [Option.bind_some, Nat.add_zero]
            rw [endRes_map]
            exact ih (j + 1) m (by omega) (by omega)
          · obtain ⟨a, a3, ea, ef⟩ := arOf_op hs (show t[j] < 0 by omega) (by omega)
            have wx : wrap64 (-1 - t[j]) = -1 - t[j] := w64 (by omega)
            have wm : wrap64 (((m + 1 : Nat) : Int) + wrap64 ((a : Int) - 1)) = ((m + a : Nat) : Int) := by unfold wrap64; omega
            rw [wx, ef, wm, ea]
            simp only [Option.bind_some]
            rw [endRes_map]
            exact Ev.pos (by omega) (Ev.pos (by omega) (ih (j + 1) (m + a) (by omega) (by omega)))
theorem endOf_v {n : Int} {ops : List S75} (hs : SmallAr ops) (t : List Int) (ht : t.length ≤ 60) (j : Nat) (hj : j ≤ t.length) :
    Ev (fun k => impl_endOf.f k n ops t (j : Int)) (endRes j (Go.Proofs.Ytcgkgimkpndhmab.Trm.eat (arOf ops) (t.drop j) 1)) := endOf_l hs t ht (t.length - j) j 1 (by omega) (by omega)
theorem l3End_l {n : Int} {ops : List S75} (hs : SmallAr ops) (t : List Int) (ht : t.length ≤ 60) : ∀ (d j m : Nat), j + d = t.length → m ≤ 2 * j →
    Ev (fun k => spec_l3End.l0 k t ((m + 1 : Nat) : Int) (j : Int) n ops) (endRes j (Go.Proofs.Ytcgkgimkpndhmab.Trm.eat (arOf ops) (t.drop j) (m + 1))) := by
  have h4 := hs.1
  intro d
  induction d with
  | zero =>
    intro j m hj hm
    refine Ev.succ ?_
    simp only [spec_l3End.l0]
    refine Ev.neg (by omega) (Ev.const ?_)
    rw [List.drop_of_length_le (by omega), Go.Proofs.Ytcgkgimkpndhmab.Trm.eat_nil]; rfl
  | succ d ih =>
    intro j m hj hm
    have hlt : j < t.length := by omega
    have wl : wrap64 (-(ops.length : Int)) = -(ops.length : Int) := w64 (by omega)
    have wj := w64s hlt (by omega : t.length ≤ 9223372036854775807)
    have wm : wrap64 (((m + 1 : Nat) : Int) - 1) = (m : Int) := by unfold wrap64; omega
    refine Ev.succ ?_
    simp only [spec_l3End.l0, rd_at hlt, wl, wj, wm]
    clear wl wj wm
    rw [drop_cons hlt, Go.Proofs.Ytcgkgimkpndhmab.Trm.eat_cons]
    refine Ev.pos (by omega) (Ev.pos (by omega) (Ev.cases (fun p => ?_) (fun p => Ev.cases (fun c => Ev.const ?_) (fun c => ?_))))
    · by_cases c' : t[j] < -(ops.length : Int)
      · refine Ev.bound (l1In_no (by omega)) (Ev.neg (by simp) (Ev.const ?_))
        unfold arOf
        rw [if_neg (by omega), if_neg (by omega), if_pos c']; rfl
      · obtain ⟨a, a3, ea, ef⟩ := arOf_op hs p (by omega)
        have wx : wrap64 (-1 - t[j]) = -1 - t[j] := w64 (by omega)
        have wa : wrap64 ((m : Int) + (a : Int)) = ((m + a : Nat) : Int) := by unfold wrap64; omega
        refine Ev.bound (l1In_yes (by clear wx wa; omega)) (Ev.pos rfl ?_)
        rw [wx, ef, wa, ea]
        clear wx wa
        simp only [Option.bind_some]
        rw [endRes_map]
        refine Ev.pos (by omega) (Ev.pos (by omega) (Ev.cases (fun z => Ev.const ?_) (fun z => ?_)))
        · rw [show m + a = 0 by omega, Go.Proofs.Ytcgkgimkpndhmab.Trm.eat_zero]; simp [endRes]
        · obtain ⟨b, hb⟩ : ∃ b, m + a = b + 1 := ⟨m + a - 1, by omega⟩
          rw [hb]
          exact ih (j + 1) b (by omega) (by omega)
    · unfold arOf
      rw [if_pos c]; rfl
    · have e : arOf ops t[j] = some 0 := by unfold arOf; rw [if_neg c, if_pos (by omega)]
      rw [e]
      simp only [Option.bind_some, Nat.add_zero]
      rw [endRes_map]
      refine Ev.cases (fun z => Ev.const ?_) (fun z => ?_)
      · rw [show m = 0 by omega, Go.Proofs.Ytcgkgimkpndhmab.Trm.eat_zero]; simp [endRes]
      · obtain ⟨b, rfl⟩ : ∃ b, m = b + 1 := ⟨m - 1, by omega⟩
        exact ih (j + 1) b (by omega) (by omega)
theorem l3End_v {n : Int} {ops : List S75} (hs : SmallAr ops) (t : List Int) (ht : t.length ≤ 60) (j : Nat) (hj : j ≤ t.length) :
    Ev (fun k => spec_l3End.f k n ops t (j : Int)) (endRes j (Go.Proofs.Ytcgkgimkpndhmab.Trm.eat (arOf ops) (t.drop j) 1)) := l3End_l hs t ht (t.length - j) j 0 (by omega) (by omega)
def okT (ops : List S75) (t : List Int) : Prop := t.length ≤ 60 ∧ Go.Proofs.Ytcgkgimkpndhmab.Trm.eat (arOf ops) t 1 = some t.length
instance (ops : List S75) (t : List Int) : Decidable (okT ops t) := by unfold okT; infer_instance
theorem endRes_len (o : Option Nat) (l : Nat) : (endRes 0 o == (l : Int)) = decide (o = some l) := by
  cases o with
  | none =>
    rw [decide_eq_false (by simp)]
    simp only [endRes, beq_eq_false_iff_ne]
    omega
  | some e =>
    simp only [endRes, Option.some.injEq]
    by_cases c : e = l
    · subst c; simp
    · rw [decide_eq_false c, beq_eq_false_iff_ne]; omega
theorem isTerm_v {n : Int} {ops : List S75} (hs : SmallAr ops) (t : List Int) : Ev (fun k => impl_isTerm.f k n ops t) (decide (okT ops t)) := by
  unfold impl_isTerm.f
  refine Ev.cases (fun c => ?_) (fun c => Ev.const ?_)
  · refine Ev.bind (endOf_v hs t (by omega) 0 (by omega)) (Ev.const ?_)
    rw [List.drop_zero, endRes_len]
    congr 1
    exact decide_eq_decide.2 ⟨fun h => ⟨by omega, h⟩, fun h => h.2⟩
  · congr 1
    exact (decide_eq_false fun h => c (by have := h.1; omega)).symm
theorem l3Good_v {n : Int} {ops : List S75} (hs : SmallAr ops) (t : List Int) : Ev (fun k => spec_l3Good.f k n ops t) (decide (okT ops t)) := by
  unfold spec_l3Good.f
  refine Ev.cases (fun c0 => Ev.cases (fun c => ?_) (fun c => Ev.const ?_)) (fun c0 => Ev.const ?_)
  · refine Ev.bind (l3End_v hs t (by omega) 0 (by omega)) (Ev.const ?_)
    rw [List.drop_zero, endRes_len]
    congr 1
    exact decide_eq_decide.2 ⟨fun h => ⟨by omega, h⟩, fun h => h.2⟩
  · congr 1
    exact (decide_eq_false fun h => c (by have := h.1; omega)).symm
  · congr 1
    refine (decide_eq_false fun h => ?_).symm
    have e : t = [] := List.length_eq_zero_iff.1 (by omega)
    rw [e] at h
    exact absurd h.2 (by simp [Go.Proofs.Ytcgkgimkpndhmab.Trm.eat])
def seqI (a : Int) (n : Nat) : List Int := (List.range n).map fun i : Nat => a + (i : Int)
theorem seqI_len (a : Int) (n : Nat) : (seqI a n).length = n := by simp [seqI]
theorem seqI_at {a : Int} {n j : Nat} (h : j < (seqI a n).length) : (seqI a n)[j] = a + (j : Int) := by simp [seqI]
theorem seqI_succ (a : Int) (n : Nat) : seqI a (n + 1) = seqI a n ++ [a + (n : Int)] := by simp [seqI, List.range_succ]
theorem markIntS_l (l : List Int) (a : Int) (h0 : 0 ≤ a) (h1 : a ≤ 4611686018427387904) (hl : l.length ≤ 1099511627776) : ∀ (d j : Nat), j + d = l.length →
    Ev (fun k => laws_markIntS.l0 k (seqI a j ++ l.drop j) (a + (j : Int)) (j : Int)) (a + (l.length : Int), seqI a l.length) := by
  intro d
  induction d with
  | zero =>
    intro j hj
    obtain rfl : j = l.length := by omega
    refine Ev.succ ?_
    simp only [laws_markIntS.l0]
    refine Ev.neg (by simp [seqI_len]) (Ev.const ?_)
    rw [List.drop_of_length_le (Nat.le_refl _), List.append_nil]
  | succ d ih =>
    intro j hj
    have hlt : j < l.length := by omega
    refine Ev.succ ?_
    simp only [laws_markIntS.l0, w64s hlt (by omega : l.length ≤ 9223372036854775807), Int.toNat_natCast]
    rw [w64 (n := a + (j : Int) + 1) (by omega)]
    refine Ev.pos (by simp [seqI_len]; omega) (Ev.pos (by omega) ?_)
    rw [drop_cons hlt, set_mid _ _ _ _ j (seqI_len a j)]
    have := ih (j + 1) (by omega)
    rw [seqI_succ, List.append_assoc, show a + ((j + 1 : Nat) : Int) = a + (j : Int) + 1 from by omega] at this
    exact this
theorem markIntS_v (l : List Int) (a : Int) (h0 : 0 ≤ a) (h1 : a ≤ 4611686018427387904) (hl : l.length ≤ 1099511627776) : Ev (fun k => laws_markIntS.f k l a) (a + (l.length : Int), seqI a l.length) := by
  unfold laws_markIntS.f
  have := markIntS_l l a h0 h1 hl l.length 0 (by omega)
  simpa [seqI] using this
theorem heldIntS_l (n : Nat) (a : Int) (h0 : 0 ≤ a) (h1 : a ≤ 4611686018427387904) (hn : n ≤ 1099511627776) : ∀ (d j : Nat), j + d = n →
    Ev (fun k => laws_heldIntS.l0 k (seqI a n) (a + (j : Int)) (j : Int)) (a + (n : Int)) := by
  intro d
  induction d with
  | zero =>
    intro j hj
    obtain rfl : j = n := by omega
    refine Ev.succ ?_
    simp only [laws_heldIntS.l0]
    exact Ev.neg (by simp [seqI_len]) (Ev.const rfl)
  | succ d ih =>
    intro j hj
    have hlt : j < (seqI a n).length := by rw [seqI_len]; omega
    refine Ev.succ ?_
    simp only [laws_heldIntS.l0, rd_at hlt, seqI_at hlt, w64s (show j < n by omega) (by omega : n ≤ 9223372036854775807)]
    rw [w64 (n := a + (j : Int) + 1) (by omega)]
    refine Ev.pos (by rw [seqI_len]; omega) (Ev.pos (by omega) (Ev.pos trivial ?_))
    have := ih (j + 1) (by omega)
    rw [show a + ((j + 1 : Nat) : Int) = a + (j : Int) + 1 from by omega] at this
    exact this
theorem heldIntS_v (n : Nat) (a : Int) (h0 : 0 ≤ a) (h1 : a ≤ 4611686018427387904) (hn : n ≤ 1099511627776) : Ev (fun k => laws_heldIntS.f k (seqI a n) a) (a + (n : Int)) := by
  unfold laws_heldIntS.f
  have := heldIntS_l n a h0 h1 hn n 0 (by omega)
  simpa using this
def mkOps : Int → List S75 → Int × List S75
  | a, [] => (a, [])
  | a, o :: os => ((mkOps (a + 1 + (o.f1.length : Int)) os).1, ⟨a, seqI (a + 1) o.f1.length⟩ :: (mkOps (a + 1 + (o.f1.length : Int)) os).2)
theorem mkOps_bd : ∀ (os : List S75) (a : Int), (∀ o ∈ os, o.f1.length ≤ 1048576) → a ≤ (mkOps a os).1 ∧ (mkOps a os).1 ≤ a + (os.length : Int) * 1048577
  | [], a, _ => by simp [mkOps]
  | o :: os, a, h => by
    have := mkOps_bd os (a + 1 + (o.f1.length : Int)) (fun q hq => h q (List.mem_cons_of_mem _ hq))
    have := h o List.mem_cons_self
    simp only [mkOps, List.length_cons]
    omega
theorem markOpS_l : ∀ (os pre : List S75) (a : Int), 0 ≤ a → a + (os.length : Int) * 1048577 ≤ 2305843009213693952 → pre.length + os.length ≤ 1048576 → (∀ o ∈ os, o.f1.length ≤ 1048576) →
    Ev (fun k => laws_markOpS.l0 k (pre ++ os) a (pre.length : Int)) ((mkOps a os).1, pre ++ (mkOps a os).2) := by
  intro os
  induction os with
  | nil =>
    intro pre a h0 h1 hl ho
    refine Ev.succ ?_
    simp only [laws_markOpS.l0]
    exact Ev.neg (by simp) (Ev.const rfl)
  | cons o os ih =>
    intro pre a h0 h1 hl ho
    have hlt : pre.length < (pre ++ o :: os).length := by simp
    have ho1 := ho o List.mem_cons_self
    simp only [List.length_cons] at h1 hl
    refine Ev.succ ?_
    simp only [laws_markOpS.l0, rdT_at hlt, w64s (show pre.length < 1048577 by omega) (by omega), Int.toNat_natCast]
    rw [w64 (n := a + 1) (by omega)]
    refine Ev.pos (by simp; omega) (Ev.pos (by omega) ?_)
    have e : (pre ++ o :: os)[pre.length] = o := by simp
    rw [e]
    refine Ev.bind (markIntS_v o.f1 (a + 1) (by omega) (by omega) (by omega)) ?_
    rw [set_mid _ _ _ _ pre.length rfl]
    have := ih (pre ++ [⟨a, seqI (a + 1) o.f1.length⟩]) (a + 1 + (o.f1.length : Int)) (by omega) (by omega) (by simp; omega) (fun q hq => ho q (List.mem_cons_of_mem _ hq))
    simpa [mkOps, List.append_assoc] using this
theorem markAlgebra_v (n : Int) (os : List S75) (a : Int) (h0 : 0 ≤ a) (h1 : a ≤ 1048576) (hl : os.length ≤ 1048576) (ho : ∀ o ∈ os, o.f1.length ≤ 1048576) : Ev (fun k => laws_markAlgebra.f k n os a) (mkOps a os) := by
  unfold laws_markAlgebra.f laws_markOpS.f
  have := markOpS_l os [] a h0 (by omega) (by simpa using hl) ho
  simpa using this
theorem markAlgebra_cv (n : Int) (ops : List S79) (h : SmallA ops) (a : Int) (h0 : 0 ≤ a) (h1 : a ≤ 1048576) : ∃ r, Ev (fun k => laws_markAlgebra.f k n (ops.map cvOp) a) r ∧ ¬ r.1 < 0 ∧ r.1 ≤ a + 1099512676352 := by
  have hl : (ops.map cvOp).length ≤ 1048576 := by simpa using h.1
  have ho : ∀ o ∈ ops.map cvOp, o.f1.length ≤ 1048576 := by
    intro o hm
    obtain ⟨q, hq, rfl⟩ := List.mem_map.1 hm
    exact h.2 q hq
  have := mkOps_bd (ops.map cvOp) a ho
  exact ⟨_, markAlgebra_v n _ a h0 h1 hl ho, by omega, by omega⟩
theorem own_v {l : List Int} (h : l.length < 17592186044416) : spec_l1Own.f l = some l := by
  unfold spec_l1Own.f
  simp [h]
theorem sub_end {ops : List S75} {t : List Int} (h : okT ops t) {j : Nat} (hj : j < t.length) : ∃ e, Go.Proofs.Ytcgkgimkpndhmab.Trm.eat (arOf ops) (t.drop j) 1 = some e ∧ j + e ≤ t.length := by
  obtain ⟨m, hm, hm1⟩ := Go.Proofs.Ytcgkgimkpndhmab.Trm.eat_drop t 1 h.2 j (by omega)
  have hm1 := hm1 hj
  rw [show m = 1 + (m - 1) by omega, Go.Proofs.Ytcgkgimkpndhmab.Trm.eat_add] at hm
  obtain ⟨e, he, _⟩ := Option.bind_eq_some_iff.1 hm
  have := (Go.Proofs.Ytcgkgimkpndhmab.Trm.eat_le _ _ _ he).2
  rw [List.length_drop] at this
  exact ⟨e, he, by omega⟩
def ins (v : Int) : List Int → List Int
  | [] => [v]
  | a :: r => if a < v then a :: ins v r else if a = v then a :: r else v :: a :: r
theorem l1Put_l (l : List Int) (v : Int) (hl : l.length ≤ 1048576) : ∀ (d j : Nat), j + d = l.length → Ev (fun k => spec_l1Put.l0 k l v (j : Int)) (l.take j ++ ins v (l.drop j)) := by
  intro d
  induction d with
  | zero =>
    intro j hj
    have h1 : (l.take ((j : Int)).toNat).length = j := by rw [List.length_take]; omega
    refine Ev.succ ?_
    simp only [spec_l1Put.l0]
    refine Ev.neg (by omega) ?_
    refine Ev.bound rfl (Ev.pos (by omega) (Ev.pos (by omega) (Ev.bound rfl (Ev.pos (by rw [h1]; simp; omega) (Ev.bound rfl (Ev.bound rfl (Ev.pos (by simp only [List.nil_append, h1, List.length_cons, List.length_nil]; omega) (Ev.bound rfl (Ev.bound rfl (Ev.pos (by simp only [List.nil_append, List.length_append, h1, List.length_cons, List.length_nil, List.length_drop]; omega) (Ev.const ?_)))))))))))
    rw [Int.toNat_natCast, List.drop_of_length_le (by omega)]
    simp [ins]
  | succ d ih =>
    intro j hj
    have hlt : j < l.length := by omega
    have h1 : (l.take ((j : Int)).toNat).length = j := by rw [List.length_take]; omega
    refine Ev.succ ?_
    simp only [spec_l1Put.l0, rd_at hlt, w64s hlt (by omega : l.length ≤ 9223372036854775807)]
    refine Ev.pos (by omega) (Ev.pos (by omega) (Ev.cases (fun c => ?_) (fun c => Ev.cases (fun c2 => Ev.const ?_) (fun c2 => ?_))))
    · refine Ev.eq (ih (j + 1) (by omega)) ?_
      rw [take_snoc hlt, drop_cons hlt, ins, if_pos c, List.append_assoc]; rfl
    · rw [drop_cons hlt, ins, if_neg c, if_pos c2, ← drop_cons hlt, List.take_append_drop]
    · refine Ev.bound rfl (Ev.pos (by omega) (Ev.bound rfl (Ev.pos (by rw [h1]; simp; omega) (Ev.bound rfl (Ev.bound rfl (Ev.pos (by simp only [List.nil_append, h1, List.length_cons, List.length_nil]; omega) (Ev.bound rfl (Ev.bound rfl (Ev.pos (by simp only [List.nil_append, List.length_append, h1, List.length_cons, List.length_nil, List.length_drop]; omega) (Ev.const ?_))))))))))
      rw [Int.toNat_natCast, drop_cons hlt, ins, if_neg c, if_neg c2]
      simp
theorem l1Put_v (l : List Int) (v : Int) (hl : l.length ≤ 1048576) : Ev (fun k => spec_l1Put.f k l v) (ins v l) := by
  unfold spec_l1Put.f
  have := l1Put_l l v hl l.length 0 (by omega)
  simpa using this
def fl (p : Nat → Bool) : Nat → Nat → List Int
  | _, 0 => []
  | i, n + 1 => if p i = true then (i : Int) :: fl p (i + 1) n else fl p (i + 1) n
theorem fl_len (p : Nat → Bool) : ∀ n i, (fl p i n).length ≤ n
  | 0, _ => by simp [fl]
  | n + 1, i => by
    have := fl_len p n (i + 1)
    unfold fl
    split
    · simp only [List.length_cons]; omega
    · omega
theorem fl_congr {p q : Nat → Bool} : ∀ n i, (∀ x, i ≤ x → p x = q x) → fl p i n = fl q i n
  | 0, _, _ => rfl
  | n + 1, i, h => by
    unfold fl
    rw [h i (Nat.le_refl _), fl_congr n (i + 1) (fun x hx => h x (by omega))]
theorem rep_false (n i : Nat) : (List.replicate n false).getD i false = false := by
  rw [List.getD_eq_getElem?_getD]
  by_cases h : i < n
  · rw [List.getElem?_eq_getElem (by simpa using h)]; simp
  · rw [List.getElem?_eq_none (by simpa using h)]; rfl
theorem fl_none : ∀ n i, fl (fun _ => false) i n = []
  | 0, _ => rfl
  | n + 1, i => by unfold fl; rw [if_neg (by simp), fl_none n (i + 1)]
theorem marked_l (h : List Bool) (p : Nat → Bool) (hp : ∀ i, i < h.length → h.getD i false = p i) (hl : h.length ≤ 1048576) : ∀ (d j : Nat) (acc : List Int), j + d = h.length → acc.length ≤ j →
    Ev (fun k => impl_marked.l0 k acc h (h.length : Int) (j : Int)) (acc ++ fl p j d) := by
  intro d
  induction d with
  | zero =>
    intro j acc hj ha
    refine Ev.succ ?_
    simp only [impl_marked.l0]
    refine Ev.neg (by omega) (Ev.const ?_)
    simp [fl]
  | succ d ih =>
    intro j acc hj ha
    have hlt : j < h.length := by omega
    have e : rdOf false h (j : Int) = p j := hp j hlt
    refine Ev.succ ?_
    simp only [impl_marked.l0, e, w64s hlt (by omega : h.length ≤ 9223372036854775807)]
    refine Ev.pos (by omega) (Ev.pos (by omega) (Ev.pos (by omega) (Ev.cases (fun c => Ev.pos (by omega) ?_) (fun c => ?_))))
    · refine Ev.eq (ih (j + 1) (acc ++ [(j : Int)]) (by omega) (by simp; omega)) ?_
      rw [fl, if_pos c, List.append_assoc]; rfl
    · refine Ev.eq (ih (j + 1) acc (by omega) (by omega)) ?_
      rw [fl, if_neg c]
theorem marked_v (h : List Bool) (p : Nat → Bool) (hp : ∀ i, i < h.length → h.getD i false = p i) (hl : h.length ≤ 1048576) : Ev (fun k => impl_marked.f k h) (fl p 0 h.length) := by
  unfold impl_marked.f
  have := marked_l h p hp hl h.length 0 [] (by omega) (by simp)
  simpa using this
theorem ins_gt (v : Int) (p : Nat → Bool) : ∀ (n i : Nat), v < (i : Int) → ins v (fl p i n) = v :: fl p i n
  | 0, _, _ => rfl
  | n + 1, i, h => by
    unfold fl
    split
    · rw [ins, if_neg (by omega), if_neg (by omega)]
    · exact ins_gt v p n (i + 1) (by omega)
theorem ins_fl (p : Nat → Bool) (m : Nat) : ∀ n i, i ≤ m → m < i + n → ins (m : Int) (fl p i n) = fl (fun x => p x || decide (x = m)) i n
  | 0, i, h0, h1 => by omega
  | n + 1, i, h0, h1 => by
    by_cases c : i = m
    · subst c
      have e : fl (fun x => p x || decide (x = i)) (i + 1) n = fl p (i + 1) n := fl_congr n (i + 1) (fun x hx => by
        rw [decide_eq_false (by omega), Bool.or_false])
      unfold fl
      rw [if_pos (show (p i || decide (i = i)) = true by simp), e]
      by_cases c2 : p i = true
      · rw [if_pos c2, ins, if_neg (by omega), if_pos rfl]
      · rw [if_neg c2, ins_gt _ _ _ _ (by omega)]
    · have ih := ins_fl p m n (i + 1) (by omega) (by omega)
      have e : (p i || decide (i = m)) = p i := by rw [decide_eq_false c, Bool.or_false]
      unfold fl
      by_cases c2 : p i = true
      · rw [if_pos c2, if_pos (by rw [e]; exact c2), ins, if_pos (by omega), ih]
      · rw [if_neg c2, if_neg (by rw [e]; exact c2), ih]
theorem mark_set {h : List Bool} {p : Nat → Bool} (hp : ∀ i, i < h.length → h.getD i false = p i) (m : Nat) : ∀ i, i < (h.set m true).length → (h.set m true).getD i false = (p i || decide (i = m)) := by
  intro i hi
  rw [List.length_set] at hi
  have := hp i hi
  rw [List.getD_eq_getElem?_getD] at this ⊢
  by_cases c : i = m
  · subst c
    rw [List.getElem?_set_self hi]; simp
  · rw [List.getElem?_set_ne (fun e => c e.symm), this, decide_eq_false c, Bool.or_false]
theorem back_ix {st : List Int} (hl : st.length ≤ 1048576) {i : Nat} (h : i < st.length) : wrap64 (wrap64 ((st.length : Int) - 1) - (i : Int)) = ((st.length - 1 - i : Nat) : Int) := by
  rw [w64 (n := (st.length : Int) - 1) (by omega), w64 (by omega)]; omega
theorem back_rd {st : List Int} {i : Nat} (h : i < st.length) : rd st ((st.length - 1 - i : Nat) : Int) = st.reverse[i]'(by simpa using h) := by
  rw [rd_at (by omega), List.getElem_reverse]
theorem ixF_snoc (n : Int) (l : List Int) (x : Int) : ixF n 0 (l ++ [x]) = ixF n 0 l * n + x := by simp [ixF, List.foldl_append]
theorem back_in {n : Int} {st : List Int} (hv : ∀ v ∈ st, 0 ≤ v ∧ v < n) (c : Nat) : ∀ v ∈ st.reverse.take c, 0 ≤ v ∧ v < n := fun v h => hv v (List.mem_reverse.1 (List.mem_of_mem_take h))
theorem l3Value_in {n : Int} {ops : List S75} (hA : okAlg n ops) {q : Nat} (hq : q < ops.length) (t vals st : List Int) (i : Int) (a : Nat) (ha : (ops[q]).f0 = (a : Int)) (hst : a ≤ st.length) (hl : st.length ≤ 1000) (hv : ∀ v ∈ st, 0 ≤ v ∧ v < n) {r : Int}
    (next : Ev (fun k => spec_l3Value.l0 k t vals (st.take (st.length - a) ++ [rd (ops[q]).f1 (ixF n 0 (st.reverse.take a))]) (wrap64 (i - 1)) n ops) r) : ∀ (d c : Nat), c + d = a →
    Ev (fun k => spec_l3Value.l1 k t vals st i (q : Int) (st.reverse.take c) (c : Int) n ops) r := by
  intro d
  induction d with
  | zero =>
    intro c hc
    obtain rfl : c = a := by omega
    have hla : (st.reverse.take c).length = c := by rw [List.length_take, List.length_reverse]; omega
    have e : wrap64 ((st.length : Int) - ((st.reverse.take c).length : Int)) = ((st.length - c : Nat) : Int) := by rw [hla, w64 (by omega)]; omega
    refine Ev.succ ?_
    simp only [spec_l3Value.l1, rdT_at hq, ha, e, Int.toNat_natCast]
    refine Ev.pos (by omega) (Ev.pos (by omega) (Ev.neg (by omega) (Ev.pos (by omega) (Ev.pos (by omega) (Ev.bound (own_v (by rw [List.length_take]; omega)) (Ev.bind (l2Value_v hA hq (st.reverse.take c) (back_in hv c) (by rw [hla, ha])) (Ev.pos (by rw [List.length_take]; omega) next)))))))
  | succ d ih =>
    intro c hc
    have hlt : c < st.length := by omega
    refine Ev.succ ?_
    simp only [spec_l3Value.l1, rdT_at hq, ha, back_ix (by omega : st.length ≤ 1048576) hlt, back_rd hlt, w64s (show c < 1000 by omega) (by omega)]
    refine Ev.pos (by omega) (Ev.pos (by omega) (Ev.pos (by omega) (Ev.pos (by omega) (Ev.pos (by omega) (Ev.pos (by rw [List.length_take, List.length_reverse]; omega) ?_)))))
    have := ih (c + 1) (by omega)
    rw [take_snoc (by simpa using hlt)] at this
    exact this
theorem eval_in {n : Int} {ops : List S75} (hA : okAlg n ops) {q : Nat} (hq : q < ops.length) (t vals st : List Int) (i : Int) (a : Nat) (ha : (ops[q]).f0 = (a : Int)) (hst : a ≤ st.length) (hl : st.length ≤ 1000) (hv : ∀ v ∈ st, 0 ≤ v ∧ v < n) {r : Int}
    (next : Ev (fun k => impl_eval.l0 k t vals (st.take (st.length - a) ++ [rd (ops[q]).f1 (ixF n 0 (st.reverse.take a))]) (wrap64 (i - 1)) n ops) r) : ∀ (d c : Nat), c + d = a →
    Ev (fun k => impl_eval.l1 k t vals st i (ixF n 0 (st.reverse.take c)) (c : Int) n ops (a : Int) (ops[q]).f1) r := by
  have hop := okAlg_op hA hq
  have h3 : a ≤ 3 := by have := hop.2.1; omega
  have hT : ((ops[q]).f1.length : Int) = n ^ a := by have := hop.2.2.1; rw [ha, Int.toNat_natCast] at this; exact this
  have bd : ∀ c, c ≤ a → 0 ≤ ixF n 0 (st.reverse.take c) ∧ ixF n 0 (st.reverse.take c) < n ^ c := by
    intro c hc
    have hla : (st.reverse.take c).length = c := by rw [List.length_take, List.length_reverse]; omega
    have := ix_bd hA.1 hA.2.1 (st.reverse.take c) 0 0 (by omega) (back_in hv c) (by omega) (by simp)
    rw [hla, Nat.zero_add] at this
    exact this
  intro d
  induction d with
  | zero =>
    intro c hc
    obtain rfl : c = a := by omega
    have e : wrap64 ((st.length : Int) - (c : Int)) = ((st.length - c : Nat) : Int) := by rw [w64 (by omega)]; omega
    have hb := bd c (Nat.le_refl _)
    refine Ev.succ ?_
    simp only [impl_eval.l1, e, Int.toNat_natCast]
    exact Ev.neg (by omega) (Ev.pos (by omega) (Ev.pos (by omega) (Ev.bound rfl (Ev.pos hb.1 (Ev.pos (by rw [hT]; exact hb.2) (Ev.pos (by rw [List.length_take]; omega) next))))))
  | succ d ih =>
    intro c hc
    have hlt : c < st.length := by omega
    have hb := bd c (by omega)
    have hx := hv _ (List.mem_reverse.1 (List.getElem_mem (show c < st.reverse.length by simpa using hlt)))
    have es := (ix_step hA.1 hA.2.1 (show c ≤ 5 by omega) hb.1 hb.2 hx).2.2
    refine Ev.succ ?_
    simp only [impl_eval.l1, back_ix (by omega : st.length ≤ 1048576) hlt, back_rd hlt, w64s (show c < 1000 by omega) (by omega), es]
    refine Ev.pos (by omega) (Ev.pos (by omega) (Ev.pos (by omega) ?_))
    have := ih (c + 1) (by omega)
    rw [take_snoc (by simpa using hlt), ixF_snoc] at this
    exact this
theorem eat_uniq {ar : Int → Option Nat} {l : List Int} {m m' : Nat} (h : Go.Proofs.Ytcgkgimkpndhmab.Trm.eat ar l m = some l.length) (h' : Go.Proofs.Ytcgkgimkpndhmab.Trm.eat ar l m' = some l.length) : m = m' := by
  have one : ∀ {a b : Nat}, Go.Proofs.Ytcgkgimkpndhmab.Trm.eat ar l a = some l.length → Go.Proofs.Ytcgkgimkpndhmab.Trm.eat ar l b = some l.length → ¬ a < b := by
    intro a b ha hb hlt
    rw [show b = a + (b - a - 1 + 1) by omega, Go.Proofs.Ytcgkgimkpndhmab.Trm.eat_add, ha] at hb
    simp only [Option.bind_some, List.drop_length, Go.Proofs.Ytcgkgimkpndhmab.Trm.eat_nil, Option.map_none] at hb
    cases hb
  have h1 := one h h'
  have h2 := one h' h
  omega
theorem eval_main {n : Int} {ops : List S75} (hA : okAlg n ops) {t vals : List Int} (ht : okT ops t) (h6 : vals.length ≤ 6) (hvals : ∀ v ∈ vals, 0 ≤ v ∧ v < n) (hfit : ∀ x ∈ t, x < (vals.length : Int)) : ∀ (j : Nat) (st : List Int), j ≤ t.length →
    (∀ v ∈ st, 0 ≤ v ∧ v < n) → Go.Proofs.Ytcgkgimkpndhmab.Trm.eat (arOf ops) (t.drop j) st.length = some (t.length - j) →
    ∃ v, Ev (fun k => spec_l3Value.l0 k t vals st ((j : Int) - 1) n ops) v ∧ Ev (fun k => impl_eval.l0 k t vals st ((j : Int) - 1) n ops) v := by
  have h60 := ht.1
  intro j
  induction j with
  | zero =>
    intro st _ hv he
    have h1 : st.length = 1 := by
      rw [List.drop_zero, Nat.sub_zero] at he
      exact eat_uniq he ht.2
    refine ⟨rd st 0, Ev.succ ?_, Ev.succ ?_⟩
    · simp only [spec_l3Value.l0]
      exact Ev.neg (by omega) (Ev.pos (by omega) (Ev.now _))
    · simp only [impl_eval.l0]
      exact Ev.neg (by omega) (Ev.pos (by omega) (Ev.now _))
  | succ j ih =>
    intro st hj hv he
    have hlt : j < t.length := by omega
    have hx6 := hfit _ (List.getElem_mem hlt)
    obtain ⟨m, hm, hm1⟩ := Go.Proofs.Ytcgkgimkpndhmab.Trm.eat_drop t 1 ht.2 j (by omega)
    have hm1 := hm1 hlt
    obtain ⟨p, rfl⟩ : ∃ p, m = p + 1 := ⟨m - 1, by omega⟩
    have hm' := hm
    rw [drop_cons hlt, Go.Proofs.Ytcgkgimkpndhmab.Trm.eat_cons] at hm
    obtain ⟨a, ha, hm⟩ := Option.bind_eq_some_iff.1 hm
    obtain ⟨e', he', hee⟩ := Option.map_eq_some_iff.1 hm
    have hlen : st.length = p + a := by
      have e1 : (t.drop (j + 1)).length = t.length - (j + 1) := by rw [List.length_drop]
      refine eat_uniq (ar := arOf ops) (l := t.drop (j + 1)) (by rw [e1]; exact he) (by rw [e1, he']; congr 1; omega)
    have hst : st.length ≤ 60 := by have := (Go.Proofs.Ytcgkgimkpndhmab.Trm.eat_le _ _ _ he).1; omega
    have ej : (((j + 1 : Nat) : Int) - 1) = (j : Int) := by omega
    have ew : wrap64 ((j : Int) - 1) = (j : Int) - 1 := w64 (by omega)
    rw [ej]
    by_cases c : t[j] ≥ 0
    · have ha0 : a = 0 := by
        unfold arOf at ha
        rw [if_neg (by omega), if_pos c] at ha
        injection ha with ha; omega
      obtain ⟨v, hs, hi⟩ := ih (st ++ [rd vals t[j]]) (by omega) (by
        intro y hy
        rcases List.mem_append.1 hy with hy | hy
        · exact hv y hy
        · rw [List.mem_singleton.1 hy]; exact rd_in hvals c (by omega)) (by rw [List.length_append, hlen, ha0]; exact hm')
      refine ⟨v, Ev.succ ?_, Ev.succ ?_⟩
      · simp only [spec_l3Value.l0, rd_at hlt, ew]
        exact Ev.pos (by omega) (Ev.pos (by omega) (Ev.pos (by omega) (Ev.pos c (Ev.pos (by omega) (Ev.pos (by omega) (Ev.pos (by omega) hs))))))
      · simp only [impl_eval.l0, rd_at hlt, ew]
        exact Ev.pos (by omega) (Ev.pos (by omega) (Ev.pos (by omega) (Ev.pos c (Ev.pos (by omega) (Ev.pos (by omega) (Ev.pos (by omega) hi))))))
    · have hlo : -(ops.length : Int) ≤ t[j] := by
        unfold arOf at ha
        rw [if_neg (by omega), if_neg c] at ha
        by_cases c2 : t[j] < -(ops.length : Int)
        · rw [if_pos c2] at ha; cases ha
        · omega
      obtain ⟨a', _, ha', hf⟩ := arOf_op (okAlg_small hA) (show t[j] < 0 by omega) hlo
      obtain rfl : a = a' := by rw [ha] at ha'; injection ha'
      obtain ⟨q, hq⟩ := int_nat (show 0 ≤ -1 - t[j] by omega)
      have hql : q < ops.length := by omega
      have h4 := hA.2.2.1
      have ew2 : wrap64 ((-1) - t[j]) = (q : Int) := by rw [w64 (by omega)]; exact hq
      rw [hq, rdT_at hql] at hf
      have hop := okAlg_op hA hql
      have hin := back_in hv a
      have hla : (st.reverse.take a).length = a := by rw [List.length_take, List.length_reverse]; omega
      have hbd := ix_bd hA.1 hA.2.1 (st.reverse.take a) 0 0 (by omega) hin (by omega) (by simp)
      rw [hla, Nat.zero_add] at hbd
      have hT : ((ops[q]).f1.length : Int) = n ^ a := by have := hop.2.2.1; rw [hf, Int.toNat_natCast] at this; exact this
      obtain ⟨v, hs, hi⟩ := ih (st.take (st.length - a) ++ [rd (ops[q]).f1 (ixF n 0 (st.reverse.take a))]) (by omega) (by
        intro y hy
        rcases List.mem_append.1 hy with hy | hy
        · exact hv y (List.mem_of_mem_take hy)
        · rw [List.mem_singleton.1 hy]; exact rd_in hop.2.2.2 hbd.1 (by rw [hT]; exact hbd.2)) (by
        rw [List.length_append, List.length_take, show min (st.length - a) st.length = p by omega]; exact hm')
      refine ⟨v, Ev.succ ?_, Ev.succ ?_⟩
      · simp only [spec_l3Value.l0, rd_at hlt, ew2]
        refine Ev.pos (by omega) (Ev.pos (by omega) (Ev.pos (by omega) (Ev.neg c ?_)))
        exact l3Value_in hA hql t vals st (j : Int) a hf (by omega) (by omega) hv (by rw [ew]; exact hs) a 0 (by omega)
      · simp only [impl_eval.l0, rd_at hlt, ew2, rdT_at hql, hf]
        refine Ev.pos (by omega) (Ev.pos (by omega) (Ev.pos (by omega) (Ev.neg c (Ev.pos (by omega) (Ev.pos (by omega) ?_)))))
        exact eval_in hA hql t vals st (j : Int) a hf (by omega) (by omega) hv (by rw [ew]; exact hi) a 0 (by omega)
theorem eval_v {n : Int} {ops : List S75} (hA : okAlg n ops) {t vals : List Int} (ht : okT ops t) (h6 : vals.length ≤ 6) (hvals : ∀ v ∈ vals, 0 ≤ v ∧ v < n) (hfit : ∀ x ∈ t, x < (vals.length : Int)) :
    ∃ v, Ev (fun k => spec_l3Value.f k n ops t vals) v ∧ Ev (fun k => impl_eval.f k n ops t vals) v := by
  have h60 := ht.1
  obtain ⟨v, hs, hi⟩ := eval_main hA ht h6 hvals hfit t.length [] (Nat.le_refl _) (by simp) (by simp [Go.Proofs.Ytcgkgimkpndhmab.Trm.eat_zero])
  refine ⟨v, ?_, ?_⟩
  · unfold spec_l3Value.f
    rw [w64 (by omega)]; exact hs
  · unfold impl_eval.f
    rw [w64 (n := (t.length : Int) - 1) (by omega)]
    exact Ev.pos (by omega) (Ev.pos (by omega) hi)
theorem args_l {n : Int} (h1 : 1 ≤ n) : ∀ (j : Nat) (rem : Int) (L : List Int), 0 ≤ rem → rem ≤ 4611686018427387904 → j ≤ L.length → (∀ (i : Nat) (h : i < L.length), j ≤ i → 0 ≤ L[i] ∧ L[i] < n) →
    L.length ≤ 1000 → ∃ L', Ev (fun k => spec_l2Args.l0 k n rem L ((j : Int) - 1)) L' ∧ Ev (fun k => impl_argsAt.l0 k rem n L ((j : Int) - 1)) L' ∧ L'.length = L.length ∧ ∀ x ∈ L', 0 ≤ x ∧ x < n := by
  intro j
  induction j with
  | zero =>
    intro rem L h0 hr hj hL hl
    refine ⟨L, Ev.succ ?_, Ev.succ ?_, rfl, ?_⟩
    · simp only [spec_l2Args.l0]
      exact Ev.neg (by omega) (Ev.now _)
    · simp only [impl_argsAt.l0]
      exact Ev.neg (by omega) (Ev.now _)
    · intro x hx
      obtain ⟨i, hi, rfl⟩ := List.mem_iff_getElem.1 hx
      exact hL i hi (Nat.zero_le _)
  | succ j ih =>
    intro rem L h0 hr hj hL hl
    have ej : (((j + 1 : Nat) : Int) - 1) = (j : Int) := by omega
    have ew : wrap64 ((j : Int) - 1) = (j : Int) - 1 := w64 (by omega)
    have hd0 : 0 ≤ Int.tdiv rem n := Int.tdiv_nonneg h0 (by omega)
    have hd1 : Int.tdiv rem n ≤ rem := by rw [Int.tdiv_eq_ediv_of_nonneg h0]; exact Int.ediv_le_self n h0
    have hm0 : 0 ≤ Int.tmod rem n := Int.tmod_nonneg n h0
    have hm1 : Int.tmod rem n < n := Int.tmod_lt_of_pos rem (by omega)
    have ed : wrap64 (Int.tdiv rem n) = Int.tdiv rem n := w64 (by omega)
    obtain ⟨L', hs, hi, hl', hin⟩ := ih (Int.tdiv rem n) (L.set j (Int.tmod rem n)) hd0 (by omega) (by rw [List.length_set]; omega) (by
      intro i hi hji
      rw [List.getElem_set]
      split
      · exact ⟨hm0, hm1⟩
      · exact hL i (by rw [List.length_set] at hi; exact hi) (by omega)) (by rw [List.length_set]; exact hl)
    refine ⟨L', ?_, ?_, by rw [hl', List.length_set], hin⟩
    · rw [ej]
      refine Ev.succ ?_
      simp only [spec_l2Args.l0, ed, ew, Int.toNat_natCast]
      exact Ev.pos (by omega) (Ev.neg (by omega) (Ev.pos (by omega) (Ev.pos (by omega) hs)))
    · rw [ej]
      refine Ev.succ ?_
      simp only [impl_argsAt.l0, ed, ew, Int.toNat_natCast]
      exact Ev.pos (by omega) (Ev.neg (by omega) (Ev.pos (by omega) (Ev.pos (by omega) hi)))
theorem args_v {n : Int} (h1 : 1 ≤ n) (a : Nat) (ha : a ≤ 100) (i : Int) (h0 : 0 ≤ i) (hi : i ≤ 4611686018427387904) :
    ∃ L, Ev (fun k => spec_l2Args.f k n (a : Int) i) L ∧ Ev (fun k => impl_argsAt.f k i (a : Int) n) L ∧ L.length = a ∧ ∀ x ∈ L, 0 ≤ x ∧ x < n := by
  obtain ⟨L, hs, hm, hl, hin⟩ := args_l h1 a i (List.replicate a 0) h0 hi (by simp) (by intro i hi _; simp; omega) (by simp; omega)
  have ew : wrap64 ((a : Int) - 1) = (a : Int) - 1 := w64 (by omega)
  refine ⟨L, ?_, ?_, by rw [hl, List.length_replicate], hin⟩
  · unfold spec_l2Args.f
    rw [ew, Int.toNat_natCast]
    exact Ev.pos (by omega) (Ev.pos (by omega) hs)
  · unfold impl_argsAt.f
    rw [ew, Int.toNat_natCast]
    exact Ev.pos (by omega) (Ev.pos (by omega) hm)
theorem mem_fl (p : Nat → Bool) (x : Int) : ∀ (m i : Nat), x ∈ fl p i m ↔ (i : Int) ≤ x ∧ x < ((i + m : Nat) : Int) ∧ p x.toNat = true
  | 0, i => by simp only [fl, List.not_mem_nil, false_iff]; omega
  | m + 1, i => by
    unfold fl
    have ih := mem_fl p x m (i + 1)
    by_cases c : x = (i : Int)
    · have e : x.toNat = i := by omega
      by_cases c2 : p i = true
      · rw [if_pos c2]
        simp only [c, List.mem_cons, true_or, true_iff, Int.toNat_natCast]
        exact ⟨by omega, by omega, c2⟩
      · rw [if_neg c2, ih, e]
        exact ⟨fun h => by omega, fun h => absurd h.2.2 c2⟩
    · have : x ∈ (if p i = true then (i : Int) :: fl p (i + 1) m else fl p (i + 1) m) ↔ x ∈ fl p (i + 1) m := by
        split
        · rw [List.mem_cons]; exact ⟨fun h => h.resolve_left c, .inr⟩
        · rfl
      rw [this, ih]
      constructor
      · exact fun h => ⟨by omega, by omega, h.2.2⟩
      · exact fun h => ⟨by omega, by omega, h.2.2⟩
theorem term_lt {ops : List S75} {t : List Int} (h : okT ops t) : ∀ x ∈ t, x < 6 := by
  intro x hx
  obtain ⟨j, hj, rfl⟩ := List.mem_iff_getElem.1 hx
  obtain ⟨e, he, _⟩ := sub_end h hj
  rw [drop_cons hj, show (1 : Nat) = 0 + 1 from rfl, Go.Proofs.Ytcgkgimkpndhmab.Trm.eat_cons] at he
  obtain ⟨a, ha, _⟩ := Option.bind_eq_some_iff.1 he
  unfold arOf at ha
  by_cases c : t[j] ≥ 6
  · rw [if_pos c] at ha; cases ha
  · omega
def stepV (p : Nat → Bool) (x : Int) : Nat → Bool := if x ≥ 0 then fun i => p i || decide (i = x.toNat) else p
theorem l3Vars_l (t : List Int) (hl : t.length ≤ 1048576) (h6 : ∀ x ∈ t, x < 6) : ∀ (d j : Nat) (p : Nat → Bool), j + d = t.length → Ev (fun k => spec_l3Vars.l0 k t (fl p 0 6) (j : Int)) (fl ((t.drop j).foldl stepV p) 0 6) := by
  intro d
  induction d with
  | zero =>
    intro j p hj
    refine Ev.succ ?_
    simp only [spec_l3Vars.l0]
    refine Ev.neg (by omega) (Ev.const ?_)
    rw [List.drop_of_length_le (by omega)]; rfl
  | succ d ih =>
    intro j p hj
    have hlt : j < t.length := by omega
    have hx := h6 _ (List.getElem_mem hlt)
    refine Ev.succ ?_
    simp only [spec_l3Vars.l0, rd_at hlt, w64s hlt (by omega : t.length ≤ 9223372036854775807)]
    rw [drop_cons hlt, List.foldl_cons]
    have := ih (j + 1) (stepV p t[j]) (by omega)
    refine Ev.pos (by omega) (Ev.pos (by omega) (Ev.cases (fun c => ?_) (fun c => ?_)))
    · have e : ins t[j] (fl p 0 6) = fl (stepV p t[j]) 0 6 := by
        obtain ⟨q, hq⟩ := int_nat c
        rw [hq, ins_fl p q 6 0 (by omega) (by omega)]
        unfold stepV
        rw [if_pos (by omega)]; rfl
      refine Ev.bind (l1Put_v _ _ (Nat.le_trans (fl_len _ _ _) (by omega))) ?_
      rw [e]; exact this
    · have e : stepV p t[j] = p := by unfold stepV; rw [if_neg c]
      rw [e] at this ⊢
      exact this
theorem l3Vars_v (t : List Int) (hl : t.length ≤ 1048576) (h6 : ∀ x ∈ t, x < 6) : Ev (fun k => spec_l3Vars.f k t) (fl (t.foldl stepV fun _ => false) 0 6) := by
  unfold spec_l3Vars.f
  have := l3Vars_l t hl h6 t.length 0 (fun _ => false) (by omega)
  rw [fl_none, List.drop_zero] at this
  exact this
theorem stepV_iff (l : List Int) (i : Nat) : ∀ p : Nat → Bool, (l.foldl stepV p) i = true ↔ p i = true ∨ ∃ x ∈ l, x ≥ 0 ∧ x.toNat = i := by
  induction l with
  | nil => intro p; simp
  | cons x l ih =>
    intro p
    rw [List.foldl_cons, ih]
    have key : stepV p x i = true ↔ p i = true ∨ (x ≥ 0 ∧ x.toNat = i) := by
      unfold stepV
      by_cases c : x ≥ 0
      · rw [if_pos c, Bool.or_eq_true, decide_eq_true_eq]
        exact ⟨fun h => h.imp id fun h => ⟨c, h.symm⟩, fun h => h.imp id fun h => h.2.symm⟩
      · rw [if_neg c]
        exact ⟨.inl, fun h => h.elim id fun h => absurd h.1 c⟩
    rw [key]
    constructor
    · rintro ((h | h) | ⟨y, hy, h⟩)
      · exact .inl h
      · exact .inr ⟨x, by simp, h⟩
      · exact .inr ⟨y, List.mem_cons_of_mem _ hy, h⟩
    · rintro (h | ⟨y, hy, h⟩)
      · exact .inl (.inl h)
      · rcases List.mem_cons.1 hy with rfl | hy
        · exact .inl (.inr h)
        · exact .inr ⟨y, hy, h⟩
def V2 (l r : List Int) : List Int := fl ((l ++ r).foldl stepV fun _ => false) 0 6
theorem V2_len (l r : List Int) : (V2 l r).length ≤ 6 := fl_len _ _ _
theorem mem_V2 {l r : List Int} {x : Int} : x ∈ V2 l r ↔ 0 ≤ x ∧ x < 6 ∧ x ∈ l ++ r := by
  unfold V2
  rw [mem_fl, stepV_iff]
  constructor
  · rintro ⟨h1, h2, h | ⟨y, hy, h3, h4⟩⟩
    · cases h
    · obtain rfl : y = x := by omega
      exact ⟨by omega, by omega, hy⟩
  · exact fun h => ⟨by omega, by omega, .inr ⟨x, h.2.2, h.1, rfl⟩⟩
theorem fl_pw (p : Nat → Bool) : ∀ m i, (fl p i m).Pairwise (· < ·)
  | 0, _ => List.Pairwise.nil
  | m + 1, i => by
    unfold fl
    split
    · refine List.Pairwise.cons (fun x hx => ?_) (fl_pw p m (i + 1))
      have := (mem_fl p x m (i + 1)).1 hx
      omega
    · exact fl_pw p m (i + 1)
theorem V2_last {l r : List Int} (h : 0 < (V2 l r).length) : ∀ x ∈ V2 l r, x ≤ (V2 l r)[(V2 l r).length - 1] := by
  intro x hx
  obtain ⟨j, hj, rfl⟩ := List.mem_iff_getElem.1 hx
  by_cases c : j = (V2 l r).length - 1
  · subst c; exact Int.le_refl _
  · have hp : (V2 l r).Pairwise (· < ·) := fl_pw _ _ _
    have := List.pairwise_iff_getElem.1 hp j ((V2 l r).length - 1) hj (by omega) (by omega)
    exact Int.le_of_lt this
theorem V2_in {l r : List Int} {j : Nat} (h : j < (V2 l r).length) : 0 ≤ (V2 l r)[j] ∧ (V2 l r)[j] < 6 := by
  have := mem_V2.1 (List.getElem_mem h)
  exact ⟨this.1, this.2.1⟩
def nv (l r : List Int) : Nat := if h : 0 < (V2 l r).length then ((V2 l r)[(V2 l r).length - 1] + 1).toNat else 0
theorem nv_le (l r : List Int) : nv l r ≤ 6 := by
  unfold nv
  split
  · rename_i h; have := V2_in (show (V2 l r).length - 1 < (V2 l r).length by omega); omega
  · omega
theorem nv_gt {l r : List Int} {x : Int} (hx : x ∈ V2 l r) : x < (nv l r : Int) := by
  have h : 0 < (V2 l r).length := List.length_pos_of_mem hx
  have h1 := V2_last h x hx
  have h2 := V2_in (show (V2 l r).length - 1 < (V2 l r).length by omega)
  unfold nv
  rw [dif_pos h]
  omega
theorem fits_nv {l r : List Int} (h6 : ∀ x ∈ l ++ r, x < 6) : ∀ x ∈ l ++ r, x < (nv l r : Int) := by
  intro x hx
  by_cases c : 0 ≤ x
  · exact nv_gt (mem_V2.2 ⟨c, h6 x hx, hx⟩)
  · omega
theorem vars1 (LS : List (List Int)) (m : Int) (t : List Int) (hl : t.length ≤ 1048576) (h6 : ∀ x ∈ t, x < 6) (r : List Int) : ∀ (d j : Nat) (h : List Bool) (p : Nat → Bool), h.length = 6 → (∀ i, i < h.length → h.getD i false = p i) → j + d = t.length →
    (∀ h' : List Bool, h'.length = 6 → (∀ i, i < h'.length → h'.getD i false = ((t.drop j).foldl stepV p) i) → Ev (fun k => impl_varsOf.l0 k h' LS (LS.length : Int) (wrap64 (m + 1))) r) →
    Ev (fun k => impl_varsOf.l1 k h LS (LS.length : Int) m t (t.length : Int) (j : Int)) r := by
  intro d
  induction d with
  | zero =>
    intro j h p hh hp hj hr
    refine Ev.succ ?_
    simp only [impl_varsOf.l1]
    rw [List.drop_of_length_le (by omega)] at hr
    exact Ev.neg (by omega) (hr h hh hp)
  | succ d ih =>
    intro j h p hh hp hj hr
    have hlt : j < t.length := by omega
    have hx := h6 _ (List.getElem_mem hlt)
    refine Ev.succ ?_
    simp only [impl_varsOf.l1, rd_at hlt, w64s hlt (by omega : t.length ≤ 9223372036854775807)]
    rw [drop_cons hlt, List.foldl_cons] at hr
    refine Ev.pos (by omega) (Ev.pos (by omega) (Ev.pos (by omega) (Ev.cases (fun c => Ev.pos c (Ev.pos (by rw [hh]; omega) ?_)) (fun c => ?_))))
    · have e : stepV p t[j] = fun i => p i || decide (i = (t[j]).toNat) := by unfold stepV; rw [if_pos c]
      rw [e] at hr
      exact ih (j + 1) _ _ (by rw [List.length_set]; exact hh) (mark_set hp _) (by omega) hr
    · have e : stepV p t[j] = p := by unfold stepV; rw [if_neg c]
      rw [e] at hr
      exact ih (j + 1) h p hh hp (by omega) hr
theorem varsOf2_v (l r : List Int) (hl : l.length ≤ 1048576) (hr : r.length ≤ 1048576) (h6 : ∀ x ∈ l ++ r, x < 6) : Ev (fun k => impl_varsOf.f k [l, r]) (V2 l r) := by
  unfold impl_varsOf.f
  refine Ev.pos (by omega) (Ev.succ ?_)
  simp only [impl_varsOf.l0]
  refine Ev.pos (by simp) (Ev.pos (by omega) (Ev.pos (by simp) ?_))
  refine vars1 [l, r] 0 l hl (fun x hx => h6 x (List.mem_append_left _ hx)) _ l.length 0 (List.replicate 6 false) (fun _ => false) (by simp) (fun i _ => rep_false 6 i) (by omega) (fun h1 hh1 hp1 => Ev.succ ?_)
  simp only [impl_varsOf.l0]
  rw [show wrap64 ((0 : Int) + 1) = 1 by rw [w64 (by omega)]; rfl]
  refine Ev.pos (by simp) (Ev.pos (by omega) (Ev.pos (by simp) ?_))
  refine vars1 [l, r] 1 r hr (fun x hx => h6 x (List.mem_append_right _ hx)) _ r.length 0 h1 _ hh1 hp1 (by omega) (fun h2 hh2 hp2 => Ev.succ ?_)
  simp only [impl_varsOf.l0]
  rw [show wrap64 ((1 : Int) + 1) = 2 by rw [w64 (by omega)]; rfl]
  have := marked_v h2 _ hp2 (by omega)
  rw [hh2, List.drop_zero, List.drop_zero, ← List.foldl_append] at this
  exact Ev.neg (by simp) (Ev.bind this (Ev.now _))
theorem varsS_v (l r : List Int) (hl : l.length ≤ 60) (hr : r.length ≤ 60) (h6 : ∀ x ∈ l ++ r, x < 6) : Ev (fun k => spec_l3Vars.f k (l ++ r)) (V2 l r) := l3Vars_v (l ++ r) (by rw [List.length_append]; omega) h6
def setv : List Int → List Int → List Int → List Int
  | v :: V, a :: A, vals => setv V A (vals.set v.toNat a)
  | _, _, vals => vals
theorem setv_len : ∀ (V A vals : List Int), (setv V A vals).length = vals.length
  | v :: V, a :: A, vals => by rw [setv, setv_len V A]; simp
  | [], _, _ => by simp [setv]
  | _ :: _, [], _ => by simp [setv]
theorem setv_in {n : Int} : ∀ (V A vals : List Int), (∀ x ∈ A, 0 ≤ x ∧ x < n) → (∀ x ∈ vals, 0 ≤ x ∧ x < n) → ∀ x ∈ setv V A vals, 0 ≤ x ∧ x < n
  | v :: V, a :: A, vals, hA, hv => by
    rw [setv]
    refine setv_in V A _ (fun x hx => hA x (List.mem_cons_of_mem _ hx)) (fun x hx => ?_)
    rcases List.mem_or_eq_of_mem_set hx with h | rfl
    · exact hv x h
    · exact hA _ (by simp)
  | [], _, _, _, hv => by simpa [setv] using hv
  | _ :: _, [], _, _, hv => by simpa [setv] using hv
theorem setS_l {n : Int} {ops : List S75} (l r : List Int) (A : List Int) (hA : A.length = (V2 l r).length) (i : Int) (R : List Int × Bool) : ∀ (d j : Nat) (vals : List Int), j + d = (V2 l r).length → vals.length = nv l r →
    Ev (fun k => spec_l3Counter.l2 k (V2 l r) (setv ((V2 l r).drop j) (A.drop j) vals) i A ((V2 l r).length : Int) n ops l r) R →
    Ev (fun k => spec_l3Counter.l2 k (V2 l r) vals i A (j : Int) n ops l r) R := by
  have h6 := V2_len l r
  intro d
  induction d with
  | zero =>
    intro j vals hj hv hR
    rw [List.drop_of_length_le (by omega)] at hR
    obtain rfl : j = (V2 l r).length := by omega
    simpa [setv] using hR
  | succ d ih =>
    intro j vals hj hv hR
    have hlt : j < (V2 l r).length := by omega
    have hltA : j < A.length := by omega
    have hx := V2_in hlt
    have hn := nv_gt (List.getElem_mem hlt)
    rw [drop_cons hlt, drop_cons hltA, setv] at hR
    refine Ev.succ ?_
    simp only [spec_l3Counter.l2, rd_at hlt, rd_at hltA, w64s hlt (by omega)]
    exact Ev.pos (by omega) (Ev.pos (by omega) (Ev.pos (by omega) (Ev.pos hx.1 (Ev.pos (by omega) (ih (j + 1) _ (by omega) (by rw [List.length_set]; exact hv) hR)))))
theorem setI_l {n : Int} {ops : List S75} (l r : List Int) (A : List Int) (hA : A.length = (V2 l r).length) (m i : Int) (R : List Int × Bool × Bool) : ∀ (d j : Nat) (vals : List Int), j + d = (V2 l r).length → vals.length = nv l r →
    Ev (fun k => impl_counterOf.l1 k (V2 l r) m (setv ((V2 l r).drop j) (A.drop j) vals) i A (A.length : Int) (A.length : Int) n ops l r) R →
    Ev (fun k => impl_counterOf.l1 k (V2 l r) m vals i A (A.length : Int) (j : Int) n ops l r) R := by
  have h6 := V2_len l r
  intro d
  induction d with
  | zero =>
    intro j vals hj hv hR
    rw [List.drop_of_length_le (by omega)] at hR
    obtain rfl : j = A.length := by omega
    simpa [setv] using hR
  | succ d ih =>
    intro j vals hj hv hR
    have hlt : j < (V2 l r).length := by omega
    have hltA : j < A.length := by omega
    have hx := V2_in hlt
    have hn := nv_gt (List.getElem_mem hlt)
    rw [drop_cons hlt, drop_cons hltA, setv] at hR
    refine Ev.succ ?_
    simp only [impl_counterOf.l1, rd_at hlt, rd_at hltA, w64s hlt (by omega)]
    exact Ev.pos (by omega) (Ev.pos (by omega) (Ev.pos (by omega) (Ev.pos (by omega) (Ev.pos hx.1 (Ev.pos (by omega) (ih (j + 1) _ (by omega) (by rw [List.length_set]; exact hv) hR))))))
theorem counter_l {n : Int} {ops : List S75} (h : okAlg n ops) {l r : List Int} (hl : okT ops l) (hr : okT ops r) (h6 : ∀ x ∈ l ++ r, x < 6) : ∀ (d i : Nat) (vals : List Int), ((i + d : Nat) : Int) = n ^ (V2 l r).length → vals.length = nv l r → (∀ x ∈ vals, 0 ≤ x ∧ x < n) →
    ∃ (R : List Int) (b : Bool), Ev (fun k => spec_l3Counter.l1 k (V2 l r) vals (i : Int) n ops l r) (if b then (R, true) else ([], false)) ∧ Ev (fun k => impl_counterOf.l0 k (V2 l r) (n ^ (V2 l r).length) vals (i : Int) n ops l r) (if b then (R, true, true) else ([], true, false)) ∧ R.length ≤ 6 := by
  have hV := V2_len l r
  have h1 := h.1
  have h8 := h.2.1
  have hnv := nv_le l r
  have hp := pow_bd h1 h8 hV
  have hpow := l2Pow_v h1 h8 (show 0 ≤ ((V2 l r).length : Int) by omega) (by omega)
  rw [Int.toNat_natCast] at hpow
  have hfit := fits_nv h6
  intro d
  induction d with
  | zero =>
    intro i vals hi hv hin
    refine ⟨[], false, Ev.succ ?_, Ev.succ ?_, by simp⟩
    · simp only [spec_l3Counter.l1]
      exact Ev.bind hpow (Ev.neg (by omega) (Ev.now _))
    · simp only [impl_counterOf.l0]
      exact Ev.neg (by omega) (Ev.now _)
  | succ d ih =>
    intro i vals hi hv hin
    obtain ⟨A, hs, hm, hAl, hAin⟩ := args_v h1 (V2 l r).length (by omega) (i : Int) (by omega) (by omega)
    have hv' : (setv (V2 l r) A vals).length = nv l r := by rw [setv_len]; exact hv
    have hin' := setv_in (V2 l r) A vals hAin hin
    obtain ⟨x, hx1, hx2⟩ := eval_v h hl (by omega) hin' (fun z hz => by rw [hv']; exact hfit z (List.mem_append_left _ hz))
    obtain ⟨y, hy1, hy2⟩ := eval_v h hr (by omega) hin' (fun z hz => by rw [hv']; exact hfit z (List.mem_append_right _ hz))
    have ew : wrap64 ((i : Int) + 1) = ((i + 1 : Nat) : Int) := by rw [w64 (by omega)]; omega
    by_cases c : x = y
    · obtain ⟨R, b, hS, hI, hR⟩ := ih (i + 1) (setv (V2 l r) A vals) (by omega) hv' hin'
      refine ⟨R, b, Ev.succ ?_, Ev.succ ?_, hR⟩
      · simp only [spec_l3Counter.l1]
        refine Ev.bind hpow (Ev.pos (by omega) (Ev.bind hs (setS_l l r A hAl (i : Int) _ (V2 l r).length 0 vals (by omega) hv (Ev.succ ?_))))
        simp only [spec_l3Counter.l2, List.drop_zero, ew]
        exact Ev.neg (by omega) (Ev.bind hx1 (Ev.bind hy1 (Ev.pos c hS)))
      · simp only [impl_counterOf.l0]
        refine Ev.pos (by omega) (Ev.bind hm (setI_l l r A hAl _ (i : Int) _ (V2 l r).length 0 vals (by omega) hv (Ev.succ ?_)))
        simp only [impl_counterOf.l1, List.drop_zero, ew]
        exact Ev.neg (by omega) (Ev.bind hx2 (Ev.bind hy2 (Ev.pos c hI)))
    · refine ⟨setv (V2 l r) A vals, true, Ev.succ ?_, Ev.succ ?_, by omega⟩
      · simp only [spec_l3Counter.l1]
        refine Ev.bind hpow (Ev.pos (by omega) (Ev.bind hs (setS_l l r A hAl (i : Int) _ (V2 l r).length 0 vals (by omega) hv (Ev.succ ?_))))
        simp only [spec_l3Counter.l2, List.drop_zero]
        exact Ev.neg (by omega) (Ev.bind hx1 (Ev.bind hy1 (Ev.neg c (Ev.now _))))
      · simp only [impl_counterOf.l0]
        refine Ev.pos (by omega) (Ev.bind hm (setI_l l r A hAl _ (i : Int) _ (V2 l r).length 0 vals (by omega) hv (Ev.succ ?_)))
        simp only [impl_counterOf.l1, List.drop_zero]
        exact Ev.neg (by omega) (Ev.bind hx2 (Ev.bind hy2 (Ev.neg c (Ev.now _))))
theorem grow_l {n : Int} {ops : List S75} {l r : List Int} (hV : 0 < (V2 l r).length) (R : List Int × Bool) (hR : Ev (fun k => spec_l3Counter.l1 k (V2 l r) (List.replicate (nv l r) 0) 0 n ops l r) R) : ∀ (d j : Nat), j + d = nv l r →
    Ev (fun k => spec_l3Counter.l0 k (V2 l r) (List.replicate j 0) n ops l r) R := by
  have h6 := V2_len l r
  have hnv := nv_le l r
  have hlt : (V2 l r).length - 1 < (V2 l r).length := by omega
  have hx := V2_in hlt
  have e0 : nv l r = ((V2 l r)[(V2 l r).length - 1] + 1).toNat := by unfold nv; rw [dif_pos hV]
  have ew : wrap64 (((V2 l r).length : Int) - 1) = (((V2 l r).length - 1 : Nat) : Int) := by rw [w64 (by omega)]; omega
  intro d
  induction d with
  | zero =>
    intro j hj
    refine Ev.succ ?_
    simp only [spec_l3Counter.l0, ew, rd_at hlt, List.length_replicate]
    refine Ev.pos (by omega) (Ev.pos (by omega) (Ev.pos (by omega) (Ev.neg (by omega) (Ev.succ ?_))))
    simp only [spec_l3Counter.j1]
    obtain rfl : j = nv l r := by omega
    exact hR
  | succ d ih =>
    intro j hj
    refine Ev.succ ?_
    simp only [spec_l3Counter.l0, ew, rd_at hlt, List.length_replicate]
    refine Ev.pos (by omega) (Ev.pos (by omega) (Ev.pos (by omega) (Ev.pos (by omega) (Ev.pos (by omega) ?_))))
    rw [← List.replicate_succ']
    exact ih (j + 1) (by omega)
theorem counter_v {n : Int} {ops : List S75} (h : okAlg n ops) {l r : List Int} (hl : okT ops l) (hr : okT ops r) :
    (n ^ (V2 l r).length ≤ 5000 → ∃ (R : List Int) (b : Bool), Ev (fun k => spec_l3Counter.f k n ops l r) (if b then (R, true) else ([], false)) ∧ Ev (fun k => impl_counterOf.f k n ops l r) (if b then (R, true, true) else ([], true, false)) ∧ R.length ≤ 6) ∧
    (¬ n ^ (V2 l r).length ≤ 5000 → Ev (fun k => impl_counterOf.f k n ops l r) ([], false, false)) := by
  have h6 : ∀ x ∈ l ++ r, x < 6 := fun x hx => (List.mem_append.1 hx).elim (term_lt hl x) (term_lt hr x)
  have h1 := h.1
  have h8 := h.2.1
  have hll := hl.1
  have hrl := hr.1
  have hV := V2_len l r
  have hnv := nv_le l r
  have hp := pow_bd h1 h8 hV
  have hI := varsOf2_v l r (by omega) (by omega) h6
  have hS := varsS_v l r hll hrl h6
  have hpw := power_v h1 h8 (show 0 ≤ ((V2 l r).length : Int) by omega) (by omega)
  rw [Int.toNat_natCast] at hpw
  constructor
  · intro c
    obtain ⟨R, b, h1', h2', hR⟩ := counter_l h hl hr h6 (n ^ (V2 l r).length).toNat 0 (List.replicate (nv l r) 0) (by omega) (by simp) (by intro x hx; rw [List.mem_replicate] at hx; omega)
    refine ⟨R, b, ?_, ?_, hR⟩
    · unfold spec_l3Counter.f
      refine Ev.bound (own_v (by omega)) (Ev.pos (by omega) (Ev.bind hS ?_))
      by_cases c2 : 0 < (V2 l r).length
      · exact grow_l c2 _ h1' (nv l r) 0 (by omega)
      · refine Ev.succ ?_
        simp only [spec_l3Counter.l0]
        refine Ev.neg (by omega) (Ev.succ ?_)
        simp only [spec_l3Counter.j1]
        have e0 : nv l r = 0 := by unfold nv; rw [dif_neg c2]
        rw [e0] at h1'
        exact h1'
    · unfold impl_counterOf.f
      refine Ev.bind hI (Ev.bind hpw (Ev.neg (by omega) ?_))
      by_cases c2 : 0 < (V2 l r).length
      · have hlt : (V2 l r).length - 1 < (V2 l r).length := by omega
        have hx := V2_in hlt
        have e0 : nv l r = ((V2 l r)[(V2 l r).length - 1] + 1).toNat := by unfold nv; rw [dif_pos c2]
        have ew : wrap64 (((V2 l r).length : Int) - 1) = (((V2 l r).length - 1 : Nat) : Int) := by rw [w64 (by omega)]; omega
        rw [ew, rd_at hlt, w64 (n := (V2 l r)[(V2 l r).length - 1] + 1) (by omega), ← e0]
        refine Ev.pos (by omega) (Ev.pos (by omega) (Ev.pos (by omega) (Ev.pos (by omega) (Ev.pos (by omega) (Ev.succ ?_)))))
        simp only [impl_counterOf.j0]
        exact h2'
      · refine Ev.neg (by omega) (Ev.succ ?_)
        simp only [impl_counterOf.j0]
        have e0 : nv l r = 0 := by unfold nv; rw [dif_neg c2]
        rw [e0] at h2'
        exact h2'
  · intro c
    unfold impl_counterOf.f
    exact Ev.bind hI (Ev.bind hpw (Ev.pos (by omega) (Ev.now _)))
theorem asked_l {n : Int} {ops : List S75} (h1 : 1 ≤ n) (h8 : n ≤ 8) (V : List Int) (hV : V.length ≤ 6) : ∀ (d j : Nat), j + d = V.length → Ev (fun k => spec_l3Asked.l0 k V (n ^ j) (j : Int) n ops) (decide (n ^ V.length ≤ 5000)) := by
  intro d
  induction d with
  | zero =>
    intro j hj
    obtain rfl : j = V.length := by omega
    refine Ev.succ ?_
    simp only [spec_l3Asked.l0]
    exact Ev.neg (by omega) (Ev.now _)
  | succ d ih =>
    intro j hj
    have hp := pow_bd h1 h8 (show j + 1 ≤ 6 by omega)
    refine Ev.succ ?_
    simp only [spec_l3Asked.l0]
    rw [← pow_next, w64 (n := n ^ (j + 1)) (by omega), w64 (n := (j : Int) + 1) (by omega)]
    exact Ev.pos (by omega) (ih (j + 1) (by omega))
theorem asked_v {n : Int} {ops : List S75} (h : okAlg n ops) (l r : List Int) : Ev (fun k => spec_l3Asked.f k n ops l r) (decide ((okT ops l ∧ okT ops r) ∧ n ^ (V2 l r).length ≤ 5000)) := by
  have hs := okAlg_small h
  unfold spec_l3Asked.f
  refine Ev.bind (l3Good_v hs l) ?_
  by_cases cl : okT ops l
  · refine Ev.pos (decide_eq_true cl) (Ev.bind (l3Good_v hs r) (Ev.succ ?_))
    simp only [spec_l3Asked.j0]
    by_cases cr : okT ops r
    · have h6 : ∀ x ∈ l ++ r, x < 6 := fun x hx => (List.mem_append.1 hx).elim (term_lt cl x) (term_lt cr x)
      have hll := cl.1
      have hrl := cr.1
      refine Ev.neg (by simp [cr]) (Ev.bound (own_v (by omega)) (Ev.pos (by omega) (Ev.bind (varsS_v l r hll hrl h6) ?_)))
      have hq := asked_l (ops := ops) h.1 h.2.1 (V2 l r) (V2_len l r) (V2 l r).length 0 (by omega)
      rw [Int.pow_zero] at hq
      refine Ev.eq hq ?_
      by_cases c : n ^ (V2 l r).length ≤ 5000
      · rw [decide_eq_true c, decide_eq_true ⟨⟨cl, cr⟩, c⟩]
      · rw [decide_eq_false c, decide_eq_false (fun h => c h.2)]
    · refine Ev.pos (by simp [cr]) (Ev.const ?_)
      rw [decide_eq_false (fun h => cr h.1.2)]
  · refine Ev.neg (by simp [cl]) (Ev.succ ?_)
    simp only [spec_l3Asked.j0]
    refine Ev.pos trivial (Ev.const ?_)
    rw [decide_eq_false (fun h => cl h.1.1)]
theorem isIdentity_v {n : Int} {ops : List S75} (h : okAlg n ops) (l r : List Int) : Ev (fun k => impl_isIdentity.f k n ops l r) (decide (okT ops l ∧ okT ops r)) := by
  have hs := okAlg_small h
  unfold impl_isIdentity.f
  refine Ev.bind (isTerm_v hs l) ?_
  by_cases cl : okT ops l
  · refine Ev.pos (decide_eq_true cl) (Ev.bind (isTerm_v hs r) (Ev.const ?_))
    by_cases cr : okT ops r
    · rw [decide_eq_true cr, decide_eq_true ⟨cl, cr⟩]
    · rw [decide_eq_false cr, decide_eq_false (fun h => cr h.2)]
  · refine Ev.neg (by simp [cl]) (Ev.const ?_)
    rw [decide_eq_false (fun h => cl h.1)]
theorem szIdentity_v (l r : List Int) (left : Int) (hl : l.length ≤ 9223372036854775807) (hr : r.length ≤ 9223372036854775807) (h0 : 0 ≤ left) (h1 : left ≤ 1048576) :
    ∃ s, laws_szIdentity.f l r left = some s ∧ (s < 0 ∨ (0 ≤ s ∧ s ≤ left ∧ l.length ≤ 1048576 ∧ r.length ≤ 1048576)) := by
  unfold laws_szIdentity.f
  obtain ⟨a, ha, ca⟩ := szIntS_v l left hl h0 h1
  rw [ha, Option.bind_some]
  by_cases c : a < 0
  · rw [if_pos c]; exact ⟨-1, rfl, .inl (by omega)⟩
  · rw [if_neg c]
    obtain ⟨b, hb, cb⟩ := szIntS_v r a hr (by omega) (by omega)
    rw [hb, Option.bind_some]
    by_cases c2 : b < 0
    · rw [if_pos c2]; exact ⟨-1, rfl, .inl (by omega)⟩
    · rw [if_neg c2]; exact ⟨b, rfl, .inr (by omega)⟩
theorem toIdentity_v (l r : List Int) (hl : l.length ≤ 1048576) (hr : r.length ≤ 1048576) : Ev (fun k => laws_toIdentity.f k l r) (l, r) := by
  unfold laws_toIdentity.f
  exact Ev.bind (toIntS_v l hl) (Ev.bind (toIntS_v r hr) (Ev.now _))
theorem eqIdentity_v (l r : List Int) (hl : l.length ≤ 1048576) (hr : r.length ≤ 1048576) : Ev (fun k => laws_eqIdentity.f k l r l r) true := by
  unfold laws_eqIdentity.f
  exact Ev.bind (eqIntS_v l (by omega)) (Ev.pos rfl (Ev.bind (eqIntS_v r (by omega)) (Ev.pos rfl (Ev.now _))))
theorem firstCounter_v (n : Int) (ops : List S75) (ho : ∀ o ∈ ops, o.f1.length ≤ 9223372036854775807) (l r : List Int) :
    ∃ R : List Int × Bool, Ev (fun k => spec_FirstCounter.f k n ops l r) R ∧ Ev (fun k => impl_FirstCounter.f k n ops l r) R ∧ R.1.length ≤ 6 := by
  have noI : Ev (fun k => impl_FirstCounter.j0 k true n ops l r) ([], false) := by
    refine Ev.succ ?_
    simp only [impl_FirstCounter.j0]
    exact Ev.pos trivial (Ev.now _)
  by_cases h : okAlg n ops
  · have hA := asked_v h l r
    have hI := isIdentity_v h l r
    by_cases c : okT ops l ∧ okT ops r
    · obtain ⟨c1, c2⟩ := counter_v h c.1 c.2
      rw [decide_eq_true c] at hI
      by_cases c5 : n ^ (V2 l r).length ≤ 5000
      · obtain ⟨R, b, h1, h2, hR⟩ := c1 c5
        rw [decide_eq_true ⟨c, c5⟩] at hA
        refine ⟨if b then (R, true) else ([], false), ?_, ?_, by cases b <;> simp [hR]⟩
        · unfold spec_FirstCounter.f
          refine Ev.bind (l2Good_v n ops ho) (Ev.pos (decide_eq_true h) (Ev.bind hA (Ev.pos rfl (Ev.bind h1 ?_))))
          cases b <;> exact Ev.now _
        · unfold impl_FirstCounter.f
          refine Ev.bind (implIsAlgebra_v n ops ho) (Ev.pos (decide_eq_true h) (Ev.bind hI (Ev.succ ?_)))
          simp only [impl_FirstCounter.j0]
          refine Ev.neg (by simp) (Ev.bind h2 ?_)
          cases b with
          | true => exact Ev.pos rfl (Ev.neg (by simp) (Ev.now _))
          | false => exact Ev.pos rfl (Ev.pos rfl (Ev.now _))
      · rw [decide_eq_false (fun h => c5 h.2)] at hA
        refine ⟨([], false), ?_, ?_, by simp⟩
        · unfold spec_FirstCounter.f
          exact Ev.bind (l2Good_v n ops ho) (Ev.pos (decide_eq_true h) (Ev.bind hA (Ev.neg (by simp) (Ev.now _))))
        · unfold impl_FirstCounter.f
          refine Ev.bind (implIsAlgebra_v n ops ho) (Ev.pos (decide_eq_true h) (Ev.bind hI (Ev.succ ?_)))
          simp only [impl_FirstCounter.j0]
          exact Ev.neg (by simp) (Ev.bind (c2 c5) (Ev.neg (by simp) (Ev.now _)))
    · rw [decide_eq_false (fun h => c h.1)] at hA
      rw [decide_eq_false c] at hI
      refine ⟨([], false), ?_, ?_, by simp⟩
      · unfold spec_FirstCounter.f
        exact Ev.bind (l2Good_v n ops ho) (Ev.pos (decide_eq_true h) (Ev.bind hA (Ev.neg (by simp) (Ev.now _))))
      · unfold impl_FirstCounter.f
        exact Ev.bind (implIsAlgebra_v n ops ho) (Ev.pos (decide_eq_true h) (Ev.bind hI noI))
  · refine ⟨([], false), ?_, ?_, by simp⟩
    · unfold spec_FirstCounter.f
      exact Ev.bind (l2Good_v n ops ho) (Ev.neg (by simp only [decide_eq_true_eq]; exact h) (Ev.now _))
    · unfold impl_FirstCounter.f
      exact Ev.bind (implIsAlgebra_v n ops ho) (Ev.neg (by simp only [decide_eq_true_eq]; exact h) noI)
theorem pure (n : Int) (ops : List S79) (l r : List Int) (hn : I64 n) (hl : ops.length ≤ 9223372036854775807) (ho : ∀ o ∈ ops, WfOp o) (hll : l.length ≤ 9223372036854775807) (hlv : ∀ x ∈ l, I64 x) (hrl : r.length ≤ 9223372036854775807) (hrv : ∀ x ∈ r, I64 x) : ∃ k, laws_FnExactFirstCounter.f k n ops l r = some true := by
  apply Ev.rounds
  unfold laws_FnExactFirstCounter.f
  refine szAlgebra_law hl ho (by omega) (by omega) fun hs s hs0 hs1 => ?_
  obtain ⟨s', hs', cs⟩ := szIdentity_v l r s hll hrl hs0 hs1
  refine Ev.bound hs' (Ev.cases (fun _ => Ev.now _) (fun c => ?_))
  obtain ⟨m, hm, hm0, hm1⟩ := markAlgebra_cv n ops hs 1 (by omega) (by omega)
  obtain ⟨R, h1, h2, hR⟩ := firstCounter_v n (ops.map cvOp) (short_cv hs) l r
  refine Ev.bind (toAlgebra_v n ops hs) (Ev.bind (toIdentity_v l r (by omega) (by omega)) (Ev.bind h1 (Ev.bind h2 (Ev.bind (eqIntS_v _ (by omega)) (Ev.pos (by simp) (Ev.bind (eqAlgebra_cv n ops hs) (Ev.pos rfl (Ev.bind (eqIdentity_v l r (by omega) (by omega)) (Ev.pos rfl (Ev.bind hm ?_))))))))))
  refine Ev.bind (a := (m.1 + (l.length : Int) + (r.length : Int), seqI m.1 l.length, seqI (m.1 + (l.length : Int)) r.length)) ?_ (Ev.pos (by show ¬ (m.1 + (l.length : Int) + (r.length : Int)) < 0; omega) ?_)
  · unfold laws_markIdentity.f
    exact Ev.bind (markIntS_v l m.1 (by omega) (by omega) (by omega)) (Ev.bind (markIntS_v r _ (by omega) (by omega) (by omega)) (Ev.now _))
  · exact Ev.bind (markIntS_v _ 1 (by omega) (by omega) (by omega)) (Ev.bind (heldIntS_v _ 1 (by omega) (by omega) (by omega)) (Ev.pos (by omega) (Ev.pos rfl (Ev.now _))))
end Go.Proofs.Ytcgkgimkpndhmab.LFnExactFirstCounter

