/- Plain lemmas on terms in prefix order: how many numbers n terms take from the front of a list. -/
import Derived.Test.YtflkiiiomnogfaaBase
namespace Go.Proofs.Ytflkiiiomnogfaa.Trm

/-- How many numbers the first n terms of a list take; ar tells how many terms stand behind a number. -/
def eat (ar : Int → Option Nat) : List Int → Nat → Option Nat
  | _, 0 => some 0
  | [], _ + 1 => none
  | x :: r, n + 1 => (ar x).bind fun a => (eat ar r (n + a)).map (· + 1)

variable {ar : Int → Option Nat}
theorem eat_zero (l : List Int) : eat ar l 0 = some 0 := by cases l <;> rfl
theorem eat_nil (n : Nat) : eat ar [] (n + 1) = none := rfl
theorem eat_cons (x : Int) (r : List Int) (n : Nat) : eat ar (x :: r) (n + 1) = (ar x).bind fun a => (eat ar r (n + a)).map (· + 1) := rfl
theorem eat_le : ∀ (l : List Int) (n e : Nat), eat ar l n = some e → n ≤ e ∧ e ≤ l.length
  | l, 0, e, h => by rw [eat_zero] at h; cases h; omega
  | [], n + 1, e, h => by cases h
  | x :: r, n + 1, e, h => by
    rw [eat_cons] at h
    obtain ⟨a, ha, h⟩ := Option.bind_eq_some_iff.1 h
    obtain ⟨e', he, rfl⟩ := Option.map_eq_some_iff.1 h
    have := eat_le r (n + a) e' he
    rw [List.length_cons]
    omega
theorem eat_add : ∀ (l : List Int) (m n : Nat), eat ar l (m + n) = (eat ar l m).bind fun i => (eat ar (l.drop i) n).map (i + ·)
  | l, 0, n => by
    rw [eat_zero]
    simp
  | [], m + 1, n => by
    rw [show m + 1 + n = m + n + 1 by omega, eat_nil, eat_nil]; rfl
  | x :: r, m + 1, n => by
    rw [show m + 1 + n = m + n + 1 by omega, eat_cons, eat_cons]
    cases ha : ar x with
    | none => rfl
    | some a =>
      simp only [Option.bind_some]
      rw [show m + n + a = m + a + n by omega, eat_add r (m + a) n]
      cases hb : eat ar r (m + a) with
      | none => rfl
      | some i =>
        simp only [Option.bind_some, Option.map_some, List.drop_succ_cons]
        cases eat ar (r.drop i) n with
        | none => rfl
        | some q => simp; omega
/-- What n terms take does not depend on what stands behind them. -/
theorem eat_front : ∀ (l : List Int) (n e : Nat) (s : List Int), eat ar l n = some e → eat ar (l.take e ++ s) n = some e
  | l, 0, e, s, h => by rw [eat_zero] at *; exact h
  | [], n + 1, e, s, h => by cases h
  | x :: r, n + 1, e, s, h => by
    rw [eat_cons] at h
    obtain ⟨a, ha, h⟩ := Option.bind_eq_some_iff.1 h
    obtain ⟨e', he, rfl⟩ := Option.map_eq_some_iff.1 h
    rw [List.take_succ_cons, List.cons_append, eat_cons, ha]
    simp only [Option.bind_some]
    rw [eat_front r (n + a) e' s he]; rfl
theorem eat_take {l : List Int} {n e : Nat} (h : eat ar l n = some e) : eat ar (l.take e) n = some e := by
  have := eat_front l n e [] h
  rwa [List.append_nil] at this
/-- Behind each place of n whole terms stand whole terms. -/
theorem eat_drop : ∀ (l : List Int) (n : Nat), eat ar l n = some l.length → ∀ j, j ≤ l.length → ∃ m, eat ar (l.drop j) m = some (l.length - j) ∧ (j < l.length → 1 ≤ m)
  | l, n, h, 0, hj => ⟨n, by simpa using h, fun hlt => by
      cases n with
      | zero => rw [eat_zero] at h; injection h with h; omega
      | succ n => omega⟩
  | [], n, h, j + 1, hj => by simp at hj
  | x :: r, 0, h, j + 1, hj => by rw [eat_zero] at h; simp at h
  | x :: r, n + 1, h, j + 1, hj => by
    rw [eat_cons] at h
    obtain ⟨a, ha, h⟩ := Option.bind_eq_some_iff.1 h
    obtain ⟨e', he, h⟩ := Option.map_eq_some_iff.1 h
    rw [List.length_cons] at h hj
    obtain rfl : e' = r.length := by omega
    obtain ⟨m, hm, h1⟩ := eat_drop r (n + a) he j (by omega)
    refine ⟨m, ?_, fun hlt => h1 (by rw [List.length_cons] at hlt; omega)⟩
    rw [List.drop_succ_cons, List.length_cons, hm]
    congr 1; omega
/-- Each place of a term begins a subterm. -/
theorem eat_sub {l : List Int} {n : Nat} (h : eat ar l n = some l.length) {j : Nat} (hj : j < l.length) : ∃ e, eat ar (l.drop j) 1 = some e ∧ 1 ≤ e ∧ j + e ≤ l.length := by
  obtain ⟨m, hm, h1⟩ := eat_drop l n h j (by omega)
  have h1 := h1 hj
  rw [show m = 1 + (m - 1) by omega, eat_add] at hm
  obtain ⟨e, he, _⟩ := Option.bind_eq_some_iff.1 hm
  have := eat_le _ _ _ he
  rw [List.length_drop] at this
  exact ⟨e, he, by omega, by omega⟩
end Go.Proofs.Ytflkiiiomnogfaa.Trm
