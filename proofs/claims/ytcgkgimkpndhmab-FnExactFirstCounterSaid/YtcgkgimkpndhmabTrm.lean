/- Plain lemmas on terms in prefix order: how many numbers n terms take from the front of a list. -/
import Derived.Test.YtcgkgimkpndhmabBase
namespace Go.Proofs.Ytcgkgimkpndhmab.Trm

/-- How many numbers the first n terms of a list take; ar tells how many terms stand behind a number. -/
def eat (ar : Int → Option Nat) : List Int → Nat → Option Nat
  | _, 0 => some 0
  | [], _ + 1 => none
  | x :: r, n + 1 => (ar x).bind fun a => (eat ar r (n + a)).map (· + 1)

variable {ar : Int → Option Nat}
theorem eat_zero (l : List Int) : eat ar l 0 = some 0 := by cases l <;> rfl
theorem eat_nil (n : Nat) : eat ar [] (n + 1) = none := rfl
theorem eat_cons (x : Int) (r : List Int) (n : Nat) : eat ar (x :: r) (n + 1) = (ar x).bind fun a => (eat ar r (n + a)).map (· + 1) := rfl
theorem eat_le : ∀ (l : List Int) (n e : Nat), eat ar l n = some e → n ≤ e ∧ e ≤ l.length
  | l, 0, e, h => by rw [eat_zero] at h; cases h; omega
  | [], n + 1, e, h => by cases h
  | x :: r, n + 1, e, h => by
    rw [eat_cons] at h
    obtain ⟨a, ha, h⟩ := Option.bind_eq_some_iff.1 h
    obtain ⟨e', he, rfl⟩ := Option.map_eq_some_iff.1 h
    have := eat_le r (n + a) e' he
    rw [List.length_cons]
    omega
theorem eat_add : ∀ (l : List Int) (m n : Nat), eat ar l (m + n) = (eat ar l m).bind fun i => (eat ar (l.drop i) n).map (i + ·)
  | l, 0, n => by
    rw [eat_zero]
    simp
  | [], m + 1, n => by
    rw [show m + 1 + n = m + n + 1 by omega, eat_nil, eat_nil]; rfl
  | x :: r, m + 1, n => by
    rw [show m + 1 + n = m + n + 1 by omega, eat_cons, eat_cons]
    cases ha : ar x with
    | none => rfl
    | some a =>
      simp only [Option.bind_some]
      rw [show m + n + a = m + a + n by omega, eat_add r (m + a) n]
      cases hb : eat ar r (m + a) with
      | none => rfl
      | some i =>
        simp only [Option.bind_some, Option.map_some, List.drop_succ_cons]
        cases eat ar (r.drop i) n with
        | none => rfl
        | some q => simp; omega
/-- What n terms take does not depend on what stands behind them. -/
theorem eat_front : ∀ (l : List Int) (n e : Nat) (s : List Int), eat ar l n = some e → eat ar (l.take e ++ s) n = some e
  | l, 0, e, s, h => by rw [eat_zero] at *; exact h
  | [], n + 1, e, s, h => by cases h
  | x :: r, n + 1, e, s, h => by
    rw [eat_cons] at h
    obtain ⟨a, ha, h⟩ := Option.bind_eq_some_iff.1 h
    obtain ⟨e', he, rfl⟩ := Option.map_eq_some_iff.1 h
    rw [List.take_succ_cons, List.cons_append, eat_cons, ha]
    simp only [Option.bind_some]
    rw [eat_front r (n + a) e' s he]; rfl
theorem eat_take {l : List Int} {n e : Nat} (h : eat ar l n = some e) : eat ar (l.take e) n = some e := by
  have := eat_front l n e [] h
  rwa [List.append_nil] at this
/-- Behind each place of n whole terms stand whole terms. -/
theorem eat_drop : ∀ (l : List Int) (n : Nat), eat ar l n = some l.length → ∀ j, j ≤ l.length → ∃ m, eat ar (l.drop j) m = some (l.length - j) ∧ (j < l.length → 1 ≤ m)
  | l, n, h, 0, hj => ⟨n, by simpa using h, fun hlt => by
      cases n with
      | zero => rw [eat_zero] at h; injection h with h; omega
      | succ n => omega⟩
  | [], n, h, j + 1, hj => by simp at hj
  | x :: r, 0, h, j + 1, hj => by rw [eat_zero] at h; simp at h
  | x :: r, n + 1, h, j + 1, hj => by
    rw [eat_cons] at h
    obtain ⟨a, ha, h⟩ := Option.bind_eq_some_iff.1 h
    obtain ⟨e', he, h⟩ := Option.map_eq_some_iff.1 h
    rw [List.length_cons] at h hj
    obtain rfl : e' = r.length := by omega
    obtain ⟨m, hm, h1⟩ := eat_drop r (n + a) he j (by omega)
    refine ⟨m, ?_, fun hlt => h1 (by rw [List.length_cons] at hlt; omega)⟩
    rw [List.drop_succ_cons, List.length_cons, hm]
    congr 1; omega
/-- Each place of a term begins a subterm. -/
theorem eat_sub {l : List Int} {n : Nat} (h : eat ar l n = some l.length) {j : Nat} (hj : j < l.length) : ∃ e, eat ar (l.drop j) 1 = some e ∧ 1 ≤ e ∧ j + e ≤ l.length := by
  obtain ⟨m, hm, h1⟩ := eat_drop l n h j (by omega)
  have h1 := h1 hj
  rw [show m = 1 + (m - 1) by omega, eat_add] at hm
  obtain ⟨e, he, _⟩ := Option.bind_eq_some_iff.1 hm
  have := eat_le _ _ _ he
  rw [List.length_drop] at this
  exact ⟨e, he, by omega, by omega⟩
/-- One term, then n more. -/
theorem eat_one {l : List Int} {n E : Nat} (h : eat ar l (n + 1) = some E) : ∃ e, eat ar l 1 = some e ∧ eat ar (l.drop e) n = some (E - e) ∧ 1 ≤ e ∧ e ≤ E := by
  rw [Nat.add_comm, eat_add] at h
  obtain ⟨e, he, h⟩ := Option.bind_eq_some_iff.1 h
  obtain ⟨q, hq, rfl⟩ := Option.map_eq_some_iff.1 h
  have := eat_le _ _ _ he
  exact ⟨e, he, by rw [hq]; congr 1; omega, this.1, by omega⟩
/-- A term is its first number and the terms behind it. -/
theorem eat_head {x : Int} {r : List Int} {E : Nat} (h : eat ar (x :: r) 1 = some E) : ∃ a, ar x = some a ∧ eat ar r a = some (E - 1) ∧ 1 ≤ E := by
  rw [show (1 : Nat) = 0 + 1 from rfl, eat_cons] at h
  obtain ⟨a, ha, h⟩ := Option.bind_eq_some_iff.1 h
  obtain ⟨q, hq, rfl⟩ := Option.map_eq_some_iff.1 h
  rw [Nat.zero_add] at hq
  exact ⟨a, ha, by rw [hq]; rfl, by omega⟩
/-- The first n terms of a list, one by one. -/
def parts (ar : Int → Option Nat) : List Int → Nat → List (List Int)
  | _, 0 => []
  | l, n + 1 => match eat ar l 1 with
    | none => []
    | some e => l.take e :: parts ar (l.drop e) n
theorem parts_succ {l : List Int} {n e : Nat} (h : eat ar l 1 = some e) : parts ar l (n + 1) = l.take e :: parts ar (l.drop e) n := by
  rw [parts, h]
theorem parts_len : ∀ (n : Nat) (l : List Int), (parts ar l n).length ≤ n
  | 0, _ => Nat.le_refl _
  | n + 1, l => by
    rw [parts]
    split
    · simp
    · have := parts_len n (l.drop ‹_›)
      simp only [List.length_cons]; omega
theorem parts_take : ∀ (n : Nat) (l : List Int) (E : Nat), eat ar l n = some E → parts ar (l.take E) n = parts ar l n
  | 0, _, _, _ => rfl
  | n + 1, l, E, h => by
    obtain ⟨e, he, hr, h1, h2⟩ := eat_one h
    have h3 := eat_front l 1 e ((l.drop e).take (E - e)) he
    have h4 : l.take e ++ (l.drop e).take (E - e) = l.take E := by
      rw [← List.take_add, Nat.add_sub_cancel' h2]
    rw [h4] at h3
    rw [parts_succ he, parts_succ h3]
    congr 1
    · rw [List.take_take, Nat.min_eq_left h2]
    · rw [List.drop_take]
      exact parts_take n (l.drop e) (E - e) hr
theorem parts_mem : ∀ (n : Nat) (l : List Int) (E : Nat), eat ar l n = some E → ∀ p ∈ parts ar l n, eat ar p 1 = some p.length ∧ 1 ≤ p.length ∧ p.length ≤ E
  | 0, _, _, _, p, hp => by simp [parts] at hp
  | n + 1, l, E, h, p, hp => by
    obtain ⟨e, he, hr, h1, h2⟩ := eat_one h
    rw [parts_succ he] at hp
    rcases List.mem_cons.1 hp with rfl | hp
    · have := (eat_le _ _ _ he).2
      have e2 : (l.take e).length = e := by rw [List.length_take]; omega
      rw [e2]
      exact ⟨eat_take he, h1, h2⟩
    · have := parts_mem n (l.drop e) (E - e) hr p hp
      exact ⟨this.1, this.2.1, by omega⟩
/-- The depth of a term; f is at least its length. -/
def dep (ar : Int → Option Nat) : Nat → List Int → Nat
  | 0, _ => 0
  | _ + 1, [] => 0
  | f + 1, x :: r => if 0 ≤ x then 0 else ((parts ar r ((ar x).getD 0)).map (dep ar f)).foldl max 0 + 1
theorem foldl_max_le (l : List Nat) (b m : Nat) (h : ∀ x ∈ l, x ≤ b) (hm : m ≤ b) : l.foldl max m ≤ b := by
  induction l generalizing m with
  | nil => exact hm
  | cons x l ih =>
    rw [List.foldl_cons]
    exact ih _ (fun y hy => h y (by simp [hy])) (by have := h x (by simp); omega)
theorem dep_le : ∀ (f : Nat) (t : List Int), dep ar f t ≤ f
  | 0, _ => Nat.le_refl _
  | _ + 1, [] => Nat.zero_le _
  | f + 1, x :: r => by
    rw [dep]
    split
    · omega
    · have : ((parts ar r ((ar x).getD 0)).map (dep ar f)).foldl max 0 ≤ f := foldl_max_le _ f 0 (fun y hy => by
        obtain ⟨p, _, rfl⟩ := List.mem_map.1 hy
        exact dep_le f p) (Nat.zero_le _)
      omega
end Go.Proofs.Ytcgkgimkpndhmab.Trm
