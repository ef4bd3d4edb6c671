/- Plain lemmas on loops that come to an answer with enough rounds, on 64-bit numbers and on reading lists by an index. -/
import Derived.Test.YthofhfmdomppeaaWWords
namespace Go.Proofs.Ythofhfmdomppeaa.Base
open Go.RowKit Go.Proofs.YthofhfmdomppeaaW.PrintWords

theorem Ev.pos {ρ : Type} {c : Prop} [Decidable c] {g f : Nat → Option ρ} {r : ρ} (h : c) (k : Ev g r) : Ev (fun n => if c then g n else f n) r := by
  simpa only [if_pos h] using k
theorem Ev.neg {ρ : Type} {c : Prop} [Decidable c] {g f : Nat → Option ρ} {r : ρ} (h : ¬ c) (k : Ev f r) : Ev (fun n => if c then g n else f n) r := by
  simpa only [if_neg h] using k
theorem Ev.cases {ρ : Type} {c : Prop} [Decidable c] {g f : Nat → Option ρ} {r : ρ} (h : c → Ev g r) (k : ¬ c → Ev f r) : Ev (fun n => if c then g n else f n) r := by
  by_cases hc : c
  · exact Ev.pos hc (h hc)
  · exact Ev.neg hc (k hc)
theorem Ev.bound {α β : Type} {o : Option α} {f : Nat → α → Option β} {a : α} {r : β} (h : o = some a) (k : Ev (fun n => f n a) r) : Ev (fun n => o.bind (f n)) r := by
  subst h; exact k
theorem Ev.succ {α : Type} {g : Nat → Option α} {r : α} (h : Ev (fun k => g (k + 1)) r) : Ev g r := Ev.step (fun _ => rfl) h
theorem Ev.eq {α : Type} {g : Nat → Option α} {r r' : α} (h : Ev g r) (e : r = r') : Ev g r' := e ▸ h
theorem Ev.const {α : Type} {o : Option α} {r : α} (h : o = some r) : Ev (fun _ => o) r := ⟨0, fun _ _ => h⟩

theorem w64 {n : Int} (h : -9223372036854775808 ≤ n ∧ n ≤ 9223372036854775807) : wrap64 n = n := by
  unfold wrap64; omega
theorem w64s {j n : Nat} (h : j < n) (hn : n ≤ 9223372036854775807) : wrap64 ((j : Int) + 1) = ((j + 1 : Nat) : Int) := by
  unfold wrap64; omega
theorem rd_nat (xs : List Int) (j : Nat) : rd xs (j : Int) = xs.getD j 0 := rfl
theorem rd_at {xs : List Int} {j : Nat} (h : j < xs.length) : rd xs (j : Int) = xs[j] := by
  rw [rd_nat, List.getD_eq_getElem?_getD, List.getElem?_eq_getElem h]; rfl
theorem getD_at {α : Type} {xs : List α} {d : α} {j : Nat} (h : j < xs.length) : xs.getD ((j : Int)).toNat d = xs[j] := by
  rw [Int.toNat_natCast, List.getD_eq_getElem?_getD, List.getElem?_eq_getElem h]; rfl
theorem drop_cons {α : Type} {xs : List α} {j : Nat} (h : j < xs.length) : xs.drop j = xs[j] :: xs.drop (j + 1) := List.drop_eq_getElem_cons h
theorem take_snoc {α : Type} {xs : List α} {j : Nat} (h : j < xs.length) : xs.take (j + 1) = xs.take j ++ [xs[j]] := by
  rw [List.take_succ_eq_append_getElem h]
theorem set_mid {α : Type} (as : List α) (b c : α) (cs : List α) (j : Nat) (h : as.length = j) : (as ++ b :: cs).set j c = as ++ c :: cs := by
  subst h
  simp
theorem int_nat {n : Int} (h : 0 ≤ n) : ∃ m : Nat, n = (m : Int) := ⟨n.toNat, (Int.toNat_of_nonneg h).symm⟩
/-- A search from j on goes on as long as C holds, and ends at the first place where it does not. -/
theorem search_good {ρ : Type} (g : Nat → Nat → Option ρ) (n : Nat) (C : Nat → Prop) (yes : ρ) (stop : Ev (fun k => g k n) yes)
    (good : ∀ j, j < n → C j → ∀ r, Ev (fun k => g k (j + 1)) r → Ev (fun k => g k j) r) : ∀ j, j ≤ n → (∀ i, j ≤ i → i < n → C i) → Ev (fun k => g k j) yes := by
  intro j hj
  obtain ⟨d, hd⟩ : ∃ d, j + d = n := ⟨n - j, by omega⟩
  clear hj
  induction d generalizing j with
  | zero =>
    obtain rfl : j = n := by omega
    exact fun _ => stop
  | succ d ih => exact fun h => good j (by omega) (h j (Nat.le_refl _) (by omega)) yes (ih (j + 1) (by omega) fun i h1 h2 => h i (by omega) h2)
theorem search_bad {ρ : Type} (g : Nat → Nat → Option ρ) (n : Nat) (C : Nat → Prop) (no : ρ)
    (good : ∀ j, j < n → C j → ∀ r, Ev (fun k => g k (j + 1)) r → Ev (fun k => g k j) r) (bad : ∀ j, j < n → ¬ C j → Ev (fun k => g k j) no) :
    ∀ j, j ≤ n → ¬ (∀ i, j ≤ i → i < n → C i) → Ev (fun k => g k j) no := by
  intro j hj
  obtain ⟨d, hd⟩ : ∃ d, j + d = n := ⟨n - j, by omega⟩
  clear hj
  induction d generalizing j with
  | zero =>
    obtain rfl : j = n := by omega
    exact fun h => absurd (fun i h1 h2 => by omega) h
  | succ d ih =>
    intro h
    by_cases c : C j
    · refine good j (by omega) c no (ih (j + 1) (by omega) fun h' => h fun i h1 h2 => ?_)
      rcases Nat.eq_or_lt_of_le h1 with rfl | h1
      · exact c
      · exact h' i h1 h2
    · exact bad j (by omega) c
end Go.Proofs.Ythofhfmdomppeaa.Base
