/- Plain lemmas on closures: elements are told by a list of bools, rules by lists of arguments with a value. -/
import Derived.Test.YthofhfmdomppeaaBase
namespace Go.Proofs.Ythofhfmdomppeaa.Clo

def has (H : List Bool) (x : Int) : Bool := H.getD x.toNat false
def fires (H : List Bool) (e : List Int × Int) : Bool := e.1.all (has H)
/-- Each rule whose arguments are told has its value told. -/
def Closed (E : List (List Int × Int)) (H : List Bool) : Prop := ∀ e ∈ E, fires H e = true → has H e.2 = true
def Le (S H : List Bool) : Prop := ∀ x : Int, 0 ≤ x → has S x = true → has H x = true
/-- All numbers of the rules are below n. -/
def Fit (n : Nat) (E : List (List Int × Int)) : Prop := ∀ e ∈ E, (0 ≤ e.2 ∧ e.2 < n) ∧ ∀ x ∈ e.1, 0 ≤ x ∧ x < n
/-- H is the closure of S. -/
def IsCl (n : Nat) (E : List (List Int × Int)) (S H : List Bool) : Prop := H.length = n ∧ Le S H ∧ Closed E H ∧ ∀ C, Closed E C → Le S C → Le H C

theorem Le.refl (H : List Bool) : Le H H := fun _ _ h => h
theorem Le.trans {A B C : List Bool} (h : Le A B) (k : Le B C) : Le A C := fun x hx hh => k x hx (h x hx hh)
theorem fires_mono {H C : List Bool} (h : Le H C) {e : List Int × Int} (he : ∀ x ∈ e.1, 0 ≤ x) (hf : fires H e = true) : fires C e = true := by
  unfold fires at *
  rw [List.all_eq_true] at *
  exact fun x hx => h x (he x hx) (hf x hx)
theorem has_nat (H : List Bool) (j : Nat) : has H (j : Int) = H.getD j false := rfl
theorem eq_of_le {H H' : List Bool} (hl : H.length = H'.length) (a : Le H H') (b : Le H' H) : H = H' := by
  apply List.ext_getElem hl
  intro j h1 h2
  have a := a j (by omega)
  have b := b j (by omega)
  rw [has_nat, has_nat, List.getD_eq_getElem?_getD, List.getD_eq_getElem?_getD, List.getElem?_eq_getElem h1, List.getElem?_eq_getElem h2] at a b
  simp only [Option.getD_some] at a b
  exact Bool.eq_iff_iff.2 ⟨a, b⟩
theorem IsCl.unique {n : Nat} {E : List (List Int × Int)} {S H H' : List Bool} (h : IsCl n E S H) (h' : IsCl n E S H') : H = H' :=
  eq_of_le (h.1.trans h'.1.symm) (h.2.2.2 H' h'.2.2.1 h'.2.1) (h'.2.2.2 H h.2.2.1 h.2.1)
theorem has_set {H : List Bool} {y x : Int} (hy : 0 ≤ y) (hl : y < H.length) (hx : 0 ≤ x) : has (H.set y.toNat true) x = true ↔ has H x = true ∨ x = y := by
  unfold has
  rw [List.getD_eq_getElem?_getD, List.getD_eq_getElem?_getD, List.getElem?_set]
  by_cases c : x = y
  · subst c
    rw [if_pos rfl, if_pos (by omega)]
    simp
  · rw [if_neg (by omega)]
    simp [c]
theorem has_lt {H : List Bool} {x : Int} (h : has H x = true) : x < H.length := by
  unfold has at h
  rw [List.getD_eq_getElem?_getD] at h
  by_cases c : x.toNat < H.length
  · omega
  · rw [List.getElem?_eq_none (by omega)] at h; cases h
def cnt (H : List Bool) : Nat := H.count true
theorem cnt_le (H : List Bool) : cnt H ≤ H.length := List.count_le_length
theorem cnt_set : ∀ (H : List Bool) (j : Nat), j < H.length → H.getD j false = false → cnt (H.set j true) = cnt H + 1
  | [], j, h, _ => by simp at h
  | b :: H, 0, _, hb => by
    simp at hb
    subst hb
    simp [cnt]
  | b :: H, j + 1, h, hb => by
    have := cnt_set H j (by simpa using h) (by simpa using hb)
    unfold cnt at *
    rw [List.set_cons_succ, List.count_cons, List.count_cons, this]
    omega
/-- One rule in place: its value is told if its arguments are. -/
def put1 (st : List Bool × Bool) (e : List Int × Int) : List Bool × Bool := if !has st.1 e.2 && fires st.1 e then (st.1.set e.2.toNat true, true) else st
def pass (E : List (List Int × Int)) (st : List Bool × Bool) : List Bool × Bool := E.foldl put1 st
theorem put1_len (st : List Bool × Bool) (e : List Int × Int) : (put1 st e).1.length = st.1.length := by unfold put1; split <;> simp
/-- What a pass from H0 has done so far. -/
structure Inv (n : Nat) (E D : List (List Int × Int)) (H0 : List Bool) (st : List Bool × Bool) : Prop where
  len : st.1.length = n
  le : Le H0 st.1
  least : ∀ C, Closed E C → Le H0 C → Le st.1 C
  same : st.2 = false → st.1 = H0 ∧ Closed D H0
  more : st.2 = true → cnt H0 < cnt st.1
theorem Inv.start {n : Nat} {E : List (List Int × Int)} {H0 : List Bool} (hl : H0.length = n) : Inv n E [] H0 (H0, false) :=
  ⟨hl, Le.refl _, fun _ _ h => h, fun _ => ⟨rfl, fun e he => by simp at he⟩, fun h => by cases h⟩
theorem Inv.step {n : Nat} {E D : List (List Int × Int)} {H0 : List Bool} {st : List Bool × Bool} (hF : Fit n E) (h : Inv n E D H0 st) {e : List Int × Int} (he : e ∈ E) : Inv n E (D ++ [e]) H0 (put1 st e) := by
  obtain ⟨⟨h0, h1⟩, hx⟩ := hF e he
  unfold put1
  by_cases c : (!has st.1 e.2 && fires st.1 e) = true
  · rw [if_pos c]
    rw [Bool.and_eq_true, Bool.not_eq_true'] at c
    have hlt : e.2 < st.1.length := by rw [h.len]; exact h1
    have cs : cnt (st.1.set e.2.toNat true) = cnt st.1 + 1 := cnt_set _ _ (by omega) c.1
    refine ⟨by simp [h.len], fun x hx' hh => (has_set h0 hlt hx').2 (.inl (h.le x hx' hh)), fun C hC hle x hx' hh => ?_, fun h' => (by cases h'), fun _ => ?_⟩
    · rcases (has_set h0 hlt hx').1 hh with hh | rfl
      · exact h.least C hC hle x hx' hh
      · exact hC e he (fires_mono (h.least C hC hle) (fun y hy => (hx y hy).1) c.2)
    · show cnt H0 < cnt (st.1.set e.2.toNat true)
      cases hs : st.2 with
      | true => have := h.more hs; omega
      | false => rw [(h.same hs).1] at cs ⊢; omega
  · rw [if_neg c]
    refine ⟨h.len, h.le, h.least, fun hs => ⟨(h.same hs).1, ?_⟩, h.more⟩
    intro e' he' hf
    rcases List.mem_append.1 he' with he' | he'
    · exact (h.same hs).2 e' he' hf
    · rw [List.mem_singleton.1 he'] at hf ⊢
      rw [(h.same hs).1] at c
      cases hh : has H0 e.2 with
      | true => rfl
      | false => exact absurd (by simp [hh, hf]) c
theorem Inv.run {n : Nat} {E : List (List Int × Int)} (hF : Fit n E) {H0 : List Bool} : ∀ (L D : List (List Int × Int)) (st : List Bool × Bool), D ++ L = E → Inv n E D H0 st → Inv n E E H0 (pass L st)
  | [], D, st, h, hi => by rw [List.append_nil] at h; subst h; exact hi
  | e :: L, D, st, h, hi => by
    have he : e ∈ E := by rw [← h]; simp
    exact Inv.run hF L (D ++ [e]) (put1 st e) (by rw [List.append_assoc]; exact h) (hi.step hF he)
/-- A pass either tells the closure or something new. -/
theorem pass_from {n : Nat} {E : List (List Int × Int)} (hF : Fit n E) {H0 : List Bool} (hl : H0.length = n) : Inv n E E H0 (pass E (H0, false)) := Inv.run hF E [] _ rfl (Inv.start hl)
/-- All rules at once. -/
def stepB (n : Nat) (E : List (List Int × Int)) (H : List Bool) : List Bool := (List.range n).map fun x : Nat => has H (x : Int) || E.any fun e => fires H e && decide (e.2 = (x : Int))
theorem stepB_len (n : Nat) (E : List (List Int × Int)) (H : List Bool) : (stepB n E H).length = n := by simp [stepB]
theorem has_stepB {n : Nat} {E : List (List Int × Int)} {H : List Bool} (hl : H.length = n) (hF : Fit n E) {x : Int} (hx : 0 ≤ x) : has (stepB n E H) x = true ↔ has H x = true ∨ ∃ e ∈ E, fires H e = true ∧ e.2 = x := by
  obtain ⟨j, rfl⟩ : ∃ j : Nat, x = (j : Int) := ⟨x.toNat, by omega⟩
  by_cases c : j < n
  · have : has (stepB n E H) (j : Int) = (has H (j : Int) || E.any fun e => fires H e && decide (e.2 = (j : Int))) := by
      rw [has_nat, List.getD_eq_getElem?_getD, List.getElem?_eq_getElem (by simpa [stepB] using c)]
      simp [stepB]
    rw [this, Bool.or_eq_true, List.any_eq_true]
    simp only [Bool.and_eq_true, decide_eq_true_eq]
  · constructor
    · intro h
      have := has_lt h
      rw [stepB_len] at this
      omega
    · rintro (h | ⟨e, he, _, h⟩)
      · have := has_lt h; omega
      · have := (hF e he).1.2; omega
theorem le_stepB {n : Nat} {E : List (List Int × Int)} {H : List Bool} (hl : H.length = n) (hF : Fit n E) : Le H (stepB n E H) := fun _ hx h => (has_stepB hl hF hx).2 (.inl h)
theorem cnt_lt_of {H H' : List Bool} (hl : H.length = H'.length) (h : Le H H') : cnt H ≤ cnt H' ∧ (cnt H = cnt H' → H = H') := by
  induction H generalizing H' with
  | nil => cases H' with
    | nil => simp
    | cons b H' => simp at hl
  | cons a H ih =>
    cases H' with
    | nil => simp at hl
    | cons b H' =>
      have hl' : H.length = H'.length := by simpa using hl
      have ht : Le H H' := fun x hx hh => by
        have := h (x + 1) (by omega)
        unfold has at this hh ⊢
        rw [show (x + 1).toNat = x.toNat + 1 by omega] at this
        simp only [List.getD_cons_succ] at this
        exact this hh
      have h0 := h 0 (by omega)
      unfold has at h0
      simp at h0
      obtain ⟨c1, c2⟩ := ih hl' ht
      unfold cnt at *
      rw [List.count_cons, List.count_cons]
      cases a with
      | true =>
        have := h0 rfl
        subst this
        simp
        exact ⟨c1, fun e => c2 e⟩
      | false =>
        cases b with
        | true => simp; omega
        | false => simp; exact ⟨c1, fun e => c2 e⟩
def iter (n : Nat) (E : List (List Int × Int)) : Nat → List Bool → List Bool
  | 0, H => H
  | m + 1, H => iter n E m (stepB n E H)
theorem closed_stepB {n : Nat} {E : List (List Int × Int)} {H : List Bool} (hl : H.length = n) (hF : Fit n E) (h : Closed E H) : stepB n E H = H := by
  refine eq_of_le (by rw [stepB_len, hl]) (fun x hx hh => ?_) (le_stepB hl hF)
  rcases (has_stepB hl hF hx).1 hh with hh | ⟨e, he, hf, rfl⟩
  · exact hh
  · exact h e he hf
theorem closed_of_stepB {n : Nat} {E : List (List Int × Int)} {H : List Bool} (hl : H.length = n) (hF : Fit n E) (h : stepB n E H = H) : Closed E H := fun e he hf => by
  rw [← h]; exact (has_stepB hl hF (hF e he).1.1).2 (.inr ⟨e, he, hf, rfl⟩)
theorem stepB_least {n : Nat} {E : List (List Int × Int)} {H C : List Bool} (hl : H.length = n) (hF : Fit n E) (hC : Closed E C) (h : Le H C) : Le (stepB n E H) C := fun x hx hh => by
  rcases (has_stepB hl hF hx).1 hh with hh | ⟨e, he, hf, rfl⟩
  · exact h x hx hh
  · exact hC e he (fires_mono h (fun y hy => ((hF e he).2 y hy).1) hf)
theorem iter_closed {n : Nat} {E : List (List Int × Int)} {H : List Bool} (hl : H.length = n) (hF : Fit n E) (h : Closed E H) : ∀ m, iter n E m H = H
  | 0 => rfl
  | m + 1 => by
    show iter n E m (stepB n E H) = H
    rw [closed_stepB hl hF h]
    exact iter_closed hl hF h m
theorem iter_cl {n : Nat} {E : List (List Int × Int)} (hF : Fit n E) (S : List Bool) : ∀ (m : Nat) (H : List Bool), H.length = n → Le S H → (∀ C, Closed E C → Le S C → Le H C) → n ≤ m + cnt H → IsCl n E S (iter n E m H)
  | 0, H, hl, hS, hC, hm => by
    refine ⟨hl, hS, ?_, hC⟩
    have hc : cnt (stepB n E H) ≤ n := by have := cnt_le (stepB n E H); rwa [stepB_len] at this
    have := cnt_lt_of (by rw [stepB_len, hl]) (le_stepB hl hF)
    exact closed_of_stepB hl hF (this.2 (by omega)).symm
  | m + 1, H, hl, hS, hC, hm => by
    have hq := cnt_lt_of (show H.length = (stepB n E H).length by rw [stepB_len, hl]) (le_stepB hl hF)
    by_cases c : stepB n E H = H
    · have hcl := closed_of_stepB hl hF c
      rw [iter_closed hl hF hcl]
      exact ⟨hl, hS, hcl, hC⟩
    · have hlt : cnt H < cnt (stepB n E H) := by
        rcases Nat.lt_or_eq_of_le hq.1 with h | h
        · exact h
        · exact absurd (hq.2 h).symm c
      show IsCl n E S (iter n E m (stepB n E H))
      exact iter_cl hF S m _ (stepB_len n E H) (hS.trans (le_stepB hl hF)) (fun C h1 h2 => stepB_least hl hF h1 (hC C h1 h2)) (by omega)
theorem iter_isCl {n : Nat} {E : List (List Int × Int)} (hF : Fit n E) {S : List Bool} (hl : S.length = n) : IsCl n E S (iter n E (n + 1) S) :=
  iter_cl hF S (n + 1) S hl (Le.refl S) (fun _ _ h => h) (by omega)
/-- The closure depends on what is told alone. -/
theorem IsCl.congr {n : Nat} {E : List (List Int × Int)} {S S' H : List Bool} (h : IsCl n E S H) (a : Le S S') (b : Le S' S) : IsCl n E S' H :=
  ⟨h.1, b.trans h.2.1, h.2.2.1, fun C hC hS => h.2.2.2 C hC (a.trans hS)⟩
theorem IsCl.mono {n : Nat} {E : List (List Int × Int)} {S S' H H' : List Bool} (h : IsCl n E S H) (h' : IsCl n E S' H') (a : Le S S') : Le H H' := h.2.2.2 H' h'.2.2.1 (a.trans h'.2.1)
end Go.Proofs.Ythofhfmdomppeaa.Clo
