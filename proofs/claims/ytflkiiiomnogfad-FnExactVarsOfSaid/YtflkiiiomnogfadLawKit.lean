/- Facts on the memory that look at a range of blocks alone, and how they pass a call that makes memory or writes another range. -/
import Derived.Test.YtflkiiiomnogfadWMore
namespace Go.Proofs.Ytflkiiiomnogfad.LawKit
open Go.RowKit Go.Proofs.YtflkiiiomnogfadW.PrintWords

/-- p holds, and looks at the blocks from lo on, below hi, alone. -/
structure Lives (W : World) (lo hi : Nat) (p : World → Prop) : Prop where
  now : p W
  top : hi ≤ W.heap.size
  le : lo ≤ hi
  step : ∀ W' : World, (∀ k, lo ≤ k → k < hi → W'.heap[k]? = W.heap[k]?) → p W'
set_option linter.unusedVariables false
variable {W W' : World} {lo hi a b base : Nat} {p : World → Prop}
theorem Lives.below (h : Lives W lo hi p) (hb : Below W.heap.size W W') : Lives W' lo hi p :=
  ⟨h.step W' (fun k _ hk => hb.block k (Nat.lt_of_lt_of_le hk h.top)), Nat.le_trans h.top hb.size, h.le, fun W2 hs => h.step W2 (fun k h1 h2 => (hs k h1 h2).trans (hb.block k (Nat.lt_of_lt_of_le h2 h.top)))⟩
theorem Lives.kept (h : Lives W lo hi p) (hk : Kept W W' (fun k => a ≤ k ∧ k < b)) (hd : b ≤ lo ∨ hi ≤ a) : Lives W' lo hi p := by
  have e : ∀ k, lo ≤ k → k < hi → W'.heap[k]? = W.heap[k]? := fun k h1 h2 => hk.2 k (Nat.lt_of_lt_of_le h2 h.top) (fun h3 => by omega)
  exact ⟨h.step W' e, Nat.le_trans h.top hk.1, h.le, fun W2 hs => h.step W2 (fun k h1 h2 => (hs k h1 h2).trans (e k h1 h2))⟩
theorem Lives.alloc (h : Lives W lo hi p) (o : Obj) : Lives (W.alloc o) lo hi p := h.below (below_alloc (Below.refl _ _) o)
theorem Lives.drew (h : Lives W lo hi p) : Lives W.drew lo hi p := h.below (below_drew1 (Below.refl _ _))
theorem Lives.drewN (h : Lives W lo hi p) (n : Nat) : Lives (W.drewN n) lo hi p := h.below (pw_below_drewN (Below.refl _ _) n)
/-- A variable in memory, made ahead of a call. -/
theorem Lives.box {o : Obj} (hb : Below (W.alloc o).heap.size (W.alloc o) W') : Lives W' W.heap.size (W.heap.size + 1) (fun X => X.heap[W.heap.size]? = some o) := by
  have e : W'.heap[W.heap.size]? = some o := blk_below (blk_new W o) hb
  refine ⟨e, ?_, Nat.le_succ _, fun W2 hs => (hs _ (Nat.le_refl _) (Nat.lt_succ_self _)).trans e⟩
  have := blk_lt e
  omega
/-- A row that a call has made. -/
theorem Lives.row {α : Type} {d : Kd α} {e : Nat} {v : Value} {xs : List α} (ho : d.R e W' W.heap.size (fun _ => True) v xs) (hs : W.heap.size ≤ W'.heap.size) (hb : base ≤ W.heap.size) :
    Lives W' W.heap.size W'.heap.size (fun X => d.R e X base (fun k => W.heap.size ≤ k ∧ k < W'.heap.size) v xs) := by
  have h : d.R e W' base (fun k => W.heap.size ≤ k ∧ k < W'.heap.size) v xs := Kd.R_lower (Kd.R_mono (Kd.R_bound ho) (fun _ hk => ⟨hk.2.1, hk.2.2.1⟩)) hb
  exact ⟨h, Nat.le_refl _, hs, fun W2 hs => Kd.R_move h (fun k hk => hs k hk.1 hk.2)⟩
theorem Lives.rowS {α : Type} {d : Kd α} {e : Nat} {v : Value} {xs : List α} (ho : Kd.S d e W' W.heap.size (fun _ => True) v xs) (hs : W.heap.size ≤ W'.heap.size) (hb : base ≤ W.heap.size) :
    Lives W' W.heap.size W'.heap.size (fun X => Kd.S d e X base (fun k => W.heap.size ≤ k ∧ k < W'.heap.size) v xs) := by
  have h : Kd.S d e W' base (fun k => W.heap.size ≤ k ∧ k < W'.heap.size) v xs := Kd.S_lower (Kd.S_mono (Kd.S_bound ho) (fun _ hk => ⟨hk.2.1, hk.2.2.1⟩)) hb
  exact ⟨h, Nat.le_refl _, hs, fun W2 hs => Kd.S_move h (fun k hk => hs k hk.1 hk.2)⟩
theorem Lives.rowV {α : Type} {d : Kd α} {e b0 : Nat} {v : Value} {xs : List α} (ho : d.V e W' b0 (fun k => W.heap.size ≤ k) v xs) (hs : W.heap.size ≤ W'.heap.size) (hb : base ≤ W.heap.size) :
    Lives W' W.heap.size W'.heap.size (fun X => d.V e X base (fun k => W.heap.size ≤ k ∧ k < W'.heap.size) v xs) := by
  have h : d.V e W' base (fun k => W.heap.size ≤ k ∧ k < W'.heap.size) v xs := Kd.V_mono (Kd.V_bound ho) (fun _ hk => ⟨hk.1, hk.2⟩)
  exact ⟨h, Nat.le_refl _, hs, fun W2 hs => Kd.V_step h (fun k hk _ => hs k hk.1 hk.2)⟩
/-- A row that a call has written. -/
theorem Lives.marked {α : Type} {d : Kd α} {e : Nat} {v : Value} {xs ys : List α} {ok : Nat → Prop} (h : Lives W lo hi (fun X => d.R e X base (fun k => lo ≤ k ∧ k < hi) v xs)) (hE : d.E = []) (hy : d.R e W' base ok v ys) (hs : W.heap.size ≤ W'.heap.size) :
    Lives W' lo hi (fun X => d.R e X base (fun k => lo ≤ k ∧ k < hi) v ys) := by
  have h2 : d.R e W' base (fun k => lo ≤ k ∧ k < hi) v ys := Kd.R_mono (Kd.R_tight hE hy) (fun k hk => h.now.1 k hk.symm)
  exact ⟨h2, Nat.le_trans h.top hs, h.le, fun W2 hs => Kd.R_move h2 (fun k hk => hs k hk.1 hk.2)⟩
theorem Lives.markedS {α : Type} {d : Kd α} {e : Nat} {v : Value} {xs ys : List α} (h : Lives W lo hi (fun X => Kd.S d e X base (fun k => lo ≤ k ∧ k < hi) v xs)) (hy : Kd.S d e W' base (fun k => lo ≤ k ∧ k < hi) v ys) (hs : W.heap.size ≤ W'.heap.size) :
    Lives W' lo hi (fun X => Kd.S d e X base (fun k => lo ≤ k ∧ k < hi) v ys) :=
  ⟨hy, Nat.le_trans h.top hs, h.le, fun W2 hs => Kd.S_move hy (fun k hk => hs k hk.1 hk.2)⟩
theorem size_alloc (w : World) (o : Obj) : (w.alloc o).heap.size = w.heap.size + 1 := by show (w.heap.push o).size = _; exact Array.size_push _
/-- The world takes a letter. -/
theorem letter_ {P : Program} {n : Nat} {a : Array Value} {W : World} {Q : Ending → World → Prop} (h : ∀ W', W' = W → Calls P n a W' Q) : Calls P n a W Q := h W rfl
theorem Lives.at {o : Obj} (h : Lives W lo hi p) (e : W' = W.alloc o) : Lives W' lo hi p := by subst e; exact h.alloc o
theorem Lives.boxed {o : Obj} (e : W' = W.alloc o) : Lives W' W.heap.size (W.heap.size + 1) (fun X => X.heap[W.heap.size]? = some o) := by subst e; exact Lives.box (Below.refl _ _)
theorem below_at {w : World} {o : Obj} (h : Below w.heap.size w W) (e : W' = W.alloc o) : Below w.heap.size w W' := by subst e; exact below_alloc h o
theorem size_at {o : Obj} (e : W' = W.alloc o) : W'.heap.size = W.heap.size + 1 := by subst e; exact size_alloc W o
theorem below_drawn (h : Drawn0 W W') : Below W.heap.size W W' := by obtain ⟨nd, rfl⟩ := h; exact pw_below_drewN (Below.refl _ _) nd
theorem of_ite {α : Type} {c : Prop} [Decidable c] {x : Option α} {r : α} (h : (if c then x else none) = some r) : c ∧ x = some r := by
  by_cases hc : c
  · rw [if_pos hc] at h; exact ⟨hc, h⟩
  · rw [if_neg hc] at h; cases h
end Go.Proofs.Ytflkiiiomnogfad.LawKit
