/- Facts on the memory that look at a range of blocks alone, and how they pass a call that makes memory or writes another range. -/
import Derived.Test.YthofhfmdomppeaaWMore
import Derived.Test.YthofhfmdomppeaaWFootNe
import Derived.Lib.SliceRun
namespace Go.Proofs.YthofhfmdomppeaaW.PrintWords
open Go.RowKit
/-! Short names. -/
theorem bN {B : Nat} {w W : World} (h : Below B w W) (n : Nat) : Below B w (W.drewN n) := pw_below_drewN h n
theorem bD {base : Nat} {w W : World} (h : Below base w W) : Below base w W.drew := below_drew1 h
theorem bA {w W : World} (h : Below w.heap.size w W) (o : Obj) : Below w.heap.size w (W.alloc o) := below_alloc h o
theorem bS {w W : World} {g j : Nat} {v : Value} (h : Below w.heap.size w W) (hg : w.heap.size ≤ g) : Below w.heap.size w (W.setCell ⟨g, j, none⟩ v) := below_set h hg
theorem kN {w : World} {g : Nat} {o : Obj} (h : w.heap[g]? = some o) (n : Nat) : (w.drewN n).heap[g]? = some o := blk_drewN h n
theorem kD {w : World} {g : Nat} {o : Obj} (h : w.heap[g]? = some o) : w.drew.heap[g]? = some o := blk_drew h
theorem kA {w : World} {g : Nat} {o : Obj} (h : w.heap[g]? = some o) (o' : Obj) : (w.alloc o').heap[g]? = some o := blk_alloc h o'
theorem lS {α : Type} (l : List α) (i : Nat) (a : α) : l.toArray.setIfInBounds i a = (l.set i a).toArray := by simp
theorem lZ {α : Type} (a b : α) (l : List α) : (a :: l).set 0 b = b :: l := rfl
theorem lT {α : Type} (a b : α) (l : List α) (n : Nat) : (a :: l).set (n + 1) b = a :: l.set n b := rfl
/-- Is a slice nil (false), or does it lie in a block (true)? -/
def NilIs : Bool → Value → Prop
  | true, v => ∃ g, v.ownBlock = some g
  | false, v => v = .slice none 0 0
theorem NilIs.of {v : Value} {n : Nat} (h : ∃ b, v.ownBlock = some b ∧ n ≤ b) : NilIs true v := h.imp fun _ h => h.1
theorem NilIs.isNone {b : Bool} {A : Option Addr} {n c : Nat} (h : NilIs b (.slice A n c)) : A.isNone = !b := by
  cases b with
  | true =>
    obtain ⟨g, h⟩ := h
    cases A with
    | none => cases h
    | some a => rfl
  | false =>
    cases h
    rfl
namespace Kd
/-- make([]T, 0, n): a row of nothing, in a block of its own. -/
theorem R_make0 {α : Type} (d : Kd α) {P : Program} {ops : Array Oper} {Q : Exit → Act → World → Prop} {rest : List Oper} {a : Act} {o : Oper} {w0 W : World} (base e : Nat) (hgd : o.guard = none) {N : Tmp} (_hd : o.dst = some N) (t : TypeId) (x y : Operand) (ho : o.op = .makeSlice t x y) (n : Int) (hx : a.eval x = .int .i64 0) (hy : a.eval y = .int .i64 n)
    (ht : P.underlying t = some (.slice e)) (z : Value) (bytes : Nat) (hinfo : (P.info? e).map (fun i => (i.zero, i.size, i.bytes)) = some (some z, d.sz, bytes)) (hz : z.cells.size = d.sz) (hs0 : 0 < d.sz) (hb0 : 0 < bytes)
    (z0 : α) {ok okp : Nat → Prop} (hzero : d.M W base okp z0 z.cells.toList) (hok : ∀ k, okp k → ok k) (hfresh : ok W.heap.size) (h0 : 0 ≤ n) (hl : n.toNat * bytes ≤ 281474976710656) (HB : Below base w0 W) (hbase : base ≤ W.heap.size)
    (h : ∀ v1 w1, d.R e w1 base ok v1 (List.replicate 0 z0) → Below base w0 w1 → W.grownBy w1 none → (∃ b, v1.ownBlock = some b ∧ W.heap.size ≤ b) → wpList P ops Q rest (a.put o.dst v1) w1) : wpList P ops Q (o :: rest) a W := by
  obtain ⟨m, rfl⟩ := Int.eq_ofNat_of_zero_le h0
  simp only [Int.toNat_natCast] at hl
  obtain ⟨i0, hi, hzz⟩ := Option.map_eq_some_iff.1 hinfo
  simp only [Prod.mk.injEq] at hzz
  obtain ⟨hz0, hz1, hz2⟩ := hzz
  have hm : m ≤ 281474976710656 := Nat.le_trans (Nat.le_mul_of_pos_right _ hb0) hl
  have hr := run_make (P := P) W t e i0 z ht hi hz0 .i64 .i64 (0 : Int) (m : Int) (by omega) (by omega)
    (by
      have h3 : ((i0.bytes * m : Nat) : Int) ≤ 281474976710656 := by rw [hz2, Nat.mul_comm]; omega
      rwa [Int.natCast_mul] at h3) (by omega)
  simp only [Int.toNat_natCast] at hr
  rw [hz1] at hr
  have hrep := reps_made (m := m) hz hs0 hzero
  have HR : d.R e (W.alloc (.cells (madeCells z.cells (m * d.sz)) e)) base ok (.slice (some ⟨W.heap.size, 0, none⟩) m m) (List.replicate m z0) := by
    refine ⟨fun k hk => ?_, (madeCells z.cells (m * d.sz)).toList, ?_, ?_⟩
    · have : W.heap.size = k := by simpa [Value.ownBlock] using hk
      subst this
      exact hfresh
    · have h2 := World.ownsRow_lit (base := base) (e := e) (size := d.sz) W (madeCells z.cells (m * d.sz)) m hbase (by simp [maxLen]; omega) (by simpa using hrep.1)
      simpa using h2
    · refine hrep.imp_ (fun p c hp => d.M_mono (fun k hk => ⟨hok k hk.1, fun he => ?_⟩) (M_below (d.M_bound hp) (below_alloc (Below.refl _ _) _)))
      have h3 : k = W.heap.size := by simpa [Value.ownBlock] using he
      have := hk.2.2.1
      omega
  have HR0 := R_take HR (m := 0) (Nat.zero_le _)
  refine event_run (v := .slice (some ⟨W.heap.size, 0, none⟩) 0 m) (w1 := W.alloc (.cells (madeCells z.cells (m * d.sz)) e)) hgd (by simp [execOp, ho, hx, hy, hr]) (h _ _ ?_ (HB.alloc hbase _) (World.grownBy_alloc W _ none) ⟨W.heap.size, by simp [Value.ownBlock], Nat.le_refl _⟩)
  simpa using HR0
/-- A literal of one element that leads to rows of its own. -/
theorem S_lit1 {α : Type} (d : Kd α) {P : Program} {ops : Array Oper} {Q : Exit → Act → World → Prop} {rest : List Oper} {a : Act} {o : Oper} {w0 W : World} (base e : Nat) (hgd : o.guard = none) {N : Tmp} (hd : o.dst = some N) (p : α) (cs : List Value) (ok okp : Nat → Prop)
    (hrun : (execOp a.eval o).run P W = .ok (.value (.slice (some ⟨W.heap.size, 0, none⟩) 1 1)) (W.alloc (.cells cs.toArray e)))
    (hp : d.M W base okp p cs) (hokp : ∀ k, okp k → ok k ∧ some k ≠ (Value.slice none 0 0).ownBlock) (hfresh : ∀ k, W.heap.size ≤ k → ok k) (HB : Below base w0 W) (hbase : base ≤ W.heap.size)
    (h : ∀ v1 w1, S d e w1 base ok v1 [p] → Below base w0 w1 → W.grownBy w1 (Value.slice none 0 0).ownBlock → (v1.ownBlock = (Value.slice none 0 0).ownBlock ∨ ∃ b, v1.ownBlock = some b ∧ W.heap.size ≤ b) → wpList P ops Q rest (a.put o.dst v1) w1) : wpList P ops Q (o :: rest) a W := by
  have hl : cs.length = d.sz := d.K_len (d.K_of_M hp)
  refine S_lits d base e hgd hd (xs := [p]) (inner := cs) (ok := ok) (fun j k => j = 0 ∧ okp k) hrun (by simp [hl]) (fun j x hj => ?_) (fun i j k h1 h2 => h1.1.trans h2.1.symm) (fun j k hk => (hokp k hk.2).1) (hfresh _ (Nat.le_refl _)) HB hbase (by simp) (fun v1 w1 h1 h2 h3 h4 => h v1 w1 h1 h2 h3 (.inr h4))
  rcases j with _ | j
  · have e1 : p = x := by simpa using hj
    subst e1
    rw [Nat.zero_mul, List.drop_zero, List.take_of_length_le (by omega)]
    exact d.M_mono (fun k hk => ⟨rfl, hk⟩) hp
  · simp at hj
/-- Beside rows that are written: a cell of a row that stays read is the same at both worlds. -/
theorem foot_cell {α : Type} {d : Kd α} {w W W' : World} {S : Nat → Prop} {ad : Addr} {n : Nat} {xs : List α} (h : ∀ W', Kept w W' S → d.C W' (some ad) n xs) (hn : 0 < n) (hs : 0 < d.sz) (hk : Kept w W S) (hk' : Kept w W' S) {a : Addr} (ha : a.block = ad.block) : W'.cell? a = W.cell? a := by
  have h1 := foot_neS h hn hs
  have h2 := foot_ltS h hn hs
  rw [← ha] at h1 h2
  have h3 := (hk'.2 _ h2 h1).trans (hk.2 _ h2 h1).symm
  simp [World.cell?, h3]
end Kd
end Go.Proofs.YthofhfmdomppeaaW.PrintWords
namespace Go.Proofs.Ythofhfmdomppeaa.LawKit
open Go.RowKit Go.Proofs.YthofhfmdomppeaaW.PrintWords

/-- p holds, and looks at the blocks from lo on, below hi, alone. -/
structure Lives (W : World) (lo hi : Nat) (p : World → Prop) : Prop where
  now : p W
  top : hi ≤ W.heap.size
  le : lo ≤ hi
  step : ∀ W' : World, (∀ k, lo ≤ k → k < hi → W'.heap[k]? = W.heap[k]?) → p W'
set_option linter.unusedVariables false
variable {W W' : World} {lo hi a b base : Nat} {p : World → Prop}
theorem Lives.below (h : Lives W lo hi p) (hb : Below W.heap.size W W') : Lives W' lo hi p :=
  ⟨h.step W' (fun k _ hk => hb.block k (Nat.lt_of_lt_of_le hk h.top)), Nat.le_trans h.top hb.size, h.le, fun W2 hs => h.step W2 (fun k h1 h2 => (hs k h1 h2).trans (hb.block k (Nat.lt_of_lt_of_le h2 h.top)))⟩
theorem Lives.kept (h : Lives W lo hi p) (hk : Kept W W' (fun k => a ≤ k ∧ k < b)) (hd : b ≤ lo ∨ hi ≤ a) : Lives W' lo hi p := by
  have e : ∀ k, lo ≤ k → k < hi → W'.heap[k]? = W.heap[k]? := fun k h1 h2 => hk.2 k (Nat.lt_of_lt_of_le h2 h.top) (fun h3 => by omega)
  exact ⟨h.step W' e, Nat.le_trans h.top hk.1, h.le, fun W2 hs => h.step W2 (fun k h1 h2 => (hs k h1 h2).trans (e k h1 h2))⟩
theorem Lives.alloc (h : Lives W lo hi p) (o : Obj) : Lives (W.alloc o) lo hi p := h.below (below_alloc (Below.refl _ _) o)
theorem Lives.drew (h : Lives W lo hi p) : Lives W.drew lo hi p := h.below (below_drew1 (Below.refl _ _))
theorem Lives.drewN (h : Lives W lo hi p) (n : Nat) : Lives (W.drewN n) lo hi p := h.below (pw_below_drewN (Below.refl _ _) n)
/-- A variable in memory, made ahead of a call. -/
theorem Lives.box {o : Obj} (hb : Below (W.alloc o).heap.size (W.alloc o) W') : Lives W' W.heap.size (W.heap.size + 1) (fun X => X.heap[W.heap.size]? = some o) := by
  have e : W'.heap[W.heap.size]? = some o := blk_below (blk_new W o) hb
  refine ⟨e, ?_, Nat.le_succ _, fun W2 hs => (hs _ (Nat.le_refl _) (Nat.lt_succ_self _)).trans e⟩
  have := blk_lt e
  omega
/-- A row that a call has made. -/
theorem Lives.row {α : Type} {d : Kd α} {e : Nat} {v : Value} {xs : List α} (ho : d.R e W' W.heap.size (fun _ => True) v xs) (hs : W.heap.size ≤ W'.heap.size) (hb : base ≤ W.heap.size) :
    Lives W' W.heap.size W'.heap.size (fun X => d.R e X base (fun k => W.heap.size ≤ k ∧ k < W'.heap.size) v xs) := by
  have h : d.R e W' base (fun k => W.heap.size ≤ k ∧ k < W'.heap.size) v xs := Kd.R_lower (Kd.R_mono (Kd.R_bound ho) (fun _ hk => ⟨hk.2.1, hk.2.2.1⟩)) hb
  exact ⟨h, Nat.le_refl _, hs, fun W2 hs => Kd.R_move h (fun k hk => hs k hk.1 hk.2)⟩
theorem Lives.rowS {α : Type} {d : Kd α} {e : Nat} {v : Value} {xs : List α} (ho : Kd.S d e W' W.heap.size (fun _ => True) v xs) (hs : W.heap.size ≤ W'.heap.size) (hb : base ≤ W.heap.size) :
    Lives W' W.heap.size W'.heap.size (fun X => Kd.S d e X base (fun k => W.heap.size ≤ k ∧ k < W'.heap.size) v xs) := by
  have h : Kd.S d e W' base (fun k => W.heap.size ≤ k ∧ k < W'.heap.size) v xs := Kd.S_lower (Kd.S_mono (Kd.S_bound ho) (fun _ hk => ⟨hk.2.1, hk.2.2.1⟩)) hb
  exact ⟨h, Nat.le_refl _, hs, fun W2 hs => Kd.S_move h (fun k hk => hs k hk.1 hk.2)⟩
theorem Lives.rowV {α : Type} {d : Kd α} {e b0 : Nat} {v : Value} {xs : List α} (ho : d.V e W' b0 (fun k => W.heap.size ≤ k) v xs) (hs : W.heap.size ≤ W'.heap.size) (hb : base ≤ W.heap.size) :
    Lives W' W.heap.size W'.heap.size (fun X => d.V e X base (fun k => W.heap.size ≤ k ∧ k < W'.heap.size) v xs) := by
  have h : d.V e W' base (fun k => W.heap.size ≤ k ∧ k < W'.heap.size) v xs := Kd.V_mono (Kd.V_bound ho) (fun _ hk => ⟨hk.1, hk.2⟩)
  exact ⟨h, Nat.le_refl _, hs, fun W2 hs => Kd.V_step h (fun k hk _ => hs k hk.1 hk.2)⟩
/-- A row that a call has written. -/
theorem Lives.marked {α : Type} {d : Kd α} {e : Nat} {v : Value} {xs ys : List α} {ok : Nat → Prop} (h : Lives W lo hi (fun X => d.R e X base (fun k => lo ≤ k ∧ k < hi) v xs)) (hE : d.E = []) (hy : d.R e W' base ok v ys) (hs : W.heap.size ≤ W'.heap.size) :
    Lives W' lo hi (fun X => d.R e X base (fun k => lo ≤ k ∧ k < hi) v ys) := by
  have h2 : d.R e W' base (fun k => lo ≤ k ∧ k < hi) v ys := Kd.R_mono (Kd.R_tight hE hy) (fun k hk => h.now.1 k hk.symm)
  exact ⟨h2, Nat.le_trans h.top hs, h.le, fun W2 hs => Kd.R_move h2 (fun k hk => hs k hk.1 hk.2)⟩
theorem Lives.markedS {α : Type} {d : Kd α} {e : Nat} {v : Value} {xs ys : List α} (h : Lives W lo hi (fun X => Kd.S d e X base (fun k => lo ≤ k ∧ k < hi) v xs)) (hy : Kd.S d e W' base (fun k => lo ≤ k ∧ k < hi) v ys) (hs : W.heap.size ≤ W'.heap.size) :
    Lives W' lo hi (fun X => Kd.S d e X base (fun k => lo ≤ k ∧ k < hi) v ys) :=
  ⟨hy, Nat.le_trans h.top hs, h.le, fun W2 hs => Kd.S_move hy (fun k hk => hs k hk.1 hk.2)⟩
theorem size_alloc (w : World) (o : Obj) : (w.alloc o).heap.size = w.heap.size + 1 := by show (w.heap.push o).size = _; exact Array.size_push _
/-- The world takes a letter. -/
theorem letter_ {P : Program} {n : Nat} {a : Array Value} {W : World} {Q : Ending → World → Prop} (h : ∀ W', W' = W → Calls P n a W' Q) : Calls P n a W Q := h W rfl
theorem letter2_ {P : Program} {n : Nat} {a : Array Value} {W : World} {o1 o2 : Obj} {Q : Ending → World → Prop} (h : ∀ W1 W2, W1 = W.alloc o1 → W2 = W1.alloc o2 → Calls P n a W2 Q) : Calls P n a ((W.alloc o1).alloc o2) Q := h _ _ rfl rfl
theorem Lives.at {o : Obj} (h : Lives W lo hi p) (e : W' = W.alloc o) : Lives W' lo hi p := by subst e; exact h.alloc o
theorem Lives.boxed {o : Obj} (e : W' = W.alloc o) : Lives W' W.heap.size (W.heap.size + 1) (fun X => X.heap[W.heap.size]? = some o) := by subst e; exact Lives.box (Below.refl _ _)
theorem below_at {w : World} {o : Obj} (h : Below w.heap.size w W) (e : W' = W.alloc o) : Below w.heap.size w W' := by subst e; exact below_alloc h o
theorem size_at {o : Obj} (e : W' = W.alloc o) : W'.heap.size = W.heap.size + 1 := by subst e; exact size_alloc W o
theorem below_drawn (h : Drawn0 W W') : Below W.heap.size W W' := by obtain ⟨nd, rfl⟩ := h; exact pw_below_drewN (Below.refl _ _) nd
theorem of_ite {α : Type} {c : Prop} [Decidable c] {x : Option α} {r : α} (h : (if c then x else none) = some r) : c ∧ x = some r := by
  by_cases hc : c
  · rw [if_pos hc] at h; exact ⟨hc, h⟩
  · rw [if_neg hc] at h; cases h
end Go.Proofs.Ythofhfmdomppeaa.LawKit
