/- The walk of impl.SplitString by the contract on the library's cut, and of the law that compares it with the reference and looks for shared memory. -/
import Derived.Test.YthofhfmdomppeabDoorCut
import Derived.Test.YthofhfmdomppeabDoorQx3
import Derived.Test.YthofhfmdomppeabDoorLawKit
import Derived.Test.YthofhfmdomppeabDoorShelf
namespace Go.Proofs.YthofhfmdomppeabDoor.Split
open Go.RowKit Go.Proofs.YthofhfmdomppeabDoor.Q Go.Proofs.YthofhfmdomppeabDoorW.PrintWords Go.Proofs.YthofhfmdomppeabDoorW.PrintLast Go.Proofs.YthofhfmdomppeabDoor.Base Go.Proofs.YthofhfmdomppeabDoor.Bytes Go.Proofs.YthofhfmdomppeabDoor.Cut Go.Proofs.YthofhfmdomppeabDoor.LawKit
set_option linter.unusedVariables false
/-- What both tell. -/
def sB (s sep : ByteArray) : Bool := decide (s.size ≤ 4000 ∧ sep.size = 1)
def sP (s sep : ByteArray) : List ByteArray := if s.size ≤ 4000 ∧ sep.size = 1 then pieces s sep else []
theorem specSplit_v (s sep : ByteArray) : Ev (fun k => spec_SplitString.f k s sep) (sP s sep, sB s sep) := by
  unfold spec_SplitString.f sP sB
  refine Ev.cases (fun c => Ev.cases (fun c2 => ?_) (fun c2 => Ev.pos (by omega) ?_)) (fun c => ?_)
  · rw [if_neg (by omega), decide_eq_false (by omega)]; exact Ev.now _
  · obtain ⟨b, rfl⟩ := Lib.one_byte sep (by omega)
    rw [if_pos ⟨by omega, by omega⟩, decide_eq_true ⟨by omega, by omega⟩]
    exact Ev.bind (pieces_v s b (by omega)) (Ev.now _)
  · rw [if_neg (by omega), decide_eq_false (by omega)]; exact Ev.now _
theorem eq_l (L : List ByteArray) (hL : L.length ≤ 140737488351232) : ∀ (d j : Nat), j + d = L.length → Ev (fun k => laws_eqStringS.l0 k L L (j : Int)) true := by
  intro d
  induction d with
  | zero =>
    intro j hj
    refine Ev.succ ?_
    simp only [laws_eqStringS.l0]
    exact Ev.neg (by omega) (Ev.now _)
  | succ d ih =>
    intro j hj
    refine Ev.succ ?_
    simp only [laws_eqStringS.l0, w64s (show j < L.length by omega) (by omega)]
    exact Ev.pos (by omega) (Ev.pos (by omega) (Ev.pos (by omega) (Ev.pos trivial (ih (j + 1) (by omega)))))
theorem eq_v (L : List ByteArray) (hL : L.length ≤ 140737488351232) : Ev (fun k => laws_eqStringS.f k L L) true := by
  unfold laws_eqStringS.f
  exact Ev.pos rfl (eq_l L hL L.length 0 (by omega))
theorem one_num (a : Int) : (strOfNums [a]).size = 1 := rfl
theorem text_l : ∀ (d n : Nat) (t : ByteArray), n < 10 ^ d → n ≤ 4611686018427387904 → t.size + d ≤ 1000 → ∃ b, Ev (fun k => laws_markText.l0 k (n : Int) t) b
  | 0, n, t, hn, hN, ht => by
    obtain rfl : n = 0 := by simpa using hn
    refine ⟨(⟨#[109]⟩ : ByteArray) ++ t, Ev.succ ?_⟩
    simp only [laws_markText.l0]
    exact Ev.neg (by omega) (Ev.pos (by omega) (Ev.now _))
  | d + 1, n, t, hn, hN, ht => by
    by_cases c : n = 0
    · subst c
      refine ⟨(⟨#[109]⟩ : ByteArray) ++ t, Ev.succ ?_⟩
      simp only [laws_markText.l0]
      exact Ev.neg (by omega) (Ev.pos (by omega) (Ev.now _))
    · have hs : (strOfNums [wrap64 (48 + Int.tmod (n : Int) 10) % 256] ++ t).size = 1 + t.size := by rw [ByteArray.size_append, one_num]
      obtain ⟨b, hb⟩ := text_l d (n / 10) (strOfNums [wrap64 (48 + Int.tmod (n : Int) 10) % 256] ++ t) (by rw [Nat.pow_succ] at hn; omega) (by omega) (by omega)
      refine ⟨b, Ev.succ ?_⟩
      have ew : wrap64 (Int.tdiv (n : Int) 10) = ((n / 10 : Nat) : Int) := by
        rw [show Int.tdiv (n : Int) 10 = ((n / 10 : Nat) : Int) from rfl]
        exact w64 (by omega)
      simp only [laws_markText.l0, Option.bind_some, one_num, ew]
      exact Ev.pos (by omega) (Ev.pos (by omega) hb)
theorem text_v (n : Nat) (h : n ≤ 4611686018427387904) : ∃ b, Ev (fun k => laws_markText.f k (n : Int)) b := by
  unfold laws_markText.f
  by_cases c : (n : Int) ≤ 0
  · exact ⟨(⟨#[109, 48]⟩ : ByteArray), Ev.pos c (Ev.now _)⟩
  · obtain ⟨b, hb⟩ := text_l 19 n ⟨#[]⟩ (by omega) h (by decide)
    exact ⟨b, Ev.neg c hb⟩
/-- The n-th mark. -/
noncomputable def mt (n : Nat) : ByteArray := if h : n ≤ 4611686018427387904 then Classical.choose (text_v n h) else ByteArray.empty
theorem mt_v (n : Nat) (h : n ≤ 4611686018427387904) : Ev (fun k => laws_markText.f k (n : Int)) (mt n) := by
  unfold mt
  rw [dif_pos h]
  exact Classical.choose_spec (text_v n h)
noncomputable def mks : Nat → Nat → List ByteArray
  | _, 0 => []
  | j, n + 1 => mt (1 + j) :: mks (j + 1) n
theorem mks_len : ∀ n j, (mks j n).length = n
  | 0, _ => rfl
  | n + 1, j => by rw [mks, List.length_cons, mks_len n]
theorem mark_l : ∀ (bs pre : List ByteArray), pre.length + bs.length ≤ 140737488351232 → Ev (fun k => laws_markStringS.l0 k (pre ++ bs) (((1 + pre.length : Nat)) : Int) ((pre.length : Nat) : Int)) ((((1 + pre.length + bs.length : Nat)) : Int), pre ++ mks pre.length bs.length)
  | [], pre, h => by
    refine Ev.succ ?_
    simp only [laws_markStringS.l0]
    refine Ev.neg (by rw [List.append_nil]; omega) ?_
    exact Ev.now _
  | b :: bs, pre, h => by
    rw [List.length_cons] at h
    have ih := mark_l bs (pre ++ [mt (1 + pre.length)]) (by simp; omega)
    have e1 : wrap64 (((1 + pre.length : Nat) : Int) + 1) = ((1 + (pre ++ [mt (1 + pre.length)]).length : Nat) : Int) := by
      rw [List.length_append, List.length_singleton]
      exact (w64 (by omega)).trans (by omega)
    have e2 : wrap64 (((pre.length : Nat) : Int) + 1) = (((pre ++ [mt (1 + pre.length)]).length : Nat) : Int) := by
      rw [List.length_append, List.length_singleton]
      exact (w64 (by omega)).trans (by omega)
    refine Ev.succ ?_
    simp only [laws_markStringS.l0, e1, e2, Int.toNat_natCast]
    refine Ev.pos (by rw [List.length_append, List.length_cons]; omega) (Ev.bind (mt_v _ (by omega)) (Ev.pos (by omega) ?_))
    rw [set_mid pre b _ bs pre.length rfl, show pre ++ mt (1 + pre.length) :: bs = (pre ++ [mt (1 + pre.length)]) ++ bs by simp]
    refine Ev.eq ih ?_
    simp only [List.length_append, List.length_cons, List.length_nil, mks, List.append_assoc, List.singleton_append]
    refine Prod.ext ?_ rfl
    simp only
    omega
theorem mark_v (L : List ByteArray) (hL : L.length ≤ 1000000) : Ev (fun k => laws_markStringS.f k L 1) (((1 + L.length : Nat) : Int), mks 0 L.length) := by
  have := mark_l L [] (by simp; omega)
  unfold laws_markStringS.f
  simpa using this
theorem held_l : ∀ (n : Nat) (pre : List ByteArray), pre.length + n ≤ 140737488351232 → Ev (fun k => laws_heldStringS.l0 k (pre ++ mks pre.length n) (((1 + pre.length : Nat)) : Int) ((pre.length : Nat) : Int)) (((1 + pre.length + n : Nat)) : Int)
  | 0, pre, h => by
    refine Ev.succ ?_
    simp only [laws_heldStringS.l0]
    refine Ev.neg (by rw [mks, List.append_nil]; omega) ?_
    exact Ev.now _
  | n + 1, pre, h => by
    have ih := held_l n (pre ++ [mt (1 + pre.length)]) (by simp; omega)
    have e1 : wrap64 (((1 + pre.length : Nat) : Int) + 1) = ((1 + (pre ++ [mt (1 + pre.length)]).length : Nat) : Int) := by
      rw [List.length_append, List.length_singleton]
      exact (w64 (by omega)).trans (by omega)
    have e2 : wrap64 (((pre.length : Nat) : Int) + 1) = (((pre ++ [mt (1 + pre.length)]).length : Nat) : Int) := by
      rw [List.length_append, List.length_singleton]
      exact (w64 (by omega)).trans (by omega)
    have e3 : rdOf ByteArray.empty (pre ++ mt (1 + pre.length) :: mks (pre.length + 1) n) ((pre.length : Nat) : Int) = mt (1 + pre.length) := by
      unfold rdOf
      rw [Int.toNat_natCast, List.getD_eq_getElem?_getD, List.getElem?_append_right (Nat.le_refl _), Nat.sub_self]
      rfl
    refine Ev.succ ?_
    simp only [laws_heldStringS.l0, e1, e2, mks, e3]
    refine Ev.pos (by rw [List.length_append, List.length_cons]; omega) (Ev.pos (by omega) (Ev.bind (mt_v _ (by omega)) (Ev.pos rfl ?_)))
    rw [show pre ++ mt (1 + pre.length) :: mks (pre.length + 1) n = (pre ++ [mt (1 + pre.length)]) ++ mks (pre ++ [mt (1 + pre.length)]).length n by simp]
    refine Ev.eq ih ?_
    rw [List.length_append, List.length_singleton]
    omega
theorem held_v (n : Nat) (hL : n ≤ 1000000) : Ev (fun k => laws_heldStringS.f k (mks 0 n) 1) ((1 + n : Nat) : Int) := by
  have := held_l n [] (by simp; omega)
  unfold laws_heldStringS.f
  simpa using this
theorem pieces_len (s : ByteArray) (sep : ByteArray) (h : sep.size = 1) : (pieces s sep).length = Lib.countB s sep + 1 := Lib.splitB_all sep (by omega) 0 _ s rfl
theorem sP_len (s sep : ByteArray) : (sP s sep).length ≤ 4001 := by
  unfold sP
  split
  · rename_i h
    rw [pieces_len s sep h.2]
    have := Lib.countB_le sep (by omega) s.size s (Nat.le_refl _)
    omega
  · simp
/-- A row of texts in a new block. -/
theorem row_new (L : List ByteArray) (w0 W : World) (hs : w0.heap.size ≤ W.heap.size) (hl : L.length ≤ 140737488351232) : Kd.R Kd.string 9 (W.alloc (.cells (L.map Value.string).toArray 9)) w0.heap.size (fun _ => True) (.slice (some ⟨W.heap.size, 0, none⟩) L.length L.length) L := by
  refine Kd.R_of_own ?_ (fun _ _ => trivial)
  have := World.ownsRow_lit (base := w0.heap.size) (e := 9) (size := 1) W (L.map Value.string).toArray L.length hs (by simp [maxLen]; omega) (by simp)
  simpa [encs] using this
/-- The one variable of the library's that the cut reads. -/
abbrev Max (w : World) : Prop := ∃ m, w.cell? ⟨0, 0, none⟩ = some (.int .i64 m)
theorem max_below {w w' : World} (h : Max w) (hb : Below w.heap.size w w') : Max w' := by
  obtain ⟨m, h⟩ := h
  have hl := World.block_lt_of_cell? w _ h
  exact ⟨m, by rw [← h]; unfold World.cell?; rw [hb.block 0 (by simpa using hl)]⟩
set_option maxHeartbeats 4000000 in
theorem implSplit (s sep : ByteArray) (w : World) (hm : Max w) :
    Calls Tryd.prog 14 #[.string s, .string sep] w fun e w' => ∃ v, e = .returned (.tuple #[v, .bool (sB s sep)]) ∧ Kd.R Kd.string 9 w' w.heap.size (fun _ => True) v (sP s sep) ∧ Below w.heap.size w w' := by
  obtain ⟨m, hm⟩ := hm
  by_cases a : 4000 < (s.size : Int)
  · have a0 : decide (4000 < (s.size : Int)) = true := decide_eq_true a
    have a1 : decide (4000 < s.size) = true := decide_eq_true (by omega)
    have e1 : sB s sep = false := decide_eq_false (by omega)
    have e2 : sP s sep = [] := if_neg (by omega)
    rw [e1, e2]
    go_enter Tryd.func14, Tryd.ntmps14
    go_wp2
    go_ret2
    exact ⟨_, rfl, row_new [] w w (Nat.le_refl _) (by simp), below_alloc (Below.refl _ _) _⟩
  · have a0 : decide (4000 < (s.size : Int)) = false := decide_eq_false a
    have a1 : decide (4000 < s.size) = false := decide_eq_false (by omega)
    by_cases c : (sep.size : Int) = 1
    · have c0 : ((sep.size : Int) != 1) = false := bne_eq_false_iff_eq.2 c
      have c1 : ((sep.size : Int) == 1) = true := beq_iff_eq.2 c
      have e1 : sB s sep = true := decide_eq_true (by omega)
      have e2 : sP s sep = pieces s sep := if_pos (by omega)
      rw [e1, e2]
      go_enter Tryd.func14, Tryd.ntmps14
      go_wp2_with (first
        | (go_at_call 36; refine (Tryd.strings_Split s sep m _ (by omega) hm (by omega)).mono ?_; rintro e w1 ⟨rfl, rfl⟩))
      go_ret2
      have hn := pieces_len s sep (by omega)
      have hr := row_new (pieces s sep) w w (Nat.le_refl _) (by have := sP_len s sep; rw [e2] at this; omega)
      rw [hn] at hr
      exact ⟨_, rfl, hr, below_alloc (Below.refl _ _) _⟩
    · have c0 : ((sep.size : Int) != 1) = true := bne_iff_ne.2 c
      have c1 : ((sep.size : Int) == 1) = false := beq_eq_false_iff_ne.2 c
      have e1 : sB s sep = false := decide_eq_false (by omega)
      have e2 : sP s sep = [] := if_neg (by omega)
      rw [e1, e2]
      go_enter Tryd.func14, Tryd.ntmps14
      go_wp2
      go_ret2
      exact ⟨_, rfl, row_new [] w w (Nat.le_refl _) (by simp), below_alloc (Below.refl _ _) _⟩
set_option maxHeartbeats 16000000 in
theorem lawSplit (s sep : ByteArray) (hs : s.size ≤ 140737488351232) (hp : sep.size ≤ 140737488351232) (w : World) (hm : Max w) :
    Calls Tryd.prog 5 #[.string s, .string sep] w fun e w' => e = .returned (.bool true) ∧ Below w.heap.size w w' := by
  have hl := sP_len s sep
  obtain ⟨k1, hk1⟩ := (specSplit_v s sep).rounds
  have hk1 : spec_SplitString.f k1 s sep = some (sP s sep, sB s sep) := hk1
  obtain ⟨k2, hk2⟩ := (eq_v (sP s sep) (by omega)).rounds
  obtain ⟨k3, hk3⟩ := (mark_v (sP s sep) (by omega)).rounds
  obtain ⟨k4, hk4⟩ := (held_v (sP s sep).length (by omega)).rounds
  have hk3 : laws_markStringS.f k3 (sP s sep) 1 = some (((1 + (sP s sep).length : Nat) : Int), mks 0 (sP s sep).length) := hk3
  have hk4 : laws_heldStringS.f k4 (mks 0 (sP s sep).length) 1 = some ((1 + (sP s sep).length : Nat) : Int) := hk4
  have hI := fun (w : World) (h : Max w) => implSplit s sep w h
  generalize sP s sep = L at *
  generalize sB s sep = B at *
  obtain ⟨M, hM⟩ : ∃ M : Int, M = ((1 + L.length : Nat) : Int) := ⟨_, rfl⟩
  rw [← hM] at hk3 hk4
  have m0 : decide (M < 0) = false := decide_eq_false (by omega)
  have m1 : ¬ M < 0 := by omega
  clear hM
  by_cases a : 1048576 < (s.size : Int)
  · have a0 : decide (1048576 < (s.size : Int)) = true := decide_eq_true a
    have a1 : decide (1048576 < s.size) = true := decide_eq_true (by omega)
    go_enter Tryd.func5, Tryd.ntmps5
    go_wp2
    go_ret
    exact ⟨rfl, Below.refl _ _⟩
  have a0 : decide (1048576 < (s.size : Int)) = false := decide_eq_false a
  have a1 : decide (1048576 < s.size) = false := decide_eq_false (by omega)
  by_cases b : 1048576 < (sep.size : Int)
  · have b0 : decide (1048576 < (sep.size : Int)) = true := decide_eq_true b
    have b1 : decide (1048576 < sep.size) = true := decide_eq_true (by omega)
    go_enter Tryd.func5, Tryd.ntmps5
    go_wp2
    go_ret
    exact ⟨rfl, Below.refl _ _⟩
  have b0 : decide (1048576 < (sep.size : Int)) = false := decide_eq_false b
  have b1 : decide (1048576 < sep.size) = false := decide_eq_false (by omega)
  clear a b
  go_enter Tryd.func5, Tryd.ntmps5
  go_wp2_with fail
  refine (spec_SplitString.calls k1 s sep _ _ _ hk1).mono ?_
  rintro e w1 ⟨v0, rfl, ho0, hb⟩
  obtain ⟨A0, c0, rfl⟩ := Kd.R_slice ho0
  have R0 := Aside0.mk (Lives.row (base := w.heap.size) ho0 hb.size (Nat.le_refl _))
  have HB := Aside0.mk hb
  have Z1 := Aside0.mk hb.size
  clear hb ho0
  go_wp2_with fail
  refine (hI _ (max_below hm HB.out)).mono ?_
  rintro e w2 ⟨v1, rfl, ho1, hb⟩
  obtain ⟨A1, c1, rfl⟩ := Kd.R_slice ho1
  have R1 := Aside0.mk (Lives.row (base := w.heap.size) ho1 hb.size HB.out.size)
  replace R0 := Aside0.mk (R0.out.below hb)
  replace HB := Aside0.mk (below_step HB.out hb)
  have Z2 := Aside0.mk hb.size
  clear hb ho1
  go_wp2_with fail
  refine (laws_eqStringS.calls k2 _ _ L _ _ L true _ (Kd.R_reads' R1.out.now).2.2 (Kd.R_reads' R1.out.now).2.1 (Kd.R_reads' R0.out.now).2.2 (Kd.R_reads' R0.out.now).2.1 hk2).mono ?_
  rintro e w3 ⟨rfl, hd⟩
  have hb := below_drawn hd
  clear hd
  replace R0 := Aside0.mk (R0.out.below hb)
  replace R1 := Aside0.mk (R1.out.below hb)
  replace HB := Aside0.mk (below_step HB.out hb)
  clear hb
  go_wp2_with fail
  refine (laws_markStringS.calls k3 (fun k_ => w1.heap.size ≤ k_ ∧ k_ < w2.heap.size) _ L 1 _ _ w _ HB.out R1.out.now hk3).mono ?_
  rintro e w4 ⟨rfl, ho, hb, hk⟩
  have Z4 := Aside0.mk hk.1
  replace R0 := Aside0.mk (R0.out.kept hk (by omega))
  replace R1 := Aside0.mk (R1.out.marked rfl ho hk.1)
  have LR1 := Aside0.mk (Kd.R_reads' ho).1
  replace HB := Aside0.mk hb
  clear ho hb hk
  go_wp2_with fail
  have hc := laws_heldStringS.calls k4 A1 c1 (mks 0 L.length) 1 M _ (Kd.R_reads' R1.out.now).2.2 (by rw [mks_len]; have := (Kd.R_reads' R1.out.now).2.1; omega) hk4
  rw [mks_len] at hc
  refine hc.mono ?_
  clear hc
  rintro e w5 ⟨rfl, hb⟩
  replace R0 := Aside0.mk (R0.out.below hb)
  replace R1 := Aside0.mk (R1.out.below hb)
  replace HB := Aside0.mk (below_step HB.out hb)
  have Z5 := Aside0.mk hb.size
  clear hb
  go_wp2_with fail
  refine (hI _ (max_below hm HB.out)).mono ?_
  rintro e w6 ⟨v2, rfl, ho2, hb⟩
  obtain ⟨A2, c2, rfl⟩ := Kd.R_slice ho2
  have R2 := Aside0.mk (Lives.row (base := w.heap.size) ho2 hb.size HB.out.size)
  replace R0 := Aside0.mk (R0.out.below hb)
  replace R1 := Aside0.mk (R1.out.below hb)
  replace HB := Aside0.mk (below_step HB.out hb)
  clear hb ho2
  go_wp2_with fail
  refine (laws_eqStringS.calls k2 _ _ L _ _ L true _ (Kd.R_reads' R2.out.now).2.2 (Kd.R_reads' R2.out.now).2.1 (Kd.R_reads' R0.out.now).2.2 (Kd.R_reads' R0.out.now).2.1 hk2).mono ?_
  rintro e w7 ⟨rfl, hd⟩
  have hb := below_drawn hd
  clear hd
  replace R0 := Aside0.mk (R0.out.below hb)
  replace R1 := Aside0.mk (R1.out.below hb)
  replace HB := Aside0.mk (below_step HB.out hb)
  clear hb
  go_wp2_with fail
  have hc := laws_heldStringS.calls k4 A1 c1 (mks 0 L.length) 1 M _ (Kd.R_reads' R1.out.now).2.2 (by rw [mks_len]; have := (Kd.R_reads' R1.out.now).2.1; omega) hk4
  rw [mks_len] at hc
  refine hc.mono ?_
  clear hc
  rintro e w8 ⟨rfl, hb⟩
  replace HB := Aside0.mk (below_step HB.out hb)
  clear hb
  go_wp2
  go_ret
  exact ⟨rfl, HB.out⟩
end Go.Proofs.YthofhfmdomppeabDoor.Split
