/- A text cut at a byte: the reference's loop and the library's cut are the same plain function. -/
import Derived.Test.YthofhfmdomppeabDoorBytes
import Derived.Test.YthofhfmdomppeabDoorBase
import Derived.Test.YthofhfmdomppeabDoorQx1
import Derived.Lib.Split
import Derived.Lib.SplitLaws
namespace Go.Proofs.YthofhfmdomppeabDoor.Cut
open Go.RowKit Go.Proofs.YthofhfmdomppeabDoor.Q Go.Proofs.YthofhfmdomppeabDoorW.PrintWords Go.Proofs.YthofhfmdomppeabDoor.Base Go.Proofs.YthofhfmdomppeabDoor.Bytes
set_option linter.unusedVariables false
/-- A list cut at a byte. -/
def spl (c : UInt8) : List UInt8 → List (List UInt8)
  | [] => [[]]
  | b :: l => if b = c then [] :: spl c l else match spl c l with
    | h :: t => (b :: h) :: t
    | [] => [[b]]
theorem spl_some (c : UInt8) : ∀ l, ∃ h t, spl c l = h :: t
  | [] => ⟨_, _, rfl⟩
  | b :: l => by
    obtain ⟨h, t, e⟩ := spl_some c l
    unfold spl
    split
    · exact ⟨_, _, rfl⟩
    · rw [e]; exact ⟨_, _, rfl⟩
theorem index_step (b c : UInt8) (l : List UInt8) : Lib.index (b :: l) [c] = if b = c then 0 else if Lib.index l [c] = -1 then -1 else Lib.index l [c] + 1 := by
  rw [Lib.index]
  by_cases h : b = c
  · subst h
    simp
  · have h' : ¬ c = b := fun e => h e.symm
    simp [h, h']
theorem cut_l (c : UInt8) : ∀ l, Lib.splitK [c] 0 (Lib.count l [c]) l = spl c l
  | [] => by
    have e : Lib.count [] [c] = 0 := Lib.count_miss (by simp [Lib.index])
    rw [e]; rfl
  | b :: l => by
    have ih := cut_l c l
    have hs := index_step b c l
    by_cases h : b = c
    · rw [if_pos h] at hs
      have hc := Lib.count_hit (s := b :: l) (sub := [c]) (i := 0) (by simp) hs
      simp only [List.length_cons, List.length_nil, Nat.zero_add, List.drop_succ_cons, List.drop_zero] at hc
      rw [hc, Nat.add_comm, Lib.splitK, hs]
      simp only [spl, if_pos h]
      rw [if_neg (by decide)]
      simp [ih]
    · rw [if_neg h] at hs
      by_cases h1 : Lib.index l [c] = -1
      · rw [if_pos h1] at hs
        rw [Lib.count_miss hs]
        rw [Lib.count_miss h1] at ih
        simp only [spl, if_neg h, ← ih]
        rfl
      · rw [if_neg h1] at hs
        have hge := Lib.index_ge l [c]
        obtain ⟨i, hi⟩ : ∃ i : Nat, Lib.index l [c] = i := ⟨(Lib.index l [c]).toNat, by omega⟩
        rw [hi] at hs
        have hc := Lib.count_hit (s := b :: l) (sub := [c]) (i := i + 1) (by simp) (by rw [hs]; rfl)
        have hc0 := Lib.count_hit (s := l) (sub := [c]) (i := i) (by simp) hi
        simp only [List.length_cons, List.length_nil, Nat.zero_add, List.drop_succ_cons] at hc hc0
        rw [hc0, Nat.add_comm, Lib.splitK, hi] at ih
        rw [hc, Nat.add_comm, Lib.splitK, hs]
        have n1 : ¬ (((i : Int) == -1) = true) := by intro e; have := eq_of_beq e; omega
        have n2 : ¬ ((((i : Int) + 1) == -1) = true) := by intro e; have := eq_of_beq e; omega
        have t1 : ((i : Int) + 1).toNat = i + 1 := by omega
        rw [if_neg n1] at ih
        rw [if_neg n2, t1]
        simp only [Int.toNat_natCast, Nat.add_zero, List.length_cons, List.length_nil, Nat.zero_add] at ih ⊢
        simp only [spl, if_neg h, ← ih, List.take_succ_cons, List.drop_succ_cons]
/-- What stands ahead goes to the first piece. -/
def mh (p : List UInt8) : List (List UInt8) → List (List UInt8)
  | h :: t => (p ++ h) :: t
  | [] => [p]
theorem mh_nil (c : UInt8) (l : List UInt8) : mh [] (spl c l) = spl c l := by
  obtain ⟨h, t, e⟩ := spl_some c l
  rw [e]; rfl
theorem range_l (s : ByteArray) (a b : Nat) : (s.extract a b).data.toList = (s.data.toList.take b).drop a := by
  rw [Lib.extract_data, List.drop_take]
theorem split_v (s : ByteArray) (c : UInt8) (hs : s.size ≤ 4000) : ∀ (d j fr : Nat) (acc : List ByteArray), j + d = s.size → fr ≤ j → acc.length ≤ j →
    ∃ R : List ByteArray, Ev (fun k => spec_l1Split.l0 k s (c.toNat : Int) acc (fr : Int) (j : Int)) (acc ++ R) ∧ R.map (·.data.toList) = mh ((s.data.toList.take j).drop fr) (spl c (s.data.toList.drop j)) := by
  have hl := size_l s
  intro d
  induction d with
  | zero =>
    intro j fr acc hj hf ha
    refine ⟨[s.extract fr s.size], Ev.succ ?_, ?_⟩
    · simp only [spec_l1Split.l0, Int.toNat_natCast]
      exact Ev.neg (by omega) (Ev.pos (by omega) (Ev.pos (by omega) (Ev.pos (by omega) (Ev.now _))))
    · rw [List.drop_of_length_le (by omega : s.data.toList.length ≤ j), show j = s.size by omega]
      simp only [List.map_cons, List.map_nil, range_l, spl, mh, List.append_nil]
  | succ d ih =>
    intro j fr acc hj hf ha
    have hlt : j < s.data.toList.length := by omega
    have ew : wrap64 ((j : Int) + 1) = ((j + 1 : Nat) : Int) := w64s (show j < s.size by omega) (by omega)
    have hb : bt s (j : Int) = ((s.data.toList[j]).toNat : Int) := by
      unfold bt
      rw [dif_pos (by simpa using hlt)]
      simp
      rfl
    rw [drop_cons hlt]
    by_cases h : s.data.toList[j] = c
    · obtain ⟨R, h1, h2⟩ := ih (j + 1) (j + 1) (acc ++ [s.extract fr j]) (by omega) (by omega) (by simp; omega)
      refine ⟨s.extract fr j :: R, Ev.succ ?_, ?_⟩
      · simp only [spec_l1Split.l0, Int.toNat_natCast, ew]
        rw [show acc ++ s.extract fr j :: R = acc ++ [s.extract fr j] ++ R by simp]
        exact Ev.pos (by omega) (Ev.pos (by omega) (Ev.pos (by rw [hb, h]) (Ev.pos (by omega) (Ev.pos (by omega) (Ev.pos (by omega) (Ev.pos (by omega) h1))))))
      · rw [List.map_cons, h2, List.drop_of_length_le (by simp; omega), mh_nil, range_l]
        simp only [spl, if_pos h, mh, List.append_nil]
    · obtain ⟨R, h1, h2⟩ := ih (j + 1) fr acc (by omega) (by omega) (by omega)
      refine ⟨R, Ev.succ ?_, ?_⟩
      · simp only [spec_l1Split.l0, ew]
        exact Ev.pos (by omega) (Ev.pos (by omega) (Ev.neg (by rw [hb]; intro e; exact h (UInt8.toNat_inj.1 (by omega))) h1))
      · rw [h2, take_snoc hlt, List.drop_append_of_le_length (by simp; omega)]
        obtain ⟨x, t, e⟩ := spl_some c (s.data.toList.drop (j + 1))
        simp only [spl, if_neg h, e, mh, List.append_assoc, List.singleton_append]
theorem map_inj : ∀ (a b : List ByteArray), a.map (·.data.toList) = b.map (·.data.toList) → a = b
  | [], [], _ => rfl
  | [], _ :: _, h => by simp at h
  | _ :: _, [], h => by simp at h
  | x :: a, y :: b, h => by
    simp only [List.map_cons, List.cons.injEq] at h
    rw [ext_l h.1, map_inj a b h.2]
/-- The cut of a text at the one byte of another. -/
def pieces (s sep : ByteArray) : List ByteArray := Lib.splitB sep 0 (Lib.countB s sep) s
theorem pieces_v (s : ByteArray) (c : UInt8) (hs : s.size ≤ 4000) : Ev (fun k => spec_l1Split.f k s (c.toNat : Int)) (pieces s ⟨#[c]⟩) := by
  obtain ⟨R, h1, h2⟩ := split_v s c hs s.size 0 0 [] (by omega) (by omega) (by simp)
  have e : R = pieces s ⟨#[c]⟩ := map_inj _ _ (by
    unfold pieces
    rw [h2, Lib.splitB_data]
    exact (mh_nil c _).trans (cut_l c _).symm)
  unfold spec_l1Split.f
  rw [← e]
  exact h1
end Go.Proofs.YthofhfmdomppeabDoor.Cut
