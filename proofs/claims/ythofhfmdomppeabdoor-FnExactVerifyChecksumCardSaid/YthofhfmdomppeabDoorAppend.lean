/- The walks of the checksum's text: impl.AppendChecksum by the contracts on the library's search and conversion, and that the reference's text is the same. -/
import Derived.Test.YthofhfmdomppeabDoorSum
import Derived.Test.YthofhfmdomppeabDoorBase
import Derived.Lib.ItoaLen
namespace Go.Proofs.YthofhfmdomppeabDoor.Append
open Go.RowKit Go.Proofs.YthofhfmdomppeabDoor.Q Go.Proofs.YthofhfmdomppeabDoorW.PrintWords Go.Proofs.YthofhfmdomppeabDoorW.PrintLast Go.Proofs.YthofhfmdomppeabDoor.Fmt Go.Proofs.YthofhfmdomppeabDoor.Sum Go.Proofs.YthofhfmdomppeabDoor.Base
set_option linter.unusedVariables false
theorem index_mem (c : UInt8) : ∀ l : List UInt8, 0 ≤ Lib.indexByte l c ↔ c ∈ l
  | [] => by simp [Lib.indexByte]
  | b :: l => by
    have ih := index_mem c l
    unfold Lib.indexByte
    by_cases h : b = c
    · simp [h]
    · rw [if_neg (by simpa using h)]
      have hm : c ∈ b :: l ↔ c ∈ l := by
        rw [List.mem_cons]
        exact ⟨fun h' => h'.resolve_left (fun e => h e.symm), .inr⟩
      rw [hm, ← ih]
      by_cases e : Lib.indexByte l c = -1
      · rw [e]; simp
      · rw [if_neg (by simpa using e)]
        have : -1 ≤ Lib.indexByte l c := by
          clear ih hm e h
          induction l with
          | nil => simp [Lib.indexByte]
          | cons b l ih2 =>
            unfold Lib.indexByte
            split
            · omega
            · split <;> omega
        omega
theorem stands_mem (s : ByteArray) : stands s = decide ((35 : UInt8) ∈ s.data.toList) := by
  unfold stands
  exact decide_eq_decide.2 (index_mem 35 _)
theorem bt_eq (s : ByteArray) (j : Nat) (h : j < s.size) : bt s (j : Int) = ((s.data.toList[j]'(by simpa using h)).toNat : Int) := by
  unfold bt
  rw [dif_pos (by simpa using h)]
  simp
  rfl
theorem stands_l (s : ByteArray) (hs : s.size ≤ 4000) : ∀ (d j : Nat), j + d = s.size → Ev (fun k => spec_l1Stands.l0 k s 35 (j : Int)) (decide ((35 : UInt8) ∈ s.data.toList.drop j)) := by
  have hl : s.data.toList.length = s.size := by simp
  intro d
  induction d with
  | zero =>
    intro j hj
    refine Ev.succ ?_
    simp only [spec_l1Stands.l0]
    refine Ev.neg (by omega) (Ev.const ?_)
    rw [List.drop_of_length_le (by omega)]; simp
  | succ d ih =>
    intro j hj
    have hlt : j < s.size := by omega
    have hlt' : j < s.data.toList.length := by omega
    refine Ev.succ ?_
    simp only [spec_l1Stands.l0, bt_eq s j hlt, w64s hlt (by omega : s.size ≤ 9223372036854775807)]
    rw [drop_cons hlt']
    refine Ev.pos (by omega) (Ev.pos (by omega) (Ev.cases (fun c => Ev.const ?_) (fun c => ?_)))
    · have e : s.data.toList[j] = (35 : UInt8) := UInt8.toNat_inj.1 (by have : (35 : UInt8).toNat = 35 := rfl; omega)
      rw [decide_eq_true (List.mem_cons.2 (.inl e.symm))]
    · refine Ev.eq (ih (j + 1) (by omega)) ?_
      have e : ¬ (35 : UInt8) = s.data.toList[j] := fun e => c (by rw [← e]; rfl)
      exact decide_eq_decide.2 ⟨fun h => List.mem_cons.2 (.inr h), fun h => (List.mem_cons.1 h).resolve_left e⟩
theorem stands_v (s : ByteArray) (hs : s.size ≤ 4000) : Ev (fun k => spec_l1Stands.f k s 35) (stands s) := by
  unfold spec_l1Stands.f
  rw [stands_mem]
  exact stands_l s hs s.size 0 (by omega)
theorem itoa_len (s : ByteArray) : (Lib.itoa (ck s)).length ≤ 21 := Lib.itoa_length_le _ (by have := ck_in s; omega) (by have := ck_in s; omega)
theorem seal_size (s : ByteArray) : (seal_ s).size = s.size + 1 + (Lib.itoa (ck s)).length := by
  unfold seal_
  rw [ByteArray.size_append, ByteArray.size_append]
  rfl
theorem l1Seal_v (s : ByteArray) (hs : s.size ≤ 4000) : Ev (fun k => spec_l1Seal.f k s) (seal_ s) := by
  have hc := ck_in s
  have hl := itoa_len s
  unfold spec_l1Seal.f
  refine Ev.pos (by omega) (Ev.bind (Ev.of (fun k => spec_l1Sum.mono s k) (l1Sum_v s (by omega))) (Ev.bind (Ev.of (fun k => spec_l1Num.mono _ k) (num_v (ck s) (by omega) (by omega))) (Ev.pos ?_ (Ev.const rfl))))
  rw [ByteArray.size_append]
  show s.size + 1 + (Lib.itoa (ck s)).toArray.size ≤ _
  simp
  omega
def okS (s : ByteArray) : Bool := decide (s.size ≤ 4000) && (!stands s && decide ((seal_ s).size ≤ 4000))
def apS (s : ByteArray) : ByteArray := if okS s = true then seal_ s else ⟨#[]⟩
theorem specAppend_v (s : ByteArray) : Ev (fun k => spec_AppendChecksum.f k s) (apS s, okS s) := by
  unfold spec_AppendChecksum.f apS
  refine Ev.cases (fun c => Ev.const ?_) (fun c => ?_)
  · rw [show okS s = false by unfold okS; rw [decide_eq_false (by omega), Bool.false_and]]; rfl
  · have hs : s.size ≤ 4000 := by omega
    refine Ev.bind (stands_v s hs) (Ev.cases (fun c2 => Ev.const ?_) (fun c2 => Ev.bind (l1Seal_v s hs) (Ev.cases (fun c3 => Ev.const ?_) (fun c3 => Ev.bind (l1Seal_v s hs) (Ev.const ?_)))))
    · rw [show okS s = false by unfold okS; rw [c2]; simp]; rfl
    · rw [show okS s = false by unfold okS; rw [decide_eq_false (show ¬ (seal_ s).size ≤ 4000 by omega)]; simp]; rfl
    · rw [show okS s = true by unfold okS; rw [decide_eq_true hs, Bool.eq_false_iff.2 c2, decide_eq_true (show (seal_ s).size ≤ 4000 by omega)]; rfl]; rfl
set_option maxHeartbeats 4000000 in
theorem implAppend (s : ByteArray) (hs : s.size ≤ 140737488351232) (w : World) (htab : Tab w) :
    Calls Tryd.prog 19 #[.string s] w fun e w' => e = .returned (.tuple #[.string (apS s), .bool (okS s)]) ∧ Below w.heap.size w w' := by
  have hck := implCk_v s hs
  have hc := ck_in s
  have hl := itoa_len s
  have hz := seal_size s
  by_cases a : (s.size : Int) > 4000
  · rw [if_pos a] at hck
    rw [apS, show okS s = false by unfold okS; rw [decide_eq_false (by omega), Bool.false_and], if_neg (by simp)]
    go_enter Tryd.func19, Tryd.ntmps19
    go_wp2_with (first
      | (go_at_call 40; refine (impl_Checksum.calls (s.size + 1) s _ _ _ hck).mono ?_; rintro e w1 ⟨rfl, hd1⟩; have hb1 := LawKit.below_drawn hd1))
    go_ret2
    exact ⟨rfl, hb1⟩
  · rw [if_neg a] at hck
    cases hst : stands s with
    | true =>
      rw [apS, show okS s = false by unfold okS; rw [hst]; simp, if_neg (by simp)]
      have hst' : decide (0 ≤ Lib.indexByte s.data.toList 35) = true := hst
      go_enter Tryd.func19, Tryd.ntmps19
      go_wp2_with (first
        | (go_at_call 40; refine (impl_Checksum.calls (s.size + 1) s _ _ _ hck).mono ?_; rintro e w1 ⟨rfl, hd1⟩; have hb1 := LawKit.below_drawn hd1)
        | (go_at_call 41; refine (Tryd.strings_Contains_one s 35 _).mono ?_; rintro e w2 ⟨rfl, rfl⟩))
      go_ret2
      exact ⟨rfl, hb1⟩
    | false =>
      have hst' : decide (0 ≤ Lib.indexByte s.data.toList 35) = false := hst
      have k1 : (9223372036854775807 < s.size + 1) = False := eq_false (by omega)
      have k2 : (9223372036854775807 < s.size + 1 + (Lib.itoa (ck s)).length) = False := eq_false (by omega)
      by_cases b : (seal_ s).size ≤ 4000
      · have b0 : decide (4000 < (((s ++ ⟨#[35]⟩ ++ ⟨(Lib.itoa (ck s)).toArray⟩ : ByteArray)).size : Int)) = false := decide_eq_false (by have : (s ++ ⟨#[35]⟩ ++ ⟨(Lib.itoa (ck s)).toArray⟩ : ByteArray).size = (seal_ s).size := rfl; omega)
        have b1 : (4000 < s.size + 1 + (Lib.itoa (ck s)).length) = False := eq_false (by omega)
        rw [apS, show okS s = true by unfold okS; rw [hst, decide_eq_true (by omega), decide_eq_true b]; rfl, if_pos rfl]
        go_enter Tryd.func19, Tryd.ntmps19
        go_wp2_with (first
          | (go_at_call 40; refine (impl_Checksum.calls (s.size + 1) s _ _ _ hck).mono ?_; rintro e w1 ⟨rfl, hd1⟩; have hb1 := LawKit.below_drawn hd1)
          | (go_at_call 41; refine (Tryd.strings_Contains_one s 35 _).mono ?_; rintro e w2 ⟨rfl, rfl⟩)
          | (go_at_call 32; refine (Tryd.strconv_Itoa (ck s) (by omega) (by omega) _ (tab_below htab hb1)).mono ?_; rintro e w3 ⟨rfl, k3, os3, rfl⟩))
        go_ret2
        exact ⟨rfl, below_step hb1 (Lib.below_grow _ _ (Nat.le_refl _) _ _)⟩
      · have b0 : decide (4000 < (((s ++ ⟨#[35]⟩ ++ ⟨(Lib.itoa (ck s)).toArray⟩ : ByteArray)).size : Int)) = true := decide_eq_true (by have : (s ++ ⟨#[35]⟩ ++ ⟨(Lib.itoa (ck s)).toArray⟩ : ByteArray).size = (seal_ s).size := rfl; omega)
        have b1 : (4000 < s.size + 1 + (Lib.itoa (ck s)).length) = True := eq_true (by omega)
        rw [apS, show okS s = false by unfold okS; rw [decide_eq_false b]; simp, if_neg (by simp)]
        go_enter Tryd.func19, Tryd.ntmps19
        go_wp2_with (first
          | (go_at_call 40; refine (impl_Checksum.calls (s.size + 1) s _ _ _ hck).mono ?_; rintro e w1 ⟨rfl, hd1⟩; have hb1 := LawKit.below_drawn hd1)
          | (go_at_call 41; refine (Tryd.strings_Contains_one s 35 _).mono ?_; rintro e w2 ⟨rfl, rfl⟩)
          | (go_at_call 32; refine (Tryd.strconv_Itoa (ck s) (by omega) (by omega) _ (tab_below htab hb1)).mono ?_; rintro e w3 ⟨rfl, k3, os3, rfl⟩))
        go_ret2
        exact ⟨rfl, below_step hb1 (Lib.below_grow _ _ (Nat.le_refl _) _ _)⟩
theorem lawAppend (s : ByteArray) (hs : s.size ≤ 140737488351232) (w : World) (htab : Tab w) :
    Calls Tryd.prog 6 #[.string s] w fun e w' => e = .returned (.bool true) ∧ Below w.heap.size w w' := by
  obtain ⟨k, hk⟩ := (specAppend_v s).rounds
  by_cases a : 1048576 < (s.size : Int)
  · have a0 : decide (1048576 < (s.size : Int)) = true := decide_eq_true a
    have a1 : decide (1048576 < s.size) = true := decide_eq_true (by omega)
    go_enter Tryd.func6, Tryd.ntmps6
    go_wp2
    go_ret
    exact ⟨rfl, Below.refl _ _⟩
  · have a0 : decide (1048576 < (s.size : Int)) = false := decide_eq_false a
    have a1 : decide (1048576 < s.size) = false := decide_eq_false (by omega)
    go_enter Tryd.func6, Tryd.ntmps6
    go_wp2_with (first
      | (go_at_call 18; refine (spec_AppendChecksum.calls k s _ _ _ hk).mono ?_; rintro e w1 ⟨rfl, hb1⟩)
      | (go_at_call 19; refine (implAppend s hs _ (tab_below htab hb1)).mono ?_; rintro e w2 ⟨rfl, hb2⟩))
    go_ret
    exact ⟨rfl, below_step hb1 hb2⟩
end Go.Proofs.YthofhfmdomppeabDoor.Append
