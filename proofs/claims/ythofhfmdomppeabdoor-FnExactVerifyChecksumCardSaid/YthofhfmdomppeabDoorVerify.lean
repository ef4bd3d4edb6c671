/- The walk of the checksum's test: impl.VerifyChecksum by the contract on the library's search from behind, and that the reference tells the same. -/
import Derived.Test.YthofhfmdomppeabDoorAppend
import Derived.Test.YthofhfmdomppeabDoorBytes
import Derived.Lib.LastIndexByte
namespace Go.Proofs.YthofhfmdomppeabDoor.Verify
open Go.RowKit Go.Proofs.YthofhfmdomppeabDoor.Q Go.Proofs.YthofhfmdomppeabDoorW.PrintWords Go.Proofs.YthofhfmdomppeabDoorW.PrintLast Go.Proofs.YthofhfmdomppeabDoor.Fmt Go.Proofs.YthofhfmdomppeabDoor.Sum Go.Proofs.YthofhfmdomppeabDoor.Base Go.Proofs.YthofhfmdomppeabDoor.Append Go.Proofs.YthofhfmdomppeabDoor.Bytes
set_option linter.unusedVariables false
/-- No '#' stands in a checksum's digits. -/
theorem itoa_no (t : ByteArray) : (35 : UInt8) ∉ Lib.itoa (ck t) := by
  have hc := ck_in t
  unfold Lib.itoa
  rw [if_neg (by omega)]
  intro h
  have := dec_digit 6 (ck t).toNat (by omega) 35 h
  have e : (35 : UInt8).toNat = 35 := rfl
  omega
theorem seal_l (t : ByteArray) : (seal_ t).data.toList = t.data.toList ++ 35 :: Lib.itoa (ck t) := by
  unfold seal_
  rw [append_l, append_l, List.append_assoc]
  rfl
/-- Where the first and the last '#' of such a text stand. -/
theorem first_at {p D : List UInt8} (hp : (35 : UInt8) ∉ p) {e : Nat} (he : e ≤ (p ++ 35 :: D).length) (h0 : ∀ i (h : i < (p ++ 35 :: D).length), i < e → (p ++ 35 :: D)[i] ≠ 35) (h1 : ∀ h : e < (p ++ 35 :: D).length, (p ++ 35 :: D)[e] = 35) : e = p.length := by
  have hl : p.length < (p ++ 35 :: D).length := by simp
  have hm : (p ++ 35 :: D)[p.length] = 35 := by simp
  by_cases c : e < p.length
  · have := h1 (by omega)
    rw [List.getElem_append_left c] at this
    exact absurd (this ▸ List.getElem_mem c) hp
  · by_cases c2 : p.length < e
    · exact absurd hm (h0 _ hl c2)
    · omega
theorem last_at {p D : List UInt8} (hp : (35 : UInt8) ∉ D) {e : Nat} (he : e < (p ++ 35 :: D).length) (h0 : ∀ i (h : i < (p ++ 35 :: D).length), e < i → (p ++ 35 :: D)[i] ≠ 35) (h1 : (p ++ 35 :: D)[e] = 35) : e = p.length := by
  have hl : p.length < (p ++ 35 :: D).length := by simp
  have hm : (p ++ 35 :: D)[p.length] = 35 := by simp
  by_cases c : e < p.length
  · exact absurd hm (h0 _ hl c)
  · by_cases c2 : p.length < e
    · rw [List.getElem_append_right (by omega)] at h1
      obtain ⟨m, hm2⟩ : ∃ m, e - p.length = m + 1 := ⟨e - p.length - 1, by omega⟩
      simp only [hm2, List.getElem_cons_succ] at h1
      exact absurd (h1 ▸ List.getElem_mem _) hp
    · omega
/-- The text without its checksum, if it has one. -/
def vf (s : ByteArray) : ByteArray × Bool := 
  let i := Lib.lastIndexByte s 35
  if i < 0 then (⟨#[]⟩, false) else
    let t := s.extract 0 i.toNat
    if okS t = true ∧ apS t = s then (t, true) else (⟨#[]⟩, false)
theorem byteOf (s : ByteArray) (i : Nat) (h : i < s.data.toList.length) : (((s.data[i]!).toNat : Int) = 35 ↔ s.data.toList[i] = 35) := by
  rw [bang s i h]
  constructor
  · intro e
    exact UInt8.toNat_inj.1 (by have : (35 : UInt8).toNat = 35 := rfl; omega)
  · intro e
    rw [e]; rfl
/-- A text with a right checksum is told. -/
theorem vf_yes {s t : ByteArray} (ht : okS t = true) (hs : seal_ t = s) : vf s = (t, true) := by
  have hL : s.data.toList = t.data.toList ++ 35 :: Lib.itoa (ck t) := by rw [← hs, seal_l]
  have hD := itoa_no t
  have hi : Lib.lastIndexByte s 35 = (t.data.toList.length : Int) := by
    rcases Lib.lastIndexByte_spec s 35 with ⟨e, hn⟩ | ⟨i, hi, e, hc, hn⟩
    · exfalso
      have hl : t.data.toList.length < s.data.toList.length := by rw [hL]; simp
      have := hn t.data.toList.length (by rw [← size_l]; exact hl)
      refine this ((byteOf s _ hl).2 ?_)
      simp [hL]
    · rw [e]
      have hi' : i < s.data.toList.length := by rw [size_l]; exact hi
      have h35 := (byteOf s i hi').1 hc
      have : i = t.data.toList.length := last_at (p := t.data.toList) (D := Lib.itoa (ck t)) hD (by rw [← hL]; exact hi') (fun j hj hij => by
        have hj' : j < s.data.toList.length := by rw [hL]; exact hj
        have := hn j hij (by rw [← size_l]; exact hj')
        intro h'
        refine this ((byteOf s j hj').2 ?_)
        simp only [hL]
        exact h') (by simpa only [hL] using h35)
      omega
  have hx : s.extract 0 t.data.toList.length = t := by
    apply ext_l
    rw [extract_l, hL]
    simp
  have ha : apS t = s := by unfold apS; rw [if_pos ht, hs]
  unfold vf
  simp only [hi]
  rw [if_neg (by omega), Int.toNat_natCast, hx, if_pos ⟨ht, ha⟩]
theorem vf_no {s : ByteArray} (h : ∀ t, okS t = true → seal_ t ≠ s) : vf s = (⟨#[]⟩, false) := by
  unfold vf
  simp only
  split
  · rfl
  · rw [if_neg]
    rintro ⟨h1, h2⟩
    refine h _ h1 ?_
    unfold apS at h2
    rw [if_pos h1] at h2
    exact h2
theorem split_more (s : ByteArray) (hs : s.size ≤ 4000) : ∀ (d j fr : Nat) (acc : List ByteArray), j + d = s.size → fr ≤ j → acc.length ≤ j → acc ≠ [] → ∃ L : List ByteArray, Ev (fun k => spec_l1Split.l0 k s 35 acc (fr : Int) (j : Int)) L ∧ 0 < L.length ∧ rdOf ByteArray.empty L 0 = rdOf ByteArray.empty acc 0 := by
  intro d
  induction d with
  | zero =>
    intro j fr acc hj hf ha hne
    refine ⟨acc ++ [s.extract fr s.size], Ev.succ ?_, by simp, ?_⟩
    · simp only [spec_l1Split.l0, Int.toNat_natCast]
      exact Ev.neg (by omega) (Ev.pos (by omega) (Ev.pos (by omega) (Ev.pos (by omega) (Ev.now _))))
    · cases acc with
      | nil => exact absurd rfl hne
      | cons a r => rfl
  | succ d ih =>
    intro j fr acc hj hf ha hne
    have ew : wrap64 ((j : Int) + 1) = ((j + 1 : Nat) : Int) := w64s (show j < s.size by omega) (by omega)
    by_cases c : bt s (j : Int) = 35
    · obtain ⟨L, h1, h2, h3⟩ := ih (j + 1) (j + 1) (acc ++ [s.extract fr j]) (by omega) (by omega) (by simp; omega) (by simp)
      refine ⟨L, Ev.succ ?_, h2, h3.trans ?_⟩
      · simp only [spec_l1Split.l0, Int.toNat_natCast, ew]
        exact Ev.pos (by omega) (Ev.pos (by omega) (Ev.pos c (Ev.pos (by omega) (Ev.pos (by omega) (Ev.pos (by omega) (Ev.pos (by omega) h1))))))
      · cases acc with
        | nil => exact absurd rfl hne
        | cons a r => rfl
    · obtain ⟨L, h1, h2, h3⟩ := ih (j + 1) fr acc (by omega) (by omega) (by omega) hne
      refine ⟨L, Ev.succ ?_, h2, h3⟩
      simp only [spec_l1Split.l0, ew]
      exact Ev.pos (by omega) (Ev.pos (by omega) (Ev.neg c h1))
theorem split_first (s : ByteArray) (hs : s.size ≤ 4000) : ∀ (d j : Nat), j + d = s.size → (∀ i (h : i < s.data.toList.length), i < j → s.data.toList[i] ≠ 35) →
    ∃ (L : List ByteArray) (e : Nat), Ev (fun k => spec_l1Split.l0 k s 35 [] 0 (j : Int)) L ∧ 0 < L.length ∧ rdOf ByteArray.empty L 0 = s.extract 0 e ∧ e ≤ s.data.toList.length ∧ (∀ i (h : i < s.data.toList.length), i < e → s.data.toList[i] ≠ 35) ∧ (∀ h : e < s.data.toList.length, s.data.toList[e] = 35) := by
  have hl := size_l s
  intro d
  induction d with
  | zero =>
    intro j hj hp
    obtain rfl : j = s.size := by omega
    refine ⟨[s.extract 0 s.size], s.size, Ev.succ ?_, by simp, rfl, by omega, hp, fun h => by omega⟩
    simp only [spec_l1Split.l0]
    exact Ev.neg (by omega) (Ev.pos (by omega) (Ev.pos (by omega) (Ev.pos (by simp) (Ev.now _))))
  | succ d ih =>
    intro j hj hp
    have hlt : j < s.size := by omega
    have hlt' : j < s.data.toList.length := by omega
    have ew : wrap64 ((j : Int) + 1) = ((j + 1 : Nat) : Int) := w64s hlt (by omega)
    have hb := bt_eq s j hlt
    by_cases c : s.data.toList[j] = 35
    · have c' : bt s (j : Int) = 35 := by rw [hb, c]; rfl
      obtain ⟨L, h1, h2, h3⟩ := split_more s hs d (j + 1) (j + 1) [s.extract 0 j] (by omega) (by omega) (by simp) (by simp)
      refine ⟨L, j, Ev.succ ?_, h2, h3, by omega, hp, fun _ => c⟩
      simp only [spec_l1Split.l0, ew, List.nil_append]
      exact Ev.pos (by omega) (Ev.pos (by omega) (Ev.pos c' (Ev.pos (by omega) (Ev.pos (by omega) (Ev.pos (by omega) (Ev.pos (by simp) h1))))))
    · have c' : ¬ bt s (j : Int) = 35 := by
        rw [hb]
        intro e
        exact c (UInt8.toNat_inj.1 (by have : (35 : UInt8).toNat = 35 := rfl; omega))
      obtain ⟨L, e, h1, h2⟩ := ih (j + 1) (by omega) (fun i hi hij => by
        by_cases e : i = j
        · subst e; exact c
        · exact hp i hi (by omega))
      refine ⟨L, e, Ev.succ ?_, h2⟩
      simp only [spec_l1Split.l0, ew]
      exact Ev.pos (by omega) (Ev.pos (by omega) (Ev.neg c' h1))
theorem specVerify_v (s : ByteArray) : Ev (fun k => spec_VerifyChecksum.f k s) (vf s) := by
  unfold spec_VerifyChecksum.f
  refine Ev.cases (fun c => ?_) (fun c => ?_)
  · rw [vf_no (fun t ht hs => by
      unfold okS at ht
      rw [Bool.and_eq_true, Bool.and_eq_true, decide_eq_true_eq, decide_eq_true_eq] at ht
      rw [hs] at ht
      omega)]
    exact Ev.now _
  · have hs : s.size ≤ 4000 := by omega
    obtain ⟨L, e, h1, h2, h3, he, hn, hy⟩ := split_first s hs s.size 0 (by omega) (fun i _ h => by omega)
    have hl := size_l s
    have ht : (s.extract 0 e).size ≤ 4000 := by
      have := size_l (s.extract 0 e)
      rw [extract_l, List.length_take] at this
      omega
    unfold spec_l1Split.f
    refine Ev.bind h1 (Ev.pos (by omega) ?_)
    rw [h3]
    refine Ev.bind (l1Seal_v _ ht) (Ev.cases (fun c2 => ?_) (fun c2 => ?_))
    · have c3 := toList_iff.1 c2
      have hno : stands (s.extract 0 e) = false := by
        rw [stands_mem]
        refine decide_eq_false (fun hm => ?_)
        rw [extract_l] at hm
        obtain ⟨i, hi, h35⟩ := List.mem_iff_getElem.1 hm
        rw [List.length_take] at hi
        rw [List.getElem_take] at h35
        exact hn i (by omega) (by omega) h35
      rw [vf_yes (t := s.extract 0 e) (by unfold okS; rw [hno, c3, decide_eq_true ht, decide_eq_true hs]; rfl) c3]
      exact Ev.now _
    · have := vf_no (s := s) (fun t hok hseal => by
        have hL : s.data.toList = t.data.toList ++ 35 :: Lib.itoa (ck t) := by rw [← hseal, seal_l]
        have hno : (35 : UInt8) ∉ t.data.toList := by
          unfold okS at hok
          rw [Bool.and_eq_true, Bool.and_eq_true, stands_mem] at hok
          simpa using hok.2.1
        have e1 : e = t.data.toList.length := first_at (p := t.data.toList) (D := Lib.itoa (ck t)) hno (by rw [← hL]; exact he) (fun i hi hie => by
          have hi' : i < s.data.toList.length := by rw [hL]; exact hi
          have := hn i hi' hie
          simp only [hL] at this
          exact this) (fun h => by
          have h' : e < s.data.toList.length := by rw [hL]; exact h
          have := hy h'
          simp only [hL] at this
          exact this)
        have hx : s.extract 0 e = t := by
          apply ext_l
          rw [extract_l, hL, e1]
          simp
        rw [hx] at c2
        exact c2 (toList_iff.2 hseal))
      rw [this]
      exact Ev.now _
set_option maxHeartbeats 4000000 in
theorem implVerify (s : ByteArray) (hs : s.size ≤ 140737488351232) (w : World) (htab : Tab w) :
    Calls Tryd.prog 21 #[.string s] w fun e w' => e = .returned (.tuple #[.string (vf s).1, .bool (vf s).2]) ∧ Below w.heap.size w w' := by
  by_cases a : Lib.lastIndexByte s 35 < 0
  · have a0 : decide (Lib.lastIndexByte s 35 < 0) = true := decide_eq_true a
    have e : vf s = (⟨#[]⟩, false) := by unfold vf; exact if_pos a
    rw [e]
    go_enter Tryd.func21, Tryd.ntmps21
    go_wp2_with (first
      | (go_at_call 42; refine (Tryd.strings_LastIndexByte s 35 (by omega) _).mono ?_; rintro e w1 ⟨rfl, rfl⟩))
    go_ret2
    exact ⟨rfl, Below.refl _ _⟩
  · obtain ⟨i, hi⟩ : ∃ i : Nat, Lib.lastIndexByte s 35 = (i : Int) := ⟨(Lib.lastIndexByte s 35).toNat, by omega⟩
    have hlt : i < s.size := by
      rcases Lib.lastIndexByte_spec s 35 with ⟨e, hn⟩ | ⟨j, hj, e, hc, hn⟩
      · omega
      · omega
    have a0 : decide ((i : Int) < 0) = false := decide_eq_false (by omega)
    have f1 : (0 ≤ (i : Int)) = True := eq_true (by omega)
    have f2 : ((i : Int) ≤ (s.size : Int)) = True := eq_true (by omega)
    have f3 : (i ≤ s.size) = True := eq_true (by omega)
    have hx : (s.extract 0 i).size ≤ 140737488351232 := by
      have := size_l (s.extract 0 i)
      rw [extract_l, List.length_take, size_l] at this
      omega
    have hP := fun w1 (hb1 : Below w.heap.size w w1) => implAppend (s.extract 0 i) hx w1 (tab_below htab hb1)
    cases hok : okS (s.extract 0 i) with
    | false =>
      have e : vf s = (⟨#[]⟩, false) := by unfold vf; simp only [hi]; rw [if_neg (by omega), Int.toNat_natCast, if_neg (by rw [hok]; simp)]
      rw [e]
      rw [hok] at hP
      go_enter Tryd.func21, Tryd.ntmps21
      go_wp2_with (first
        | (go_at_call 42; refine (Tryd.strings_LastIndexByte s 35 (by omega) _).mono ?_; rintro e w1 ⟨rfl, rfl⟩; rw [hi])
        | (go_at_call 19; refine (hP _ (Below.refl _ _)).mono ?_; rintro e w2 ⟨rfl, hb2⟩))
      go_ret2
      exact ⟨rfl, hb2⟩
    | true =>
      by_cases b : apS (s.extract 0 i) = s
      · have b0 : ((apS (s.extract 0 i)).toList != s.toList) = false := by rw [b]; simp
        have e : vf s = (s.extract 0 i, true) := by unfold vf; simp only [hi]; rw [if_neg (by omega), Int.toNat_natCast, if_pos ⟨hok, b⟩]
        rw [e]
        rw [hok, b] at hP
        go_enter Tryd.func21, Tryd.ntmps21
        go_wp2_with (first
          | (go_at_call 42; refine (Tryd.strings_LastIndexByte s 35 (by omega) _).mono ?_; rintro e w1 ⟨rfl, rfl⟩; rw [hi])
          | (go_at_call 19; refine (hP _ (Below.refl _ _)).mono ?_; rintro e w2 ⟨rfl, hb2⟩))
        go_ret2
        exact ⟨rfl, hb2⟩
      · have b0 : ((apS (s.extract 0 i)).toList != s.toList) = true := bne_iff_ne.2 (fun h => b (toList_iff.1 h))
        have b1 : ((apS (s.extract 0 i)).toList == s.toList) = false := beq_eq_false_iff_ne.2 (fun h => b (toList_iff.1 h))
        have b2 : (apS (s.extract 0 i) = s) = False := eq_false b
        have b3 : ((apS (s.extract 0 i)).data.toList == s.data.toList) = false := beq_eq_false_iff_ne.2 (fun h => b (ext_l h))
        have e : vf s = (⟨#[]⟩, false) := by unfold vf; simp only [hi]; rw [if_neg (by omega), Int.toNat_natCast, if_neg (fun h => b h.2)]
        rw [e]
        rw [hok] at hP
        go_enter Tryd.func21, Tryd.ntmps21
        go_wp2_with (first
          | (go_at_call 42; refine (Tryd.strings_LastIndexByte s 35 (by omega) _).mono ?_; rintro e w1 ⟨rfl, rfl⟩; rw [hi])
          | (go_at_call 19; refine (hP _ (Below.refl _ _)).mono ?_; rintro e w2 ⟨rfl, hb2⟩))
        go_ret2
        exact ⟨rfl, hb2⟩
theorem lawVerify (s : ByteArray) (hs : s.size ≤ 140737488351232) (w : World) (htab : Tab w) :
    Calls Tryd.prog 7 #[.string s] w fun e w' => e = .returned (.bool true) ∧ Below w.heap.size w w' := by
  obtain ⟨k, hk⟩ := (specVerify_v s).rounds
  have hk' : spec_VerifyChecksum.f k s = some ((vf s).1, (vf s).2) := hk
  by_cases a : 1048576 < (s.size : Int)
  · have a0 : decide (1048576 < (s.size : Int)) = true := decide_eq_true a
    have a1 : decide (1048576 < s.size) = true := decide_eq_true (by omega)
    go_enter Tryd.func7, Tryd.ntmps7
    go_wp2
    go_ret
    exact ⟨rfl, Below.refl _ _⟩
  · have a0 : decide (1048576 < (s.size : Int)) = false := decide_eq_false a
    have a1 : decide (1048576 < s.size) = false := decide_eq_false (by omega)
    go_enter Tryd.func7, Tryd.ntmps7
    go_wp2_with (first
      | (go_at_call 20; refine (spec_VerifyChecksum.calls k s _ _ _ hk').mono ?_; rintro e w1 ⟨rfl, hb1⟩)
      | (go_at_call 21; refine (implVerify s hs _ (tab_below htab hb1)).mono ?_; rintro e w2 ⟨rfl, hb2⟩))
    go_ret
    exact ⟨rfl, below_step hb1 hb2⟩
end Go.Proofs.YthofhfmdomppeabDoor.Verify
