/- The checksum: both sides tell the same number, which lies below 999979. -/
import Derived.Test.YthofhfmdomppeabDoorFmt
import Derived.Test.YthofhfmdomppeabDoorQx2
namespace Go.Proofs.YthofhfmdomppeabDoor.Sum
open Go.RowKit Go.Proofs.YthofhfmdomppeabDoor.Q Go.Proofs.YthofhfmdomppeabDoorW.PrintWords Go.Proofs.YthofhfmdomppeabDoorW.PrintLast Go.Proofs.YthofhfmdomppeabDoor.Fmt
set_option linter.unusedVariables false
theorem csum_step {n : Nat} {j : Nat} (h : j < n) (hn : n ≤ 140737488351232) : wrap64 ((j : Int) + 1) = ((j + 1 : Nat) : Int) := by
  unfold wrap64; omega
/-- The sum over d bytes from j on. -/
def cs (s : ByteArray) : Nat → Nat → Int → Int
  | 0, _, h => h
  | d + 1, j, h => cs s d (j + 1) (Int.tmod (wrap64 ((wrap64 ((wrap64 (41 * h)) + (wrap64 (bt s (j : Int))))) + 1)) 999979)
theorem spec_l (s : ByteArray) (hs : s.size ≤ 140737488351232) : ∀ (d k j : Nat) (h : Int), j + d = s.size → d < k → spec_l1Sum.l0 k s h (j : Int) = some (cs s d j h) := by
  intro d
  induction d with
  | zero =>
    intro k j h hj hk
    obtain ⟨k, rfl⟩ : ∃ m, k = m + 1 := ⟨k - 1, by omega⟩
    simp only [spec_l1Sum.l0]
    rw [if_neg (by omega)]; rfl
  | succ d ih =>
    intro k j h hj hk
    obtain ⟨k, rfl⟩ : ∃ m, k = m + 1 := ⟨k - 1, by omega⟩
    simp only [spec_l1Sum.l0]
    rw [if_pos (by omega), if_pos (by omega), csum_step (by omega : j < s.size) hs, ih k (j + 1) _ (by omega) (by omega)]; rfl
theorem impl_l (s : ByteArray) (hs : s.size ≤ 140737488351232) : ∀ (d k j : Nat) (h : Int), j + d = s.size → d < k → impl_Checksum.l0 k s h (j : Int) = some (cs s d j h, true) := by
  intro d
  induction d with
  | zero =>
    intro k j h hj hk
    obtain ⟨k, rfl⟩ : ∃ m, k = m + 1 := ⟨k - 1, by omega⟩
    simp only [impl_Checksum.l0]
    rw [if_neg (by omega)]; rfl
  | succ d ih =>
    intro k j h hj hk
    obtain ⟨k, rfl⟩ : ∃ m, k = m + 1 := ⟨k - 1, by omega⟩
    simp only [impl_Checksum.l0]
    rw [if_pos (by omega), if_pos (by omega), csum_step (by omega : j < s.size) hs, ih k (j + 1) _ (by omega) (by omega)]; rfl
theorem bt_in (s : ByteArray) (j : Int) : 0 ≤ bt s j ∧ bt s j ≤ 255 := bt_range s j
theorem cs_in (s : ByteArray) : ∀ (d j : Nat) (h : Int), 0 ≤ h → h ≤ 999978 → 0 ≤ cs s d j h ∧ cs s d j h ≤ 999978
  | 0, _, h, h0, h1 => ⟨h0, h1⟩
  | d + 1, j, h, h0, h1 => by
    obtain ⟨b0, b1⟩ := bt_in s (j : Int)
    have e : wrap64 ((wrap64 ((wrap64 (41 * h)) + (wrap64 (bt s (j : Int))))) + 1) = 41 * h + bt s (j : Int) + 1 := by unfold wrap64; omega
    rw [cs, e]
    have t0 := Int.tmod_nonneg (a := 41 * h + bt s (j : Int) + 1) 999979 (by omega)
    have t1 := Int.tmod_lt_of_pos (a := 41 * h + bt s (j : Int) + 1) (b := 999979) (by omega)
    exact cs_in s d (j + 1) _ t0 (by omega)
/-- The checksum. -/
def ck (s : ByteArray) : Int := cs s s.size 0 7
theorem ck_in (s : ByteArray) : 0 ≤ ck s ∧ ck s ≤ 999978 := cs_in s _ 0 7 (by omega) (by omega)
theorem l1Sum_v (s : ByteArray) (hs : s.size ≤ 140737488351232) : spec_l1Sum.f (s.size + 1) s = some (ck s) := by
  unfold spec_l1Sum.f
  exact spec_l s hs s.size (s.size + 1) 0 7 (by omega) (by omega)
theorem implCk_v (s : ByteArray) (hs : s.size ≤ 140737488351232) : impl_Checksum.f (s.size + 1) s = some (if (s.size : Int) > 4000 then (0, false) else (ck s, true)) := by
  unfold impl_Checksum.f
  by_cases h : (s.size : Int) > 4000
  · rw [if_pos h, if_pos h]
  · rw [if_neg h, if_neg h]
    exact impl_l s hs s.size (s.size + 1) 0 7 (by omega) (by omega)
/-- A text with its checksum. -/
def seal_ (s : ByteArray) : ByteArray := s ++ ⟨#[35]⟩ ++ ⟨(Lib.itoa (ck s)).toArray⟩
/-- Does a '#' stand in it? -/
def stands (s : ByteArray) : Bool := decide (0 ≤ Lib.indexByte s.data.toList 35)
end Go.Proofs.YthofhfmdomppeabDoor.Sum
