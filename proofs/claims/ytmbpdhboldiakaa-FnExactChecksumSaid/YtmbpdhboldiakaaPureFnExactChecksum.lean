/- The plain statement of FnExactChecksum: for every string the law's answer is true. -/
import Derived.Test.YtmbpdhboldiakaaPFnExactChecksumx1
namespace Go.Proofs.Ytmbpdhboldiakaa.Pure
open Go.RowKit Go.Proofs.Ytmbpdhboldiakaa.PFnExactChecksum Go.Proofs.YtmbpdhboldiakaaW.PrintWords Go.Proofs.YtmbpdhboldiakaaW.PrintLast

theorem csum_step {n : Nat} {j : Nat} (h : j < n) (hn : n ≤ 140737488351232) : wrap64 ((j : Int) + 1) = ((j + 1 : Nat) : Int) := by
  unfold wrap64; omega
/-- The sum over d bytes from j on. -/
def cs (s : ByteArray) : Nat → Nat → Int → Int
  | 0, _, h => h
  | d + 1, j, h => cs s d (j + 1) (Int.tmod (wrap64 ((wrap64 ((wrap64 (41 * h)) + (wrap64 (bt s (j : Int))))) + 1)) 999979)
theorem spec_l (s : ByteArray) (hs : s.size ≤ 140737488351232) : ∀ (d k j : Nat) (h : Int), j + d = s.size → d < k → spec_l1Sum.l0 k s h (j : Int) = some (cs s d j h) := by
  intro d
  induction d with
  | zero =>
    intro k j h hj hk
    obtain ⟨k, rfl⟩ : ∃ m, k = m + 1 := ⟨k - 1, by omega⟩
    simp only [spec_l1Sum.l0]
    rw [if_neg (by omega)]; rfl
  | succ d ih =>
    intro k j h hj hk
    obtain ⟨k, rfl⟩ : ∃ m, k = m + 1 := ⟨k - 1, by omega⟩
    simp only [spec_l1Sum.l0]
    rw [if_pos (by omega), if_pos (by omega), csum_step (by omega : j < s.size) hs, ih k (j + 1) _ (by omega) (by omega)]; rfl
theorem impl_l (s : ByteArray) (hs : s.size ≤ 140737488351232) : ∀ (d k j : Nat) (h : Int), j + d = s.size → d < k → impl_Checksum.l0 k s h (j : Int) = some (cs s d j h, true) := by
  intro d
  induction d with
  | zero =>
    intro k j h hj hk
    obtain ⟨k, rfl⟩ : ∃ m, k = m + 1 := ⟨k - 1, by omega⟩
    simp only [impl_Checksum.l0]
    rw [if_neg (by omega)]; rfl
  | succ d ih =>
    intro k j h hj hk
    obtain ⟨k, rfl⟩ : ∃ m, k = m + 1 := ⟨k - 1, by omega⟩
    simp only [impl_Checksum.l0]
    rw [if_pos (by omega), if_pos (by omega), csum_step (by omega : j < s.size) hs, ih k (j + 1) _ (by omega) (by omega)]; rfl
theorem FnExactChecksum : laws_FnExactChecksum.Pure := by
  intro s hs
  refine ⟨s.size + 1, ?_⟩
  unfold laws_FnExactChecksum.f
  by_cases h : (s.size : Int) > 1048576
  · rw [if_pos h]
  rw [if_neg h]
  unfold spec_Checksum.f impl_Checksum.f spec_l1Sum.f
  by_cases h' : (s.size : Int) > 4000
  · rw [if_pos h', if_pos h']; rfl
  · rw [if_neg h', if_neg h']
    have a := spec_l s hs s.size (s.size + 1) 0 7 (by omega) (by omega)
    have b := impl_l s hs s.size (s.size + 1) 0 7 (by omega) (by omega)
    have a' : spec_l1Sum.l0 (s.size + 1) s 7 0 = some (cs s s.size 0 7) := a
    have b' : impl_Checksum.l0 (s.size + 1) s 7 0 = some (cs s s.size 0 7, true) := b
    rw [a', b']
    simp

end Go.Proofs.Ytmbpdhboldiakaa.Pure
