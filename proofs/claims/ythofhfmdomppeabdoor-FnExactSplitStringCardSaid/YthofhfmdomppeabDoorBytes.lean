/- Plain lemmas on texts as lists of bytes. -/
import Derived.Test.YthofhfmdomppeabDoorSum
namespace Go.Proofs.YthofhfmdomppeabDoor.Bytes
open Go.RowKit Go.Proofs.YthofhfmdomppeabDoorW.PrintWords
theorem ext_l {a b : ByteArray} (h : a.data.toList = b.data.toList) : a = b := by
  apply ByteArray.ext
  exact Array.ext' h
theorem size_l (s : ByteArray) : s.data.toList.length = s.size := by simp
theorem extract_l (s : ByteArray) (n : Nat) : (s.extract 0 n).data.toList = s.data.toList.take n := by simp
theorem append_l (a b : ByteArray) : (a ++ b).data.toList = a.data.toList ++ b.data.toList := by simp [ByteArray.data_append]
theorem loop_l (bs : ByteArray) : ∀ (d i : Nat) (r : List UInt8), i + d = bs.size → ByteArray.toList.loop bs i r = r.reverse ++ bs.data.toList.drop i := by
  intro d
  induction d with
  | zero =>
    intro i r hi
    have hl := size_l bs
    rw [ByteArray.toList.loop, if_neg (by omega), List.drop_of_length_le (by omega), List.append_nil]
  | succ d ih =>
    intro i r hi
    have hl := size_l bs
    have hlt : i < bs.data.toList.length := by omega
    rw [ByteArray.toList.loop, if_pos (by omega), ih (i + 1) _ (by omega), List.drop_eq_getElem_cons hlt, List.reverse_cons, List.append_assoc]
    have h' : i < bs.data.size := by simpa using hlt
    have e : bs.get! i = bs.data.toList[i] := by
      show bs.data[i]! = _
      rw [getElem!_pos bs.data i h']
      simp
    rw [e]
    rfl
theorem toList_l (bs : ByteArray) : bs.toList = bs.data.toList := by
  unfold ByteArray.toList
  rw [loop_l bs bs.size 0 [] (by omega)]
  simp
theorem toList_iff {a b : ByteArray} : a.toList = b.toList ↔ a = b := by
  rw [toList_l, toList_l]
  exact ⟨ext_l, fun h => by rw [h]⟩
theorem bang (s : ByteArray) (i : Nat) (h : i < s.data.toList.length) : s.data[i]! = s.data.toList[i] := by
  have h' : i < s.data.size := by simpa using h
  rw [getElem!_pos s.data i h']
  simp
theorem dec_digit : ∀ (d u : Nat), u < 10 ^ d → ∀ b ∈ Lib.decDigits u, 48 ≤ b.toNat ∧ b.toNat ≤ 57
  | 0, u, h, b, hb => by
    obtain rfl : u = 0 := by simpa using h
    rw [Lib.decDigits, dif_pos (by omega)] at hb
    rw [List.mem_singleton.1 hb]; decide
  | d + 1, u, h, b, hb => by
    have key : ∀ v : Fin 10, 48 ≤ (UInt8.ofNat (48 + v.val)).toNat ∧ (UInt8.ofNat (48 + v.val)).toNat ≤ 57 := by decide
    by_cases c : u < 10
    · rw [Lib.decDigits, dif_pos c] at hb
      rw [List.mem_singleton.1 hb]
      exact key ⟨u, c⟩
    · rw [Lib.decDigits, dif_neg c] at hb
      rcases List.mem_append.1 hb with hb | hb
      · exact dec_digit d (u / 10) (by rw [Nat.pow_succ] at h; omega) b hb
      · rw [List.mem_singleton.1 hb]
        exact key ⟨u % 10, Nat.mod_lt _ (by omega)⟩
end Go.Proofs.YthofhfmdomppeabDoor.Bytes
