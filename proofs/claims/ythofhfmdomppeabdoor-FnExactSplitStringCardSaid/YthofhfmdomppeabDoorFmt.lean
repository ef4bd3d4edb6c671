/- The walks of the integer's text: impl.FormatInt by the contract on the library's conversion, and that the reference's text is the same. -/
import Derived.Test.YthofhfmdomppeabDoorQx2
import Derived.Test.YthofhfmdomppeabDoorShelf
import Derived.Lib.LaidU8
import Derived.Lib.ItoaMem
import Derived.Lib.AppendIntMem
import Derived.WalkSmall
import Derived.WalkKit
namespace Go.Proofs.YthofhfmdomppeabDoor.Fmt
open Go.RowKit Go.Proofs.YthofhfmdomppeabDoor.Q Go.Proofs.YthofhfmdomppeabDoorW.PrintWords Go.Proofs.YthofhfmdomppeabDoorW.PrintLast
set_option linter.unusedVariables false
abbrev Tab (w : World) : Prop := Lib.TabIs Tryd.prog w "internal/strconv.uint64pow10" .u64 Lib.pow10Tab
theorem gT : Tryd.prog.globalNamed "internal/strconv.uint64pow10" = some 3 := by kernel_rfl
theorem tab_below {w w' : World} (h : Tab w) (hb : Below w.heap.size w w') : Tab w' := by
  have hlt : 3 < w.heap.size := World.block_lt_of_cell? w _ (Lib.TabIs.cell h gT 0 (by decide))
  exact var?_below hb gT hlt h
def fmtB (n : Int) : Bool := decide (-999999 ≤ n ∧ n ≤ 999999)
def fmtS (n : Int) : ByteArray := if -999999 ≤ n ∧ n ≤ 999999 then ⟨(Lib.itoa n).toArray⟩ else ⟨#[]⟩
theorem implFormatInt (n : Int) (h0 : -9223372036854775808 ≤ n) (h1 : n ≤ 9223372036854775807) (w : World) (htab : Tab w) :
    Calls Tryd.prog 10 #[.int .i64 n] w fun e w' => e = .returned (.tuple #[.string (fmtS n), .bool (fmtB n)]) ∧ Below w.heap.size w w' := by
  by_cases a : n < -999999
  · have a0 : decide (n < -999999) = true := decide_eq_true a
    rw [show fmtS n = ⟨#[]⟩ from if_neg (by omega), show fmtB n = false from decide_eq_false (by omega)]
    go_enter Tryd.func10, Tryd.ntmps10
    go_wp2
    go_ret2
    exact ⟨rfl, Below.refl _ _⟩
  · have a0 : decide (n < -999999) = false := decide_eq_false a
    by_cases b : 999999 < n
    · have b0 : decide (999999 < n) = true := decide_eq_true b
      rw [show fmtS n = ⟨#[]⟩ from if_neg (by omega), show fmtB n = false from decide_eq_false (by omega)]
      go_enter Tryd.func10, Tryd.ntmps10
      go_wp2
      go_ret2
      exact ⟨rfl, Below.refl _ _⟩
    · have b0 : decide (999999 < n) = false := decide_eq_false b
      rw [show fmtS n = ⟨(Lib.itoa n).toArray⟩ from if_pos (by omega), show fmtB n = true from decide_eq_true (by omega)]
      go_enter Tryd.func10, Tryd.ntmps10
      go_wp2_with (go_at_call 32; refine (Tryd.strconv_Itoa n h0 h1 _ htab).mono ?_; rintro e w' ⟨rfl, k, os, rfl⟩)
      go_ret2
      exact ⟨rfl, Lib.below_grow _ _ (Nat.le_refl _) _ _⟩
/-! The reference's text. -/
theorem digs (u : Nat) (h : u < 10) : ((⟨#[48, 49, 50, 51, 52, 53, 54, 55, 56, 57]⟩ : ByteArray).extract u (u + 1)) = ⟨#[UInt8.ofNat (48 + u)]⟩ := by
  have : ∀ u : Fin 10, ((⟨#[48, 49, 50, 51, 52, 53, 54, 55, 56, 57]⟩ : ByteArray).extract u.val (u.val + 1)) = ⟨#[UInt8.ofNat (48 + u.val)]⟩ := by decide +kernel
  exact this ⟨u, h⟩
theorem cat (a b : List UInt8) : (⟨a.toArray⟩ : ByteArray) ++ ⟨b.toArray⟩ = ⟨(a ++ b).toArray⟩ := by
  apply ByteArray.ext
  simp [ByteArray.data_append]
theorem num_nat : ∀ (d u : Nat), u < 10 ^ d → u ≤ 999999 → d ≤ 20 → spec_l1Num.f (d + 1) (u : Int) = some ⟨(Lib.decDigits u).toArray⟩ ∧ (Lib.decDigits u).length ≤ d + 1
  | 0, u, h, _, _ => by
    obtain rfl : u = 0 := by simpa using h
    exact ⟨by decide +kernel, by rw [Lib.decDigits]; simp⟩
  | d + 1, u, h, hu, hd => by
    by_cases c : u < 10
    · have e : Lib.decDigits u = [UInt8.ofNat (48 + u)] := by rw [Lib.decDigits, dif_pos c]
      rw [e]
      refine ⟨?_, by simp⟩
      simp only [spec_l1Num.f]
      rw [if_neg (by omega), if_pos (by omega), if_pos (by omega), show wrap64 ((u : Int) + 1) = ((u + 1 : Nat) : Int) by unfold wrap64; omega, if_pos (by omega), if_pos (by omega), Int.toNat_natCast, Int.toNat_natCast, digs u c]
    · obtain ⟨ih, ihl⟩ := num_nat d (u / 10) (by rw [Nat.pow_succ] at h; omega) (by omega) (by omega)
      have e : Lib.decDigits u = Lib.decDigits (u / 10) ++ [UInt8.ofNat (48 + u % 10)] := by rw [Lib.decDigits, dif_neg c]
      rw [e]
      refine ⟨?_, by simp; omega⟩
      have e1 : wrap64 (Int.tdiv (u : Int) 10) = ((u / 10 : Nat) : Int) := by rw [Int.tdiv_eq_ediv_of_nonneg (by omega)]; unfold wrap64; omega
      have e2 : Int.tmod (u : Int) 10 = ((u % 10 : Nat) : Int) := by rw [Int.tmod_eq_emod_of_nonneg (by omega)]; omega
      have hm : u % 10 < 10 := Nat.mod_lt _ (by omega)
      have e3 : wrap64 (((u % 10 : Nat) : Int) + 1) = ((u % 10 + 1 : Nat) : Int) := by unfold wrap64; omega
      rw [spec_l1Num.f, if_neg (by omega), if_neg (by omega), e1, ih, Option.bind_some, e2, e3, if_pos (by omega), if_pos (by omega), if_pos (by omega), Int.toNat_natCast, Int.toNat_natCast, digs _ hm, if_pos (by
        show (Lib.decDigits (u / 10)).toArray.size + 1 ≤ _
        simp
        omega)]
      exact congrArg some (cat _ [_])
theorem num_v (n : Int) (h0 : -999999 ≤ n) (h1 : n ≤ 999999) : spec_l1Num.f 9 n = some ⟨(Lib.itoa n).toArray⟩ := by
  unfold Lib.itoa
  by_cases c : n < 0
  · rw [if_pos c]
    obtain ⟨h, hl⟩ := num_nat 7 n.natAbs (by omega) (by omega) (by omega)
    rw [spec_l1Num.f, if_pos c, show wrap64 (-n) = ((n.natAbs : Nat) : Int) by unfold wrap64; omega, h, Option.bind_some, if_pos (by
      show 1 + (Lib.decDigits n.natAbs).toArray.size ≤ _
      simp
      omega)]
    exact congrArg some (cat [45] _)
  · rw [if_neg c]
    have := (num_nat 8 n.toNat (by omega) (by omega) (by omega)).1
    rwa [Int.toNat_of_nonneg (by omega)] at this
theorem specFormatInt_v (n : Int) : spec_FormatInt.f 9 n = some (fmtS n, fmtB n) := by
  unfold spec_FormatInt.f spec_l1In.f
  by_cases a : n ≥ -999999
  · rw [if_pos a, Option.bind_some]
    by_cases b : n ≤ 999999
    · rw [if_pos (decide_eq_true b), num_v n (by omega) b, Option.bind_some, show fmtS n = ⟨(Lib.itoa n).toArray⟩ from if_pos (by omega), show fmtB n = true from decide_eq_true (by omega)]
    · rw [if_neg (by simpa using b), show fmtS n = ⟨#[]⟩ from if_neg (by omega), show fmtB n = false from decide_eq_false (by omega)]
  · rw [if_neg a, Option.bind_some, if_neg (by simp), show fmtS n = ⟨#[]⟩ from if_neg (by omega), show fmtB n = false from decide_eq_false (by omega)]
theorem lawFormatInt (n : Int) (h0 : -9223372036854775808 ≤ n) (h1 : n ≤ 9223372036854775807) (w : World) (htab : Tab w) :
    Calls Tryd.prog 3 #[.int .i64 n] w fun e w' => e = .returned (.bool true) ∧ Below w.heap.size w w' := by
  have hs := specFormatInt_v n
  go_enter Tryd.func3, Tryd.ntmps3
  go_wp2_with (first
    | (go_at_call 9; refine (spec_FormatInt.calls 9 n _ _ _ hs).mono ?_; rintro e w1 ⟨rfl, hb1⟩)
    | (go_at_call 10; refine (implFormatInt n h0 h1 _ (tab_below htab hb1)).mono ?_; rintro e w2 ⟨rfl, hb2⟩))
  go_ret
  exact ⟨rfl, below_step hb1 hb2⟩
end Go.Proofs.YthofhfmdomppeabDoor.Fmt
