/- The walk of impl.ParseInt by the contracts on the library's conversion of a text, and that the reference tells the same. -/
import Derived.Test.YthofhfmdomppeabDoorBytes
import Derived.Test.YthofhfmdomppeabDoorBase
import Derived.Lib.AtoiAll
import Derived.Lib.AtoiErrMem
namespace Go.Proofs.YthofhfmdomppeabDoor.Parse
open Go.RowKit Go.Proofs.YthofhfmdomppeabDoor.Q Go.Proofs.YthofhfmdomppeabDoorW.PrintWords Go.Proofs.YthofhfmdomppeabDoorW.PrintLast Go.Proofs.YthofhfmdomppeabDoor.Fmt Go.Proofs.YthofhfmdomppeabDoor.Base Go.Proofs.YthofhfmdomppeabDoor.Bytes
set_option linter.unusedVariables false
/-- The number that digits spell behind others. -/
def val (acc : Nat) : List UInt8 → Option Nat
  | [] => some acc
  | c :: r => if 48 ≤ c.toNat ∧ c.toNat ≤ 57 then val (acc * 10 + (c.toNat - 48)) r else none
theorem val_app (m : List UInt8) : ∀ (l : List UInt8) (a : Nat), val a (l ++ m) = (val a l).bind fun v => val v m
  | [], a => rfl
  | c :: r, a => by
    simp only [List.cons_append, val]
    split
    · exact val_app m r _
    · rfl
theorem val_ge : ∀ (l : List UInt8) (a v : Nat), val a l = some v → a ≤ v
  | [], a, v, h => by simp only [val, Option.some.injEq] at h; omega
  | c :: r, a, v, h => by
    simp only [val] at h
    split at h
    · have := val_ge r _ v h; omega
    · cases h
theorem digit_of : ∀ v : Fin 10, (UInt8.ofNat (48 + v.val)).toNat = 48 + v.val := by decide
theorem val_dec : ∀ (d u : Nat), u < 10 ^ d → val 0 (Lib.decDigits u) = some u
  | 0, u, h => by
    obtain rfl : u = 0 := by simpa using h
    decide +kernel
  | d + 1, u, h => by
    by_cases c : u < 10
    · have e := digit_of ⟨u, c⟩
      simp only at e
      rw [Lib.decDigits, dif_pos c]
      simp only [val, e]
      rw [if_pos (by omega)]
      congr 1; omega
    · have e := digit_of ⟨u % 10, Nat.mod_lt _ (by omega)⟩
      simp only at e
      rw [Lib.decDigits, dif_neg c, val_app, val_dec d (u / 10) (by rw [Nat.pow_succ] at h; omega), Option.bind_some]
      simp only [val, e]
      rw [if_pos (by omega)]
      congr 1; omega
theorem len_dec : ∀ (d u : Nat), u < 10 ^ (d + 1) → 1 ≤ (Lib.decDigits u).length ∧ (Lib.decDigits u).length ≤ d + 1
  | 0, u, h => by rw [Lib.decDigits, dif_pos (by omega)]; simp
  | d + 1, u, h => by
    by_cases c : u < 10
    · rw [Lib.decDigits, dif_pos c]; simp
    · have := len_dec d (u / 10) (by rw [Nat.pow_succ] at h; omega)
      rw [Lib.decDigits, dif_neg c, List.length_append]
      simp only [List.length_cons, List.length_nil]
      omega
theorem parse_of_val : ∀ (l : List UInt8) (a v : Nat), val a l = some v → v ≤ 999999 → Lib.parseUint10 a l = .ok v
  | [], a, v, h, hv => by simp only [val, Option.some.injEq] at h; rw [Lib.parseUint10, h]
  | c :: r, a, v, h, hv => by
    simp only [val] at h
    split at h
    · rename_i hc
      have := val_ge r _ v h
      rw [Lib.parseUint10, if_pos hc, if_neg (by omega), if_neg (by omega)]
      exact parse_of_val r _ v h hv
    · cases h
/-- How the reference ends where digits spell v. -/
def endR (s t : ByteArray) (v : Nat) : Int × Bool :=
  let m : Int := if (t.size : Int) < (s.size : Int) then -(v : Int) else (v : Int)
  if (⟨(Lib.itoa m).toArray⟩ : ByteArray) = s then (m, true) else (0, false)
def bodyR (s t : ByteArray) : Int × Bool := if 1 ≤ t.size ∧ t.size ≤ 6 then (match val 0 t.data.toList with | some v => endR s t v | none => (0, false)) else (0, false)
def rdv (s : ByteArray) : Int × Bool := if 1 < s.size ∧ s.data.toList[0]? = some 45 then bodyR s (s.extract 1 s.size) else bodyR s s
theorem btl (s : ByteArray) (j : Nat) (h : j < s.size) : bt s (j : Int) = ((s.data.toList[j]'(by rw [size_l]; exact h)).toNat : Int) := by
  unfold bt
  rw [dif_pos (by simpa using h)]
  simp
  rfl
theorem read_l (s t : ByteArray) (ht : t.size ≤ 6) : ∀ (d j acc : Nat), j + d = t.size → acc < 10 ^ j → Ev (fun k => spec_l1Read.l0 k s t (acc : Int) (j : Int)) (match val acc (t.data.toList.drop j) with | some v => endR s t v | none => (0, false)) := by
  have hl := size_l t
  intro d
  induction d with
  | zero =>
    intro j acc hj ha
    have h6 : 10 ^ j ≤ 10 ^ 6 := Nat.pow_le_pow_right (by omega) (by omega)
    have hacc : acc ≤ 999999 := by omega
    rw [List.drop_of_length_le (by omega)]
    simp only [val]
    unfold endR
    refine Ev.succ ?_
    simp only [spec_l1Read.l0]
    refine Ev.neg (by omega) (Ev.cases (fun c => ?_) (fun c => ?_))
    · rw [w64 (n := -(acc : Int)) (by omega)]
      simp only [if_pos c]
      refine Ev.bind (Ev.of (fun k => spec_l1Num.mono _ k) (num_v (-(acc : Int)) (by omega) (by omega))) (Ev.cases (fun c2 => ?_) (fun c2 => ?_))
      · rw [if_pos (toList_iff.1 c2)]; exact Ev.now _
      · rw [if_neg (fun h => c2 (toList_iff.2 h))]; exact Ev.now _
    · simp only [if_neg c]
      refine Ev.bind (Ev.of (fun k => spec_l1Num.mono _ k) (num_v (acc : Int) (by omega) (by omega))) (Ev.cases (fun c2 => ?_) (fun c2 => ?_))
      · rw [if_pos (toList_iff.1 c2)]; exact Ev.now _
      · rw [if_neg (fun h => c2 (toList_iff.2 h))]; exact Ev.now _
  | succ d ih =>
    intro j acc hj ha
    have hlt : j < t.size := by omega
    have hlt' : j < t.data.toList.length := by omega
    have h6 : 10 ^ (j + 1) ≤ 10 ^ 6 := Nat.pow_le_pow_right (by omega) (by omega)
    rw [Nat.pow_succ] at h6
    have h255 := UInt8.toNat_lt t.data.toList[j]
    rw [drop_cons hlt', val]
    refine Ev.succ ?_
    simp only [spec_l1Read.l0, btl t j hlt, w64s hlt (by omega)]
    refine Ev.pos (by omega) (Ev.pos (by omega) (Ev.cases (fun c => ?_) (fun c => Ev.cases (fun c2 => ?_) (fun c2 => ?_))))
    · rw [if_neg (by omega)]; exact Ev.now _
    · rw [if_neg (by omega)]; exact Ev.now _
    · rw [if_pos (by omega)]
      have e : wrap64 ((wrap64 (10 * (acc : Int))) + ((((t.data.toList[j]).toNat : Int) - 48) % 256)) = ((acc * 10 + ((t.data.toList[j]).toNat - 48) : Nat) : Int) := by
        generalize hx : (t.data.toList[j]).toNat = x at *
        have e1 : (((x : Nat) : Int) - 48) % 256 = ((x - 48 : Nat) : Int) := by
          clear ih hj ha hl h6
          omega
        rw [e1, w64 (n := 10 * (acc : Int)) (by omega), w64 (by omega)]
        omega
      rw [e]
      exact ih (j + 1) _ (by omega) (by rw [Nat.pow_succ]; omega)
theorem j1_v (s t : ByteArray) : Ev (fun k => spec_l1Read.j1 k s t) (bodyR s t) := by
  refine Ev.succ ?_
  simp only [spec_l1Read.j1]
  have hin : spec_l1In.f (t.size : Int) 1 6 = some (decide (1 ≤ t.size ∧ t.size ≤ 6)) := by
    unfold spec_l1In.f
    by_cases c : (t.size : Int) ≥ 1
    · rw [if_pos c]; congr 1; exact decide_eq_decide.2 (by omega)
    · rw [if_neg c]; congr 1; exact (decide_eq_false (by omega)).symm
  refine Ev.bound hin ?_
  unfold bodyR
  by_cases c : 1 ≤ t.size ∧ t.size ≤ 6
  · rw [if_pos c]
    exact Ev.pos (decide_eq_true c) (read_l s t c.2 t.size 0 0 (by omega) (by simp))
  · rw [if_neg c]
    exact Ev.neg (by simpa using c) (Ev.now _)
theorem read_v (s : ByteArray) (hs : s.size ≤ 140737488351232) : Ev (fun k => spec_l1Read.f k s) (rdv s) := by
  unfold spec_l1Read.f rdv
  have hl := size_l s
  refine Ev.cases (fun c => Ev.pos (by omega) ?_) (fun c => Ev.succ ?_)
  · have h0 : 0 < s.size := by omega
    have hb := btl s 0 h0
    refine Ev.succ ?_
    simp only [spec_l1Read.j0]
    have e0 : s.data.toList[0]? = some (s.data.toList[0]'(by omega)) := List.getElem?_eq_getElem (by omega)
    refine Ev.cases (fun c2 => Ev.pos (by omega) ?_) (fun c2 => ?_)
    · have e : s.data.toList[0]'(by omega) = (45 : UInt8) := by
        apply UInt8.toNat_inj.1
        have := eq_of_beq c2
        have e45 : (45 : UInt8).toNat = 45 := rfl
        have hb0 : bt s 0 = ((s.data.toList[0]'(by omega)).toNat : Int) := hb
        rw [hb0] at this
        omega
      rw [if_pos ⟨by omega, by rw [e0, e]⟩]
      exact j1_v s _
    · rw [if_neg (by
        rintro ⟨_, h⟩
        rw [e0] at h
        have h := Option.some.inj h
        refine c2 (beq_iff_eq.2 ?_)
        have e45 : (45 : UInt8).toNat = 45 := rfl
        have : bt s 0 = ((s.data.toList[0]'(by omega)).toNat : Int) := hb
        rw [this, h]; rfl)]
      exact j1_v s s
  · rw [if_neg (by omega)]
    simp only [spec_l1Read.j0]
    exact Ev.neg (by simp) (j1_v s s)
/-- What the program tells. -/
def pv (s : ByteArray) : Int × Bool := match Lib.atoiAll s.data.toList with
  | .ok v => if fmtB v = true ∧ fmtS v = s then (v, true) else (0, false)
  | _ => (0, false)
theorem fmt_of {n : Int} (h0 : -999999 ≤ n) (h1 : n ≤ 999999) : fmtB n = true ∧ fmtS n = ⟨(Lib.itoa n).toArray⟩ := ⟨decide_eq_true ⟨h0, h1⟩, if_pos ⟨h0, h1⟩⟩
theorem extract1_l (s : ByteArray) : (s.extract 1 s.size).data.toList = s.data.toList.drop 1 := by
  have hl := size_l s
  simp
  exact List.take_of_length_le (by simp)
theorem head_digit {u : Nat} (h : u ≤ 999999) : ∃ c r, Lib.decDigits u = c :: r ∧ 48 ≤ c.toNat ∧ c.toNat ≤ 57 := by
  have hlen := len_dec 5 u (by omega)
  cases hd : Lib.decDigits u with
  | nil => rw [hd] at hlen; simp at hlen
  | cons c r =>
    have := dec_digit 6 u (by omega) c (by rw [hd]; simp)
    exact ⟨c, r, rfl, this.1, this.2⟩
theorem endR_neg (s t : ByteArray) (u : Nat) (h : t.size < s.size) (e : (⟨(Lib.itoa (-(u : Int))).toArray⟩ : ByteArray) = s) : endR s t u = (-(u : Int), true) := by
  unfold endR
  simp only
  rw [if_pos (show (t.size : Int) < (s.size : Int) by omega), if_pos e]
theorem endR_pos (s : ByteArray) (u : Nat) (e : (⟨(Lib.itoa (u : Int)).toArray⟩ : ByteArray) = s) : endR s s u = ((u : Int), true) := by
  unfold endR
  simp only
  rw [if_neg (show ¬ (s.size : Int) < (s.size : Int) by omega), if_pos e]
theorem bodyR_of (s t : ByteArray) (u : Nat) (h0 : 1 ≤ t.size) (h1 : t.size ≤ 6) (hv : val 0 t.data.toList = some u) : bodyR s t = endR s t u := by
  unfold bodyR
  rw [if_pos ⟨h0, h1⟩, hv]
theorem both_yes (n : Int) (h0 : -999999 ≤ n) (h1 : n ≤ 999999) (S : ByteArray) (hS : (⟨(Lib.itoa n).toArray⟩ : ByteArray) = S) : rdv S = (n, true) ∧ pv S = (n, true) := by
  obtain ⟨f1, f2⟩ := fmt_of h0 h1
  have e45 : (45 : UInt8).toNat = 45 := rfl
  have hSl : S.data.toList = Lib.itoa n := by rw [← hS]
  have hSs := size_l S
  by_cases c : n < 0
  · obtain ⟨u, rfl⟩ : ∃ u : Nat, n = -(u : Int) := ⟨n.natAbs, by omega⟩
    have hu1 : 1 ≤ u := by omega
    have hu9 : u ≤ 999999 := by omega
    have hlen := len_dec 5 u (by omega)
    have hv := val_dec 6 u (by omega)
    rw [Lib.itoa_neg u hu1] at hSl
    have hT := extract1_l S
    have hTs := size_l (S.extract 1 S.size)
    rw [hSl] at hT hSs
    rw [hT] at hTs
    simp only [List.drop_succ_cons, List.drop_zero] at hT hTs
    simp only [List.length_cons] at hSs
    constructor
    · unfold rdv
      rw [if_pos ⟨by omega, by rw [hSl]; rfl⟩, bodyR_of S _ u (by omega) (by omega) (by rw [hT]; exact hv)]
      exact endR_neg S _ u (by omega) hS
    · unfold pv
      have ha : Lib.atoiAll S.data.toList = .ok (-(u : Int)) := by
        rw [hSl]
        unfold Lib.atoiAll
        simp only
        rw [if_pos (Or.inr e45)]
        unfold Lib.parseMag
        rw [if_neg (by intro e; rw [e] at hlen; simp at hlen), parse_of_val _ 0 u hv hu9]
        simp only
        rw [if_neg (by omega), if_neg (by omega), if_pos e45]
      rw [ha]
      simp only
      rw [if_pos ⟨f1, f2.trans hS⟩]
  · obtain ⟨u, rfl⟩ : ∃ u : Nat, n = (u : Int) := ⟨n.toNat, by omega⟩
    have hu9 : u ≤ 999999 := by omega
    have hlen := len_dec 5 u (by omega)
    have hv := val_dec 6 u (by omega)
    rw [Lib.itoa_nonneg u] at hSl
    rw [hSl] at hSs
    obtain ⟨c0, r0, hd, d0, d1⟩ := head_digit hu9
    constructor
    · unfold rdv
      rw [if_neg (by
        rintro ⟨_, h⟩
        rw [hSl, hd] at h
        have h : c0 = 45 := by simpa using h
        rw [h] at d0
        omega), bodyR_of S S u (by omega) (by omega) (by rw [hSl]; exact hv)]
      exact endR_pos S u hS
    · unfold pv
      have ha : Lib.atoiAll S.data.toList = .ok (u : Int) := by
        rw [hSl, hd]
        unfold Lib.atoiAll
        simp only
        rw [if_neg (by omega), ← hd]
        unfold Lib.parseMag
        rw [if_neg (by intro e; rw [e] at hlen; simp at hlen), parse_of_val _ 0 u hv hu9]
        simp only
        rw [if_neg (by omega), if_neg (by omega), if_neg (by omega)]
      rw [ha]
      simp only
      rw [if_pos ⟨f1, f2.trans hS⟩]
theorem both_no (s : ByteArray) (h : ∀ n : Int, -999999 ≤ n → n ≤ 999999 → (⟨(Lib.itoa n).toArray⟩ : ByteArray) ≠ s) : rdv s = (0, false) ∧ pv s = (0, false) := by
  have hE : ∀ t v, t.size ≤ 6 → val 0 t.data.toList = some v → endR s t v = (0, false) := by
    intro t v ht hv
    have hb : v ≤ 999999 := by
      have key : ∀ (l : List UInt8) (a j : Nat), a < 10 ^ j → ∀ v, val a l = some v → v < 10 ^ (j + l.length) := by
        intro l
        induction l with
        | nil => intro a j ha v hv; simp only [val, Option.some.injEq] at hv; simpa [← hv] using ha
        | cons c r ih =>
          intro a j ha v hv
          simp only [val] at hv
          split at hv
          · have := ih (a * 10 + (c.toNat - 48)) (j + 1) (by rw [Nat.pow_succ]; omega) v hv
            rw [List.length_cons, show j + (r.length + 1) = j + 1 + r.length by omega]
            exact this
          · cases hv
      have h1 := key t.data.toList 0 0 (by simp) v hv
      have h6 : 10 ^ (0 + t.data.toList.length) ≤ 10 ^ 6 := Nat.pow_le_pow_right (by omega) (by rw [size_l]; omega)
      omega
    unfold endR
    simp only
    rw [if_neg]
    split
    · exact h _ (by omega) (by omega)
    · exact h _ (by omega) (by omega)
  have hB : ∀ t, bodyR s t = (0, false) := by
    intro t
    unfold bodyR
    split
    · rename_i c
      split
      · rename_i v hv
        exact hE t v c.2 hv
      · rfl
    · rfl
  constructor
  · unfold rdv
    rw [hB, hB]
    split <;> rfl
  · unfold pv
    split
    · rename_i v hv
      rw [if_neg]
      rintro ⟨h1, h2⟩
      have h1 := of_decide_eq_true h1
      rw [(fmt_of h1.1 h1.2).2] at h2
      exact h v h1.1 h1.2 h2
    · rfl
theorem same (s : ByteArray) : rdv s = pv s := by
  by_cases c : ∃ n : Int, (-999999 ≤ n ∧ n ≤ 999999) ∧ (⟨(Lib.itoa n).toArray⟩ : ByteArray) = s
  · obtain ⟨n, ⟨h0, h1⟩, rfl⟩ := c
    have := both_yes n h0 h1 _ rfl
    rw [this.1, this.2]
  · have := both_no s (fun n h0 h1 e => c ⟨n, ⟨h0, h1⟩, e⟩)
    rw [this.1, this.2]
theorem specParse_v (s : ByteArray) (hs : s.size ≤ 140737488351232) : Ev (fun k => spec_ParseInt.f k s) (pv s) := by
  unfold spec_ParseInt.f
  rw [← same]
  exact Ev.bind (read_v s hs) (Ev.now _)
/-- The two errors' variables. -/
abbrev Errs (w : World) : Prop := (∃ tp p, w.var? Tryd.prog "strconv.ErrSyntax" = some #[.iface tp p]) ∧ ∃ tp p, w.var? Tryd.prog "strconv.ErrRange" = some #[.iface tp p]
theorem gS : Tryd.prog.globalNamed "strconv.ErrSyntax" = some 1 := by kernel_rfl
theorem gR : Tryd.prog.globalNamed "strconv.ErrRange" = some 2 := by kernel_rfl
theorem errs_below {w w' : World} (h : Errs w) (hb : Below w.heap.size w w') : Errs w' := by
  obtain ⟨⟨a, b, h1⟩, c, d, h2⟩ := h
  have l1 : 1 < w.heap.size := World.block_lt_of_cell? w _ (by have := World.var?_cell gS h1 0; simpa using this)
  have l2 : 2 < w.heap.size := World.block_lt_of_cell? w _ (by have := World.var?_cell gR h2 0; simpa using this)
  exact ⟨⟨a, b, var?_below hb gS l1 h1⟩, c, d, var?_below hb gR l2 h2⟩
theorem u45 : ∃ ms, Tryd.prog.underlying 45 = some (.interface ms) := ⟨_, Tryd.underlying45⟩
set_option maxHeartbeats 4000000 in
theorem implParse (s : ByteArray) (hs : s.size ≤ 140737488351232) (w : World) (htab : Tab w) (he : Errs w) :
    Calls Tryd.prog 12 #[.string s] w fun e w' => e = .returned (.tuple #[.int .i64 (pv s).1, .bool (pv s).2]) ∧ Below w.heap.size w w' := by
  obtain ⟨⟨tp, p, hvS⟩, tq, q, hvR⟩ := he
  have hu45 := Tryd.underlying45
  rcases ha : Lib.atoiAll s.data.toList with v | _ | _
  rotate_left
  · have e : pv s = (0, false) := by unfold pv; rw [ha]
    rw [e]
    go_enter Tryd.func12, Tryd.ntmps12
    go_wp2_with (first
      | (go_at_call 34; refine (Tryd.strconv_Atoi_syntax_var s (by omega) ha tp p _ hvS).mono ?_; rintro e w1 ⟨N1, rfl, hN1, hc1, hb1⟩))
    go_ret2
    exact ⟨rfl, hb1⟩
  · have e : pv s = (0, false) := by unfold pv; rw [ha]
    rw [e]
    go_enter Tryd.func12, Tryd.ntmps12
    go_wp2_with (first
      | (go_at_call 34; refine (Tryd.strconv_Atoi_range_var s (by omega) ha tq q _ hvR).mono ?_; rintro e w1 ⟨N1, rfl, hN1, hc1, hb1⟩))
    go_ret2
    exact ⟨rfl, hb1⟩
  · have hv : -9223372036854775808 ≤ v ∧ v ≤ 9223372036854775807 := by
      unfold Lib.atoiAll at ha
      cases hL : s.data.toList with
      | nil => rw [hL] at ha; cases ha
      | cons c r =>
        rw [hL] at ha
        simp only at ha
        split at ha
        · cases ha
        · cases ha
        · split at ha
          · cases ha
          · split at ha
            · cases ha
            · injection ha with ha
              split at ha <;> omega
    have hP := fun w1 (hb1 : Below w.heap.size w w1) => implFormatInt v hv.1 hv.2 w1 (tab_below htab hb1)
    have hA : Calls Tryd.prog 34 #[.string s] w fun e w' => e = .returned (.tuple #[.int .i64 v, .nilIface]) ∧ Below w.heap.size w w' := (Tryd.strconv_Atoi_ok s (by omega) v ha w).mono fun e w' ⟨h1, h2⟩ => ⟨h1, by
      rcases h2 with rfl | ⟨t, rfl⟩
      · exact Below.refl _ _
      · exact Lib.bytesWorld_below _ _ _⟩
    cases hB : fmtB v with
    | false =>
      have e : pv s = (0, false) := by unfold pv; rw [ha]; simp only; rw [if_neg (by rw [hB]; simp)]
      rw [e]
      rw [hB] at hP
      go_enter Tryd.func12, Tryd.ntmps12
      go_wp2_with (first
        | (go_at_call 34; refine hA.mono ?_; rintro e w1 ⟨rfl, hb1⟩)
        | (go_at_call 10; refine (hP _ hb1).mono ?_; rintro e w2 ⟨rfl, hb2⟩))
      go_ret2
      exact ⟨rfl, below_step hb1 hb2⟩
    | true =>
      rw [hB] at hP
      by_cases b : fmtS v = s
      · have b0 : ((fmtS v).toList != s.toList) = false := by rw [b]; simp
        have e : pv s = (v, true) := by unfold pv; rw [ha]; simp only; rw [if_pos ⟨hB, b⟩]
        rw [e]
        rw [b] at hP
        go_enter Tryd.func12, Tryd.ntmps12
        go_wp2_with (first
          | (go_at_call 34; refine hA.mono ?_; rintro e w1 ⟨rfl, hb1⟩)
          | (go_at_call 10; refine (hP _ hb1).mono ?_; rintro e w2 ⟨rfl, hb2⟩))
        go_ret2
        exact ⟨rfl, below_step hb1 hb2⟩
      · have b0 : ((fmtS v).toList != s.toList) = true := bne_iff_ne.2 (fun h => b (toList_iff.1 h))
        have b1 : ((fmtS v).toList == s.toList) = false := beq_eq_false_iff_ne.2 (fun h => b (toList_iff.1 h))
        have b2 : (fmtS v = s) = False := eq_false b
        have e : pv s = (0, false) := by unfold pv; rw [ha]; simp only; rw [if_neg (fun h => b h.2)]
        rw [e]
        go_enter Tryd.func12, Tryd.ntmps12
        go_wp2_with (first
          | (go_at_call 34; refine hA.mono ?_; rintro e w1 ⟨rfl, hb1⟩)
          | (go_at_call 10; refine (hP _ hb1).mono ?_; rintro e w2 ⟨rfl, hb2⟩))
        go_ret2
        exact ⟨rfl, below_step hb1 hb2⟩
theorem lawParse (s : ByteArray) (hs : s.size ≤ 140737488351232) (w : World) (htab : Tab w) (he : Errs w) :
    Calls Tryd.prog 4 #[.string s] w fun e w' => e = .returned (.bool true) ∧ Below w.heap.size w w' := by
  obtain ⟨k, hk⟩ := (specParse_v s hs).rounds
  have hk' : spec_ParseInt.f k s = some ((pv s).1, (pv s).2) := hk
  by_cases a : 1048576 < (s.size : Int)
  · have a0 : decide (1048576 < (s.size : Int)) = true := decide_eq_true a
    have a1 : decide (1048576 < s.size) = true := decide_eq_true (by omega)
    go_enter Tryd.func4, Tryd.ntmps4
    go_wp2
    go_ret
    exact ⟨rfl, Below.refl _ _⟩
  · have a0 : decide (1048576 < (s.size : Int)) = false := decide_eq_false a
    have a1 : decide (1048576 < s.size) = false := decide_eq_false (by omega)
    go_enter Tryd.func4, Tryd.ntmps4
    go_wp2_with (first
      | (go_at_call 11; refine (spec_ParseInt.calls k s _ _ _ hk').mono ?_; rintro e w1 ⟨rfl, hb1⟩)
      | (go_at_call 12; refine (implParse s hs _ (tab_below htab hb1) (errs_below he hb1)).mono ?_; rintro e w2 ⟨rfl, hb2⟩))
    go_ret
    exact ⟨rfl, below_step hb1 hb2⟩
end Go.Proofs.YthofhfmdomppeabDoor.Parse
