/- The plain statement of FnExactJoinStrings: for all texts whose lengths fit, the law's answer is true. -/
import Derived.Test.YthofhfmdomppeaaQx2
import Derived.Test.YthofhfmdomppeaaBase
import Derived.Test.YthofhfmdomppeaaOpens
namespace Go.Proofs.Ythofhfmdomppeaa.LFnExactJoinStrings
open Go.RowKit Go.Proofs.Ythofhfmdomppeaa.Q Go.Proofs.YthofhfmdomppeaaW.PrintWords Go.Proofs.YthofhfmdomppeaaW.PrintLast Go.Proofs.Ythofhfmdomppeaa.Base Go.Proofs.Ythofhfmdomppeaa.Opens
set_option linter.unusedVariables false
set_option linter.unusedSimpArgs false

theorem size_l (s : ByteArray) : s.data.toList.length = s.size := by simp
theorem ext_l {a b : ByteArray} (h : a.data.toList = b.data.toList) : a = b := by
  obtain ⟨⟨a⟩⟩ := a
  obtain ⟨⟨b⟩⟩ := b
  exact congrArg (fun l => (⟨⟨l⟩⟩ : ByteArray)) h
theorem rdS_nat (xs : List ByteArray) (j : Nat) (h : j < xs.length) : rdOf ByteArray.empty xs (j : Int) = xs[j] := by
  unfold rdOf
  rw [Int.toNat_natCast, List.getD_eq_getElem?_getD, List.getElem?_eq_getElem h]
  rfl
theorem btl (s : ByteArray) (j : Nat) (h : j < s.size) : bt s (j : Int) = ((s.data.toList[j]'(by rw [size_l]; exact h)).toNat : Int) := by
  unfold bt
  rw [dif_pos (by simpa using h)]
  simp
  rfl
theorem index_mem (c : UInt8) : ∀ l : List UInt8, 0 ≤ Lib.indexByte l c ↔ c ∈ l
  | [] => by simp [Lib.indexByte]
  | b :: l => by
    have ih := index_mem c l
    unfold Lib.indexByte
    by_cases h : b = c
    · simp [h]
    · rw [if_neg (by simpa using h)]
      have hm : c ∈ b :: l ↔ c ∈ l := by
        rw [List.mem_cons]
        exact ⟨fun h' => h'.resolve_left (fun e => h e.symm), .inr⟩
      rw [hm, ← ih]
      by_cases e : Lib.indexByte l c = -1
      · rw [e]; simp
      · rw [if_neg (by simpa using e)]
        have : -1 ≤ Lib.indexByte l c := by
          clear ih hm e h
          induction l with
          | nil => simp [Lib.indexByte]
          | cons b l ih2 =>
            unfold Lib.indexByte
            split
            · omega
            · split <;> omega
        omega
theorem stands_l (s : ByteArray) (x : UInt8) (hs : s.size ≤ 1048576) : ∀ (d j : Nat), j + d = s.size → Ev (fun k => spec_l1Stands.l0 k s (x.toNat : Int) (j : Int)) (decide (x ∈ s.data.toList.drop j)) := by
  have hl : s.data.toList.length = s.size := by simp
  intro d
  induction d with
  | zero =>
    intro j hj
    refine Ev.succ ?_
    simp only [spec_l1Stands.l0]
    refine Ev.neg (by omega) (Ev.const ?_)
    rw [List.drop_of_length_le (by omega)]; simp
  | succ d ih =>
    intro j hj
    have hlt : j < s.size := by omega
    have hlt' : j < s.data.toList.length := by omega
    refine Ev.succ ?_
    simp only [spec_l1Stands.l0, btl s j hlt, w64s hlt (by omega : s.size ≤ 9223372036854775807)]
    rw [drop_cons hlt']
    refine Ev.pos (by omega) (Ev.pos (by omega) (Ev.cases (fun c => Ev.const ?_) (fun c => ?_)))
    · have e : s.data.toList[j] = x := UInt8.toNat_inj.1 (by omega)
      rw [decide_eq_true (List.mem_cons.2 (.inl e.symm))]
    · refine Ev.eq (ih (j + 1) (by omega)) ?_
      have e : ¬ x = s.data.toList[j] := fun e => c (by rw [← e])
      exact decide_eq_decide.2 ⟨fun h => List.mem_cons.2 (.inr h), fun h => (List.mem_cons.1 h).resolve_left e⟩
theorem stands_v (s : ByteArray) (x : UInt8) (hs : s.size ≤ 1048576) : Ev (fun k => spec_l1Stands.f k s (x.toNat : Int)) (decide (x ∈ s.data.toList)) := by
  unfold spec_l1Stands.f
  exact stands_l s x hs s.size 0 (by omega)
theorem one_byte (sep : ByteArray) (h : sep.size = 1) : ∃ c : UInt8, sep = ⟨#[c]⟩ := Lib.one_byte sep h
def sum0 : List ByteArray → Nat
  | [] => 0
  | p :: r => p.size + sum0 r
theorem mem_sum {p : ByteArray} : ∀ {l : List ByteArray}, p ∈ l → p.size ≤ sum0 l
  | _ :: r, .head _ => by simp only [sum0]; omega
  | q :: r, .tail _ h => by have := mem_sum h; simp only [sum0]; omega
theorem sz_l (l : List ByteArray) (hl : l.length ≤ 1048576) (hs : ∀ x ∈ l, x.size ≤ 9223372036854775807) : ∀ (d j left : Nat), j + d = l.length → left ≤ 1048576 →
    ∃ r : Int, Ev (fun k => laws_szStringS.l0 k l (left : Int) (j : Int)) r ∧ (r < 0 ∨ sum0 (l.drop j) ≤ left) := by
  intro d
  induction d with
  | zero =>
    intro j left hj hL
    refine ⟨left, Ev.succ ?_, .inr ?_⟩
    · simp only [laws_szStringS.l0]
      exact Ev.neg (by omega) (Ev.now _)
    · rw [List.drop_of_length_le (by omega)]; exact Nat.zero_le _
  | succ d ih =>
    intro j left hj hL
    have hlt : j < l.length := by omega
    have hx := hs _ (List.getElem_mem hlt)
    have ew : wrap64 ((left : Int) - ((rdOf ByteArray.empty l (j : Int)).size : Int)) = (left : Int) - ((l[j]).size : Int) := by
      rw [rdS_nat l j hlt]
      exact w64 (by omega)
    by_cases c : (left : Int) - ((l[j]).size : Int) < 0
    · refine ⟨-1, Ev.succ ?_, .inl (by omega)⟩
      simp only [laws_szStringS.l0, ew]
      exact Ev.pos (by omega) (Ev.pos (by omega) (Ev.pos c (Ev.now _)))
    · obtain ⟨r, h1, h2⟩ := ih (j + 1) (left - (l[j]).size) (by omega) (by omega)
      refine ⟨r, Ev.succ ?_, ?_⟩
      · simp only [laws_szStringS.l0, ew, w64s hlt (by omega : l.length ≤ 9223372036854775807)]
        refine Ev.pos (by omega) (Ev.pos (by omega) (Ev.neg c ?_))
        rw [show (left : Int) - ((l[j]).size : Int) = ((left - (l[j]).size : Nat) : Int) by omega]
        exact h1
      · rw [drop_cons hlt]
        simp only [sum0]
        rcases h2 with h2 | h2
        · exact .inl h2
        · exact .inr (by omega)
theorem sz_v (l : List ByteArray) (hl : l.length ≤ 9223372036854775807) (hs : ∀ x ∈ l, x.size ≤ 9223372036854775807) :
    ∃ r : Int, Ev (fun k => laws_szStringS.f k l 1048576) r ∧ (r < 0 ∨ sum0 l + l.length ≤ 1048576) := by
  unfold laws_szStringS.f
  have ew : wrap64 (1048576 - (l.length : Int)) = 1048576 - (l.length : Int) := w64 (by omega)
  rw [ew]
  by_cases c : 1048576 - (l.length : Int) < 0
  · exact ⟨-1, Ev.pos c (Ev.now _), .inl (by omega)⟩
  · obtain ⟨r, h1, h2⟩ := sz_l l (by omega) hs l.length 0 (1048576 - l.length) (by omega) (by omega)
    refine ⟨r, Ev.neg c ?_, ?_⟩
    · rw [show 1048576 - (l.length : Int) = ((1048576 - l.length : Nat) : Int) by omega]
      exact h1
    · rcases h2 with h2 | h2
      · exact .inl h2
      · rw [List.drop_zero] at h2; exact .inr (by omega)
theorem to_l (l : List ByteArray) (hl : l.length ≤ 1048576) : ∀ (d j : Nat), j + d = l.length → Ev (fun k => laws_toStringS.l0 k l (l.take j ++ List.replicate d ⟨#[]⟩) (j : Int)) l := by
  intro d
  induction d with
  | zero =>
    intro j hj
    refine Ev.succ ?_
    simp only [laws_toStringS.l0]
    refine Ev.neg (by omega) (Ev.const ?_)
    rw [List.replicate_zero, List.append_nil, List.take_of_length_le (by omega)]
  | succ d ih =>
    intro j hj
    have hlt : j < l.length := by omega
    refine Ev.succ ?_
    simp only [laws_toStringS.l0, rdS_nat l j hlt, w64s hlt (by omega : l.length ≤ 9223372036854775807), Int.toNat_natCast]
    refine Ev.pos (by omega) (Ev.pos (by omega) (Ev.pos (by simp; omega) ?_))
    rw [List.replicate_succ, set_mid _ _ _ _ j (by rw [List.length_take]; omega)]
    have e : l.take j ++ l[j] :: List.replicate d (⟨#[]⟩ : ByteArray) = l.take (j + 1) ++ List.replicate d ⟨#[]⟩ := by rw [take_snoc hlt, List.append_assoc, List.singleton_append]
    rw [e]
    exact ih (j + 1) (by omega)
theorem to_v (l : List ByteArray) (hl : l.length ≤ 1048576) : Ev (fun k => laws_toStringS.f k l) l := by
  unfold laws_toStringS.f
  refine Ev.pos (by omega) (Ev.pos (by omega) ?_)
  have := to_l l hl l.length 0 (by omega)
  rw [List.take_zero, List.nil_append] at this
  exact this
theorem eq_l (L : List ByteArray) (hL : L.length ≤ 1048576) : ∀ (d j : Nat), j + d = L.length → Ev (fun k => laws_eqStringS.l0 k L L (j : Int)) true := by
  intro d
  induction d with
  | zero =>
    intro j hj
    refine Ev.succ ?_
    simp only [laws_eqStringS.l0]
    exact Ev.neg (by omega) (Ev.now _)
  | succ d ih =>
    intro j hj
    refine Ev.succ ?_
    simp only [laws_eqStringS.l0, w64s (show j < L.length by omega) (by omega)]
    exact Ev.pos (by omega) (Ev.pos (by omega) (Ev.pos (by omega) (Ev.pos trivial (ih (j + 1) (by omega)))))
theorem eq_v (L : List ByteArray) (hL : L.length ≤ 1048576) : Ev (fun k => laws_eqStringS.f k L L) true := by
  unfold laws_eqStringS.f
  exact Ev.pos rfl (eq_l L hL L.length 0 (by omega))
def Free (c : UInt8) (l : List ByteArray) : Prop := ∀ p ∈ l, c ∉ p.data.toList
instance (c : UInt8) (l : List ByteArray) : Decidable (Free c l) := inferInstanceAs (Decidable (∀ p ∈ l, c ∉ p.data.toList))
theorem free_nil (c : UInt8) : Free c [] := fun p hp => nomatch hp
theorem free_cons {c : UInt8} {p : ByteArray} {l : List ByteArray} : Free c (p :: l) ↔ c ∉ p.data.toList ∧ Free c l := by unfold Free; simp
/-- The texts behind o, each behind the one byte. -/
def glue (c : UInt8) (o : ByteArray) : List ByteArray → ByteArray
  | [] => o
  | p :: r => glue c ((o ++ ⟨#[c]⟩) ++ p) r
theorem app_l (a b : ByteArray) : (a ++ b).data.toList = a.data.toList ++ b.data.toList := by simp [ByteArray.data_append]
theorem glue_l (c : UInt8) : ∀ (l : List ByteArray) (o : ByteArray), (glue c o l).data.toList = o.data.toList ++ Lib.joinTail [c] (l.map (·.data.toList))
  | [], o => by simp [glue, Lib.joinTail]
  | p :: r, o => by
    rw [glue, glue_l c r, app_l, app_l]
    simp [Lib.joinTail, List.append_assoc]
theorem tail_len (c : UInt8) : ∀ l : List ByteArray, (Lib.joinTail [c] (l.map (·.data.toList))).length = sum0 l + l.length
  | [] => rfl
  | p :: r => by
    have ih := tail_len c r
    unfold Lib.joinTail at ih ⊢
    simp only [List.map_cons, List.flatten_cons, List.length_append, List.length_cons, List.length_nil, size_l, sum0, ih]
    omega
theorem spec_l (l : List ByteArray) (c : UInt8) (hl : sum0 l + l.length ≤ 1048576) : ∀ (d j : Nat) (o : ByteArray), j + d = l.length → 1 ≤ j → o.size ≤ 4000 →
    Ev (fun k => spec_JoinStrings.l0 k l ⟨#[c]⟩ o (j : Int)) (if Free c (l.drop j) ∧ o.size + sum0 (l.drop j) + (l.drop j).length ≤ 4000 then (glue c o (l.drop j), true) else (⟨#[]⟩, false)) := by
  intro d
  induction d with
  | zero =>
    intro j o hj h1 ho
    refine Ev.succ ?_
    simp only [spec_JoinStrings.l0]
    rw [List.drop_of_length_le (by omega), if_pos ⟨free_nil c, by simpa [sum0] using ho⟩]
    exact Ev.neg (by omega) (Ev.now _)
  | succ d ih =>
    intro j o hj h1 ho
    have hlt : j < l.length := by omega
    have hx := mem_sum (List.getElem_mem hlt)
    have hb : bt (⟨#[c]⟩ : ByteArray) 0 = (c.toNat : Int) := rfl
    have h11 : (⟨#[c]⟩ : ByteArray).size = 1 := rfl
    have hsz : ((o ++ ⟨#[c]⟩) ++ l[j]).size = o.size + 1 + (l[j]).size := by rw [ByteArray.size_append, ByteArray.size_append, h11]
    have hsz1 : (o ++ ⟨#[c]⟩ : ByteArray).size = o.size + 1 := by rw [ByteArray.size_append, h11]
    refine Ev.succ ?_
    simp only [spec_JoinStrings.l0, rdS_nat l j hlt, hb, w64s hlt (by omega : l.length ≤ 9223372036854775807)]
    refine Ev.pos (by omega) (Ev.pos (by omega) (Ev.pos (by rw [h11]; omega) (Ev.bind (stands_v _ c (by omega)) ?_)))
    rw [drop_cons hlt]
    refine Ev.cases (fun c2 => ?_) (fun c2 => ?_)
    · rw [if_neg (fun h => (free_cons.1 h.1).1 (of_decide_eq_true c2))]
      exact Ev.now _
    · have c2 : c ∉ (l[j]).data.toList := fun h => c2 (decide_eq_true h)
      refine Ev.pos (by omega) (Ev.pos (by rw [h11]; omega) (Ev.pos (by rw [hsz1]; omega) (Ev.cases (fun c3 => ?_) (fun c3 => ?_))))
      · rw [hsz] at c3
        rw [if_neg (fun h => by have := h.2; simp only [sum0, List.length_cons] at this; omega)]
        exact Ev.now _
      · rw [hsz] at c3
        refine Ev.eq (ih (j + 1) _ (by omega) (by omega) (by rw [hsz]; omega)) ?_
        rw [hsz]
        by_cases c4 : Free c (l.drop (j + 1)) ∧ o.size + 1 + (l[j]).size + sum0 (l.drop (j + 1)) + (l.drop (j + 1)).length ≤ 4000
        · rw [if_pos c4, if_pos ⟨free_cons.2 ⟨c2, c4.1⟩, by simp only [sum0, List.length_cons]; omega⟩]
          rfl
        · rw [if_neg c4, if_neg (fun h => c4 ⟨(free_cons.1 h.1).2, by have := h.2; simp only [sum0, List.length_cons] at this; omega⟩)]
theorem impl_l (l : List ByteArray) (c : UInt8) (hl : sum0 l + l.length ≤ 1048576) (J : ByteArray) (hJ : strings_Join.f l ⟨#[c]⟩ = some J) : ∀ (d j n : Nat), j + d = l.length → n ≤ 1048576 →
    Ev (fun k => impl_JoinStrings.l0 k l ⟨#[c]⟩ (n : Int) l (l.length : Int) (j : Int)) (if Free c (l.drop j) ∧ (l.drop j ≠ [] → n + sum0 (l.drop j) ≤ 4000) then (J, true) else (⟨#[]⟩, false)) := by
  intro d
  induction d with
  | zero =>
    intro j n hj hn
    refine Ev.succ ?_
    simp only [impl_JoinStrings.l0]
    rw [List.drop_of_length_le (by omega), if_pos ⟨free_nil c, fun h => absurd rfl h⟩]
    exact Ev.neg (by omega) (Ev.bound hJ (Ev.now _))
  | succ d ih =>
    intro j n hj hn
    have hlt : j < l.length := by omega
    have hx := mem_sum (List.getElem_mem hlt)
    have hf : strings_Contains.f l[j] (⟨#[c]⟩ : ByteArray) = some (decide (c ∈ (l[j]).data.toList)) := by
      unfold strings_Contains.f
      rw [if_pos (by rfl)]
      congr 1
      exact decide_eq_decide.2 (index_mem c _)
    have ew : wrap64 ((n : Int) + ((l[j]).size : Int)) = ((n + (l[j]).size : Nat) : Int) := (w64 (by omega)).trans (by omega)
    refine Ev.succ ?_
    simp only [impl_JoinStrings.l0, rdS_nat l j hlt, w64s hlt (by omega : l.length ≤ 9223372036854775807), hf, ew, Option.bind_some]
    rw [drop_cons hlt]
    refine Ev.pos (by omega) (Ev.pos (by omega) (Ev.pos (by omega) (Ev.cases (fun c2 => ?_) (fun c2 => Ev.cases (fun c3 => ?_) (fun c3 => ?_)))))
    · rw [if_neg (fun h => by have := h.2 (List.cons_ne_nil _ _); simp only [sum0] at this; omega)]
      exact Ev.now _
    · rw [if_neg (fun h => (free_cons.1 h.1).1 (of_decide_eq_true c3))]
      exact Ev.now _
    · have c3 : c ∉ (l[j]).data.toList := fun h => c3 (decide_eq_true h)
      refine Ev.eq (ih (j + 1) _ (by omega) (by omega)) ?_
      by_cases c4 : Free c (l.drop (j + 1)) ∧ (l.drop (j + 1) ≠ [] → n + (l[j]).size + sum0 (l.drop (j + 1)) ≤ 4000)
      · have hc : n + sum0 (l[j] :: l.drop (j + 1)) ≤ 4000 := by
          simp only [sum0]
          by_cases e : l.drop (j + 1) = []
          · rw [e]; simp only [sum0]; omega
          · have := c4.2 e; omega
        rw [if_pos c4, if_pos ⟨free_cons.2 ⟨c3, c4.1⟩, fun _ => hc⟩]
      · rw [if_neg c4, if_neg (fun h => c4 ⟨(free_cons.1 h.1).2, fun _ => by have := h.2 (List.cons_ne_nil _ _); simp only [sum0] at this; omega⟩)]
theorem both (l : List ByteArray) (a : ByteArray) (hl : sum0 l + l.length ≤ 1048576) : ∃ r : ByteArray × Bool, Ev (fun k => spec_JoinStrings.f k l a) r ∧ Ev (fun k => impl_JoinStrings.f k l a) r := by
  unfold spec_JoinStrings.f impl_JoinStrings.f
  by_cases c1 : (a.size : Int) = 1
  · obtain ⟨c, rfl⟩ := one_byte a (by omega)
    cases l with
    | nil =>
      refine ⟨(⟨#[]⟩, false), Ev.pos c1 (Ev.succ ?_), Ev.pos rfl (Ev.succ ?_)⟩
      · simp only [spec_JoinStrings.j0]; exact Ev.pos rfl (Ev.now _)
      · simp only [impl_JoinStrings.j0]; exact Ev.pos trivial (Ev.now _)
    | cons p r =>
      have hx : p.size ≤ sum0 (p :: r) := mem_sum (by simp)
      simp only [sum0, List.length_cons] at hl hx
      have hJ : strings_Join.f (p :: r) ⟨#[c]⟩ = some (glue c p r) := by
        unfold strings_Join.f
        have e : Lib.join ((p :: r).map (·.data.toList)) (⟨#[c]⟩ : ByteArray).data.toList = (glue c p r).data.toList := by
          rw [glue_l, List.map_cons, Lib.join_cons]
        rw [e, if_pos ⟨by rw [glue_l, List.length_append, tail_len, size_l]; omega, by simp only [List.length_cons]; omega⟩]
      have ei : wrap64 (((p :: r).length : Int) - 1) = ((r.length : Nat) : Int) := (w64 (by simp only [List.length_cons]; omega)).trans (by simp only [List.length_cons]; omega)
      have hi := impl_l (p :: r) c (by simp only [sum0, List.length_cons]; omega) _ hJ (p :: r).length 0 r.length (by omega) (by omega)
      rw [List.drop_zero] at hi
      refine ⟨if Free c (p :: r) ∧ (p :: r ≠ [] → r.length + sum0 (p :: r) ≤ 4000) then (glue c p r, true) else (⟨#[]⟩, false), Ev.pos c1 (Ev.succ ?_), Ev.neg (by simp only [List.length_cons]; omega) (Ev.succ ?_)⟩
      rotate_left
      · simp only [impl_JoinStrings.j0, ei]
        exact Ev.neg (by simp [c1]) hi
      · simp only [spec_JoinStrings.j0]
        refine Ev.neg (by simp only [List.length_cons]; simp; omega) (Ev.succ ?_)
        have hb : bt (⟨#[c]⟩ : ByteArray) 0 = (c.toNat : Int) := rfl
        have h11 : (⟨#[c]⟩ : ByteArray).size = 1 := rfl
        have h00 : (⟨#[]⟩ : ByteArray).size = 0 := rfl
        have he : (⟨#[]⟩ : ByteArray) ++ p = p := ext_l (by rw [app_l]; rfl)
        have e0 : rdOf ByteArray.empty (p :: r) 0 = p := rfl
        have ew : wrap64 ((0 : Int) + 1) = ((1 : Nat) : Int) := (w64 (by omega)).trans (by omega)
        simp only [spec_JoinStrings.l0, e0, hb, he, ew]
        refine Ev.pos (by simp only [List.length_cons]; omega) (Ev.pos (by omega) (Ev.pos (by rw [h11]; omega) (Ev.bind (stands_v p c (by omega)) (Ev.cases (fun c2 => ?_) (fun c2 => Ev.neg (by omega) (Ev.pos (by rw [h00]; omega) (Ev.cases (fun c3 => ?_) (fun c3 => ?_))))))))
        · rw [if_neg (fun h => (free_cons.1 h.1).1 (of_decide_eq_true c2))]
          exact Ev.now _
        · rw [if_neg (fun h => by have := h.2 (List.cons_ne_nil _ _); simp only [sum0] at this; omega)]
          exact Ev.now _
        · have c2 : c ∉ p.data.toList := fun h => c2 (decide_eq_true h)
          refine Ev.eq (spec_l (p :: r) c (by simp only [sum0, List.length_cons]; omega) r.length 1 p (by simp only [List.length_cons]; omega) (by omega) (by omega)) ?_
          rw [List.drop_succ_cons, List.drop_zero]
          by_cases c4 : Free c r ∧ p.size + sum0 r + r.length ≤ 4000
          · rw [if_pos c4, if_pos ⟨free_cons.2 ⟨c2, c4.1⟩, fun _ => by simp only [sum0]; omega⟩]
          · rw [if_neg c4, if_neg (fun h => c4 ⟨(free_cons.1 h.1).2, by have := h.2 (List.cons_ne_nil _ _); simp only [sum0] at this; omega⟩)]
  · refine ⟨(⟨#[]⟩, false), Ev.neg c1 (Ev.succ ?_), Ev.cases (fun _ => Ev.succ ?_) (fun _ => Ev.succ ?_)⟩
    · simp only [spec_JoinStrings.j0]; exact Ev.pos trivial (Ev.now _)
    · simp only [impl_JoinStrings.j0]; exact Ev.pos trivial (Ev.now _)
    · simp only [impl_JoinStrings.j0]; exact Ev.pos (bne_iff_ne.2 c1) (Ev.now _)
theorem pure (l : List ByteArray) (a : ByteArray) (hl : l.length ≤ 9223372036854775807) (hs : ∀ x ∈ l, x.size ≤ 9223372036854775807) (ha : a.size ≤ 140737488351232) : ∃ k, laws_FnExactJoinStrings.f k l a = some true := by
  apply Ev.rounds
  unfold laws_FnExactJoinStrings.f
  refine Ev.cases (fun _ => Ev.now _) (fun _ => ?_)
  obtain ⟨r, h1, h2⟩ := sz_v l hl hs
  refine Ev.bind h1 (Ev.cases (fun _ => Ev.now _) (fun c => ?_))
  have hb : sum0 l + l.length ≤ 1048576 := h2.resolve_left c
  obtain ⟨⟨x, b⟩, h3, h4⟩ := both l a hb
  refine Ev.bind (to_v l (by omega)) (Ev.bind h3 (Ev.bind (to_v l (by omega)) (Ev.bind h4 (Ev.pos rfl (Ev.succ ?_)))))
  simp only [laws_FnExactJoinStrings.j0]
  exact Ev.neg (by simp) (Ev.bind (to_v l (by omega)) (Ev.bind (eq_v l (by omega)) (Ev.pos rfl (Ev.now _))))

end Go.Proofs.Ythofhfmdomppeaa.LFnExactJoinStrings
