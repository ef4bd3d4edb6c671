/- The row of the law FnExactSplitString and its tied card: for every text the law returns true, where the listed tables lie as the program's text lays them. -/
import Derived.Test.YthofhfmdomppeabDoorCards
import Derived.Test.YthofhfmdomppeabDoorTie
import Derived.Test.YthofhfmdomppeabDoorSplit
import Derived.Test.YthofhfmdomppeabDoorLayUtf
import Derived.Test.YthofhfmdomppeabDoorWrap
import Derived.RowKit
import Derived.RowKitTokens
import Derived.ShutString
import Derived.ChangeMaps5
namespace Go.Proofs.YthofhfmdomppeabDoor
open Go.ChangeShapes Go.WideShapes Go.ChangeAt Go.RowKit
open Go.ChangeMaps (open_string shut_string)
set_option maxRecDepth 100000 in
theorem fnExactSplitString_lifted (os : Os) (started : os.Started) (H : Type) (enc : TypeId × Value → H) :
    ReturnsInHanded {} Tryd.checked os 5 .any (fun w args => (Rows.fnExactSplitStringSpec.pre enc Tryd.prog Tryd.f5 Rows.fnExactSplitStringRow.domain false w args ∧ laidMet Tryd.prog Rows.fnExactSplitStringRow.laid w) ∧ sizedMet enc Tryd.prog Tryd.f5 (OpenSpec.ofChange Rows.fnExactSplitStringSpec) false w args)
      (Rows.fnExactSplitStringSpec.post enc Tryd.prog Tryd.f5 false true false false) := by
  refine Wrap.and_shaped (C := Tryd.checked) (X := fun w _ => laidMet Tryd.prog Rows.fnExactSplitStringRow.laid w) (fun _ _ _ hh h => h.of_heap hh) Lay.own started (by kernel_rfl) Tryd.func5
    (ChangeSpec.witness_at (enc := enc) (C := Tryd.checked) (os := os) (X := fun w _ => laidMet Tryd.prog Rows.fnExactSplitStringRow.laid w) false (LayUtf.world os) #[.string ⟨#[]⟩, .string ⟨#[]⟩] 8 rfl (by kernel_rfl) (by kernel_rfl) (by kernel_rfl) (by kernel_rfl) (by kernel_rfl) (LayUtf.met os _)) ?_
  intro W base args ds gs before hval0 hW _ hsz0 hL hsh
  have hsz : (DataW.weightsEach Tryd.prog (Tryd.f5.params.toList ++ Rows.fnExactSplitStringSpec.plain.varTypes Tryd.prog) (ds ++ gs)).all (· ≤ reachBytes) = true := hsz0
  have hval : ∀ (j : Nat) t v, Tryd.f5.params[j]? = some t → args[j]? = some v → Value.okWide Tryd.prog W .any base t v := hval0
  have hW' := hW
  obtain ⟨p, q, hA0, hV, rfl, hfz, hnd⟩ := hW
  have hA : DataW.TrodAll enc Tryd.prog W 0 (fun _ => true) true Tryd.f5.params.toList args.toList ds p := hA0
  rw [Tryd.params5] at hA hval hsz
  obtain ⟨v0, v1, d0, d1, p0, p1, rfl, rfl, rfl, h0, h1⟩ := trodAll_two hA
  obtain ⟨rfl, rfl⟩ := trodVars_none hV
  obtain ⟨a, rfl, rfl, rfl, ya⟩ := open_string Tryd.underlying9 (hval 0 9 v0 rfl rfl) h0
  obtain ⟨b, rfl, rfl, rfl, yb⟩ := open_string Tryd.underlying9 (hval 1 9 v1 rfl rfl) h1
  have wa : a.size ≤ 140737488351232 := by
    have z := sized_string hsz (j := 0) (t := 9) rfl rfl
    rw [Array.length_toList] at z
    exact z
  have wb : b.size ≤ 140737488351232 := by
    have z := sized_string hsz (j := 1) (t := 9) rfl rfl
    rw [Array.length_toList] at z
    exact z
  refine (Split.lawSplit a b wa wb W (LayUtf.max hsh)).mono fun e W' ⟨he, bel⟩ => ?_
  subst he
  exact ⟨_, rfl, _, _, _, [], _, [], hW', trodAll_mk1 (shut_bool Tryd.underlying4 _), trodAll_mk2 (shut_string Tryd.underlying9 ya) (shut_string Tryd.underlying9 yb), rfl, bel.frame _, fun h => by cases h⟩
theorem fnExactSplitString_row : Rows.FnExactSplitStringSaid :=
  OpenClaim.holds_of_wide 5 Tryd.f5 rfl rfl rfl rfl rfl rfl rfl ⟨rfl, rfl, rfl, rfl, rfl⟩ rfl rfl rfl rfl rfl (by kernel_rfl) Tryd.func5 (by kernel_rfl)
    (of_decide_eq_true (by kernel_rfl)) (by unfold Func.isWrapper; first | (rw [if_pos (by decide +kernel)]; kernel_rfl) | (rw [if_neg (by decide +kernel)]; exact ⟨rfl, rfl⟩))
    (fun os started H enc _ => fnExactSplitString_lifted os started H enc)
theorem fnExactSplitString_holds : Rows.FnExactSplitStringCardSaid :=
  Claim7.holds_tied_plain_at .later [] [.data, .pinned] true Rows.fnExactSplitStringCard.stood.harness true
    fnExactSplitString_row (fun _ h => by cases h) (by kernel_rfl) (fun _ h => by cases h) fnExactSplitString_row_tie rfl ⟨rfl, rfl⟩ (by kernel_rfl) rfl
    (fun f fn hf hfn => by
      obtain rfl : f = 5 := Option.some.inj ((show Tryd.prog.funcNamed "loop.example/g01078/laws.FnExactSplitString" = some 5 by kernel_rfl).symm.trans hf) |>.symm
      obtain rfl : fn = Tryd.f5 := (Option.some.inj (Tryd.func5.symm.trans hfn)).symm
      exact ⟨by kernel_rfl, fun j t ht => by
        rw [Tryd.params5] at ht
        have h3 : t = 9 := by
          rcases j with _ | _ | j
          · simpa using ht.symm
          · simpa using ht.symm
          · simp at ht
        subst h3
        exact (show Tryd.prog.wantsStandIn 9 = false by kernel_rfl)⟩)
    (by kernel_rfl)
#print axioms fnExactSplitString_holds
end Go.Proofs.YthofhfmdomppeabDoor
