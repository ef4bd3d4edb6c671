/- The row of the law FnExactGenerationRounds: for every input the law returns true and each argument reads as before. It joins the printed contract of the law's function and the plain statement of YthofhfmdomppeaaLFnExactGenerationRounds. -/
import Derived.Test.YthofhfmdomppeaaRows
import Derived.Test.YthofhfmdomppeaaQx12
import Derived.Test.YthofhfmdomppeaaLFnExactGenerationRounds
import Derived.Test.YthofhfmdomppeaaOpens
import Derived.WalkKit
import Derived.ProofKit
import Derived.OpenShut
import Derived.ShutString
import Derived.ChangeOld
import Derived.Below
import Derived.SizedLaws
import Derived.Carry
namespace Go.Proofs.Ythofhfmdomppeaa.fnExactGenerationRounds
open Go.ChangeShapes Go.WideShapes Go.ChangeAt Go.RowKit
open Go.ChangeMaps (open_string shut_string)
open Go.Proofs.Ythofhfmdomppeaa.Q Go.Proofs.YthofhfmdomppeaaW.PrintWords Go.Proofs.Ythofhfmdomppeaa.Opens
set_option linter.unusedVariables false
theorem own : ownKnob Try.prog.godebug = none := by kernel_rfl
theorem laidOut : laidOutB Try.prog = true := by kernel_rfl
set_option maxRecDepth 100000 in
theorem lifted (os : Os) (started : os.Started) (H : Type) (enc : TypeId × Value → H) :
    ReturnsInHanded {} Try.checked os 3 .any (Rows.fnExactGenerationRoundsSpec.pre6 enc Try.prog Try.f3 Rows.fnExactGenerationRoundsRow.domain false) (Rows.fnExactGenerationRoundsSpec.post enc Try.prog Try.f3 false true false false) := by
  refine returnsInHanded_of_change_sized (C := Try.checked) own started (by kernel_rfl) Try.func3
    (ChangeSpec.witness6 (enc := enc) (C := Try.checked) false ⟨#[], #[.agg #[.int .i64 0, .slice none 0 0], .slice none 0 0], []⟩ 8 (by kernel_rfl) (by kernel_rfl) (by kernel_rfl) (by kernel_rfl)) ?_
  intro W base args ds gs before hval0 hW hcnd hsz0 _
  have hsz : (DataW.weightsEach Try.prog (Try.f3.params.toList ++ Rows.fnExactGenerationRoundsSpec.plain.varTypes Try.prog) (ds ++ gs)).all (· ≤ reachBytes) = true := hsz0
  have hval : ∀ (j : Nat) t v, Try.f3.params[j]? = some t → args[j]? = some v → Value.okWide Try.prog W .any base t v := hval0
  have hW' := hW
  obtain ⟨p, q, hA0, hV, rfl, hfz, hnd⟩ := hW
  have hA : DataW.TrodAll enc Try.prog W 0 (fun _ => true) true Try.f3.params.toList args.toList ds p := hA0
  rw [Try.params3] at hA hval hsz
  obtain ⟨v0, vs0, d0, ds0, p0, q0, hargs, rfl, rfl, h0, r0⟩ := trodAll_cons hA
  obtain ⟨v1, vs1, d1, ds1, p1, q1, rfl, rfl, rfl, h1, r1⟩ := trodAll_cons r0
  obtain ⟨rfl, rfl, rfl⟩ := trodAll_nil r1
  obtain rfl : args = #[v0, v1] := by cases args; simp_all
  obtain ⟨rfl, rfl⟩ := trodVars_none hV
  have g0 := h0
  have lt0 : ∀ x ∈ p0, x.block < W.heap.size := by obtain ⟨m, hm⟩ := g0; exact DataW.trod_lt m _ _ _ hm
  obtain ⟨cs0, x0, rfl, ha0, hw0⟩ := arg_struct (Opens.struct Try.underlying24 (by kernel_rfl) (OpensF.cons rfl (by kernel_rfl) (Opens.int Try.underlying3) (OpensF.one rfl (by kernel_rfl) (Opens.slice 102 Try.underlying22 (by kernel_rfl) (Opens.iso (Opens.struct Try.underlying102 (by kernel_rfl) (OpensF.cons rfl (by kernel_rfl) (Opens.int Try.underlying3) (OpensF.one rfl (by kernel_rfl) (Opens.slice 3 Try.underlying25 (by kernel_rfl) (Opens.int Try.underlying3))))) (fun x : S102 => (x.f0, x.f1)) (fun p => ⟨p.1, p.2⟩) (fun _ => rfl)))))) Try.underlying24 (hval 0 24 v0 rfl rfl) h0
  obtain ⟨a0_0, l0_1⟩ := x0
  obtain ⟨u0_0, w0_0, f0_0, e0_0, ⟨A0_1, c0_1, e0_1, hc0_1, hr0_1⟩⟩ := ha0
  obtain rfl : cs0 = #[.int .i64 a0_0, .slice A0_1 l0_1.length c0_1] := by
    apply Array.ext'
    rw [f0_0, e0_0, e0_1]
    rfl
  have g1 := h1
  have lt1 : ∀ x ∈ p1, x.block < W.heap.size := by obtain ⟨m, hm⟩ := g1; exact DataW.trod_lt m _ _ _ hm
  obtain ⟨A1, c1, l1, rfl, hc1, hr1, hw1⟩ := arg_slice (Opens.slice 3 Try.underlying25 (by kernel_rfl) (Opens.int Try.underlying3)) Try.underlying25 (hval 1 25 v1 rfl rfl) h1
  clear hA0 hval0 hsz0 hsz
  obtain ⟨k, hk⟩ := LFnExactGenerationRounds.pure a0_0 l0_1 l1 hw0.1 hw0.2.1 hw0.2.2 hw1.1 hw1.2
  refine (Q.laws_FnExactGenerationRounds.calls k a0_0 A0_1 c0_1 l0_1 A1 c1 l1 true W hr0_1 hc0_1 hr1 hc1 hk).mono fun e W' ⟨he, bel⟩ => ?_
  subst he
  exact ⟨_, rfl, _, _, _, [], _, [], hW', trodAll_mk1 (shut_bool Try.underlying4 _), (trodAll_cons_mk (Below.trod laidOut (by kernel_rfl) (of_decide_eq_true (by kernel_rfl)) g0 bel lt0) (trodAll_cons_mk (Below.trod laidOut (by kernel_rfl) (of_decide_eq_true (by kernel_rfl)) g1 bel lt1) trodAll_mk0)), rfl, bel.frame _, fun h => by cases h⟩
theorem over : Rows.fnExactGenerationRoundsRow.holds Try.pinned (OpenSpec.ofChange Rows.fnExactGenerationRoundsSpec) :=
  OpenClaim.holds_of_wide 3 Try.f3 rfl rfl rfl rfl rfl rfl rfl ⟨rfl, rfl, rfl, rfl, rfl⟩ rfl rfl rfl rfl rfl (by kernel_rfl) Try.func3 (by kernel_rfl)
    (of_decide_eq_true (by kernel_rfl)) (by unfold Func.isWrapper; first | (rw [if_pos (by decide +kernel)]; kernel_rfl) | (rw [if_neg (by decide +kernel)]; exact ⟨rfl, rfl⟩))
    (fun os started H enc _ => lifted os started H enc)
theorem proved : Rows.FnExactGenerationRoundsSaid := over
#print axioms proved
end Go.Proofs.Ythofhfmdomppeaa.fnExactGenerationRounds
namespace Go.Proofs.Ythofhfmdomppeaa
/-- The row, under a short name, for the claim. -/
theorem fnExactGenerationRounds_holds : Rows.FnExactGenerationRoundsSaid := fnExactGenerationRounds.proved
end Go.Proofs.Ythofhfmdomppeaa
