/-
  No cell of these rows narrows 'for every input' (looked for: loops, veiled, ifaces, maps, wideKeys, modest, calm, conditions, laid).
  DERIVED. THE GIVEN ROWS OF THIS SEAT. 6 by the template 'for every input the law returns true; each argument reads behind the call as it read before'; 0 by the template 'total and deterministic' (their statements: YtcgkgimkpndhmaaTotals.lean).
  GIVEN WITH THE SEED: the statements are not yours to turn. If you find one false, say at which input.
  Laid BY PROGRAM, IN A SANDBOX (cutbox-rows.mjs): the forced cells as the released guide's own fill.sh prints them over the translation 5b5272e722aa8725… (all of the seat's roots in one cut). By AI agents, Wed Nov 11 2026. No macro, syntax, notation, axiom, sorry.
-/
import Derived.Test.YtcgkgimkpndhmaaChecked
import GoSem.Claim
import GoSem.ClaimJoined
import GoSem.ClaimMapViews
import Derived.JoinedTies
import Derived.KernelRfl
namespace Go.Proofs.Ytcgkgimkpndhmaa
/- THE CELL 'sum', in the pinned program and in every row, IS THE sha256 OF THE DUMP (.gsa) THAT YtcgkgimkpndhmaaProg.lean LOADS. Nothing in Lean hashes anything: it is a label: what it is worth is what the hold of that sum in a sandbox is worth. -/
noncomputable def Try.pinned : Pinned := { name := "ytcgkgimkpndhmaa", sum := "5b5272e722aa87258fb8bc7d93e727d6848e0456f59f8b0ad9cf6b428bac2f35", checked := Try.checked }
namespace Rows
def none {H : Type} : Left H := { results := [], args := [] }

/-- 'laws.FnExactSubstituteIn': WHATEVER THE INPUT: true; the input reads as it did. -/
def fnExactSubstituteInSpec : ChangeSpec := { name := "fnExactSubstituteIn", fn := fun _ => fun
  | [d1, d2, d3] => { results := [.lit (.bool true)], args := [d1, d2, d3] }
  | _ => none }
def fnExactSubstituteInRow : OpenClaim := { program := "ytcgkgimkpndhmaa", sum := "5b5272e722aa87258fb8bc7d93e727d6848e0456f59f8b0ad9cf6b428bac2f35", func := "loop.example/g01078/laws.FnExactSubstituteIn", spec := "fnExactSubstituteIn", apart := false }
def FnExactSubstituteInSaid : Prop := fnExactSubstituteInRow.holds Try.pinned (OpenSpec.ofChange fnExactSubstituteInSpec)

/-- ITS FALSE NEIGHBOUR: 'it returns false'. Refute it at one input. -/
def fnExactSubstituteInWrong : ChangeSpec := { name := "fnExactSubstituteIn", fn := fun _ => fun
  | [d1, d2, d3] => { results := [.lit (.bool false)], args := [d1, d2, d3] }
  | _ => none }
def FnExactSubstituteInWrongFalsely : Prop := fnExactSubstituteInRow.holds Try.pinned (OpenSpec.ofChange fnExactSubstituteInWrong)

/-- 'laws.FnExactIsGenerating': WHATEVER THE INPUT: true; the input reads as it did. -/
def fnExactIsGeneratingSpec : ChangeSpec := { name := "fnExactIsGenerating", fn := fun _ => fun
  | [d1, d2] => { results := [.lit (.bool true)], args := [d1, d2] }
  | _ => none }
def fnExactIsGeneratingRow : OpenClaim := { program := "ytcgkgimkpndhmaa", sum := "5b5272e722aa87258fb8bc7d93e727d6848e0456f59f8b0ad9cf6b428bac2f35", func := "loop.example/g01078/laws.FnExactIsGenerating", spec := "fnExactIsGenerating", apart := false }
def FnExactIsGeneratingSaid : Prop := fnExactIsGeneratingRow.holds Try.pinned (OpenSpec.ofChange fnExactIsGeneratingSpec)

/-- ITS FALSE NEIGHBOUR: 'it returns false'. Refute it at one input. -/
def fnExactIsGeneratingWrong : ChangeSpec := { name := "fnExactIsGenerating", fn := fun _ => fun
  | [d1, d2] => { results := [.lit (.bool false)], args := [d1, d2] }
  | _ => none }
def FnExactIsGeneratingWrongFalsely : Prop := fnExactIsGeneratingRow.holds Try.pinned (OpenSpec.ofChange fnExactIsGeneratingWrong)

/-- 'laws.FnExactIsSubuniverse': WHATEVER THE INPUT: true; the input reads as it did. -/
def fnExactIsSubuniverseSpec : ChangeSpec := { name := "fnExactIsSubuniverse", fn := fun _ => fun
  | [d1, d2] => { results := [.lit (.bool true)], args := [d1, d2] }
  | _ => none }
def fnExactIsSubuniverseRow : OpenClaim := { program := "ytcgkgimkpndhmaa", sum := "5b5272e722aa87258fb8bc7d93e727d6848e0456f59f8b0ad9cf6b428bac2f35", func := "loop.example/g01078/laws.FnExactIsSubuniverse", spec := "fnExactIsSubuniverse", apart := false }
def FnExactIsSubuniverseSaid : Prop := fnExactIsSubuniverseRow.holds Try.pinned (OpenSpec.ofChange fnExactIsSubuniverseSpec)

/-- ITS FALSE NEIGHBOUR: 'it returns false'. Refute it at one input. -/
def fnExactIsSubuniverseWrong : ChangeSpec := { name := "fnExactIsSubuniverse", fn := fun _ => fun
  | [d1, d2] => { results := [.lit (.bool false)], args := [d1, d2] }
  | _ => none }
def FnExactIsSubuniverseWrongFalsely : Prop := fnExactIsSubuniverseRow.holds Try.pinned (OpenSpec.ofChange fnExactIsSubuniverseWrong)

/-- 'laws.FnExactIsIndependent': WHATEVER THE INPUT: true; the input reads as it did. -/
def fnExactIsIndependentSpec : ChangeSpec := { name := "fnExactIsIndependent", fn := fun _ => fun
  | [d1, d2] => { results := [.lit (.bool true)], args := [d1, d2] }
  | _ => none }
def fnExactIsIndependentRow : OpenClaim := { program := "ytcgkgimkpndhmaa", sum := "5b5272e722aa87258fb8bc7d93e727d6848e0456f59f8b0ad9cf6b428bac2f35", func := "loop.example/g01078/laws.FnExactIsIndependent", spec := "fnExactIsIndependent", apart := false }
def FnExactIsIndependentSaid : Prop := fnExactIsIndependentRow.holds Try.pinned (OpenSpec.ofChange fnExactIsIndependentSpec)

/-- ITS FALSE NEIGHBOUR: 'it returns false'. Refute it at one input. -/
def fnExactIsIndependentWrong : ChangeSpec := { name := "fnExactIsIndependent", fn := fun _ => fun
  | [d1, d2] => { results := [.lit (.bool false)], args := [d1, d2] }
  | _ => none }
def FnExactIsIndependentWrongFalsely : Prop := fnExactIsIndependentRow.holds Try.pinned (OpenSpec.ofChange fnExactIsIndependentWrong)

/-- 'laws.FnExactGenerateSub': WHATEVER THE INPUT: true; the input reads as it did. -/
def fnExactGenerateSubSpec : ChangeSpec := { name := "fnExactGenerateSub", fn := fun _ => fun
  | [d1, d2] => { results := [.lit (.bool true)], args := [d1, d2] }
  | _ => none }
def fnExactGenerateSubRow : OpenClaim := { program := "ytcgkgimkpndhmaa", sum := "5b5272e722aa87258fb8bc7d93e727d6848e0456f59f8b0ad9cf6b428bac2f35", func := "loop.example/g01078/laws.FnExactGenerateSub", spec := "fnExactGenerateSub", apart := false }
def FnExactGenerateSubSaid : Prop := fnExactGenerateSubRow.holds Try.pinned (OpenSpec.ofChange fnExactGenerateSubSpec)

/-- ITS FALSE NEIGHBOUR: 'it returns false'. Refute it at one input. -/
def fnExactGenerateSubWrong : ChangeSpec := { name := "fnExactGenerateSub", fn := fun _ => fun
  | [d1, d2] => { results := [.lit (.bool false)], args := [d1, d2] }
  | _ => none }
def FnExactGenerateSubWrongFalsely : Prop := fnExactGenerateSubRow.holds Try.pinned (OpenSpec.ofChange fnExactGenerateSubWrong)

/-- 'laws.FnExactNonGenerators': WHATEVER THE INPUT: true; the input reads as it did. -/
def fnExactNonGeneratorsSpec : ChangeSpec := { name := "fnExactNonGenerators", fn := fun _ => fun
  | [d] => { results := [.lit (.bool true)], args := [d] }
  | _ => none }
def fnExactNonGeneratorsRow : OpenClaim := { program := "ytcgkgimkpndhmaa", sum := "5b5272e722aa87258fb8bc7d93e727d6848e0456f59f8b0ad9cf6b428bac2f35", func := "loop.example/g01078/laws.FnExactNonGenerators", spec := "fnExactNonGenerators", apart := false }
def FnExactNonGeneratorsSaid : Prop := fnExactNonGeneratorsRow.holds Try.pinned (OpenSpec.ofChange fnExactNonGeneratorsSpec)

/-- ITS FALSE NEIGHBOUR: 'it returns false'. Refute it at one input. -/
def fnExactNonGeneratorsWrong : ChangeSpec := { name := "fnExactNonGenerators", fn := fun _ => fun
  | [d] => { results := [.lit (.bool false)], args := [d] }
  | _ => none }
def FnExactNonGeneratorsWrongFalsely : Prop := fnExactNonGeneratorsRow.holds Try.pinned (OpenSpec.ofChange fnExactNonGeneratorsWrong)

/- THE SECOND FORM. 'bulk': how many values and letters a reading holds, each counted each time it is reached (what is shared counts as often as it is met; a slice's spare places count too). A statement '..UptoSaid' is the law's where the arguments, and the package variables that the reading takes, are together of bulk at most 1048576: NARROWER than '..Said'. Prove '..Said' where nothing that the law and all that it calls make is longer than what came in: it says more and counts as full. Else prove '..UptoSaid'. A law counts once. -/
mutual
def uptoBulk {H : Type} : DataW H → Nat
  | .lit (.string bytes) => bytes.length + 1
  | .lit _ => 1
  | .nil => 1
  | .ptr d => uptoBulk d + 1
  | .slice elems spare => uptoBulkAll elems + uptoBulkAll spare + 1
  | .agg parts => uptoBulkAll parts + 1
  | .iface _ d => uptoBulk d + 1
  | .map entries => uptoBulkEntries entries + 1
  | .held _ => 1
def uptoBulkAll {H : Type} : List (DataW H) → Nat
  | [] => 0
  | d :: r => uptoBulk d + uptoBulkAll r
def uptoBulkEntries {H : Type} : List (Lit × DataW H) → Nat
  | [] => 0
  | x :: r => uptoBulkEntry x + uptoBulkEntries r
def uptoBulkEntry {H : Type} : Lit × DataW H → Nat
  | (.string bytes, d) => bytes.length + uptoBulk d + 1
  | (_, d) => uptoBulk d + 1
 end
def uptoSmall : (H : Type) → List (DataW H) → Bool := fun _ ds => decide (uptoBulkAll ds ≤ 1048576)
def OpenSpec.upto (s : _root_.Go.ChangeSpec) : _root_.Go.OpenSpec := { _root_.Go.OpenSpec.ofChange s with cond := some uptoSmall }

/-- 'laws.FnExactSubstituteIn', WHERE WHAT IT READS IS OF BULK AT MOST 1048576: true; the input reads as it did. -/
def fnExactSubstituteInUptoRow : OpenClaim := { program := "ytcgkgimkpndhmaa", sum := "5b5272e722aa87258fb8bc7d93e727d6848e0456f59f8b0ad9cf6b428bac2f35", func := "loop.example/g01078/laws.FnExactSubstituteIn", spec := "fnExactSubstituteIn", apart := false, narrowed := true }
def FnExactSubstituteInUptoSaid : Prop := fnExactSubstituteInUptoRow.holds Try.pinned (OpenSpec.upto fnExactSubstituteInSpec)

/-- 'laws.FnExactIsGenerating', WHERE WHAT IT READS IS OF BULK AT MOST 1048576: true; the input reads as it did. -/
def fnExactIsGeneratingUptoRow : OpenClaim := { program := "ytcgkgimkpndhmaa", sum := "5b5272e722aa87258fb8bc7d93e727d6848e0456f59f8b0ad9cf6b428bac2f35", func := "loop.example/g01078/laws.FnExactIsGenerating", spec := "fnExactIsGenerating", apart := false, narrowed := true }
def FnExactIsGeneratingUptoSaid : Prop := fnExactIsGeneratingUptoRow.holds Try.pinned (OpenSpec.upto fnExactIsGeneratingSpec)

/-- 'laws.FnExactIsSubuniverse', WHERE WHAT IT READS IS OF BULK AT MOST 1048576: true; the input reads as it did. -/
def fnExactIsSubuniverseUptoRow : OpenClaim := { program := "ytcgkgimkpndhmaa", sum := "5b5272e722aa87258fb8bc7d93e727d6848e0456f59f8b0ad9cf6b428bac2f35", func := "loop.example/g01078/laws.FnExactIsSubuniverse", spec := "fnExactIsSubuniverse", apart := false, narrowed := true }
def FnExactIsSubuniverseUptoSaid : Prop := fnExactIsSubuniverseUptoRow.holds Try.pinned (OpenSpec.upto fnExactIsSubuniverseSpec)

/-- 'laws.FnExactIsIndependent', WHERE WHAT IT READS IS OF BULK AT MOST 1048576: true; the input reads as it did. -/
def fnExactIsIndependentUptoRow : OpenClaim := { program := "ytcgkgimkpndhmaa", sum := "5b5272e722aa87258fb8bc7d93e727d6848e0456f59f8b0ad9cf6b428bac2f35", func := "loop.example/g01078/laws.FnExactIsIndependent", spec := "fnExactIsIndependent", apart := false, narrowed := true }
def FnExactIsIndependentUptoSaid : Prop := fnExactIsIndependentUptoRow.holds Try.pinned (OpenSpec.upto fnExactIsIndependentSpec)

/-- 'laws.FnExactGenerateSub', WHERE WHAT IT READS IS OF BULK AT MOST 1048576: true; the input reads as it did. -/
def fnExactGenerateSubUptoRow : OpenClaim := { program := "ytcgkgimkpndhmaa", sum := "5b5272e722aa87258fb8bc7d93e727d6848e0456f59f8b0ad9cf6b428bac2f35", func := "loop.example/g01078/laws.FnExactGenerateSub", spec := "fnExactGenerateSub", apart := false, narrowed := true }
def FnExactGenerateSubUptoSaid : Prop := fnExactGenerateSubUptoRow.holds Try.pinned (OpenSpec.upto fnExactGenerateSubSpec)

/-- 'laws.FnExactNonGenerators', WHERE WHAT IT READS IS OF BULK AT MOST 1048576: true; the input reads as it did. -/
def fnExactNonGeneratorsUptoRow : OpenClaim := { program := "ytcgkgimkpndhmaa", sum := "5b5272e722aa87258fb8bc7d93e727d6848e0456f59f8b0ad9cf6b428bac2f35", func := "loop.example/g01078/laws.FnExactNonGenerators", spec := "fnExactNonGenerators", apart := false, narrowed := true }
def FnExactNonGeneratorsUptoSaid : Prop := fnExactNonGeneratorsUptoRow.holds Try.pinned (OpenSpec.upto fnExactNonGeneratorsSpec)

end Rows
end Go.Proofs.Ytcgkgimkpndhmaa
