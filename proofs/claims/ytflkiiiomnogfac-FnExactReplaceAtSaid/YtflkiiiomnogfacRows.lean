/-
  No cell of these rows narrows 'for every input' (looked for: loops, veiled, ifaces, maps, wideKeys, modest, calm, conditions, laid).
  DERIVED. THE GIVEN ROWS OF THIS SEAT. 5 by the template 'for every input the law returns true; each argument reads behind the call as it read before'; 0 by the template 'total and deterministic' (their statements: YtflkiiiomnogfacTotals.lean).
  GIVEN WITH THE SEED: the statements are not yours to turn. If you find one false, say at which input.
  Laid BY PROGRAM, IN A SANDBOX (cutbox-rows.mjs): the forced cells as the released guide's own fill.sh prints them over the translation 27633614d1b3fd71… (all of the seat's roots in one cut). By AI agents, Wed Nov 11 2026. No macro, syntax, notation, axiom, sorry.
-/
import Derived.Test.YtflkiiiomnogfacChecked
import GoSem.Claim
import GoSem.ClaimJoined
import GoSem.ClaimMapViews
import Derived.JoinedTies
import Derived.KernelRfl
namespace Go.Proofs.Ytflkiiiomnogfac
/- THE CELL 'sum', in the pinned program and in every row, IS THE sha256 OF THE DUMP (.gsa) THAT YtflkiiiomnogfacProg.lean LOADS. Nothing in Lean hashes anything: it is a label: what it is worth is what the hold of that sum in a sandbox is worth. -/
noncomputable def Try.pinned : Pinned := { name := "ytflkiiiomnogfac", sum := "27633614d1b3fd717a1544c45b76758aac0f6b449ab0a85615e15b7c05e6f73b", checked := Try.checked }
namespace Rows
def none {H : Type} : Left H := { results := [], args := [] }

/-- 'laws.FnExactDepthOf': WHATEVER THE INPUT: true; the input reads as it did. -/
def fnExactDepthOfSpec : ChangeSpec := { name := "fnExactDepthOf", fn := fun _ => fun
  | [d1, d2] => { results := [.lit (.bool true)], args := [d1, d2] }
  | _ => none }
def fnExactDepthOfRow : OpenClaim := { program := "ytflkiiiomnogfac", sum := "27633614d1b3fd717a1544c45b76758aac0f6b449ab0a85615e15b7c05e6f73b", func := "loop.example/g01078/laws.FnExactDepthOf", spec := "fnExactDepthOf", recurses := true, apart := false }
def FnExactDepthOfSaid : Prop := fnExactDepthOfRow.holds Try.pinned (OpenSpec.ofChange fnExactDepthOfSpec)

/-- ITS FALSE NEIGHBOUR: 'it returns false'. Refute it at one input. -/
def fnExactDepthOfWrong : ChangeSpec := { name := "fnExactDepthOf", fn := fun _ => fun
  | [d1, d2] => { results := [.lit (.bool false)], args := [d1, d2] }
  | _ => none }
def FnExactDepthOfWrongFalsely : Prop := fnExactDepthOfRow.holds Try.pinned (OpenSpec.ofChange fnExactDepthOfWrong)

/-- 'laws.FnExactReplaceAt': WHATEVER THE INPUT: true; the input reads as it did. -/
def fnExactReplaceAtSpec : ChangeSpec := { name := "fnExactReplaceAt", fn := fun _ => fun
  | [d1, d2, d3, d4] => { results := [.lit (.bool true)], args := [d1, d2, d3, d4] }
  | _ => none }
def fnExactReplaceAtRow : OpenClaim := { program := "ytflkiiiomnogfac", sum := "27633614d1b3fd717a1544c45b76758aac0f6b449ab0a85615e15b7c05e6f73b", func := "loop.example/g01078/laws.FnExactReplaceAt", spec := "fnExactReplaceAt", apart := false }
def FnExactReplaceAtSaid : Prop := fnExactReplaceAtRow.holds Try.pinned (OpenSpec.ofChange fnExactReplaceAtSpec)

/-- ITS FALSE NEIGHBOUR: 'it returns false'. Refute it at one input. -/
def fnExactReplaceAtWrong : ChangeSpec := { name := "fnExactReplaceAt", fn := fun _ => fun
  | [d1, d2, d3, d4] => { results := [.lit (.bool false)], args := [d1, d2, d3, d4] }
  | _ => none }
def FnExactReplaceAtWrongFalsely : Prop := fnExactReplaceAtRow.holds Try.pinned (OpenSpec.ofChange fnExactReplaceAtWrong)

/-- 'laws.FnExactCompareTerms': WHATEVER THE INPUT: true; the input reads as it did. -/
def fnExactCompareTermsSpec : ChangeSpec := { name := "fnExactCompareTerms", fn := fun _ => fun
  | [d1, d2, d3] => { results := [.lit (.bool true)], args := [d1, d2, d3] }
  | _ => none }
def fnExactCompareTermsRow : OpenClaim := { program := "ytflkiiiomnogfac", sum := "27633614d1b3fd717a1544c45b76758aac0f6b449ab0a85615e15b7c05e6f73b", func := "loop.example/g01078/laws.FnExactCompareTerms", spec := "fnExactCompareTerms", apart := false }
def FnExactCompareTermsSaid : Prop := fnExactCompareTermsRow.holds Try.pinned (OpenSpec.ofChange fnExactCompareTermsSpec)

/-- ITS FALSE NEIGHBOUR: 'it returns false'. Refute it at one input. -/
def fnExactCompareTermsWrong : ChangeSpec := { name := "fnExactCompareTerms", fn := fun _ => fun
  | [d1, d2, d3] => { results := [.lit (.bool false)], args := [d1, d2, d3] }
  | _ => none }
def FnExactCompareTermsWrongFalsely : Prop := fnExactCompareTermsRow.holds Try.pinned (OpenSpec.ofChange fnExactCompareTermsWrong)

/-- 'laws.FnExactNormalVars': WHATEVER THE INPUT: true; the input reads as it did. -/
def fnExactNormalVarsSpec : ChangeSpec := { name := "fnExactNormalVars", fn := fun _ => fun
  | [d1, d2] => { results := [.lit (.bool true)], args := [d1, d2] }
  | _ => none }
def fnExactNormalVarsRow : OpenClaim := { program := "ytflkiiiomnogfac", sum := "27633614d1b3fd717a1544c45b76758aac0f6b449ab0a85615e15b7c05e6f73b", func := "loop.example/g01078/laws.FnExactNormalVars", spec := "fnExactNormalVars", apart := false }
def FnExactNormalVarsSaid : Prop := fnExactNormalVarsRow.holds Try.pinned (OpenSpec.ofChange fnExactNormalVarsSpec)

/-- ITS FALSE NEIGHBOUR: 'it returns false'. Refute it at one input. -/
def fnExactNormalVarsWrong : ChangeSpec := { name := "fnExactNormalVars", fn := fun _ => fun
  | [d1, d2] => { results := [.lit (.bool false)], args := [d1, d2] }
  | _ => none }
def FnExactNormalVarsWrongFalsely : Prop := fnExactNormalVarsRow.holds Try.pinned (OpenSpec.ofChange fnExactNormalVarsWrong)

/-- 'laws.FnExactIsGenerating': WHATEVER THE INPUT: true; the input reads as it did. -/
def fnExactIsGeneratingSpec : ChangeSpec := { name := "fnExactIsGenerating", fn := fun _ => fun
  | [d1, d2] => { results := [.lit (.bool true)], args := [d1, d2] }
  | _ => none }
def fnExactIsGeneratingRow : OpenClaim := { program := "ytflkiiiomnogfac", sum := "27633614d1b3fd717a1544c45b76758aac0f6b449ab0a85615e15b7c05e6f73b", func := "loop.example/g01078/laws.FnExactIsGenerating", spec := "fnExactIsGenerating", apart := false }
def FnExactIsGeneratingSaid : Prop := fnExactIsGeneratingRow.holds Try.pinned (OpenSpec.ofChange fnExactIsGeneratingSpec)

/-- ITS FALSE NEIGHBOUR: 'it returns false'. Refute it at one input. -/
def fnExactIsGeneratingWrong : ChangeSpec := { name := "fnExactIsGenerating", fn := fun _ => fun
  | [d1, d2] => { results := [.lit (.bool false)], args := [d1, d2] }
  | _ => none }
def FnExactIsGeneratingWrongFalsely : Prop := fnExactIsGeneratingRow.holds Try.pinned (OpenSpec.ofChange fnExactIsGeneratingWrong)

/- THE SECOND FORM. 'bulk': how many values and letters a reading holds, each counted each time it is reached (what is shared counts as often as it is met; a slice's spare places count too). A statement '..UptoSaid' is the law's where the arguments, and the package variables that the reading takes, are together of bulk at most 1048576: NARROWER than '..Said'. Prove '..Said' where nothing that the law and all that it calls make is longer than what came in: it says more and counts as full. Else prove '..UptoSaid'. A law counts once. -/
mutual
def uptoBulk {H : Type} : DataW H → Nat
  | .lit (.string bytes) => bytes.length + 1
  | .lit _ => 1
  | .nil => 1
  | .ptr d => uptoBulk d + 1
  | .slice elems spare => uptoBulkAll elems + uptoBulkAll spare + 1
  | .agg parts => uptoBulkAll parts + 1
  | .iface _ d => uptoBulk d + 1
  | .map entries => uptoBulkEntries entries + 1
  | .held _ => 1
def uptoBulkAll {H : Type} : List (DataW H) → Nat
  | [] => 0
  | d :: r => uptoBulk d + uptoBulkAll r
def uptoBulkEntries {H : Type} : List (Lit × DataW H) → Nat
  | [] => 0
  | x :: r => uptoBulkEntry x + uptoBulkEntries r
def uptoBulkEntry {H : Type} : Lit × DataW H → Nat
  | (.string bytes, d) => bytes.length + uptoBulk d + 1
  | (_, d) => uptoBulk d + 1
 end
def uptoSmall : (H : Type) → List (DataW H) → Bool := fun _ ds => decide (uptoBulkAll ds ≤ 1048576)
def OpenSpec.upto (s : _root_.Go.ChangeSpec) : _root_.Go.OpenSpec := { _root_.Go.OpenSpec.ofChange s with cond := some uptoSmall }

/-- 'laws.FnExactDepthOf', WHERE WHAT IT READS IS OF BULK AT MOST 1048576: true; the input reads as it did. -/
def fnExactDepthOfUptoRow : OpenClaim := { program := "ytflkiiiomnogfac", sum := "27633614d1b3fd717a1544c45b76758aac0f6b449ab0a85615e15b7c05e6f73b", func := "loop.example/g01078/laws.FnExactDepthOf", spec := "fnExactDepthOf", recurses := true, apart := false, narrowed := true }
def FnExactDepthOfUptoSaid : Prop := fnExactDepthOfUptoRow.holds Try.pinned (OpenSpec.upto fnExactDepthOfSpec)

/-- 'laws.FnExactReplaceAt', WHERE WHAT IT READS IS OF BULK AT MOST 1048576: true; the input reads as it did. -/
def fnExactReplaceAtUptoRow : OpenClaim := { program := "ytflkiiiomnogfac", sum := "27633614d1b3fd717a1544c45b76758aac0f6b449ab0a85615e15b7c05e6f73b", func := "loop.example/g01078/laws.FnExactReplaceAt", spec := "fnExactReplaceAt", apart := false, narrowed := true }
def FnExactReplaceAtUptoSaid : Prop := fnExactReplaceAtUptoRow.holds Try.pinned (OpenSpec.upto fnExactReplaceAtSpec)

/-- 'laws.FnExactCompareTerms', WHERE WHAT IT READS IS OF BULK AT MOST 1048576: true; the input reads as it did. -/
def fnExactCompareTermsUptoRow : OpenClaim := { program := "ytflkiiiomnogfac", sum := "27633614d1b3fd717a1544c45b76758aac0f6b449ab0a85615e15b7c05e6f73b", func := "loop.example/g01078/laws.FnExactCompareTerms", spec := "fnExactCompareTerms", apart := false, narrowed := true }
def FnExactCompareTermsUptoSaid : Prop := fnExactCompareTermsUptoRow.holds Try.pinned (OpenSpec.upto fnExactCompareTermsSpec)

/-- 'laws.FnExactNormalVars', WHERE WHAT IT READS IS OF BULK AT MOST 1048576: true; the input reads as it did. -/
def fnExactNormalVarsUptoRow : OpenClaim := { program := "ytflkiiiomnogfac", sum := "27633614d1b3fd717a1544c45b76758aac0f6b449ab0a85615e15b7c05e6f73b", func := "loop.example/g01078/laws.FnExactNormalVars", spec := "fnExactNormalVars", apart := false, narrowed := true }
def FnExactNormalVarsUptoSaid : Prop := fnExactNormalVarsUptoRow.holds Try.pinned (OpenSpec.upto fnExactNormalVarsSpec)

/-- 'laws.FnExactIsGenerating', WHERE WHAT IT READS IS OF BULK AT MOST 1048576: true; the input reads as it did. -/
def fnExactIsGeneratingUptoRow : OpenClaim := { program := "ytflkiiiomnogfac", sum := "27633614d1b3fd717a1544c45b76758aac0f6b449ab0a85615e15b7c05e6f73b", func := "loop.example/g01078/laws.FnExactIsGenerating", spec := "fnExactIsGenerating", apart := false, narrowed := true }
def FnExactIsGeneratingUptoSaid : Prop := fnExactIsGeneratingUptoRow.holds Try.pinned (OpenSpec.upto fnExactIsGeneratingSpec)

end Rows
end Go.Proofs.Ytflkiiiomnogfac
