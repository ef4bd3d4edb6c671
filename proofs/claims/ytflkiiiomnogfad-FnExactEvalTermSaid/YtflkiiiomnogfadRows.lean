/-
  No cell of these rows narrows 'for every input' (looked for: loops, veiled, ifaces, maps, wideKeys, modest, calm, conditions, laid).
  DERIVED. THE GIVEN ROWS OF THIS SEAT. 5 by the template 'for every input the law returns true; each argument reads behind the call as it read before'; 0 by the template 'total and deterministic' (their statements: YtflkiiiomnogfadTotals.lean).
  GIVEN WITH THE SEED: the statements are not yours to turn. If you find one false, say at which input.
  Laid BY PROGRAM, IN A SANDBOX (cutbox-rows.mjs): the forced cells as the released guide's own fill.sh prints them over the translation 39856683af06f9e0… (all of the seat's roots in one cut). By AI agents, Wed Nov 11 2026. No macro, syntax, notation, axiom, sorry.
-/
import Derived.Test.YtflkiiiomnogfadChecked
import GoSem.Claim
import GoSem.ClaimJoined
import GoSem.ClaimMapViews
import Derived.JoinedTies
import Derived.KernelRfl
namespace Go.Proofs.Ytflkiiiomnogfad
/- THE CELL 'sum', in the pinned program and in every row, IS THE sha256 OF THE DUMP (.gsa) THAT YtflkiiiomnogfadProg.lean LOADS. Nothing in Lean hashes anything: it is a label: what it is worth is what the hold of that sum in a sandbox is worth. -/
noncomputable def Try.pinned : Pinned := { name := "ytflkiiiomnogfad", sum := "39856683af06f9e030cf86db8cee7d5323b0e1593d5d02ce670217ca5f7a58b8", checked := Try.checked }
namespace Rows
def none {H : Type} : Left H := { results := [], args := [] }

/-- 'laws.FnExactEvalTerm': WHATEVER THE INPUT: true; the input reads as it did. -/
def fnExactEvalTermSpec : ChangeSpec := { name := "fnExactEvalTerm", fn := fun _ => fun
  | [d1, d2, d3] => { results := [.lit (.bool true)], args := [d1, d2, d3] }
  | _ => none }
def fnExactEvalTermRow : OpenClaim := { program := "ytflkiiiomnogfad", sum := "39856683af06f9e030cf86db8cee7d5323b0e1593d5d02ce670217ca5f7a58b8", func := "loop.example/g01078/laws.FnExactEvalTerm", spec := "fnExactEvalTerm", apart := false }
def FnExactEvalTermSaid : Prop := fnExactEvalTermRow.holds Try.pinned (OpenSpec.ofChange fnExactEvalTermSpec)

/-- ITS FALSE NEIGHBOUR: 'it returns false'. Refute it at one input. -/
def fnExactEvalTermWrong : ChangeSpec := { name := "fnExactEvalTerm", fn := fun _ => fun
  | [d1, d2, d3] => { results := [.lit (.bool false)], args := [d1, d2, d3] }
  | _ => none }
def FnExactEvalTermWrongFalsely : Prop := fnExactEvalTermRow.holds Try.pinned (OpenSpec.ofChange fnExactEvalTermWrong)

/-- 'laws.FnExactVarsOf': WHATEVER THE INPUT: true; the input reads as it did. -/
def fnExactVarsOfSpec : ChangeSpec := { name := "fnExactVarsOf", fn := fun _ => fun
  | [d1, d2] => { results := [.lit (.bool true)], args := [d1, d2] }
  | _ => none }
def fnExactVarsOfRow : OpenClaim := { program := "ytflkiiiomnogfad", sum := "39856683af06f9e030cf86db8cee7d5323b0e1593d5d02ce670217ca5f7a58b8", func := "loop.example/g01078/laws.FnExactVarsOf", spec := "fnExactVarsOf", apart := false }
def FnExactVarsOfSaid : Prop := fnExactVarsOfRow.holds Try.pinned (OpenSpec.ofChange fnExactVarsOfSpec)

/-- ITS FALSE NEIGHBOUR: 'it returns false'. Refute it at one input. -/
def fnExactVarsOfWrong : ChangeSpec := { name := "fnExactVarsOf", fn := fun _ => fun
  | [d1, d2] => { results := [.lit (.bool false)], args := [d1, d2] }
  | _ => none }
def FnExactVarsOfWrongFalsely : Prop := fnExactVarsOfRow.holds Try.pinned (OpenSpec.ofChange fnExactVarsOfWrong)

/-- 'laws.FnExactIsSubuniverse': WHATEVER THE INPUT: true; the input reads as it did. -/
def fnExactIsSubuniverseSpec : ChangeSpec := { name := "fnExactIsSubuniverse", fn := fun _ => fun
  | [d1, d2] => { results := [.lit (.bool true)], args := [d1, d2] }
  | _ => none }
def fnExactIsSubuniverseRow : OpenClaim := { program := "ytflkiiiomnogfad", sum := "39856683af06f9e030cf86db8cee7d5323b0e1593d5d02ce670217ca5f7a58b8", func := "loop.example/g01078/laws.FnExactIsSubuniverse", spec := "fnExactIsSubuniverse", apart := false }
def FnExactIsSubuniverseSaid : Prop := fnExactIsSubuniverseRow.holds Try.pinned (OpenSpec.ofChange fnExactIsSubuniverseSpec)

/-- ITS FALSE NEIGHBOUR: 'it returns false'. Refute it at one input. -/
def fnExactIsSubuniverseWrong : ChangeSpec := { name := "fnExactIsSubuniverse", fn := fun _ => fun
  | [d1, d2] => { results := [.lit (.bool false)], args := [d1, d2] }
  | _ => none }
def FnExactIsSubuniverseWrongFalsely : Prop := fnExactIsSubuniverseRow.holds Try.pinned (OpenSpec.ofChange fnExactIsSubuniverseWrong)

/-- 'laws.FnExactReverseArgs': WHATEVER THE INPUT: true; the input reads as it did. -/
def fnExactReverseArgsSpec : ChangeSpec := { name := "fnExactReverseArgs", fn := fun _ => fun
  | [d1, d2] => { results := [.lit (.bool true)], args := [d1, d2] }
  | _ => none }
def fnExactReverseArgsRow : OpenClaim := { program := "ytflkiiiomnogfad", sum := "39856683af06f9e030cf86db8cee7d5323b0e1593d5d02ce670217ca5f7a58b8", func := "loop.example/g01078/laws.FnExactReverseArgs", spec := "fnExactReverseArgs", apart := false }
def FnExactReverseArgsSaid : Prop := fnExactReverseArgsRow.holds Try.pinned (OpenSpec.ofChange fnExactReverseArgsSpec)

/-- ITS FALSE NEIGHBOUR: 'it returns false'. Refute it at one input. -/
def fnExactReverseArgsWrong : ChangeSpec := { name := "fnExactReverseArgs", fn := fun _ => fun
  | [d1, d2] => { results := [.lit (.bool false)], args := [d1, d2] }
  | _ => none }
def FnExactReverseArgsWrongFalsely : Prop := fnExactReverseArgsRow.holds Try.pinned (OpenSpec.ofChange fnExactReverseArgsWrong)

/-- 'laws.FnExactGenerateSub': WHATEVER THE INPUT: true; the input reads as it did. -/
def fnExactGenerateSubSpec : ChangeSpec := { name := "fnExactGenerateSub", fn := fun _ => fun
  | [d1, d2] => { results := [.lit (.bool true)], args := [d1, d2] }
  | _ => none }
def fnExactGenerateSubRow : OpenClaim := { program := "ytflkiiiomnogfad", sum := "39856683af06f9e030cf86db8cee7d5323b0e1593d5d02ce670217ca5f7a58b8", func := "loop.example/g01078/laws.FnExactGenerateSub", spec := "fnExactGenerateSub", apart := false }
def FnExactGenerateSubSaid : Prop := fnExactGenerateSubRow.holds Try.pinned (OpenSpec.ofChange fnExactGenerateSubSpec)

/-- ITS FALSE NEIGHBOUR: 'it returns false'. Refute it at one input. -/
def fnExactGenerateSubWrong : ChangeSpec := { name := "fnExactGenerateSub", fn := fun _ => fun
  | [d1, d2] => { results := [.lit (.bool false)], args := [d1, d2] }
  | _ => none }
def FnExactGenerateSubWrongFalsely : Prop := fnExactGenerateSubRow.holds Try.pinned (OpenSpec.ofChange fnExactGenerateSubWrong)

/- THE SECOND FORM. 'bulk': how many values and letters a reading holds, each counted each time it is reached (what is shared counts as often as it is met; a slice's spare places count too). A statement '..UptoSaid' is the law's where the arguments, and the package variables that the reading takes, are together of bulk at most 1048576: NARROWER than '..Said'. Prove '..Said' where nothing that the law and all that it calls make is longer than what came in: it says more and counts as full. Else prove '..UptoSaid'. A law counts once. -/
mutual
def uptoBulk {H : Type} : DataW H → Nat
  | .lit (.string bytes) => bytes.length + 1
  | .lit _ => 1
  | .nil => 1
  | .ptr d => uptoBulk d + 1
  | .slice elems spare => uptoBulkAll elems + uptoBulkAll spare + 1
  | .agg parts => uptoBulkAll parts + 1
  | .iface _ d => uptoBulk d + 1
  | .map entries => uptoBulkEntries entries + 1
  | .held _ => 1
def uptoBulkAll {H : Type} : List (DataW H) → Nat
  | [] => 0
  | d :: r => uptoBulk d + uptoBulkAll r
def uptoBulkEntries {H : Type} : List (Lit × DataW H) → Nat
  | [] => 0
  | x :: r => uptoBulkEntry x + uptoBulkEntries r
def uptoBulkEntry {H : Type} : Lit × DataW H → Nat
  | (.string bytes, d) => bytes.length + uptoBulk d + 1
  | (_, d) => uptoBulk d + 1
 end
def uptoSmall : (H : Type) → List (DataW H) → Bool := fun _ ds => decide (uptoBulkAll ds ≤ 1048576)
def OpenSpec.upto (s : _root_.Go.ChangeSpec) : _root_.Go.OpenSpec := { _root_.Go.OpenSpec.ofChange s with cond := some uptoSmall }

/-- 'laws.FnExactEvalTerm', WHERE WHAT IT READS IS OF BULK AT MOST 1048576: true; the input reads as it did. -/
def fnExactEvalTermUptoRow : OpenClaim := { program := "ytflkiiiomnogfad", sum := "39856683af06f9e030cf86db8cee7d5323b0e1593d5d02ce670217ca5f7a58b8", func := "loop.example/g01078/laws.FnExactEvalTerm", spec := "fnExactEvalTerm", apart := false, narrowed := true }
def FnExactEvalTermUptoSaid : Prop := fnExactEvalTermUptoRow.holds Try.pinned (OpenSpec.upto fnExactEvalTermSpec)

/-- 'laws.FnExactVarsOf', WHERE WHAT IT READS IS OF BULK AT MOST 1048576: true; the input reads as it did. -/
def fnExactVarsOfUptoRow : OpenClaim := { program := "ytflkiiiomnogfad", sum := "39856683af06f9e030cf86db8cee7d5323b0e1593d5d02ce670217ca5f7a58b8", func := "loop.example/g01078/laws.FnExactVarsOf", spec := "fnExactVarsOf", apart := false, narrowed := true }
def FnExactVarsOfUptoSaid : Prop := fnExactVarsOfUptoRow.holds Try.pinned (OpenSpec.upto fnExactVarsOfSpec)

/-- 'laws.FnExactIsSubuniverse', WHERE WHAT IT READS IS OF BULK AT MOST 1048576: true; the input reads as it did. -/
def fnExactIsSubuniverseUptoRow : OpenClaim := { program := "ytflkiiiomnogfad", sum := "39856683af06f9e030cf86db8cee7d5323b0e1593d5d02ce670217ca5f7a58b8", func := "loop.example/g01078/laws.FnExactIsSubuniverse", spec := "fnExactIsSubuniverse", apart := false, narrowed := true }
def FnExactIsSubuniverseUptoSaid : Prop := fnExactIsSubuniverseUptoRow.holds Try.pinned (OpenSpec.upto fnExactIsSubuniverseSpec)

/-- 'laws.FnExactReverseArgs', WHERE WHAT IT READS IS OF BULK AT MOST 1048576: true; the input reads as it did. -/
def fnExactReverseArgsUptoRow : OpenClaim := { program := "ytflkiiiomnogfad", sum := "39856683af06f9e030cf86db8cee7d5323b0e1593d5d02ce670217ca5f7a58b8", func := "loop.example/g01078/laws.FnExactReverseArgs", spec := "fnExactReverseArgs", apart := false, narrowed := true }
def FnExactReverseArgsUptoSaid : Prop := fnExactReverseArgsUptoRow.holds Try.pinned (OpenSpec.upto fnExactReverseArgsSpec)

/-- 'laws.FnExactGenerateSub', WHERE WHAT IT READS IS OF BULK AT MOST 1048576: true; the input reads as it did. -/
def fnExactGenerateSubUptoRow : OpenClaim := { program := "ytflkiiiomnogfad", sum := "39856683af06f9e030cf86db8cee7d5323b0e1593d5d02ce670217ca5f7a58b8", func := "loop.example/g01078/laws.FnExactGenerateSub", spec := "fnExactGenerateSub", apart := false, narrowed := true }
def FnExactGenerateSubUptoSaid : Prop := fnExactGenerateSubUptoRow.holds Try.pinned (OpenSpec.upto fnExactGenerateSubSpec)

end Rows
end Go.Proofs.Ytflkiiiomnogfad
