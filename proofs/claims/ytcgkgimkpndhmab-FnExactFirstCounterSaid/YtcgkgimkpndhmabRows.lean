/-
  No cell of these rows narrows 'for every input' (looked for: loops, veiled, ifaces, maps, wideKeys, modest, calm, conditions, laid).
  DERIVED. THE GIVEN ROWS OF THIS SEAT. 6 by the template 'for every input the law returns true; each argument reads behind the call as it read before'; 0 by the template 'total and deterministic' (their statements: YtcgkgimkpndhmabTotals.lean).
  GIVEN WITH THE SEED: the statements are not yours to turn. If you find one false, say at which input.
  Laid BY PROGRAM, IN A SANDBOX (cutbox-rows.mjs): the forced cells as the released guide's own fill.sh prints them over the translation b3119cc2764b57a8… (all of the seat's roots in one cut). By AI agents, Wed Nov 11 2026. No macro, syntax, notation, axiom, sorry.
-/
import Derived.Test.YtcgkgimkpndhmabChecked
import GoSem.Claim
import GoSem.ClaimJoined
import GoSem.ClaimMapViews
import Derived.JoinedTies
import Derived.KernelRfl
namespace Go.Proofs.Ytcgkgimkpndhmab
/- THE CELL 'sum', in the pinned program and in every row, IS THE sha256 OF THE DUMP (.gsa) THAT YtcgkgimkpndhmabProg.lean LOADS. Nothing in Lean hashes anything: it is a label: what it is worth is what the hold of that sum in a sandbox is worth. -/
noncomputable def Try.pinned : Pinned := { name := "ytcgkgimkpndhmab", sum := "b3119cc2764b57a820c401be62bf555dad23701a9365ab01f741bad965cb1952", checked := Try.checked }
namespace Rows
def none {H : Type} : Left H := { results := [], args := [] }

/-- 'laws.FnExactJoinSubs': WHATEVER THE INPUT: true; the input reads as it did. -/
def fnExactJoinSubsSpec : ChangeSpec := { name := "fnExactJoinSubs", fn := fun _ => fun
  | [d1, d2, d3] => { results := [.lit (.bool true)], args := [d1, d2, d3] }
  | _ => none }
def fnExactJoinSubsRow : OpenClaim := { program := "ytcgkgimkpndhmab", sum := "b3119cc2764b57a820c401be62bf555dad23701a9365ab01f741bad965cb1952", func := "loop.example/g01078/laws.FnExactJoinSubs", spec := "fnExactJoinSubs", apart := false }
def FnExactJoinSubsSaid : Prop := fnExactJoinSubsRow.holds Try.pinned (OpenSpec.ofChange fnExactJoinSubsSpec)

/-- ITS FALSE NEIGHBOUR: 'it returns false'. Refute it at one input. -/
def fnExactJoinSubsWrong : ChangeSpec := { name := "fnExactJoinSubs", fn := fun _ => fun
  | [d1, d2, d3] => { results := [.lit (.bool false)], args := [d1, d2, d3] }
  | _ => none }
def FnExactJoinSubsWrongFalsely : Prop := fnExactJoinSubsRow.holds Try.pinned (OpenSpec.ofChange fnExactJoinSubsWrong)

/-- 'laws.FnExactMeetSubs': WHATEVER THE INPUT: true; the input reads as it did. -/
def fnExactMeetSubsSpec : ChangeSpec := { name := "fnExactMeetSubs", fn := fun _ => fun
  | [d1, d2, d3] => { results := [.lit (.bool true)], args := [d1, d2, d3] }
  | _ => none }
def fnExactMeetSubsRow : OpenClaim := { program := "ytcgkgimkpndhmab", sum := "b3119cc2764b57a820c401be62bf555dad23701a9365ab01f741bad965cb1952", func := "loop.example/g01078/laws.FnExactMeetSubs", spec := "fnExactMeetSubs", apart := false }
def FnExactMeetSubsSaid : Prop := fnExactMeetSubsRow.holds Try.pinned (OpenSpec.ofChange fnExactMeetSubsSpec)

/-- ITS FALSE NEIGHBOUR: 'it returns false'. Refute it at one input. -/
def fnExactMeetSubsWrong : ChangeSpec := { name := "fnExactMeetSubs", fn := fun _ => fun
  | [d1, d2, d3] => { results := [.lit (.bool false)], args := [d1, d2, d3] }
  | _ => none }
def FnExactMeetSubsWrongFalsely : Prop := fnExactMeetSubsRow.holds Try.pinned (OpenSpec.ofChange fnExactMeetSubsWrong)

/-- 'laws.FnExactDoesHold': WHATEVER THE INPUT: true; the input reads as it did. -/
def fnExactDoesHoldSpec : ChangeSpec := { name := "fnExactDoesHold", fn := fun _ => fun
  | [d1, d2] => { results := [.lit (.bool true)], args := [d1, d2] }
  | _ => none }
def fnExactDoesHoldRow : OpenClaim := { program := "ytcgkgimkpndhmab", sum := "b3119cc2764b57a820c401be62bf555dad23701a9365ab01f741bad965cb1952", func := "loop.example/g01078/laws.FnExactDoesHold", spec := "fnExactDoesHold", apart := false }
def FnExactDoesHoldSaid : Prop := fnExactDoesHoldRow.holds Try.pinned (OpenSpec.ofChange fnExactDoesHoldSpec)

/-- ITS FALSE NEIGHBOUR: 'it returns false'. Refute it at one input. -/
def fnExactDoesHoldWrong : ChangeSpec := { name := "fnExactDoesHold", fn := fun _ => fun
  | [d1, d2] => { results := [.lit (.bool false)], args := [d1, d2] }
  | _ => none }
def FnExactDoesHoldWrongFalsely : Prop := fnExactDoesHoldRow.holds Try.pinned (OpenSpec.ofChange fnExactDoesHoldWrong)

/-- 'laws.FnExactFirstBroken': WHATEVER THE INPUT: true; the input reads as it did. -/
def fnExactFirstBrokenSpec : ChangeSpec := { name := "fnExactFirstBroken", fn := fun _ => fun
  | [d1, d2] => { results := [.lit (.bool true)], args := [d1, d2] }
  | _ => none }
def fnExactFirstBrokenRow : OpenClaim := { program := "ytcgkgimkpndhmab", sum := "b3119cc2764b57a820c401be62bf555dad23701a9365ab01f741bad965cb1952", func := "loop.example/g01078/laws.FnExactFirstBroken", spec := "fnExactFirstBroken", apart := false }
def FnExactFirstBrokenSaid : Prop := fnExactFirstBrokenRow.holds Try.pinned (OpenSpec.ofChange fnExactFirstBrokenSpec)

/-- ITS FALSE NEIGHBOUR: 'it returns false'. Refute it at one input. -/
def fnExactFirstBrokenWrong : ChangeSpec := { name := "fnExactFirstBroken", fn := fun _ => fun
  | [d1, d2] => { results := [.lit (.bool false)], args := [d1, d2] }
  | _ => none }
def FnExactFirstBrokenWrongFalsely : Prop := fnExactFirstBrokenRow.holds Try.pinned (OpenSpec.ofChange fnExactFirstBrokenWrong)

/-- 'laws.FnExactFirstCounter': WHATEVER THE INPUT: true; the input reads as it did. -/
def fnExactFirstCounterSpec : ChangeSpec := { name := "fnExactFirstCounter", fn := fun _ => fun
  | [d1, d2] => { results := [.lit (.bool true)], args := [d1, d2] }
  | _ => none }
def fnExactFirstCounterRow : OpenClaim := { program := "ytcgkgimkpndhmab", sum := "b3119cc2764b57a820c401be62bf555dad23701a9365ab01f741bad965cb1952", func := "loop.example/g01078/laws.FnExactFirstCounter", spec := "fnExactFirstCounter", apart := false }
def FnExactFirstCounterSaid : Prop := fnExactFirstCounterRow.holds Try.pinned (OpenSpec.ofChange fnExactFirstCounterSpec)

/-- ITS FALSE NEIGHBOUR: 'it returns false'. Refute it at one input. -/
def fnExactFirstCounterWrong : ChangeSpec := { name := "fnExactFirstCounter", fn := fun _ => fun
  | [d1, d2] => { results := [.lit (.bool false)], args := [d1, d2] }
  | _ => none }
def FnExactFirstCounterWrongFalsely : Prop := fnExactFirstCounterRow.holds Try.pinned (OpenSpec.ofChange fnExactFirstCounterWrong)

/-- 'laws.FnExactReverseArgs': WHATEVER THE INPUT: true; the input reads as it did. -/
def fnExactReverseArgsSpec : ChangeSpec := { name := "fnExactReverseArgs", fn := fun _ => fun
  | [d1, d2] => { results := [.lit (.bool true)], args := [d1, d2] }
  | _ => none }
def fnExactReverseArgsRow : OpenClaim := { program := "ytcgkgimkpndhmab", sum := "b3119cc2764b57a820c401be62bf555dad23701a9365ab01f741bad965cb1952", func := "loop.example/g01078/laws.FnExactReverseArgs", spec := "fnExactReverseArgs", apart := false }
def FnExactReverseArgsSaid : Prop := fnExactReverseArgsRow.holds Try.pinned (OpenSpec.ofChange fnExactReverseArgsSpec)

/-- ITS FALSE NEIGHBOUR: 'it returns false'. Refute it at one input. -/
def fnExactReverseArgsWrong : ChangeSpec := { name := "fnExactReverseArgs", fn := fun _ => fun
  | [d1, d2] => { results := [.lit (.bool false)], args := [d1, d2] }
  | _ => none }
def FnExactReverseArgsWrongFalsely : Prop := fnExactReverseArgsRow.holds Try.pinned (OpenSpec.ofChange fnExactReverseArgsWrong)

/- THE SECOND FORM. 'bulk': how many values and letters a reading holds, each counted each time it is reached (what is shared counts as often as it is met; a slice's spare places count too). A statement '..UptoSaid' is the law's where the arguments, and the package variables that the reading takes, are together of bulk at most 1048576: NARROWER than '..Said'. Prove '..Said' where nothing that the law and all that it calls make is longer than what came in: it says more and counts as full. Else prove '..UptoSaid'. A law counts once. -/
mutual
def uptoBulk {H : Type} : DataW H → Nat
  | .lit (.string bytes) => bytes.length + 1
  | .lit _ => 1
  | .nil => 1
  | .ptr d => uptoBulk d + 1
  | .slice elems spare => uptoBulkAll elems + uptoBulkAll spare + 1
  | .agg parts => uptoBulkAll parts + 1
  | .iface _ d => uptoBulk d + 1
  | .map entries => uptoBulkEntries entries + 1
  | .held _ => 1
def uptoBulkAll {H : Type} : List (DataW H) → Nat
  | [] => 0
  | d :: r => uptoBulk d + uptoBulkAll r
def uptoBulkEntries {H : Type} : List (Lit × DataW H) → Nat
  | [] => 0
  | x :: r => uptoBulkEntry x + uptoBulkEntries r
def uptoBulkEntry {H : Type} : Lit × DataW H → Nat
  | (.string bytes, d) => bytes.length + uptoBulk d + 1
  | (_, d) => uptoBulk d + 1
 end
def uptoSmall : (H : Type) → List (DataW H) → Bool := fun _ ds => decide (uptoBulkAll ds ≤ 1048576)
def OpenSpec.upto (s : _root_.Go.ChangeSpec) : _root_.Go.OpenSpec := { _root_.Go.OpenSpec.ofChange s with cond := some uptoSmall }

/-- 'laws.FnExactJoinSubs', WHERE WHAT IT READS IS OF BULK AT MOST 1048576: true; the input reads as it did. -/
def fnExactJoinSubsUptoRow : OpenClaim := { program := "ytcgkgimkpndhmab", sum := "b3119cc2764b57a820c401be62bf555dad23701a9365ab01f741bad965cb1952", func := "loop.example/g01078/laws.FnExactJoinSubs", spec := "fnExactJoinSubs", apart := false, narrowed := true }
def FnExactJoinSubsUptoSaid : Prop := fnExactJoinSubsUptoRow.holds Try.pinned (OpenSpec.upto fnExactJoinSubsSpec)

/-- 'laws.FnExactMeetSubs', WHERE WHAT IT READS IS OF BULK AT MOST 1048576: true; the input reads as it did. -/
def fnExactMeetSubsUptoRow : OpenClaim := { program := "ytcgkgimkpndhmab", sum := "b3119cc2764b57a820c401be62bf555dad23701a9365ab01f741bad965cb1952", func := "loop.example/g01078/laws.FnExactMeetSubs", spec := "fnExactMeetSubs", apart := false, narrowed := true }
def FnExactMeetSubsUptoSaid : Prop := fnExactMeetSubsUptoRow.holds Try.pinned (OpenSpec.upto fnExactMeetSubsSpec)

/-- 'laws.FnExactDoesHold', WHERE WHAT IT READS IS OF BULK AT MOST 1048576: true; the input reads as it did. -/
def fnExactDoesHoldUptoRow : OpenClaim := { program := "ytcgkgimkpndhmab", sum := "b3119cc2764b57a820c401be62bf555dad23701a9365ab01f741bad965cb1952", func := "loop.example/g01078/laws.FnExactDoesHold", spec := "fnExactDoesHold", apart := false, narrowed := true }
def FnExactDoesHoldUptoSaid : Prop := fnExactDoesHoldUptoRow.holds Try.pinned (OpenSpec.upto fnExactDoesHoldSpec)

/-- 'laws.FnExactFirstBroken', WHERE WHAT IT READS IS OF BULK AT MOST 1048576: true; the input reads as it did. -/
def fnExactFirstBrokenUptoRow : OpenClaim := { program := "ytcgkgimkpndhmab", sum := "b3119cc2764b57a820c401be62bf555dad23701a9365ab01f741bad965cb1952", func := "loop.example/g01078/laws.FnExactFirstBroken", spec := "fnExactFirstBroken", apart := false, narrowed := true }
def FnExactFirstBrokenUptoSaid : Prop := fnExactFirstBrokenUptoRow.holds Try.pinned (OpenSpec.upto fnExactFirstBrokenSpec)

/-- 'laws.FnExactFirstCounter', WHERE WHAT IT READS IS OF BULK AT MOST 1048576: true; the input reads as it did. -/
def fnExactFirstCounterUptoRow : OpenClaim := { program := "ytcgkgimkpndhmab", sum := "b3119cc2764b57a820c401be62bf555dad23701a9365ab01f741bad965cb1952", func := "loop.example/g01078/laws.FnExactFirstCounter", spec := "fnExactFirstCounter", apart := false, narrowed := true }
def FnExactFirstCounterUptoSaid : Prop := fnExactFirstCounterUptoRow.holds Try.pinned (OpenSpec.upto fnExactFirstCounterSpec)

/-- 'laws.FnExactReverseArgs', WHERE WHAT IT READS IS OF BULK AT MOST 1048576: true; the input reads as it did. -/
def fnExactReverseArgsUptoRow : OpenClaim := { program := "ytcgkgimkpndhmab", sum := "b3119cc2764b57a820c401be62bf555dad23701a9365ab01f741bad965cb1952", func := "loop.example/g01078/laws.FnExactReverseArgs", spec := "fnExactReverseArgs", apart := false, narrowed := true }
def FnExactReverseArgsUptoSaid : Prop := fnExactReverseArgsUptoRow.holds Try.pinned (OpenSpec.upto fnExactReverseArgsSpec)

end Rows
end Go.Proofs.Ytcgkgimkpndhmab
