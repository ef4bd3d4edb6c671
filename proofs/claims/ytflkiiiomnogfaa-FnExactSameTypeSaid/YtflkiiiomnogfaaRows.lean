/-
  No cell of these rows narrows 'for every input' (looked for: loops, veiled, ifaces, maps, wideKeys, modest, calm, conditions, laid).
  DERIVED. THE GIVEN ROWS OF THIS SEAT. 4 by the template 'for every input the law returns true; each argument reads behind the call as it read before'; 0 by the template 'total and deterministic' (their statements: YtflkiiiomnogfaaTotals.lean).
  GIVEN WITH THE SEED: the statements are not yours to turn. If you find one false, say at which input.
  Laid BY PROGRAM, IN A SANDBOX (cutbox-rows.mjs): the forced cells as the released guide's own fill.sh prints them over the translation 1505b43334c15fe7… (all of the seat's roots in one cut). By AI agents, Wed Nov 11 2026. No macro, syntax, notation, axiom, sorry.
-/
import Derived.Test.YtflkiiiomnogfaaChecked
import GoSem.Claim
import GoSem.ClaimJoined
import GoSem.ClaimMapViews
import Derived.JoinedTies
import Derived.KernelRfl
namespace Go.Proofs.Ytflkiiiomnogfaa
/- THE CELL 'sum', in the pinned program and in every row, IS THE sha256 OF THE DUMP (.gsa) THAT YtflkiiiomnogfaaProg.lean LOADS. Nothing in Lean hashes anything: it is a label: what it is worth is what the hold of that sum in a sandbox is worth. -/
noncomputable def Try.pinned : Pinned := { name := "ytflkiiiomnogfaa", sum := "1505b43334c15fe7d075d17f6658feb394beab812b485c82dff2e54aec202eec", checked := Try.checked }
namespace Rows
def none {H : Type} : Left H := { results := [], args := [] }

/-- 'laws.FnExactIsAssociative': WHATEVER THE INPUT: true; the input reads as it did. -/
def fnExactIsAssociativeSpec : ChangeSpec := { name := "fnExactIsAssociative", fn := fun _ => fun
  | [d1, d2] => { results := [.lit (.bool true)], args := [d1, d2] }
  | _ => none }
def fnExactIsAssociativeRow : OpenClaim := { program := "ytflkiiiomnogfaa", sum := "1505b43334c15fe7d075d17f6658feb394beab812b485c82dff2e54aec202eec", func := "loop.example/g01078/laws.FnExactIsAssociative", spec := "fnExactIsAssociative", apart := false }
def FnExactIsAssociativeSaid : Prop := fnExactIsAssociativeRow.holds Try.pinned (OpenSpec.ofChange fnExactIsAssociativeSpec)

/-- ITS FALSE NEIGHBOUR: 'it returns false'. Refute it at one input. -/
def fnExactIsAssociativeWrong : ChangeSpec := { name := "fnExactIsAssociative", fn := fun _ => fun
  | [d1, d2] => { results := [.lit (.bool false)], args := [d1, d2] }
  | _ => none }
def FnExactIsAssociativeWrongFalsely : Prop := fnExactIsAssociativeRow.holds Try.pinned (OpenSpec.ofChange fnExactIsAssociativeWrong)

/-- 'laws.FnExactIsIdempotent': WHATEVER THE INPUT: true; the input reads as it did. -/
def fnExactIsIdempotentSpec : ChangeSpec := { name := "fnExactIsIdempotent", fn := fun _ => fun
  | [d1, d2] => { results := [.lit (.bool true)], args := [d1, d2] }
  | _ => none }
def fnExactIsIdempotentRow : OpenClaim := { program := "ytflkiiiomnogfaa", sum := "1505b43334c15fe7d075d17f6658feb394beab812b485c82dff2e54aec202eec", func := "loop.example/g01078/laws.FnExactIsIdempotent", spec := "fnExactIsIdempotent", apart := false }
def FnExactIsIdempotentSaid : Prop := fnExactIsIdempotentRow.holds Try.pinned (OpenSpec.ofChange fnExactIsIdempotentSpec)

/-- ITS FALSE NEIGHBOUR: 'it returns false'. Refute it at one input. -/
def fnExactIsIdempotentWrong : ChangeSpec := { name := "fnExactIsIdempotent", fn := fun _ => fun
  | [d1, d2] => { results := [.lit (.bool false)], args := [d1, d2] }
  | _ => none }
def FnExactIsIdempotentWrongFalsely : Prop := fnExactIsIdempotentRow.holds Try.pinned (OpenSpec.ofChange fnExactIsIdempotentWrong)

/-- 'laws.FnExactIsTerm': WHATEVER THE INPUT: true; the input reads as it did. -/
def fnExactIsTermSpec : ChangeSpec := { name := "fnExactIsTerm", fn := fun _ => fun
  | [d1, d2] => { results := [.lit (.bool true)], args := [d1, d2] }
  | _ => none }
def fnExactIsTermRow : OpenClaim := { program := "ytflkiiiomnogfaa", sum := "1505b43334c15fe7d075d17f6658feb394beab812b485c82dff2e54aec202eec", func := "loop.example/g01078/laws.FnExactIsTerm", spec := "fnExactIsTerm", apart := false }
def FnExactIsTermSaid : Prop := fnExactIsTermRow.holds Try.pinned (OpenSpec.ofChange fnExactIsTermSpec)

/-- ITS FALSE NEIGHBOUR: 'it returns false'. Refute it at one input. -/
def fnExactIsTermWrong : ChangeSpec := { name := "fnExactIsTerm", fn := fun _ => fun
  | [d1, d2] => { results := [.lit (.bool false)], args := [d1, d2] }
  | _ => none }
def FnExactIsTermWrongFalsely : Prop := fnExactIsTermRow.holds Try.pinned (OpenSpec.ofChange fnExactIsTermWrong)

/-- 'laws.FnExactSameType': WHATEVER THE INPUT: true; the input reads as it did. -/
def fnExactSameTypeSpec : ChangeSpec := { name := "fnExactSameType", fn := fun _ => fun
  | [d1, d2] => { results := [.lit (.bool true)], args := [d1, d2] }
  | _ => none }
def fnExactSameTypeRow : OpenClaim := { program := "ytflkiiiomnogfaa", sum := "1505b43334c15fe7d075d17f6658feb394beab812b485c82dff2e54aec202eec", func := "loop.example/g01078/laws.FnExactSameType", spec := "fnExactSameType", apart := false }
def FnExactSameTypeSaid : Prop := fnExactSameTypeRow.holds Try.pinned (OpenSpec.ofChange fnExactSameTypeSpec)

/-- ITS FALSE NEIGHBOUR: 'it returns false'. Refute it at one input. -/
def fnExactSameTypeWrong : ChangeSpec := { name := "fnExactSameType", fn := fun _ => fun
  | [d1, d2] => { results := [.lit (.bool false)], args := [d1, d2] }
  | _ => none }
def FnExactSameTypeWrongFalsely : Prop := fnExactSameTypeRow.holds Try.pinned (OpenSpec.ofChange fnExactSameTypeWrong)

/- THE SECOND FORM. 'bulk': how many values and letters a reading holds, each counted each time it is reached (what is shared counts as often as it is met; a slice's spare places count too). A statement '..UptoSaid' is the law's where the arguments, and the package variables that the reading takes, are together of bulk at most 1048576: NARROWER than '..Said'. Prove '..Said' where nothing that the law and all that it calls make is longer than what came in: it says more and counts as full. Else prove '..UptoSaid'. A law counts once. -/
mutual
def uptoBulk {H : Type} : DataW H → Nat
  | .lit (.string bytes) => bytes.length + 1
  | .lit _ => 1
  | .nil => 1
  | .ptr d => uptoBulk d + 1
  | .slice elems spare => uptoBulkAll elems + uptoBulkAll spare + 1
  | .agg parts => uptoBulkAll parts + 1
  | .iface _ d => uptoBulk d + 1
  | .map entries => uptoBulkEntries entries + 1
  | .held _ => 1
def uptoBulkAll {H : Type} : List (DataW H) → Nat
  | [] => 0
  | d :: r => uptoBulk d + uptoBulkAll r
def uptoBulkEntries {H : Type} : List (Lit × DataW H) → Nat
  | [] => 0
  | x :: r => uptoBulkEntry x + uptoBulkEntries r
def uptoBulkEntry {H : Type} : Lit × DataW H → Nat
  | (.string bytes, d) => bytes.length + uptoBulk d + 1
  | (_, d) => uptoBulk d + 1
 end
def uptoSmall : (H : Type) → List (DataW H) → Bool := fun _ ds => decide (uptoBulkAll ds ≤ 1048576)
def OpenSpec.upto (s : _root_.Go.ChangeSpec) : _root_.Go.OpenSpec := { _root_.Go.OpenSpec.ofChange s with cond := some uptoSmall }

/-- 'laws.FnExactIsAssociative', WHERE WHAT IT READS IS OF BULK AT MOST 1048576: true; the input reads as it did. -/
def fnExactIsAssociativeUptoRow : OpenClaim := { program := "ytflkiiiomnogfaa", sum := "1505b43334c15fe7d075d17f6658feb394beab812b485c82dff2e54aec202eec", func := "loop.example/g01078/laws.FnExactIsAssociative", spec := "fnExactIsAssociative", apart := false, narrowed := true }
def FnExactIsAssociativeUptoSaid : Prop := fnExactIsAssociativeUptoRow.holds Try.pinned (OpenSpec.upto fnExactIsAssociativeSpec)

/-- 'laws.FnExactIsIdempotent', WHERE WHAT IT READS IS OF BULK AT MOST 1048576: true; the input reads as it did. -/
def fnExactIsIdempotentUptoRow : OpenClaim := { program := "ytflkiiiomnogfaa", sum := "1505b43334c15fe7d075d17f6658feb394beab812b485c82dff2e54aec202eec", func := "loop.example/g01078/laws.FnExactIsIdempotent", spec := "fnExactIsIdempotent", apart := false, narrowed := true }
def FnExactIsIdempotentUptoSaid : Prop := fnExactIsIdempotentUptoRow.holds Try.pinned (OpenSpec.upto fnExactIsIdempotentSpec)

/-- 'laws.FnExactIsTerm', WHERE WHAT IT READS IS OF BULK AT MOST 1048576: true; the input reads as it did. -/
def fnExactIsTermUptoRow : OpenClaim := { program := "ytflkiiiomnogfaa", sum := "1505b43334c15fe7d075d17f6658feb394beab812b485c82dff2e54aec202eec", func := "loop.example/g01078/laws.FnExactIsTerm", spec := "fnExactIsTerm", apart := false, narrowed := true }
def FnExactIsTermUptoSaid : Prop := fnExactIsTermUptoRow.holds Try.pinned (OpenSpec.upto fnExactIsTermSpec)

/-- 'laws.FnExactSameType', WHERE WHAT IT READS IS OF BULK AT MOST 1048576: true; the input reads as it did. -/
def fnExactSameTypeUptoRow : OpenClaim := { program := "ytflkiiiomnogfaa", sum := "1505b43334c15fe7d075d17f6658feb394beab812b485c82dff2e54aec202eec", func := "loop.example/g01078/laws.FnExactSameType", spec := "fnExactSameType", apart := false, narrowed := true }
def FnExactSameTypeUptoSaid : Prop := fnExactSameTypeUptoRow.holds Try.pinned (OpenSpec.upto fnExactSameTypeSpec)

end Rows
end Go.Proofs.Ytflkiiiomnogfaa
