/- Contracts of Go functions, each with a plain Lean function of the same answers: whatever the arguments, the call comes to what the Lean function tells. Written by a program of this session. -/
import Derived.Test.YthofhfmdomppeaaProg
import Derived.Below
import Derived.Deep.Draws
import Derived.Deep.AppendLies
import Derived.Maps.AppendAt
import Derived.OwnWalk
import Derived.Laws.BytesArg
import Derived.Laws.MakeOwn
import Derived.Laws.OwnMore
import Derived.Deep.OwnRows
import Derived.Tactics
import Derived.Lib.ConvBytes
import Derived.Laws.Slices
import Derived.WalkKit
import Derived.KernelRfl
import Derived.RowKit3
import Derived.Deep.LoopGhost
import Derived.Deep.QuietTactic
import Derived.BigQuiet
import Derived.WideLaws
import Derived.Deep.DeepCutAuto
import Derived.Deep.CutBlock
import Derived.Deep.RegionHeld3
import Derived.Laws.Rows
import Derived.Lib.AppendStr
import Derived.ArgAppend
import Derived.Laws.IdiomCopy
import Derived.OrdersHeld
import Derived.Laws.BitsLemmas
import Derived.RowKit
import Derived.Test.YthofhfmdomppeaaLawKit
import Derived.Test.YthofhfmdomppeaaShelf
import Derived.Lib.SplitLaws
import Derived.Lib.Join
import Derived.Test.YthofhfmdomppeaaWWords
import Derived.Test.YthofhfmdomppeaaWLast
import Derived.Test.YthofhfmdomppeaaWTab
import Derived.Test.YthofhfmdomppeaaWFour
import Derived.Test.YthofhfmdomppeaaWQPut
import Derived.Test.YthofhfmdomppeaaWApart
import Derived.Test.YthofhfmdomppeaaWArr
import Derived.Test.YthofhfmdomppeaaWZeros
import Derived.Test.YthofhfmdomppeaaWFoot
import Derived.Test.YthofhfmdomppeaaWKept
import Derived.Test.YthofhfmdomppeaaWShare
import Derived.Test.YthofhfmdomppeaaWN
import Derived.Test.YthofhfmdomppeaaWFootNe
import Derived.Test.YthofhfmdomppeaaWAt
import Derived.Test.YthofhfmdomppeaaWEqStruct
import Derived.Test.YthofhfmdomppeaaWRepsOne
import Derived.Test.YthofhfmdomppeaaWInv
import Derived.Test.YthofhfmdomppeaaWInvWords
import Derived.Test.YthofhfmdomppeaaWGuard
import Derived.Test.YthofhfmdomppeaaWNEv
import Derived.Test.YthofhfmdomppeaaWMore
namespace Go.Proofs.Ythofhfmdomppeaa.Q
open Go.RowKit Go.Proofs.YthofhfmdomppeaaW.PrintWords Go.Proofs.YthofhfmdomppeaaW.PrintLast Go.Proofs.YthofhfmdomppeaaW.PrintMore
attribute [local go_sem] max2_int min2_int max_two min_two max_three min_three max_four min_four   -- for this text's walks alone
set_option linter.unusedVariables false
set_option linter.unusedSimpArgs false



def errW : Option Int → Value
  | none => .nilIface
  | some c => .iface 0 (.int .i64 c)
theorem errW_none : errW none = .nilIface := rfl
theorem errW_some (c : Int) : errW (some c) = .iface 0 (.int .i64 c) := rfl

theorem info9 : (Try.prog.info? 9).map (fun i => (i.zero, i.size, i.bytes)) = some (some (.string ⟨#[]⟩), 1, 16) := by kernel_rfl
-- the values' own types

end Go.Proofs.Ythofhfmdomppeaa.Q
