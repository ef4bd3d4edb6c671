/- A world in which the three listed tables lie as the rows list them, and what the rows' condition gives a walk. -/
import Derived.Test.YthofhfmdomppeabDoorRows
import Derived.Test.YthofhfmdomppeabDoorFmt
import Derived.WalkKit
import Derived.ProofKit
import Derived.OpenShut
import Derived.ChangeOld
import Derived.Below
import Derived.SizedLaws
import Derived.Carry
import Derived.ChangeSame
import Derived.ChangeVars
import Derived.JoinedOf
import Derived.LaidLaws
import Derived.Handed
import Derived.Lib.LaidU8
import Derived.Deep.DeepLaidRun
namespace Go.Proofs.YthofhfmdomppeabDoor.Lay
open Go.RowKit
theorem own : ownKnob Tryd.prog.godebug = none := by kernel_rfl
def cellsOf : DataW Unit → List Value
  | .agg ds => ds.map fun
    | .lit (.int k z) => .int k z
    | _ => .bool false
  | _ => []
/-- The settled world, the three tables laid (blocks 3, 6, 7). -/
noncomputable def world (os : Os) : World :=
  let w0 := World.holding Tryd.prog os ⟨#[], #[], []⟩
  let put := fun (d : DataW Unit) (o : Obj) => match o with
    | .cells _ t frozen => Obj.cells (cellsOf d).toArray t frozen
    | o => o
  { w0 with heap := ((w0.heap.modify 3 (put Rows.laid_internal_strconv_uint64pow10)).modify 6 (put Rows.laid_math_bits_deBruijn32tab)).modify 7 (put Rows.laid_math_bits_deBruijn64tab) }
def laid3 : List (String × DataW Unit) := [("math/bits.deBruijn32tab", Rows.laid_math_bits_deBruijn32tab), ("math/bits.deBruijn64tab", Rows.laid_math_bits_deBruijn64tab), ("internal/strconv.uint64pow10", Rows.laid_internal_strconv_uint64pow10)]
theorem met (os : Os) (args : Array Value) : laidMet Tryd.prog laid3 ((world os).forCall (fun _ _ => 0) ⟨#[], args, []⟩).memory :=
  laidMet_of_run3 8 (by kernel_rfl) (by kernel_rfl) (by kernel_rfl)
theorem gTType : (Tryd.prog.globals[3]?).map (·.type) = some 96 := by kernel_rfl
theorem pow10 : Rows.laid_internal_strconv_uint64pow10 (H := Unit) = Lib.tabData .u64 Lib.pow10Tab := by rfl
theorem tab {W : World} (h : laidMet Tryd.prog laid3 W) : Fmt.Tab W := by
  obtain ⟨g', t', cs, fuel, p, hg', ht', hvar, hd⟩ := Lib.laidMet.reads h (n := "internal/strconv.uint64pow10") (d := Rows.laid_internal_strconv_uint64pow10) (.tail _ (.tail _ (.head _)))
  obtain rfl := Option.some.inj (Fmt.gT.symm.trans hg')
  obtain rfl := Option.some.inj (gTType.symm.trans ht')
  rw [pow10] at hd
  unfold Fmt.Tab Lib.TabIs
  rw [hvar, ← Lib.cells_of_tab Tryd.underlying96 Tryd.underlying54 (by kernel_rfl) (by kernel_rfl) hd]
end Go.Proofs.YthofhfmdomppeabDoor.Lay
