/- A world in which the two tables of unicode/utf8 lie as the rows list them. -/
import Derived.Test.YthofhfmdomppeabDoorLay
import Derived.Test.YthofhfmdomppeabDoorSplit
namespace Go.Proofs.YthofhfmdomppeabDoor.LayUtf
open Go.RowKit
def cellsOne : DataW Unit → List Value
  | .lit (.int k z) => [.int k z]
  | .agg ds => ds.map fun
    | .lit (.int k z) => .int k z
    | _ => .bool false
  | _ => []
def cellsOf : DataW Unit → List Value
  | .agg ds => ds.flatMap cellsOne
  | _ => []
noncomputable def world (os : Os) : World :=
  let w0 := World.holding Tryd.prog os ⟨#[], #[], []⟩
  let put := fun (d : DataW Unit) (o : Obj) => match o with
    | .cells _ t frozen => Obj.cells (cellsOf d).toArray t frozen
    | o => o
  { w0 with heap := (w0.heap.modify 4 (put Rows.laid_unicode_utf8_first)).modify 5 (put Rows.laid_unicode_utf8_acceptRanges) }
def laidU : List (String × DataW Unit) := [("unicode/utf8.acceptRanges", Rows.laid_unicode_utf8_acceptRanges), ("unicode/utf8.first", Rows.laid_unicode_utf8_first)]
theorem g4 : Tryd.prog.globalNamed "unicode/utf8.first" = some 4 := by kernel_rfl
theorem g5 : Tryd.prog.globalNamed "unicode/utf8.acceptRanges" = some 5 := by kernel_rfl
theorem met (os : Os) (args : Array Value) : laidMet Tryd.prog laidU ((world os).forCall (fun _ _ => 0) ⟨#[], args, []⟩).memory :=
  laidMet_of_run3 8 (by kernel_rfl) (by kernel_rfl) (by kernel_rfl)
theorem max {W : World} (h : W.ShapedOpen Tryd.prog) : Split.Max W := Tryd.laysM146.s1_3 W h
end Go.Proofs.YthofhfmdomppeabDoor.LayUtf
