/- A world in which the listed tables and the two errors lie as the rows list them, and what the rows' condition gives a walk. -/
import Derived.Test.YthofhfmdomppeabDoorLay
import Derived.Test.YthofhfmdomppeabDoorParse
import Derived.Stop.LaidErr
namespace Go.Proofs.YthofhfmdomppeabDoor.LayErr
open Go.RowKit
abbrev textR : ByteArray := { data := #[118, 97, 108, 117, 101, 32, 111, 117, 116, 32, 111, 102, 32, 114, 97, 110, 103, 101] }
abbrev textS : ByteArray := { data := #[105, 110, 118, 97, 108, 105, 100, 32, 115, 121, 110, 116, 97, 120] }
noncomputable def low : Nat := (World.holding Tryd.prog default ⟨#[], #[], []⟩).heap.size
/-- The settled world, the three tables laid (blocks 3, 6, 7), the two errors (blocks 1, 2). -/
noncomputable def world (os : Os) : World :=
  let w0 := World.holding Tryd.prog os ⟨#[.cells #[.string textR] 103, .cells #[.string textS] 103], #[], []⟩
  let put := fun (d : DataW Unit) (o : Obj) => match o with
    | .cells _ t frozen => Obj.cells (Lay.cellsOf d).toArray t frozen
    | o => o
  let err := fun (a : Addr) (o : Obj) => match o with
    | .cells _ t frozen => Obj.cells #[.iface 101 (.pointer (some a))] t frozen
    | o => o
  { w0 with heap := ((((w0.heap.modify 3 (put Rows.laid_internal_strconv_uint64pow10)).modify 6 (put Rows.laid_math_bits_deBruijn32tab)).modify 7 (put Rows.laid_math_bits_deBruijn64tab)).modify 2 (err ⟨low, 0, none⟩)).modify 1 (err ⟨low + 1, 0, none⟩) }
def laid2 : List (String × DataW Unit) := [("strconv.ErrRange", Rows.laid_strconv_ErrRange), ("strconv.ErrSyntax", Rows.laid_strconv_ErrSyntax)]
def laid5 : List (String × DataW Unit) := [("math/bits.deBruijn32tab", Rows.laid_math_bits_deBruijn32tab), ("math/bits.deBruijn64tab", Rows.laid_math_bits_deBruijn64tab), ("internal/strconv.uint64pow10", Rows.laid_internal_strconv_uint64pow10), ("strconv.ErrRange", Rows.laid_strconv_ErrRange), ("strconv.ErrSyntax", Rows.laid_strconv_ErrSyntax)]
theorem met (os : Os) (args : Array Value) : laidMet Tryd.prog laid5 ((world os).forCall (fun _ _ => 0) ⟨#[], args, []⟩).memory :=
  laidMet_of_run3 8 (by kernel_rfl) (by kernel_rfl) (by kernel_rfl)
theorem tab {W : World} (h : laidMet Tryd.prog laid5 W) : Fmt.Tab W := by
  obtain ⟨g', t', cs, fuel, p, hg', ht', hvar, hd⟩ := Lib.laidMet.reads h (n := "internal/strconv.uint64pow10") (d := Rows.laid_internal_strconv_uint64pow10) (.tail _ (.tail _ (.head _)))
  obtain rfl := Option.some.inj (Fmt.gT.symm.trans hg')
  obtain rfl := Option.some.inj (Lay.gTType.symm.trans ht')
  rw [Lay.pow10] at hd
  unfold Fmt.Tab Lib.TabIs
  rw [hvar, ← Lib.cells_of_tab Tryd.underlying96 Tryd.underlying54 (by kernel_rfl) (by kernel_rfl) hd]
theorem tS : (Tryd.prog.globals[1]?).map (·.type) = some 45 := by kernel_rfl
theorem tR : (Tryd.prog.globals[2]?).map (·.type) = some 45 := by kernel_rfl
theorem c103 : Tryd.prog.cellsOf 103 = 1 := by kernel_rfl
theorem c9 : Tryd.prog.cellsOf 9 = 1 := by kernel_rfl
theorem star : "*" ++ "errors.errorString" = "*errors.errorString" := by decide
theorem row101 (u : TypeId) (h : Tryd.prog.typeName? 3 u = some "*errors.errorString") : u = 101 :=
  typeName_ptr_named (nm := "errors.errorString") (by rw [star]; kernel_rfl) (by kernel_rfl) (by decide) u (by rw [star]; exact h)
theorem errs {W : World} (h : laidMet Tryd.prog laid5 W) : Parse.Errs W := by
  have h2 := h.tail.tail.tail
  obtain ⟨a0, s0, hv0, -, -, -⟩ := laid_sentinel h2 Parse.gR tR Tryd.underlying45 row101 Tryd.underlying101 Tryd.underlying103 rfl rfl Tryd.underlying9 c103 c9
  obtain ⟨a1, s1, hv1, -, -, -⟩ := laid_sentinel h2.tail Parse.gS tS Tryd.underlying45 row101 Tryd.underlying101 Tryd.underlying103 rfl rfl Tryd.underlying9 c103 c9
  exact ⟨⟨_, _, hv1⟩, _, _, hv0⟩
end Go.Proofs.YthofhfmdomppeabDoor.LayErr
