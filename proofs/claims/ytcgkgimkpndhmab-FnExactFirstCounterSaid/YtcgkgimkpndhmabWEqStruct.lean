/- Words of the print: lemmas on memory and on the walk that the texts of this claim reach (the others are left out). -/
import Derived.Test.YtcgkgimkpndhmabWWords
import Derived.Laws.StructEq
namespace Go.Proofs.YtcgkgimkpndhmabW.PrintWords
open Go.RowKit
section
variable {P : Program} {d : Nat} {xs ys : Array Value} {f : Field} {fs : List Field} {a b : Value} {r s : Bool} {w : World}
end
end Go.Proofs.YtcgkgimkpndhmabW.PrintWords

