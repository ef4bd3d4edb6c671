/- Words of the print: lemmas on memory and on the walk that the texts of this claim reach (the others are left out). -/
import Derived.Test.YtcgkgimkpndhmabWInv
import Derived.Test.YtcgkgimkpndhmabWFootNe
namespace Go.Proofs.YtcgkgimkpndhmabW.PrintWords
open Go.RowKit
end Go.Proofs.YtcgkgimkpndhmabW.PrintWords
namespace Go.Proofs.YtcgkgimkpndhmabW.PrintLast
section
variable {ops : Array Oper} {a : Act} {o og : Oper} {g : Nat} {t : Tmp} {u : Bool}
end
end Go.Proofs.YtcgkgimkpndhmabW.PrintLast

