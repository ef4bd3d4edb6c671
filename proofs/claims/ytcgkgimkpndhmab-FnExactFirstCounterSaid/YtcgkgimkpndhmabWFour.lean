/- Words of the print: lemmas on memory and on the walk that the texts of this claim reach (the others are left out). -/
import Derived.Test.YtcgkgimkpndhmabWTab
namespace Go.Proofs.YtcgkgimkpndhmabW.PrintLast
section
variable {P : Program} {ops : Array Oper} {Q : Exit → Act → World → Prop} {md : Region.Mode} {S : World → Prop} {ds : List Nat} {T : Bool × List (List Nat × List Nat)}
end
end Go.Proofs.YtcgkgimkpndhmabW.PrintLast

