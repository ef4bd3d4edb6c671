/- Words of the print: lemmas on memory and on the walk that the texts of this claim reach (the others are left out). -/
import Derived.Test.YtcgkgimkpndhmabWTab
namespace Go.Proofs.YtcgkgimkpndhmabW.PrintLast
section
variable {P : Program} {ops : Array Oper} {Q : Exit → Act → World → Prop} {md : Region.Mode} {T : Bool × List (List Nat × List Nat)} {B : List Nat} {O : List Nat} {b : Nat → Bool} {i j n : Nat}
def Closed (T : List (List Nat × List Nat)) (O : List Nat) (b : Nat → Bool) : Prop := ∀ d r, T[d]? = some r → O.contains d = true → b d = true → ∀ n ∈ r.1, O.contains n = true → b n = true
end
end Go.Proofs.YtcgkgimkpndhmabW.PrintLast

