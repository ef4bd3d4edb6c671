/- Words of the print: lemmas on memory and on the walk that the texts of this claim reach (the others are left out). -/
import Derived.Test.YtcgkgimkpndhmabWFootNe
namespace Go.Proofs.YtcgkgimkpndhmabW.PrintWords
open Go.RowKit
section
variable {w w' u : World} {m B g : Nat} {o : Obj} {row : Option Nat} {S : Nat → Prop} {a : Addr} {v : Value}
theorem below_at (hq : w.drewN m = w') (h : Below B u w) : Below B u w' := by subst hq; exact pw_below_drewN h m
end
namespace Kd
section
variable {α : Type} {d : Kd α} {e base n m : Nat} {ok : Nat → Prop} {w w' : World} {v : Value} {A : Option Addr} {xs : List α}
end
end Kd
end Go.Proofs.YtcgkgimkpndhmabW.PrintWords

