/- The plain statement of FnExactLessString: for every two strings the law's answer is true. -/
import Derived.Test.YtmbpdhboldiakaaPFnExactLessStringx1
namespace Go.Proofs.Ytmbpdhboldiakaa.Pure
open Go.RowKit Go.Proofs.Ytmbpdhboldiakaa.PFnExactLessString Go.Proofs.YtmbpdhboldiakaaW.PrintWords Go.Proofs.YtmbpdhboldiakaaW.PrintLast

theorem FnExactLessString : laws_FnExactLessString.Pure := by
  intro a b _ _
  unfold laws_FnExactLessString.f spec_LessString.f impl_LessString.f
  split
  · rfl
  · split
    · rfl
    · simp

end Go.Proofs.Ytmbpdhboldiakaa.Pure
