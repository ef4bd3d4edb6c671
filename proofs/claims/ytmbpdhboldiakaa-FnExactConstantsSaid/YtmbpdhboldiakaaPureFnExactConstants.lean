/- The plain statement of FnExactConstants: the law's answer is true. -/
import Derived.Test.YtmbpdhboldiakaaPFnExactConstantsx1
namespace Go.Proofs.Ytmbpdhboldiakaa.Pure
open Go.RowKit Go.Proofs.Ytmbpdhboldiakaa.PFnExactConstants Go.Proofs.YtmbpdhboldiakaaW.PrintWords Go.Proofs.YtmbpdhboldiakaaW.PrintLast

theorem FnExactConstants : laws_FnExactConstants.Pure := rfl

end Go.Proofs.Ytmbpdhboldiakaa.Pure
