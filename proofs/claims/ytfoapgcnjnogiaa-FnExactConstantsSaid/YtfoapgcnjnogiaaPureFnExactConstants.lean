/- FnExactConstants: the law answers true; it takes no argument, and there is no condition. -/
import Derived.Test.YtfoapgcnjnogiaaPFnExactConstantsx1
namespace Go.Proofs.Ytfoapgcnjnogiaa.Pure
open Go.RowKit Go.Proofs.Ytfoapgcnjnogiaa.PFnExactConstants Go.Proofs.YtfoapgcnjnogiaaW.PrintWords Go.Proofs.YtfoapgcnjnogiaaW.PrintLast

theorem FnExactConstants : laws_FnExactConstants.Pure := by
  unfold laws_FnExactConstants.Pure
  rfl

end Go.Proofs.Ytfoapgcnjnogiaa.Pure
