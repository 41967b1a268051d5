/- FnExactConstants returns true: every constant compared has the expected value. No further condition. -/
import Derived.Test.YtkbokemkmglcgaaPFnExactConstantsx1
namespace Go.Proofs.Ytkbokemkmglcgaa.Pure
open Go.RowKit Go.Proofs.Ytkbokemkmglcgaa.PFnExactConstants Go.Proofs.YtkbokemkmglcgaaW.PrintWords Go.Proofs.YtkbokemkmglcgaaW.PrintLast

theorem FnExactConstants : laws_FnExactConstants.Pure := by
  rfl

end Go.Proofs.Ytkbokemkmglcgaa.Pure
