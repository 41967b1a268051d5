/- For any two strings the program's LessString agrees with the reference's. No further condition. -/
import Derived.Test.YtkbokemkmglcgaaPFnExactLessStringx1
namespace Go.Proofs.Ytkbokemkmglcgaa.Pure
open Go.RowKit Go.Proofs.Ytkbokemkmglcgaa.PFnExactLessString Go.Proofs.YtkbokemkmglcgaaW.PrintWords Go.Proofs.YtkbokemkmglcgaaW.PrintLast

theorem FnExactLessString : laws_FnExactLessString.Pure := by
  intro a0 a1 _ _
  unfold laws_FnExactLessString.f spec_LessString.f impl_LessString.f
  simp

end Go.Proofs.Ytkbokemkmglcgaa.Pure
