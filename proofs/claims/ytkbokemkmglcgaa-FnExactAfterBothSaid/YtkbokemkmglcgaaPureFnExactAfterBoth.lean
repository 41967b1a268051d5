/- For any two ints the program's AfterBoth agrees with the reference's. No further condition. -/
import Derived.Test.YtkbokemkmglcgaaGFnExactAfterBothx1
namespace Go.Proofs.Ytkbokemkmglcgaa.Pure
open Go.RowKit Go.Proofs.Ytkbokemkmglcgaa.GFnExactAfterBoth Go.Proofs.YtkbokemkmglcgaaW.PrintWords Go.Proofs.YtkbokemkmglcgaaW.PrintLast

theorem FnExactAfterBoth : laws_FnExactAfterBoth.Pure := by
  intro a0 a1 _ _
  unfold laws_FnExactAfterBoth.f spec_AfterBoth.f impl_AfterBoth.f spec_l4Symmetry.f spec_l1In.f spec_l4Both.f
  by_cases h0 : 0 ≤ a0 <;> by_cases h1 : a0 ≤ 7 <;> by_cases h2 : 0 ≤ a1 <;> by_cases h3 : a1 ≤ 7 <;> simp [h0, h1, h2, h3]

end Go.Proofs.Ytkbokemkmglcgaa.Pure
