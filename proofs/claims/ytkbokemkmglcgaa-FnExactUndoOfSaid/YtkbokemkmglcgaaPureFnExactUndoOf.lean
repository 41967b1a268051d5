/- For any int the program's UndoOf agrees with the reference's. No further condition. -/
import Derived.Test.YtkbokemkmglcgaaPFnExactUndoOfx1
namespace Go.Proofs.Ytkbokemkmglcgaa.Pure
open Go.RowKit Go.Proofs.Ytkbokemkmglcgaa.PFnExactUndoOf Go.Proofs.YtkbokemkmglcgaaW.PrintWords Go.Proofs.YtkbokemkmglcgaaW.PrintLast

theorem FnExactUndoOf : laws_FnExactUndoOf.Pure := by
  intro a0 _
  unfold laws_FnExactUndoOf.f spec_UndoOf.f impl_UndoOf.f spec_l4Symmetry.f impl_isSymmetry.f spec_l1In.f impl_in.f
  by_cases h0 : a0 ≥ 0 <;> by_cases h1 : a0 ≤ 7 <;> by_cases h2 : a0 ≥ 4
  all_goals (have h3 : a0 < 4 ↔ ¬ a0 ≥ 4 := by omega)
  all_goals simp [h0, h1, h2, h3]

end Go.Proofs.Ytkbokemkmglcgaa.Pure
