/- What is known of a valid loom. -/
import Derived.Test.YtgjngpjeflmlmaaGx1
import Derived.Test.YtgjngpjeflmlmaaGx2
import Derived.Test.YtgjngpjeflmlmaaGx7
import Derived.Test.YtgjngpjeflmlmaaPBase
namespace Go.Proofs.Ytgjngpjeflmlmaa.Pure
open Go.RowKit Go.Proofs.Ytgjngpjeflmlmaa.G Go.Proofs.YtgjngpjeflmlmaaW.PrintWords Go.Proofs.YtgjngpjeflmlmaaW.PrintLast
set_option linter.unusedSimpArgs false
set_option linter.unusedVariables false

/-- What is known of a valid loom. -/
theorem loom_parts {x : S36} (h : P_impl_IsLoom x = true) : 1 ≤ x.f0 ∧ 30 ≤ x.f1 ∧ x.f1 ≤ 600 ∧ 0 ≤ x.f3 ∧ x.f3 ≤ 500 ∧ (x.f4 = 0 ∨ ((x.f4 = 1 ∨ x.f4 = 2) ∧ 50 ≤ x.f3) ∨ x.f4 = 3) := by
  have e := P_impl_IsLoom_eq x
  rw [h] at e
  simp only [impl_IsLoom.f, impl_IsLoom.j0, impl_isId.f, impl_isWide.f, impl_in_some, Option.bind_some] at e
  repeat' split at e
  all_goals simp at *
  all_goals omega
end Go.Proofs.Ytgjngpjeflmlmaa.Pure
