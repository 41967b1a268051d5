/- What is known of a valid loom. -/
import Derived.Test.YtihkopkoiibahaaPBase
namespace Go.Proofs.Ytihkopkoiibahaa.Pure
open Go.RowKit Go.Proofs.Ytihkopkoiibahaa.G Go.Proofs.YtihkopkoiibahaaW.PrintWords Go.Proofs.YtihkopkoiibahaaW.PrintLast
set_option linter.unusedSimpArgs false
set_option linter.unusedVariables false

/-- What is known of a valid loom. -/
theorem loom_parts {x : S25} (h : P_impl_IsLoom x = true) : 1 ≤ x.f0 ∧ 30 ≤ x.f1 ∧ x.f1 ≤ 600 ∧ 0 ≤ x.f3 ∧ x.f3 ≤ 500 ∧ (x.f4 = 0 ∨ ((x.f4 = 1 ∨ x.f4 = 2) ∧ 50 ≤ x.f3) ∨ x.f4 = 3) := by
  have e := P_impl_IsLoom_eq x
  rw [h] at e
  simp only [impl_IsLoom.f, impl_IsLoom.j0, impl_isId.f, impl_isWide.f, impl_in_some, Option.bind_some] at e
  repeat' split at e
  all_goals simp at *
  all_goals omega
end Go.Proofs.Ytihkopkoiibahaa.Pure
