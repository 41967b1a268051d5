/- For every loom-like argument the program's IsLoom answers as the reference's. -/
import Derived.Test.YtihkopkoiibahaaGx5
import Derived.Test.YtihkopkoiibahaaPBase
namespace Go.Proofs.Ytihkopkoiibahaa.Pure
open Go.RowKit Go.Proofs.Ytihkopkoiibahaa.G Go.Proofs.YtihkopkoiibahaaW.PrintWords Go.Proofs.YtihkopkoiibahaaW.PrintLast
set_option linter.unusedSimpArgs false
set_option linter.unusedVariables false

theorem FnExactIsLoom (a b c d e : Int) (_ : (-9223372036854775808 ≤ a ∧ a ≤ 9223372036854775807)) (_ : (-9223372036854775808 ≤ b ∧ b ≤ 9223372036854775807)) (_ : (-9223372036854775808 ≤ c ∧ c ≤ 9223372036854775807)) (_ : (-9223372036854775808 ≤ d ∧ d ≤ 9223372036854775807)) (_ : (-9223372036854775808 ≤ e ∧ e ≤ 9223372036854775807)) : ∃ k, laws_FnExactIsLoom.f k a b c d e = some true := by
  refine ⟨1, ?_⟩
  have h1 := l5One_eq ⟨a, b, c, d, e⟩ 0
  have h2 := P_impl_IsLoom_eq ⟨a, b, c, d, e⟩
  dsimp only at h1 h2
  simp only [laws_FnExactIsLoom.f, laws_toLoom.f, spec_IsLoom.f, Option.bind_some, h1, h2]
  simp
end Go.Proofs.Ytihkopkoiibahaa.Pure
