/- The gap between two places on the wheel: the reference's and the program's. -/
import Derived.Test.YtggikmajopmchaaDoorGx2
import Derived.Test.YtggikmajopmchaaDoorGx10
import Derived.Test.YtggikmajopmchaaDoorPBase
namespace Go.Proofs.YtggikmajopmchaaDoor.Pure
open Go.RowKit Go.Proofs.YtggikmajopmchaaDoor.G Go.Proofs.YtggikmajopmchaaDoorW.PrintWords Go.Proofs.YtggikmajopmchaaDoorW.PrintLast
set_option linter.unusedSimpArgs false
set_option linter.unusedVariables false

theorem gap_eq (a b : Int) (h0 : 0 ≤ a) (h1 : a ≤ 23) (h2 : 0 ≤ b) (h3 : b ≤ 23) : ∃ r, spec_l3Gap.f a b = some r ∧ impl_wheelGap.f a b = some r ∧ 0 ≤ r ∧ r ≤ 24 := by
  unfold spec_l3Gap.f impl_wheelGap.f spec_l3Apart.f spec_l1Most.f impl_abs.f spec_l1Least.f
  rw [wrap_in (x := a - b) (by omega) (by omega), wrap_in (x := b - a) (by omega) (by omega), wrap_in (x := -(a - b)) (by omega) (by omega)]
  have hm : mx (a - b) (-(a - b)) = if a - b > b - a then a - b else b - a := by unfold mx; split <;> split <;> omega
  have hs : (if a - b > b - a then some (a - b) else some (b - a)) = some (if a - b > b - a then a - b else b - a) := by split <;> rfl
  simp only [Option.bind_some, hm, hs]
  generalize hd : (if a - b > b - a then a - b else b - a) = d
  have hd0 : 0 ≤ d ∧ d ≤ 23 := by rw [← hd]; split <;> omega
  rw [wrap_in (x := 24 - d) (by omega) (by omega)]
  refine ⟨mn d (24 - d), ?_, rfl, by unfold mn; omega, by unfold mn; omega⟩
  unfold mn
  split
  · rw [if_neg (by omega)]; rfl
  · split
    · rfl
    · simp only [Option.bind_some]
      congr 1
      omega
end Go.Proofs.YtggikmajopmchaaDoor.Pure
