/- Plain facts on fading. -/
import Derived.Test.YtcfkgcdhioamnaaDoorGx3
import Derived.Test.YtcfkgcdhioamnaaDoorGx6
import Derived.Test.YtcfkgcdhioamnaaDoorPBase
namespace Go.Proofs.YtcfkgcdhioamnaaDoor.Pure
open Go.RowKit Go.Proofs.YtcfkgcdhioamnaaDoor.G Go.Proofs.YtcfkgcdhioamnaaDoorW.PrintWords Go.Proofs.YtcfkgcdhioamnaaDoorW.PrintLast
set_option linter.unusedSimpArgs false
set_option linter.unusedVariables false

theorem years_spec (y : Int) : spec_l3Years.f y = some (decide (0 ≤ y) && decide (y ≤ 200)) := by unfold spec_l3Years.f; rw [l1In_eq]; rfl
theorem years_impl (y : Int) : impl_isYears.f y = some (decide (0 ≤ y) && decide (y ≤ 200)) := by unfold impl_isYears.f; rw [in_eq]; rfl
theorem faded_eq (a : Int) (n : ByteArray) (b c d y : Int) (h0 : 0 ≤ c) (h1 : c ≤ 9) (h2 : 1 ≤ d) (h3 : d ≤ 8) (h4 : 0 ≤ y) (h5 : y ≤ 200) :
    ∃ e, spec_l3Faded.f a n b c d y = some (a, n, b, e, d) ∧ impl_Shade_faded.f a n b c d y = some (a, n, b, e, d) ∧ 0 ≤ e ∧ e ≤ 9 := by
  have q0 : 0 ≤ y / (5 * d) := Int.ediv_nonneg h4 (by omega)
  have q1 : y / (5 * d) ≤ y := Int.ediv_le_self _ h4
  unfold spec_l3Faded.f impl_Shade_faded.f spec_l1Most.f
  have hz : ¬ 5 * d = 0 := by omega
  rw [wrap_in (x := 5 * d) (by omega) (by omega), if_neg hz, if_neg hz, tdiv_nn h4]
  generalize y / (5 * d) = q at q0 q1 ⊢
  rw [wrap_in (x := q) (by omega) (by omega), wrap_in (x := c - q) (by omega) (by omega)]
  by_cases z : (0 : Int) > c - q
  · refine ⟨0, by rw [if_pos z]; rfl, ?_, by omega, by omega⟩
    congr 5
    unfold mx
    omega
  · refine ⟨c - q, by rw [if_neg z]; rfl, ?_, by omega, by omega⟩
    congr 5
    unfold mx
    omega
end Go.Proofs.YtcfkgcdhioamnaaDoor.Pure
