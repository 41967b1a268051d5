/- Plain facts on the distance of shades. -/
import Derived.Test.YtggikmajopmchaaDoorGx10
import Derived.Test.YtggikmajopmchaaDoorGx17
import Derived.Test.YtggikmajopmchaaDoorGx2
import Derived.Test.YtggikmajopmchaaDoorPBase
import Derived.Test.YtggikmajopmchaaDoorPGap
namespace Go.Proofs.YtggikmajopmchaaDoor.Pure
open Go.RowKit Go.Proofs.YtggikmajopmchaaDoor.G Go.Proofs.YtggikmajopmchaaDoorW.PrintWords Go.Proofs.YtggikmajopmchaaDoorW.PrintLast
set_option linter.unusedSimpArgs false
set_option linter.unusedVariables false

theorem apart_eq (c e : Int) (h0 : 0 ≤ c) (h1 : c ≤ 9) (h2 : 0 ≤ e) (h3 : e ≤ 9) : ∃ r, spec_l3Apart.f c e = some r ∧ impl_abs.f (c - e) = some r ∧ 0 ≤ r ∧ r ≤ 9 := by
  unfold spec_l3Apart.f spec_l1Most.f impl_abs.f
  rw [wrap_in (x := c - e) (by omega) (by omega), wrap_in (x := e - c) (by omega) (by omega), wrap_in (x := -(c - e)) (by omega) (by omega)]
  by_cases q : c - e > e - c
  · refine ⟨c - e, by rw [if_pos q]; rfl, ?_, by omega, by omega⟩
    congr 1
    unfold mx
    omega
  · refine ⟨e - c, by rw [if_neg q]; rfl, ?_, by omega, by omega⟩
    congr 1
    unfold mx
    omega
theorem far_eq (a : Int) (n : ByteArray) (b c d a' : Int) (n' : ByteArray) (b' c' d' : Int) (h0 : 0 ≤ b) (h1 : b ≤ 23) (h2 : 0 ≤ b') (h3 : b' ≤ 23) (h4 : 0 ≤ c) (h5 : c ≤ 9) (h6 : 0 ≤ c') (h7 : c' ≤ 9) :
    ∃ r, spec_l3Far.f a n b c d b' c' = some r ∧ impl_Shade_distance.f a n b c d a' n' b' c' d' = some r ∧ 0 ≤ r ∧ r ≤ 100 := by
  obtain ⟨g, g1, g2, g3, g4⟩ := gap_eq b b' h0 h1 h2 h3
  obtain ⟨q, q1, q2, q3, q4⟩ := apart_eq c c' h4 h5 h6 h7
  unfold spec_l3Far.f impl_Shade_distance.f
  rw [g1, g2, q1, wrap_in (x := c - c') (by omega) (by omega), q2]
  simp only [Option.bind_some]
  rw [wrap_in (x := 2 * g) (by omega) (by omega), wrap_in (x := 2 * g + q) (by omega) (by omega)]
  exact ⟨2 * g + q, rfl, rfl, by omega, by omega⟩
end Go.Proofs.YtggikmajopmchaaDoor.Pure
