/- Plain facts on the distance of shades. -/
import Derived.Test.YtafokpklcmegaaaDoorGx12
import Derived.Test.YtafokpklcmegaaaDoorGx9
import Derived.Test.YtafokpklcmegaaaDoorPBase
namespace Go.Proofs.YtafokpklcmegaaaDoor.Pure
open Go.RowKit Go.Proofs.YtafokpklcmegaaaDoor.G Go.Proofs.YtafokpklcmegaaaDoorW.PrintWords Go.Proofs.YtafokpklcmegaaaDoorW.PrintLast
set_option linter.unusedSimpArgs false
set_option linter.unusedVariables false

theorem gap_eq (a b : Int) (h0 : 0 ≤ a) (h1 : a ≤ 23) (h2 : 0 ≤ b) (h3 : b ≤ 23) : ∃ r, spec_l3Gap.f a b = some r ∧ impl_wheelGap.f a b = some r ∧ 0 ≤ r ∧ r ≤ 24 := by
  unfold spec_l3Gap.f impl_wheelGap.f spec_l3Apart.f spec_l1Most.f impl_abs.f spec_l1Least.f
  rw [wrap_in (x := a - b) (by omega) (by omega), wrap_in (x := b - a) (by omega) (by omega), wrap_in (x := -(a - b)) (by omega) (by omega)]
  have hm : mx (a - b) (-(a - b)) = if a - b > b - a then a - b else b - a := by unfold mx; split <;> split <;> omega
  have hs : (if a - b > b - a then some (a - b) else some (b - a)) = some (if a - b > b - a then a - b else b - a) := by split <;> rfl
  simp only [Option.bind_some, hm, hs]
  generalize hd : (if a - b > b - a then a - b else b - a) = d
  have hd0 : 0 ≤ d ∧ d ≤ 23 := by rw [← hd]; split <;> omega
  rw [wrap_in (x := 24 - d) (by omega) (by omega)]
  refine ⟨mn d (24 - d), ?_, rfl, by unfold mn; omega, by unfold mn; omega⟩
  unfold mn
  split
  · rw [if_neg (by omega)]; rfl
  · split
    · rfl
    · simp only [Option.bind_some]
      congr 1
      omega
theorem apart_eq (c e : Int) (h0 : 0 ≤ c) (h1 : c ≤ 9) (h2 : 0 ≤ e) (h3 : e ≤ 9) : ∃ r, spec_l3Apart.f c e = some r ∧ impl_abs.f (c - e) = some r ∧ 0 ≤ r ∧ r ≤ 9 := by
  unfold spec_l3Apart.f spec_l1Most.f impl_abs.f
  rw [wrap_in (x := c - e) (by omega) (by omega), wrap_in (x := e - c) (by omega) (by omega), wrap_in (x := -(c - e)) (by omega) (by omega)]
  by_cases q : c - e > e - c
  · refine ⟨c - e, by rw [if_pos q]; rfl, ?_, by omega, by omega⟩
    congr 1
    unfold mx
    omega
  · refine ⟨e - c, by rw [if_neg q]; rfl, ?_, by omega, by omega⟩
    congr 1
    unfold mx
    omega
theorem far_eq (a : Int) (n : ByteArray) (b c d a' : Int) (n' : ByteArray) (b' c' d' : Int) (h0 : 0 ≤ b) (h1 : b ≤ 23) (h2 : 0 ≤ b') (h3 : b' ≤ 23) (h4 : 0 ≤ c) (h5 : c ≤ 9) (h6 : 0 ≤ c') (h7 : c' ≤ 9) :
    ∃ r, spec_l3Far.f a n b c d b' c' = some r ∧ impl_Shade_distance.f a n b c d a' n' b' c' d' = some r ∧ 0 ≤ r ∧ r ≤ 100 := by
  obtain ⟨g, g1, g2, g3, g4⟩ := gap_eq b b' h0 h1 h2 h3
  obtain ⟨q, q1, q2, q3, q4⟩ := apart_eq c c' h4 h5 h6 h7
  unfold spec_l3Far.f impl_Shade_distance.f
  rw [g1, g2, q1, wrap_in (x := c - c') (by omega) (by omega), q2]
  simp only [Option.bind_some]
  rw [wrap_in (x := 2 * g) (by omega) (by omega), wrap_in (x := 2 * g + q) (by omega) (by omega)]
  exact ⟨2 * g + q, rfl, rfl, by omega, by omega⟩
end Go.Proofs.YtafokpklcmegaaaDoor.Pure
