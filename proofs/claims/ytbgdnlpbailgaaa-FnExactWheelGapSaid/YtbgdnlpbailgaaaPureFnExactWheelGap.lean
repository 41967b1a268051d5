/- For every two whole numbers the program's WheelGap answers as the reference's. -/
import Derived.Test.YtbgdnlpbailgaaaPFnExactWheelGapx1
namespace Go.Proofs.Ytbgdnlpbailgaaa.Pure
open Go.RowKit Go.Proofs.Ytbgdnlpbailgaaa.PFnExactWheelGap Go.Proofs.YtbgdnlpbailgaaaW.PrintWords Go.Proofs.YtbgdnlpbailgaaaW.PrintLast Go.Proofs.YtbgdnlpbailgaaaW.PrintMore
set_option linter.unusedSimpArgs false

theorem wrap_in {x : Int} (h0 : -9223372036854775808 ≤ x) (h1 : x ≤ 9223372036854775807) : wrap64 x = x := by unfold wrap64; omega
theorem step_eq (a : Int) : impl_isStep.f a = spec_l3Step.f a := rfl
theorem step_val (a : Int) : spec_l3Step.f a = some (decide (0 ≤ a) && decide (a ≤ 23)) := by
  unfold spec_l3Step.f spec_l1In.f
  by_cases h : a ≥ 0
  · rw [if_pos h, decide_eq_true (show 0 ≤ a from h)]; rfl
  · rw [if_neg h, decide_eq_false (show ¬ 0 ≤ a from h)]; rfl
theorem gap_eq (a b : Int) (h0 : 0 ≤ a) (h1 : a ≤ 23) (h2 : 0 ≤ b) (h3 : b ≤ 23) : ∃ r, spec_l3Gap.f a b = some r ∧ impl_wheelGap.f a b = some r := by
  unfold spec_l3Gap.f impl_wheelGap.f spec_l3Apart.f spec_l1Most.f impl_abs.f spec_l1Least.f
  rw [wrap_in (x := a - b) (by omega) (by omega), wrap_in (x := b - a) (by omega) (by omega), wrap_in (x := -(a - b)) (by omega) (by omega)]
  have hm : mx (a - b) (-(a - b)) = if a - b > b - a then a - b else b - a := by unfold mx; split <;> split <;> omega
  have hs : (if a - b > b - a then some (a - b) else some (b - a)) = some (if a - b > b - a then a - b else b - a) := by split <;> rfl
  simp only [Option.bind_some, hm, hs]
  generalize hd : (if a - b > b - a then a - b else b - a) = d
  have hd0 : 0 ≤ d ∧ d ≤ 23 := by rw [← hd]; split <;> omega
  rw [wrap_in (x := 24 - d) (by omega) (by omega)]
  refine ⟨mn d (24 - d), ?_, rfl⟩
  unfold mn
  split
  · rw [if_neg (by omega)]; rfl
  · split
    · rfl
    · simp only [Option.bind_some]
      congr 1
      omega
theorem FnExactWheelGap : laws_FnExactWheelGap.Pure := by
  intro a b _ _
  have e : ∃ r, spec_WheelGap.f a b = some r ∧ impl_WheelGap.f a b = some r := by
    unfold spec_WheelGap.f impl_WheelGap.f
    rw [step_eq, step_eq, step_val, step_val]
    simp only [Option.bind_some]
    cases ha : (decide (0 ≤ a) && decide (a ≤ 23)) with
    | false => exact ⟨(0, false), rfl, rfl⟩
    | true =>
      cases hb : (decide (0 ≤ b) && decide (b ≤ 23)) with
      | false => exact ⟨(0, false), rfl, rfl⟩
      | true =>
        simp only [Bool.and_eq_true, decide_eq_true_eq] at ha hb
        obtain ⟨r, h1, h2⟩ := gap_eq a b ha.1 ha.2 hb.1 hb.2
        exact ⟨(r, true), by simp [h1], by simp [h2]⟩
  obtain ⟨r, h1, h2⟩ := e
  unfold laws_FnExactWheelGap.f
  rw [h1, h2]
  simp
end Go.Proofs.Ytbgdnlpbailgaaa.Pure
