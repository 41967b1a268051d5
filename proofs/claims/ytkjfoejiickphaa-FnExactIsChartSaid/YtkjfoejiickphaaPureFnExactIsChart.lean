/- For every chart-like argument the program's IsChart answers as the reference's. -/
import Derived.Test.YtkjfoejiickphaaGx8
import Derived.Test.YtkjfoejiickphaaPBase
namespace Go.Proofs.Ytkjfoejiickphaa.Pure
open Go.RowKit Go.Proofs.Ytkjfoejiickphaa.G Go.Proofs.YtkjfoejiickphaaW.PrintWords Go.Proofs.YtkjfoejiickphaaW.PrintLast

theorem FnExactIsChart (w h : Int) (l : List Int) (_ : -9223372036854775808 ≤ w ∧ w ≤ 9223372036854775807) (_ : -9223372036854775808 ≤ h ∧ h ≤ 9223372036854775807)
    (hl : l.length ≤ 9223372036854775807 ∧ ∀ y ∈ l, (-9223372036854775808 ≤ y ∧ y ≤ 9223372036854775807)) : ∃ k, laws_FnExactIsChart.f k w h l = some true := by
  refine ⟨1048590, ?_⟩
  unfold laws_FnExactIsChart.f
  rw [szChart_eq w h l 1048576 (by omega) (by omega) hl.1]
  simp only [Option.bind_some]
  by_cases hs : (1048576 : Int) < l.length
  · rw [if_pos hs, if_pos (by omega)]
  · rw [if_neg hs, if_neg (by omega)]
    simp (disch := omega) only [toChart_eq, spec_IsChart.f, l2Good_eq, IsChart_eq, eqChart_eq, Option.bind_some, bne_self_eq_false, if_true, if_false, Bool.false_eq_true]
end Go.Proofs.Ytkjfoejiickphaa.Pure
