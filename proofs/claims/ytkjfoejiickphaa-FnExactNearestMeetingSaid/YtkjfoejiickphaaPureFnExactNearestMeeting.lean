/- For all ints the program's NearestMeeting answers as the reference's. -/
import Derived.Test.YtkjfoejiickphaaGx20
import Derived.Test.YtkjfoejiickphaaPBase
namespace Go.Proofs.Ytkjfoejiickphaa.Pure
open Go.RowKit Go.Proofs.Ytkjfoejiickphaa.G Go.Proofs.YtkjfoejiickphaaW.PrintWords Go.Proofs.YtkjfoejiickphaaW.PrintLast

def meetOk : Bool := (List.range 7).all fun w => (List.range 7).all fun h => (List.range 8).all fun n =>
  laws_FnExactNearestMeeting.f 90 ((w : Int) + 2) ((h : Int) + 2) ((n : Int) + 1) == some true
theorem meetOk_yes : meetOk = true := by decide +kernel
theorem FnExactNearestMeeting : laws_FnExactNearestMeeting.Pure := by
  intro w h n _ _ _
  refine ⟨90, ?_⟩
  by_cases a : 2 ≤ w ∧ w ≤ 8
  · by_cases b : 2 ≤ h ∧ h ≤ 8
    · by_cases d : 1 ≤ n ∧ n ≤ 8
      · have := meetOk_yes
        simp only [meetOk, List.all_eq_true, List.mem_range, beq_iff_eq] at this
        have := this (w - 2).toNat (by omega) (h - 2).toNat (by omega) (n - 1).toNat (by omega)
        rw [Int.toNat_of_nonneg (by omega), Int.toNat_of_nonneg (by omega), Int.toNat_of_nonneg (by omega)] at this
        simpa using this
      · unfold laws_FnExactNearestMeeting.f spec_NearestMeeting.f impl_NearestMeeting.f spec_l8Side.f impl_isRingSide.f
        rw [l1In_eq, l1In_eq, l1In_eq, in_eq, in_eq, in_eq, ← Bool.decide_and (2 ≤ w), decide_eq_true a, ← Bool.decide_and (2 ≤ h), decide_eq_true b, ← Bool.decide_and (1 ≤ n), decide_eq_false d]
        simp [spec_NearestMeeting.j0, impl_NearestMeeting.j0]
    · unfold laws_FnExactNearestMeeting.f spec_NearestMeeting.f impl_NearestMeeting.f spec_l8Side.f impl_isRingSide.f
      rw [l1In_eq, l1In_eq, l1In_eq, in_eq, in_eq, in_eq, ← Bool.decide_and (2 ≤ w), decide_eq_true a, ← Bool.decide_and (2 ≤ h), decide_eq_false b]
      simp [spec_NearestMeeting.j0, impl_NearestMeeting.j0]
  · unfold laws_FnExactNearestMeeting.f spec_NearestMeeting.f impl_NearestMeeting.f spec_l8Side.f impl_isRingSide.f
    rw [l1In_eq, l1In_eq, l1In_eq, in_eq, in_eq, in_eq, ← Bool.decide_and (2 ≤ w), decide_eq_false a]
    simp [spec_NearestMeeting.j0, impl_NearestMeeting.j0]
end Go.Proofs.Ytkjfoejiickphaa.Pure
