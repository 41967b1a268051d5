/- Plain facts on charts with a ring. -/
import Derived.Test.YtkjfoejiickphaaGx21
import Derived.Test.YtkjfoejiickphaaPPlace
namespace Go.Proofs.Ytkjfoejiickphaa.Pure
open Go.RowKit Go.Proofs.Ytkjfoejiickphaa.G Go.Proofs.YtkjfoejiickphaaW.PrintWords Go.Proofs.YtkjfoejiickphaaW.PrintLast

def ringB (w h : Int) : Bool := (decide (2 ≤ w) && decide (w ≤ 8)) && (decide (2 ≤ h) && decide (h ≤ 8))
theorem ring_parts {w h : Int} (p : ringB w h = true) : 2 ≤ w ∧ w ≤ 8 ∧ 2 ≤ h ∧ h ≤ 8 := by
  unfold ringB at p
  simp only [Bool.and_eq_true, decide_eq_true_eq] at p
  omega
theorem l8Good_eq (w h : Int) (l : List Int) (hl : l.length ≤ 1048576) (k : Nat) (hk : l.length < k) : spec_l8Good.f k w h l = some (goodB w h l && ringB w h) := by
  unfold spec_l8Good.f spec_l8Side.f ringB
  rw [l2Good_eq w h l hl k hk, l1In_eq, l1In_eq]
  simp only [Option.bind_some]
  cases goodB w h l <;> cases (decide (2 ≤ w) && decide (w ≤ 8)) <;> simp
theorem hasRing_eq (w h : Int) (l : List Int) : impl_hasRing.f w h l = some (goodB w h l && ringB w h) := by
  unfold impl_hasRing.f impl_isRingSide.f ringB
  rw [IsChart_eq, in_eq, in_eq]
  simp only [Option.bind_some]
  cases goodB w h l <;> cases (decide (2 ≤ w) && decide (w ≤ 8)) <;> simp
theorem l8Length_eq {w h : Int} (p : ringB w h = true) : spec_l8Length.f w h = some (2 * (w + h) - 4) := by
  obtain ⟨a, b, c, d⟩ := ring_parts p
  unfold spec_l8Length.f wrap64
  congr 1
  omega
theorem ringLength_eq {w h : Int} (p : ringB w h = true) : impl_ringLength.f w h = some (2 * (w + h) - 4) := by
  obtain ⟨a, b, c, d⟩ := ring_parts p
  unfold impl_ringLength.f wrap64
  congr 1
  omega
end Go.Proofs.Ytkjfoejiickphaa.Pure
