/- For any two ints the program's RingLength agrees with the reference's. No further condition. -/
import Derived.Test.YtkbokemkmglcgaaPFnExactRingLengthx1
namespace Go.Proofs.Ytkbokemkmglcgaa.Pure
open Go.RowKit Go.Proofs.Ytkbokemkmglcgaa.PFnExactRingLength Go.Proofs.YtkbokemkmglcgaaW.PrintWords Go.Proofs.YtkbokemkmglcgaaW.PrintLast

theorem FnExactRingLength : laws_FnExactRingLength.Pure := by
  intro a0 a1 _ _
  unfold laws_FnExactRingLength.f spec_RingLength.f impl_RingLength.f spec_l8Side.f impl_isRingSide.f spec_l1In.f impl_in.f spec_l8Length.f impl_ringLength.f
  by_cases h0 : a0 ≥ 2 <;> by_cases h1 : a0 ≤ 8 <;> by_cases h2 : a1 ≥ 2 <;> by_cases h3 : a1 ≤ 8 <;> simp [h0, h1, h2, h3]
  unfold wrap64
  omega

end Go.Proofs.Ytkbokemkmglcgaa.Pure
