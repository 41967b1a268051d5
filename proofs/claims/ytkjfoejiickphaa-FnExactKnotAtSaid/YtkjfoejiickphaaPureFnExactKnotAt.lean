/- For every chart-like argument and all ints the program's KnotAt answers as the reference's. -/
import Derived.Test.YtkjfoejiickphaaGx10
import Derived.Test.YtkjfoejiickphaaPPlace
namespace Go.Proofs.Ytkjfoejiickphaa.Pure
open Go.RowKit Go.Proofs.Ytkjfoejiickphaa.G Go.Proofs.YtkjfoejiickphaaW.PrintWords Go.Proofs.YtkjfoejiickphaaW.PrintLast

theorem KnotAt_both (w h : Int) (l : List Int) (hl : l.length ≤ 1048576) (a b : Int) : ∃ r : Int × Bool, (∀ k, l.length < k → spec_KnotAt.f k w h l a b = some r) ∧ impl_KnotAt.f w h l a b = some r := by
  cases g : goodB w h l with
  | false =>
    refine ⟨(0, false), fun k hk => ?_, ?_⟩
    · unfold spec_KnotAt.f; rw [l2Within_eq w h l hl k hk, g]; rfl
    · unfold impl_KnotAt.f; rw [IsChart_eq, g]; rfl
  | true =>
    cases p : placeB w h a b with
    | false =>
      refine ⟨(0, false), fun k hk => ?_, ?_⟩
      · unfold spec_KnotAt.f; rw [l2Within_eq w h l hl k hk, g, p]; rfl
      · unfold impl_KnotAt.f; rw [IsChart_eq, g, hasPlace_eq g, p]; rfl
    | true =>
      obtain ⟨a0, a1, b0, b1⟩ := placeB_parts p
      refine ⟨(rd l (a * w + b), true), fun k hk => ?_, ?_⟩
      · unfold spec_KnotAt.f; rw [l2Within_eq w h l hl k hk, g, p, l2At_eq g a0 a1 b0 b1]; rfl
      · unfold impl_KnotAt.f; rw [IsChart_eq, g, hasPlace_eq g, p, at_eq g a0 a1 b0 b1]; rfl
theorem FnExactKnotAt (w h : Int) (l : List Int) (a b : Int) (_ : -9223372036854775808 ≤ w ∧ w ≤ 9223372036854775807) (_ : -9223372036854775808 ≤ h ∧ h ≤ 9223372036854775807)
    (hl : l.length ≤ 9223372036854775807 ∧ ∀ y ∈ l, (-9223372036854775808 ≤ y ∧ y ≤ 9223372036854775807)) (_ : -9223372036854775808 ≤ a ∧ a ≤ 9223372036854775807) (_ : -9223372036854775808 ≤ b ∧ b ≤ 9223372036854775807) : ∃ k, laws_FnExactKnotAt.f k w h l a b = some true := by
  refine ⟨1048590, ?_⟩
  unfold laws_FnExactKnotAt.f
  rw [szChart_eq w h l 1048576 (by omega) (by omega) hl.1]
  simp only [Option.bind_some]
  by_cases hs : (1048576 : Int) < l.length
  · rw [if_pos hs, if_pos (by omega)]
  · rw [if_neg hs, if_neg (by omega)]
    obtain ⟨r, hr1, hr2⟩ := KnotAt_both w h l (by omega) a b
    simp (disch := omega) only [toChart_eq, hr1, hr2, eqChart_eq, laws_FnExactKnotAt.j0, Option.bind_some, bne_self_eq_false, if_true, if_false, Bool.false_eq_true]
end Go.Proofs.Ytkjfoejiickphaa.Pure
