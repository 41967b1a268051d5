/- For every chart-like argument the program's CornersOf answers as the reference's, in memory of its own. -/
import Derived.Test.YtkjfoejiickphaaGx26
import Derived.Test.YtkjfoejiickphaaPRing
namespace Go.Proofs.Ytkjfoejiickphaa.Pure
open Go.RowKit Go.Proofs.Ytkjfoejiickphaa.G Go.Proofs.YtkjfoejiickphaaW.PrintWords Go.Proofs.YtkjfoejiickphaaW.PrintLast

theorem CornersOf_both (w h : Int) (l : List Int) (hl : l.length ≤ 1048576) : ∃ r : List Int × Bool, r.1.length ≤ 4 ∧ (∀ k, l.length < k → spec_CornersOf.f k w h l = some r) ∧ impl_CornersOf.f w h l = some r := by
  cases g : goodB w h l && ringB w h with
  | false =>
    refine ⟨([], false), by simp, fun k hk => ?_, ?_⟩
    · unfold spec_CornersOf.f; rw [l8Good_eq w h l hl k hk, g]; rfl
    · unfold impl_CornersOf.f; rw [hasRing_eq, g]; rfl
  | true =>
    have g2 := g
    rw [Bool.and_eq_true] at g2
    obtain ⟨a1, a2, a3, a4⟩ := ring_parts g2.2
    refine ⟨([rd l (0 * w + 0), rd l (0 * w + (w - 1)), rd l ((h - 1) * w + (w - 1)), rd l ((h - 1) * w + 0)], true), by simp, fun k hk => ?_, ?_⟩
    · unfold spec_CornersOf.f
      rw [l8Good_eq w h l hl k hk, g, wrap_in (by omega) (by omega), wrap_in (by omega) (by omega), l2At_eq g2.1 (by omega) (by omega) (by omega) (by omega), l2At_eq g2.1 (by omega) (by omega) (by omega) (by omega), l2At_eq g2.1 (by omega) (by omega) (by omega) (by omega), l2At_eq g2.1 (by omega) (by omega) (by omega) (by omega)]
      simp
    · unfold impl_CornersOf.f
      rw [hasRing_eq, g, wrap_in (by omega) (by omega), wrap_in (by omega) (by omega), at_eq g2.1 (by omega) (by omega) (by omega) (by omega), at_eq g2.1 (by omega) (by omega) (by omega) (by omega), at_eq g2.1 (by omega) (by omega) (by omega) (by omega), at_eq g2.1 (by omega) (by omega) (by omega) (by omega)]
      simp
theorem FnExactCornersOf (w h : Int) (l : List Int) (_ : (-9223372036854775808 ≤ w ∧ w ≤ 9223372036854775807)) (_ : (-9223372036854775808 ≤ h ∧ h ≤ 9223372036854775807))
    (hl : l.length ≤ 9223372036854775807 ∧ ∀ y ∈ l, (-9223372036854775808 ≤ y ∧ y ≤ 9223372036854775807)) : ∃ k, laws_FnExactCornersOf.f k w h l = some true := by
  unfold laws_FnExactCornersOf.f
  rw [szChart_eq w h l 1048576 (by omega) (by omega) hl.1]
  simp only [Option.bind_some]
  by_cases hs : (1048576 : Int) < l.length
  · refine ⟨0, ?_⟩
    rw [if_pos hs, if_pos (by omega)]
  · rw [if_neg hs]
    simp only [if_neg (show ¬ ((1048576 : Int) - (l.length : Int) < 0) by omega)]
    obtain ⟨⟨r1, r2⟩, hrl, hr1, hr2⟩ := CornersOf_both w h l (by omega)
    dsimp only at hrl
    obtain ⟨B, hB⟩ : ∃ B, 1048590 ≤ B := ⟨_, Nat.le_refl _⟩
    refine ⟨B + 1 + 1 + 1, ?_⟩
    repeat (first
      | rfl
      | refine bs_ (toChart_eq w h l (by omega) _ (by omega)) ?_
      | refine bs_ (hr1 _ (by omega)) ?_
      | refine bs_ (hr2) ?_
      | refine bs_ (eqChart_eq w h l (by omega) _ (by omega)) ?_
      | refine bs_ (eqIntS_eq r1 (by omega) _ (by omega)) ?_
      | refine bs_ (markChart_eq w h l 1 (by omega) (by omega) (by omega) _ (by omega)) ?_
      | refine bs_ (markIntS_eq r1 1 (by omega) (by omega) (by omega) _ (by omega)) ?_
      | refine bs_ (heldIntS_eq r1.length 1 (by omega) (by omega) (by omega) _ (by omega)) ?_
      | refine it_ rfl ?_
      | (refine ie_ ?hc ?_; (case hc => first | omega | (dsimp only; omega) | (simp; done)))
      | rw [laws_FnExactCornersOf.j0]
      | rw [laws_FnExactCornersOf.j1]
      | rw [laws_FnExactCornersOf.j2])
end Go.Proofs.Ytkjfoejiickphaa.Pure
