/- For every chart-like argument the program's StripBorder answers as the reference's, in memory of its own. -/
import Derived.Test.YtkjfoejiickphaaGx28
import Derived.Test.YtkjfoejiickphaaPPart
import Derived.Test.YtkjfoejiickphaaPRingA
namespace Go.Proofs.Ytkjfoejiickphaa.Pure
open Go.RowKit Go.Proofs.Ytkjfoejiickphaa.G Go.Proofs.YtkjfoejiickphaaW.PrintWords Go.Proofs.YtkjfoejiickphaaW.PrintLast

theorem StripBorder_both (w h : Int) (l : List Int) (hl : l.length ≤ 1048576) : ∃ (r : Int × Int × List Int × Bool) (K : Nat), r.2.2.1.length ≤ 4096 ∧ (∀ k, K ≤ k → l.length < k → spec_StripBorder.f k w h l = some r) ∧ impl_StripBorder.f w h l = some r := by
  cases g : goodB w h l with
  | false =>
    refine ⟨(0, 0, [], false), 0, by simp, fun k _ hk => ?_, ?_⟩
    · unfold spec_StripBorder.f; rw [l2Good_eq w h l hl k hk, g]; rfl
    · unfold impl_StripBorder.f; rw [hasRing_eq, g]; rfl
  | true =>
    obtain ⟨w1, w2, e1, e2, e, _, _⟩ := good_parts g
    by_cases c1 : w < 3
    · refine ⟨(0, 0, [], false), 0, by simp, fun k _ hk => ?_, ?_⟩
      · unfold spec_StripBorder.f; rw [l2Good_eq w h l hl k hk, g]; simp only [Option.bind_some, if_true]; rw [if_pos c1]
      · unfold impl_StripBorder.f; rw [hasRing_eq, g]
        simp only [Option.bind_some, Bool.true_and]
        cases rb : ringB w h with
        | false => rfl
        | true =>
          obtain ⟨a1, a2, a3, a4⟩ := ring_parts rb
          rw [if_pos rfl, if_pos (by omega)]
    · by_cases c2 : h < 3
      · refine ⟨(0, 0, [], false), 0, by simp, fun k _ hk => ?_, ?_⟩
        · unfold spec_StripBorder.f; rw [l2Good_eq w h l hl k hk, g]; simp only [Option.bind_some, if_true]; rw [if_neg c1, if_pos c2]
        · unfold impl_StripBorder.f; rw [hasRing_eq, g]
          simp only [Option.bind_some, Bool.true_and]
          cases rb : ringB w h with
          | false => rfl
          | true =>
            obtain ⟨a1, a2, a3, a4⟩ := ring_parts rb
            rw [if_pos rfl, if_neg (by omega), if_pos (by omega)]
      · have hp : PartIn w h l 1 1 (h - 2) (w - 2) := ⟨by omega, by omega, by omega, by omega, by omega, by omega, w2, e2, e⟩
        obtain ⟨K, hK⟩ := l2Part_eq g 1 1 (h - 2) (w - 2) hp
        have rb : ringB w h = true := by unfold ringB; simp only [Bool.and_eq_true, decide_eq_true_eq]; omega
        refine ⟨(w - 2, h - 2, chartL (partG w l 1 1) (w - 2) (h - 2), true), K, chartL_small _ _ _ (by omega) (by omega), fun k hk1 hk => ?_, ?_⟩
        · unfold spec_StripBorder.f; rw [l2Good_eq w h l hl k hk, g, wrap_in (by omega) (by omega), wrap_in (by omega) (by omega), hK k hk1]; simp only [Option.bind_some, if_true]; rw [if_neg c1, if_neg c2]
        · unfold impl_StripBorder.f; rw [hasRing_eq, g, rb, wrap_in (by omega) (by omega), wrap_in (by omega) (by omega), part_eq 1 1 (h - 2) (w - 2) hp]; simp only [Option.bind_some, Bool.and_self, if_true]; rw [if_neg (by omega), if_neg (by omega)]
theorem FnExactStripBorder (w h : Int) (l : List Int) (_ : (-9223372036854775808 ≤ w ∧ w ≤ 9223372036854775807)) (_ : (-9223372036854775808 ≤ h ∧ h ≤ 9223372036854775807))
    (hl : l.length ≤ 9223372036854775807 ∧ ∀ y ∈ l, (-9223372036854775808 ≤ y ∧ y ≤ 9223372036854775807)) : ∃ k, laws_FnExactStripBorder.f k w h l = some true := by
  unfold laws_FnExactStripBorder.f
  rw [szChart_eq w h l 1048576 (by omega) (by omega) hl.1]
  simp only [Option.bind_some]
  by_cases hs : (1048576 : Int) < l.length
  · refine ⟨0, ?_⟩
    rw [if_pos hs, if_pos (by omega)]
  · rw [if_neg hs]
    simp only [if_neg (show ¬ ((1048576 : Int) - (l.length : Int) < 0) by omega)]
    obtain ⟨⟨r1, r2, r3, r4⟩, K, hrl, hr1, hr2⟩ := StripBorder_both w h l (by omega)
    dsimp only at hrl
    obtain ⟨B, hB⟩ : ∃ B, K + 1048590 ≤ B := ⟨_, Nat.le_refl _⟩
    refine ⟨B + 1 + 1 + 1, ?_⟩
    repeat (first
      | rfl
      | refine bs_ (toChart_eq w h l (by omega) _ (by omega)) ?_
      | refine bs_ (hr1 _ (by omega) (by omega)) ?_
      | refine bs_ (hr2) ?_
      | refine bs_ (eqChart_eq r1 r2 r3 (by omega) _ (by omega)) ?_
      | refine bs_ (eqChart_eq w h l (by omega) _ (by omega)) ?_
      | refine bs_ (markChart_eq r1 r2 r3 1 (by omega) (by omega) (by omega) _ (by omega)) ?_
      | refine bs_ (markChart_eq w h l 1 (by omega) (by omega) (by omega) _ (by omega)) ?_
      | refine bs_ (heldChart_eq r1 r2 r3.length 1 (by omega) (by omega) (by omega) _ (by omega)) ?_
      | refine it_ rfl ?_
      | (refine ie_ ?hc ?_; (case hc => first | omega | (dsimp only; omega) | (simp; done)))
      | rw [laws_FnExactStripBorder.j0]
      | rw [laws_FnExactStripBorder.j1]
      | rw [laws_FnExactStripBorder.j2])
end Go.Proofs.Ytkjfoejiickphaa.Pure
