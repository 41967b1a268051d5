/- For every chart-like argument and all ints the program's PartOf answers as the reference's, in memory of its own. -/
import Derived.Test.YtkjfoejiickphaaGx18
import Derived.Test.YtkjfoejiickphaaPPart
namespace Go.Proofs.Ytkjfoejiickphaa.Pure
open Go.RowKit Go.Proofs.Ytkjfoejiickphaa.G Go.Proofs.YtkjfoejiickphaaW.PrintWords Go.Proofs.YtkjfoejiickphaaW.PrintLast

theorem PartOf_both (w h : Int) (l : List Int) (hl : l.length ≤ 1048576) (a b ht wd : Int) : ∃ (r : Int × Int × List Int × Bool) (K : Nat), r.2.2.1.length ≤ 4096 ∧ (∀ k, K ≤ k → l.length < k → spec_PartOf.f k w h l a b ht wd = some r) ∧ impl_PartOf.f w h l a b ht wd = some r := by
  cases g : goodB w h l with
  | false =>
    refine ⟨(0, 0, [], false), 0, by simp, fun k _ hk => ?_, ?_⟩
    · unfold spec_PartOf.f; rw [l2Fits_eq w h l hl k hk, g]; rfl
    · unfold impl_PartOf.f; rw [IsChart_eq, g]; rfl
  | true =>
    obtain ⟨w1, w2, e1, e2, _, _, _⟩ := good_parts g
    cases f : fitsB w h a b ht wd with
    | false =>
      refine ⟨(0, 0, [], false), 0, by simp, fun k _ hk => ?_, ?_⟩
      · unfold spec_PartOf.f; rw [l2Fits_eq w h l hl k hk, g, f]; rfl
      · unfold impl_PartOf.f; rw [IsChart_eq, g, hasPart_eq g, f]; rfl
    | true =>
      have hp := fits_in g f
      obtain ⟨K, hK⟩ := l2Part_eq g a b ht wd hp
      refine ⟨(wd, ht, chartL (partG w l a b) wd ht, true), K, chartL_small _ _ _ (by have := hp; unfold PartIn at this; omega) (by have := hp; unfold PartIn at this; omega), fun k hk1 hk => ?_, ?_⟩
      · unfold spec_PartOf.f; rw [l2Fits_eq w h l hl k hk, g, f, hK k hk1]; rfl
      · unfold impl_PartOf.f; rw [IsChart_eq, g, hasPart_eq g, f, part_eq a b ht wd hp]; rfl
theorem FnExactPartOf (w h : Int) (l : List Int) (a b ht wd : Int) (_ : (-9223372036854775808 ≤ w ∧ w ≤ 9223372036854775807)) (_ : (-9223372036854775808 ≤ h ∧ h ≤ 9223372036854775807))
    (hl : l.length ≤ 9223372036854775807 ∧ ∀ y ∈ l, (-9223372036854775808 ≤ y ∧ y ≤ 9223372036854775807)) (_ : (-9223372036854775808 ≤ a ∧ a ≤ 9223372036854775807)) (_ : (-9223372036854775808 ≤ b ∧ b ≤ 9223372036854775807)) (_ : (-9223372036854775808 ≤ ht ∧ ht ≤ 9223372036854775807)) (_ : (-9223372036854775808 ≤ wd ∧ wd ≤ 9223372036854775807)) : ∃ k, laws_FnExactPartOf.f k w h l a b ht wd = some true := by
  unfold laws_FnExactPartOf.f
  rw [szChart_eq w h l 1048576 (by omega) (by omega) hl.1]
  simp only [Option.bind_some]
  by_cases hs : (1048576 : Int) < l.length
  · refine ⟨0, ?_⟩
    rw [if_pos hs, if_pos (by omega)]
  · rw [if_neg hs]
    simp only [if_neg (show ¬ ((1048576 : Int) - (l.length : Int) < 0) by omega)]
    obtain ⟨⟨r1, r2, r3, r4⟩, K, hrl, hr1, hr2⟩ := PartOf_both w h l (by omega) a b ht wd
    dsimp only at hrl
    obtain ⟨B, hB⟩ : ∃ B, K + 1048590 ≤ B := ⟨_, Nat.le_refl _⟩
    refine ⟨B + 1 + 1 + 1, ?_⟩
    repeat (first
      | rfl
      | refine bs_ (toChart_eq w h l (by omega) _ (by omega)) ?_
      | refine bs_ (hr1 _ (by omega) (by omega)) ?_
      | refine bs_ (hr2) ?_
      | refine bs_ (eqChart_eq r1 r2 r3 (by omega) _ (by omega)) ?_
      | refine bs_ (eqChart_eq w h l (by omega) _ (by omega)) ?_
      | refine bs_ (markChart_eq r1 r2 r3 1 (by omega) (by omega) (by omega) _ (by omega)) ?_
      | refine bs_ (markChart_eq w h l 1 (by omega) (by omega) (by omega) _ (by omega)) ?_
      | refine bs_ (heldChart_eq r1 r2 r3.length 1 (by omega) (by omega) (by omega) _ (by omega)) ?_
      | refine it_ rfl ?_
      | (refine ie_ ?hc ?_; (case hc => first | omega | (dsimp only; omega) | (simp; done)))
      | rw [laws_FnExactPartOf.j0]
      | rw [laws_FnExactPartOf.j1]
      | rw [laws_FnExactPartOf.j2])
end Go.Proofs.Ytkjfoejiickphaa.Pure
