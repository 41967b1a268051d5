/- For every chart-like argument and every list the program's DoesMeet answers as the reference's. -/
import Derived.Test.YtkjfoejiickphaaGx23
import Derived.Test.YtkjfoejiickphaaPRing
namespace Go.Proofs.Ytkjfoejiickphaa.Pure
open Go.RowKit Go.Proofs.Ytkjfoejiickphaa.G Go.Proofs.YtkjfoejiickphaaW.PrintWords Go.Proofs.YtkjfoejiickphaaW.PrintLast

theorem DoesMeet_both (w h : Int) (l m : List Int) (hl : l.length ≤ 1048576) (hm : m.length ≤ 1048576) : ∃ r : Bool × Bool, (∀ k, l.length < k → m.length < k → spec_DoesMeet.f k w h l m = some r) ∧ impl_DoesMeet.f w h l m = some r := by
  cases g : goodB w h l && ringB w h with
  | false =>
    refine ⟨(false, false), fun k hk hk2 => ?_, ?_⟩
    · unfold spec_DoesMeet.f; rw [l8Good_eq w h l hl k hk, g]; rfl
    · unfold impl_DoesMeet.f; rw [hasRing_eq, g]; rfl
  | true =>
    have g2 := g
    rw [Bool.and_eq_true] at g2
    cases p : patB m with
    | false =>
      refine ⟨(false, false), fun k hk hk2 => ?_, ?_⟩
      · unfold spec_DoesMeet.f; rw [l8Good_eq w h l hl k hk, g, l8Pattern_eq m hm k hk2, p]; rfl
      · unfold impl_DoesMeet.f; rw [hasRing_eq, g, isPattern_eq, p]; rfl
    | true =>
      have p2 := p
      unfold patB at p2
      simp only [Bool.and_eq_true, decide_eq_true_eq] at p2
      have hne : ¬ ((m.length : Int) = 0) := by omega
      refine ⟨(Int.tmod (2 * (w + h) - 4) (m.length : Int) == 0, true), fun k hk hk2 => ?_, ?_⟩
      · unfold spec_DoesMeet.f; rw [l8Good_eq w h l hl k hk, g, l8Pattern_eq m hm k hk2, p, l8Length_eq g2.2]; simp only [Option.bind_some, if_true]; rw [if_neg hne]
      · unfold impl_DoesMeet.f; rw [hasRing_eq, g, isPattern_eq, p, ringLength_eq g2.2]; simp only [Option.bind_some, if_true]; rw [if_neg hne]
theorem FnExactDoesMeet (w h : Int) (l m : List Int) (_ : (-9223372036854775808 ≤ w ∧ w ≤ 9223372036854775807)) (_ : (-9223372036854775808 ≤ h ∧ h ≤ 9223372036854775807))
    (hl : l.length ≤ 9223372036854775807 ∧ ∀ y ∈ l, (-9223372036854775808 ≤ y ∧ y ≤ 9223372036854775807))
    (hm : m.length ≤ 9223372036854775807 ∧ ∀ y ∈ m, (-9223372036854775808 ≤ y ∧ y ≤ 9223372036854775807)) : ∃ k, laws_FnExactDoesMeet.f k w h l m = some true := by
  refine ⟨1048590, ?_⟩
  unfold laws_FnExactDoesMeet.f
  by_cases hs2 : (m.length : Int) > 1048576
  · rw [if_pos hs2]
  rw [if_neg hs2]
  rw [szChart_eq w h l 1048576 (by omega) (by omega) hl.1]
  simp only [Option.bind_some]
  by_cases hs : (1048576 : Int) < l.length
  · rw [if_pos hs, if_pos (by omega)]
  · rw [if_neg hs, if_neg (by omega)]
    obtain ⟨r, hr1, hr2⟩ := DoesMeet_both w h l m (by omega) (by omega)
    simp (disch := omega) only [toChart_eq, toIntS_eq, hr1, hr2, eqChart_eq, eqIntS_eq, laws_FnExactDoesMeet.j0, Option.bind_some, bne_self_eq_false, if_true, if_false, Bool.false_eq_true]
end Go.Proofs.Ytkjfoejiickphaa.Pure
