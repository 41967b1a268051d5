/- For every list of looms the program's AreLooms answers as the reference's, and leaves the list as it was. -/
import Derived.Test.YtihkopkoiibahaaGx11
import Derived.Test.YtihkopkoiibahaaPBase
namespace Go.Proofs.Ytihkopkoiibahaa.Pure
open Go.RowKit Go.Proofs.Ytihkopkoiibahaa.G Go.Proofs.YtihkopkoiibahaaW.PrintWords Go.Proofs.YtihkopkoiibahaaW.PrintLast
set_option linter.unusedSimpArgs false
set_option linter.unusedVariables false

theorem AreLooms_both (l : List S25) (hl : l.length ≤ 1048576) : ∃ r : Bool, True ∧ ∀ k, l.length + 40 < k → spec_AreLooms.f k l = some r ∧ impl_AreLooms.f k l = some r := by
  refine ⟨goodB l, trivial, fun k hk => ⟨?_, AreLooms_eq l hl k (by omega)⟩⟩
  unfold spec_AreLooms.f
  rw [l5Good_eq l hl k (by omega)]
  rfl
theorem FnExactAreLooms {P_ : S23 → Prop} (l : List S23)  (hl : l.length ≤ 9223372036854775807 ∧ ∀ y ∈ l, P_ y) : ∃ k, laws_FnExactAreLooms.f k l = some true := by
  unfold laws_FnExactAreLooms.f
  rw [szLoomS_eq l 1048576 (by omega) (by omega) hl.1]
  simp only [Option.bind_some]
  by_cases hs : (1048576 : Int) < l.length
  · refine ⟨0, ?_⟩
    rw [if_pos hs, if_pos (by omega)]
  · rw [if_neg hs]
    simp only [if_neg (show ¬ ((1048576 : Int) - (l.length : Int) < 0) by omega)]
    have hL : (l.map toLoom).length ≤ 1048576 := by simp; omega
    have hL2 : (l.map toLoom).length = l.length := by simp
    obtain ⟨r, hrl, hb⟩ := AreLooms_both (l.map toLoom) hL
    (try dsimp only at hrl)
    obtain ⟨B, hB⟩ : ∃ B, 3000000 ≤ B := ⟨_, Nat.le_refl _⟩
    refine ⟨B + 1 + 1 + 1, ?_⟩
    repeat (first
      | rfl
      | refine bs_ (toLoomS_eq l (by omega) _ (by omega)) ?_
      | refine bs_ (hb _ (by omega)).1 ?_
      | refine bs_ (hb _ (by omega)).2 ?_
      | refine bs_ (eqLoomS_eq (l.map toLoom) hL _ (by omega)) ?_
      | refine it_ rfl ?_
      | (refine ie_ ?hc ?_; (case hc => first | omega | (dsimp only; omega) | (simp; done)))
)
end Go.Proofs.Ytihkopkoiibahaa.Pure
