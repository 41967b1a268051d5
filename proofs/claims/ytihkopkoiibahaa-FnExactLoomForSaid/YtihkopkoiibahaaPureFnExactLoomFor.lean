/- For every list of looms and width the program's LoomFor answers as the reference's. -/
import Derived.Test.YtihkopkoiibahaaGx14
import Derived.Test.YtihkopkoiibahaaPBest
namespace Go.Proofs.Ytihkopkoiibahaa.Pure
open Go.RowKit Go.Proofs.Ytihkopkoiibahaa.G Go.Proofs.YtihkopkoiibahaaW.PrintWords Go.Proofs.YtihkopkoiibahaaW.PrintLast
set_option linter.unusedSimpArgs false
set_option linter.unusedVariables false

theorem LoomFor_both (l : List S25) (w : Int) (hl : l.length ≤ 1048576) : ∃ r : Int × Bool, True ∧ ∀ k, l.length + 40 < k → spec_LoomFor.f k l w = some r ∧ impl_LoomFor.f k l w = some r := by
  have hF : (l.filter (freeB w)).length ≤ l.length := List.length_filter_le _ _
  have sw : spec_l5Wide.f w = some (decide (30 ≤ w) && decide (w ≤ 600)) := by unfold spec_l5Wide.f; rw [l1In_eq]; rfl
  have iw : impl_isWide.f w = some (decide (30 ≤ w) && decide (w ≤ 600)) := by unfold impl_isWide.f; rw [impl_in_some]; rfl
  by_cases g : goodB l = true
  · cases hw : (decide (30 ≤ w) && decide (w ≤ 600)) with
    | false =>
      refine ⟨(0, false), trivial, fun k hk => ⟨?_, ?_⟩⟩
      · unfold spec_LoomFor.f; rw [l5Good_eq l hl k (by omega), g, sw, hw]; rfl
      · unfold impl_LoomFor.f; rw [freeLooms_eq l w hl k (by omega), AreLooms_eq l hl k (by omega), g, iw, hw]; rfl
    | true =>
      by_cases h0 : 0 < (l.filter (freeB w)).length
      · obtain ⟨r, hr, _⟩ := minLoomFor_eq (l.filter (freeB w)) (by omega) h0 (l.length + 1) (by omega)
        have hm : r ∈ l := by
          rcases best_mem _ _ _ _ hr with e | e
          · simp at e
          · exact (List.mem_filter.mp e).1
        have hid := (good_id g hm).1
        refine ⟨(r.f0, true), trivial, fun k hk => ⟨?_, ?_⟩⟩
        · unfold spec_LoomFor.f; rw [l5Good_eq l hl k (by omega), g, sw, hw, l5Best_eq l w false hl k (by omega), hr]
          simp only [Option.bind_some, if_true, outM]
          rw [decide_eq_true (by omega)]
        · obtain ⟨r', hr', e'⟩ := minLoomFor_eq (l.filter (freeB w)) (by omega) h0 k (by omega)
          obtain rfl : r = r' := Option.some.inj (hr.symm.trans hr')
          unfold impl_LoomFor.f; rw [freeLooms_eq l w hl k (by omega), AreLooms_eq l hl k (by omega), g, iw, hw]
          simp only [Option.bind_some, if_true]
          rw [if_neg (by omega)]
          have : slices_MinFunc_impl_Loom_impl_Loom.f k (l.filter (freeB w)) FN52 = minLoomFor.f k (l.filter (freeB w)) := by unfold slices_MinFunc_impl_Loom_impl_Loom.f; rw [if_pos rfl]
          rw [this, e']; rfl
      · have hn : l.filter (freeB w) = [] := List.eq_nil_of_length_eq_zero (by omega)
        refine ⟨(0, false), trivial, fun k hk => ⟨?_, ?_⟩⟩
        · unfold spec_LoomFor.f; rw [l5Good_eq l hl k (by omega), g, sw, hw, l5Best_eq l w false hl k (by omega), hn]; rfl
        · unfold impl_LoomFor.f; rw [freeLooms_eq l w hl k (by omega), AreLooms_eq l hl k (by omega), g, iw, hw, hn]; rfl
  · rw [Bool.not_eq_true] at g
    refine ⟨(0, false), trivial, fun k hk => ⟨?_, ?_⟩⟩
    · unfold spec_LoomFor.f; rw [l5Good_eq l hl k (by omega), g]; rfl
    · unfold impl_LoomFor.f; rw [freeLooms_eq l w hl k (by omega), AreLooms_eq l hl k (by omega), g]; rfl
theorem FnExactLoomFor {P_ : S23 → Prop} (l : List S23) (w : Int) (hl : l.length ≤ 9223372036854775807 ∧ ∀ y ∈ l, P_ y) (_ : (-9223372036854775808 ≤ w ∧ w ≤ 9223372036854775807)) : ∃ k, laws_FnExactLoomFor.f k l w = some true := by
  unfold laws_FnExactLoomFor.f
  rw [szLoomS_eq l 1048576 (by omega) (by omega) hl.1]
  simp only [Option.bind_some]
  by_cases hs : (1048576 : Int) < l.length
  · refine ⟨0, ?_⟩
    rw [if_pos hs, if_pos (by omega)]
  · rw [if_neg hs]
    simp only [if_neg (show ¬ ((1048576 : Int) - (l.length : Int) < 0) by omega)]
    have hL : (l.map toLoom).length ≤ 1048576 := by simp; omega
    have hL2 : (l.map toLoom).length = l.length := by simp
    obtain ⟨r, hrl, hb⟩ := LoomFor_both (l.map toLoom) w hL
    (try dsimp only at hrl)
    obtain ⟨B, hB⟩ : ∃ B, 3000000 ≤ B := ⟨_, Nat.le_refl _⟩
    refine ⟨B + 1 + 1 + 1, ?_⟩
    repeat (first
      | rfl
      | refine bs_ (toLoomS_eq l (by omega) _ (by omega)) ?_
      | refine bs_ (hb _ (by omega)).1 ?_
      | refine bs_ (hb _ (by omega)).2 ?_
      | refine bs_ (eqLoomS_eq (l.map toLoom) hL _ (by omega)) ?_
      | refine it_ rfl ?_
      | (refine ie_ ?hc ?_; (case hc => first | omega | (dsimp only; omega) | (simp; done)))
      | rw [laws_FnExactLoomFor.j0])
end Go.Proofs.Ytihkopkoiibahaa.Pure
