/- For every list of looms and id the program's DaysLeft answers as the reference's. -/
import Derived.Test.YtihkopkoiibahaaGx29
import Derived.Test.YtihkopkoiibahaaPFind
namespace Go.Proofs.Ytihkopkoiibahaa.Pure
open Go.RowKit Go.Proofs.Ytihkopkoiibahaa.G Go.Proofs.YtihkopkoiibahaaW.PrintWords Go.Proofs.YtihkopkoiibahaaW.PrintLast
set_option linter.unusedSimpArgs false
set_option linter.unusedVariables false

theorem DaysLeft_both (l : List S25) (id : Int) (hl : l.length ≤ 1048576) : ∃ r : Int × Bool, True ∧ ∀ k, l.length + 40 < k → spec_DaysLeft.f k l id = some r ∧ impl_DaysLeft.f k l id = some r := by
  by_cases g : goodB l = true
  · rcases idx_cases l id with e | ⟨i, hi, e, en⟩
    · refine ⟨(0, false), trivial, fun k hk => ⟨?_, ?_⟩⟩
      · unfold spec_DaysLeft.f; rw [l5Find_eq l id _ _ hl k hk, pick_none g e]; rfl
      · unfold impl_DaysLeft.f; rw [findLoom_eq l id hl k hk, if_pos g, e]; rfl
    · by_cases c : (rd_T25 l i).f4 = 2
      · refine ⟨(wrap64 (Int.tdiv (wrap64 (((rd_T25 l i).f3) - 50)) 3), true), trivial, fun k hk => ⟨?_, ?_⟩⟩
        · unfold spec_DaysLeft.f; rw [l5Find_eq l id _ _ hl k hk, pick_hit g e (Or.inl c)]; simp only [Option.bind_some]; rw [if_neg (by omega), if_pos (by omega), if_pos (by omega)]
        · unfold impl_DaysLeft.f; rw [findLoom_eq l id hl k hk, if_pos g, e]; simp only [Option.bind_some]; rw [if_neg (by omega), if_pos (by omega), if_pos (by omega), if_pos c]; rfl
      · refine ⟨(0, false), trivial, fun k hk => ⟨?_, ?_⟩⟩
        · unfold spec_DaysLeft.f; rw [l5Find_eq l id _ _ hl k hk, pick_miss g e (by omega)]; rfl
        · unfold impl_DaysLeft.f; rw [findLoom_eq l id hl k hk, if_pos g, e]; simp only [Option.bind_some]; rw [if_neg (by omega), if_pos (by omega), if_pos (by omega), if_neg c]
  · refine ⟨(0, false), trivial, fun k hk => ⟨?_, ?_⟩⟩
    · unfold spec_DaysLeft.f; rw [l5Find_eq l id _ _ hl k hk, pick_bad g]; rfl
    · unfold impl_DaysLeft.f; rw [findLoom_eq l id hl k hk, if_neg g]; rfl
theorem FnExactDaysLeft {P_ : S23 → Prop} (l : List S23) (id : Int) (hl : l.length ≤ 9223372036854775807 ∧ ∀ y ∈ l, P_ y) (_ : (-9223372036854775808 ≤ id ∧ id ≤ 9223372036854775807)) : ∃ k, laws_FnExactDaysLeft.f k l id = some true := by
  unfold laws_FnExactDaysLeft.f
  rw [szLoomS_eq l 1048576 (by omega) (by omega) hl.1]
  simp only [Option.bind_some]
  by_cases hs : (1048576 : Int) < l.length
  · refine ⟨0, ?_⟩
    rw [if_pos hs, if_pos (by omega)]
  · rw [if_neg hs]
    simp only [if_neg (show ¬ ((1048576 : Int) - (l.length : Int) < 0) by omega)]
    have hL : (l.map toLoom).length ≤ 1048576 := by simp; omega
    have hL2 : (l.map toLoom).length = l.length := by simp
    obtain ⟨r, hrl, hb⟩ := DaysLeft_both (l.map toLoom) id hL
    (try dsimp only at hrl)
    obtain ⟨B, hB⟩ : ∃ B, 3000000 ≤ B := ⟨_, Nat.le_refl _⟩
    refine ⟨B + 1 + 1 + 1, ?_⟩
    repeat (first
      | rfl
      | refine bs_ (toLoomS_eq l (by omega) _ (by omega)) ?_
      | refine bs_ (hb _ (by omega)).1 ?_
      | refine bs_ (hb _ (by omega)).2 ?_
      | refine bs_ (eqLoomS_eq (l.map toLoom) hL _ (by omega)) ?_
      | refine it_ rfl ?_
      | (refine ie_ ?hc ?_; (case hc => first | omega | (dsimp only; omega) | (simp; done)))
      | rw [laws_FnExactDaysLeft.j0])
end Go.Proofs.Ytihkopkoiibahaa.Pure
