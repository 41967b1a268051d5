/- For every list of looms the program's TightenLoom answers as the reference's, in memory of its own. -/
import Derived.Test.YtihkopkoiibahaaGx23
import Derived.Test.YtihkopkoiibahaaPFind
import Derived.Test.YtihkopkoiibahaaPMark
namespace Go.Proofs.Ytihkopkoiibahaa.Pure
open Go.RowKit Go.Proofs.Ytihkopkoiibahaa.G Go.Proofs.YtihkopkoiibahaaW.PrintWords Go.Proofs.YtihkopkoiibahaaW.PrintLast
set_option linter.unusedSimpArgs false
set_option linter.unusedVariables false

theorem TightenLoom_both (l : List S25) (id pu : Int) (hl : l.length ≤ 1048576) : ∃ r : List S25 × Bool, r.1.length ≤ 4096 ∧ ∀ k, l.length + 40 < k → spec_TightenLoom.f k l id pu = some r ∧ impl_TightenLoom.f k l id pu = some r := by
  by_cases g : goodB l = true
  · have hs := (good_parts g).1
    rcases idx_cases l id with e | ⟨i, hi, e, en⟩
    · refine ⟨([], false), by simp, fun k hk => ⟨?_, ?_⟩⟩
      · unfold spec_TightenLoom.f; rw [l5Find_eq l id _ _ hl k hk, pick_none g e]; rfl
      · unfold impl_TightenLoom.f; rw [findLoom_eq l id hl k hk, if_pos g, e]; rfl
    · have hst : impl_Loom_isStretched.f (rd_T25 l i).f0 (rd_T25 l i).f1 (rd_T25 l i).f2 (rd_T25 l i).f3 (rd_T25 l i).f4 = some (decide ((rd_T25 l i).f4 = 1 ∨ (rd_T25 l i).f4 = 2)) := by
        unfold impl_Loom_isStretched.f
        by_cases c1 : (rd_T25 l i).f4 = 1
        · rw [if_pos c1, decide_eq_true (Or.inl c1)]
        · rw [if_neg c1]
          congr 1
          rw [Bool.eq_iff_iff, decide_eq_true_iff, beq_iff_eq]
          omega
      by_cases c : (rd_T25 l i).f4 = 1 ∨ (rd_T25 l i).f4 = 2
      · by_cases c2 : pu < (rd_T25 l i).f3
        · refine ⟨([], false), by simp, fun k hk => ⟨?_, ?_⟩⟩
          · unfold spec_TightenLoom.f; rw [l5Find_eq l id _ _ hl k hk, pick_hit g e c]; simp only [Option.bind_some]; rw [if_neg (by omega), if_pos (by omega), if_pos (by omega), if_pos c2]
          · unfold impl_TightenLoom.f; rw [findLoom_eq l id hl k hk, if_pos g, e]; simp only [Option.bind_some]; rw [if_neg (by omega), if_pos (by omega), if_pos (by omega), hst, decide_eq_true c]; simp only [Option.bind_some, if_true]; rw [if_pos c2]
        · refine ⟨withB l i ⟨(rd_T25 l i).f0, (rd_T25 l i).f1, (rd_T25 l i).f2, pu, (rd_T25 l i).f4⟩, withB_small l i _ (by omega), fun k hk => ⟨?_, ?_⟩⟩
          · unfold spec_TightenLoom.f; rw [l5Find_eq l id _ _ hl k hk, pick_hit g e c]; simp only [Option.bind_some]; rw [if_neg (by omega), if_pos (by omega), if_pos (by omega), if_neg c2, l5With_eq l i _ _ _ _ _ hl (by omega) (by omega) k hk]; rfl
          · unfold impl_TightenLoom.f; rw [findLoom_eq l id hl k hk, if_pos g, e]; simp only [Option.bind_some]; rw [if_neg (by omega), if_pos (by omega), if_pos (by omega), hst, decide_eq_true c]; simp only [Option.bind_some, if_true]; rw [if_neg c2, withLoom_eq l i _ _ _ _ _ hl (by omega) (by omega) k hk]; rfl
      · refine ⟨([], false), by simp, fun k hk => ⟨?_, ?_⟩⟩
        · unfold spec_TightenLoom.f; rw [l5Find_eq l id _ _ hl k hk, pick_miss g e c]; rfl
        · unfold impl_TightenLoom.f; rw [findLoom_eq l id hl k hk, if_pos g, e]; simp only [Option.bind_some]; rw [if_neg (by omega), if_pos (by omega), if_pos (by omega), hst, decide_eq_false c]; rfl
  · refine ⟨([], false), by simp, fun k hk => ⟨?_, ?_⟩⟩
    · unfold spec_TightenLoom.f; rw [l5Find_eq l id _ _ hl k hk, pick_bad g]; rfl
    · unfold impl_TightenLoom.f; rw [findLoom_eq l id hl k hk, if_neg g]; rfl
theorem FnExactTightenLoom {P_ : S23 → Prop} (l : List S23) (id : Int) (pu : Int) (hl : l.length ≤ 9223372036854775807 ∧ ∀ y ∈ l, P_ y) (_ : (-9223372036854775808 ≤ id ∧ id ≤ 9223372036854775807)) (_ : (-9223372036854775808 ≤ pu ∧ pu ≤ 9223372036854775807)) : ∃ k, laws_FnExactTightenLoom.f k l id pu = some true := by
  unfold laws_FnExactTightenLoom.f
  rw [szLoomS_eq l 1048576 (by omega) (by omega) hl.1]
  simp only [Option.bind_some]
  by_cases hs : (1048576 : Int) < l.length
  · refine ⟨0, ?_⟩
    rw [if_pos hs, if_pos (by omega)]
  · rw [if_neg hs]
    simp only [if_neg (show ¬ ((1048576 : Int) - (l.length : Int) < 0) by omega)]
    have hL : (l.map toLoom).length ≤ 1048576 := by simp; omega
    have hL2 : (l.map toLoom).length = l.length := by simp
    obtain ⟨⟨r1, r2⟩, hrl, hb⟩ := TightenLoom_both (l.map toLoom) id pu hL
    (try dsimp only at hrl)
    obtain ⟨B, hB⟩ : ∃ B, 3000000 ≤ B := ⟨_, Nat.le_refl _⟩
    refine ⟨B + 1 + 1 + 1, ?_⟩
    repeat (first
      | rfl
      | refine bs_ (toLoomS_eq l (by omega) _ (by omega)) ?_
      | refine bs_ (hb _ (by omega)).1 ?_
      | refine bs_ (hb _ (by omega)).2 ?_
      | refine bs_ (eqLoomS_eq r1 (by omega) _ (by omega)) ?_
      | refine bs_ (markLoomS_eq r1 1 (by omega) (by omega) (by omega) _ (by omega)) ?_
      | refine bs_ (markLoomS_eq (l.map toLoom) 1 hL (by omega) (by omega) _ (by omega)) ?_
      | refine bs_ (heldLoomS_eq r1.length 1 (by omega) (by omega) (by omega) _ (by omega)) ?_
      | refine bs_ (eqLoomS_eq (l.map toLoom) hL _ (by omega)) ?_
      | refine it_ rfl ?_
      | (refine ie_ ?hc ?_; (case hc => first | omega | (dsimp only; omega) | (simp; done)))
      | rw [laws_FnExactTightenLoom.j0]
      | rw [laws_FnExactTightenLoom.j1]
      | rw [laws_FnExactTightenLoom.j2])
end Go.Proofs.Ytihkopkoiibahaa.Pure
