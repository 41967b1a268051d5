/- For every list of looms the program's WeaveDays answers as the reference's, in memory of its own. -/
import Derived.Test.YtihkopkoiibahaaGx26
import Derived.Test.YtihkopkoiibahaaPFind
import Derived.Test.YtihkopkoiibahaaPMark
namespace Go.Proofs.Ytihkopkoiibahaa.Pure
open Go.RowKit Go.Proofs.Ytihkopkoiibahaa.G Go.Proofs.YtihkopkoiibahaaW.PrintWords Go.Proofs.YtihkopkoiibahaaW.PrintLast
set_option linter.unusedSimpArgs false
set_option linter.unusedVariables false

theorem weave_l0 (l : List S25) (i : Nat) (days : Int) (a b c : Int) (hl : l.length ≤ 1048576) (hi : i < l.length) (h0 : 0 ≤ days) (h1 : days ≤ 200) (t : Nat) : ∀ (k : Nat) (n d : Int), 0 ≤ n → n ≤ days → 50 ≤ d → d ≤ 500 → (n + t = days ∧ 50 ≤ d - 3 * t ∨ n + t < days ∧ 50 ≤ d - 3 * t ∧ d - 3 * t - 3 < 50) → l.length + 50 + 2 * t < k →
    spec_WeaveDays.l0 k l days i n a b c d 2 = some ((withB l i ⟨a, b, c, d - 3 * t, if n + t < days then 3 else 2⟩).1, n + t, (withB l i ⟨a, b, c, d - 3 * t, if n + t < days then 3 else 2⟩).2) := by
  induction t with
  | zero =>
    intro k n d hn0 hn1 hd0 hd1 ht hk
    obtain ⟨k, rfl⟩ : ∃ q, k = q + 1 + 1 + 1 + 1 + 1 + 1 := ⟨k - 6, by omega⟩
    simp only [Int.natCast_zero, Int.mul_zero, Int.sub_zero, Int.add_zero] at ht ⊢
    simp only [spec_WeaveDays.l0]
    by_cases e : n < days
    · rw [if_pos e, if_pos e]
      simp only [spec_WeaveDays.j2]
      rw [if_pos (by rfl), wrap_in (by omega) (by omega), if_pos (by omega)]
      simp only [spec_WeaveDays.l0]
      rw [if_pos e]
      simp only [spec_WeaveDays.j2]
      rw [if_neg (by simp)]
      rw [l5With_eq l i _ _ _ _ _ hl (by omega) (by omega) _ (by omega)]
      rfl
    · rw [if_neg e, if_neg e]
      simp only [spec_WeaveDays.j2]
      rw [if_neg (by simp), l5With_eq l i _ _ _ _ _ hl (by omega) (by omega) _ (by omega)]
      rfl
  | succ t ih =>
    intro k n d hn0 hn1 hd0 hd1 ht hk
    obtain ⟨k, rfl⟩ : ∃ q, k = q + 1 + 1 := ⟨k - 2, by omega⟩
    simp only [spec_WeaveDays.l0]
    rw [if_pos (by omega)]
    simp only [spec_WeaveDays.j2]
    rw [if_pos (by rfl), wrap_in (x := d - 3) (by omega) (by omega), wrap_in (x := n + 1) (by omega) (by omega), if_neg (by omega), ih k (n + 1) (d - 3) (by omega) (by omega) (by omega) (by omega) (by omega) (by omega)]
    rw [show n + 1 + (t : Int) = n + ((t + 1 : Nat) : Int) by omega, show d - 3 - 3 * (t : Int) = d - 3 * ((t + 1 : Nat) : Int) by omega]
theorem WeaveDays_both (l : List S25) (id days : Int) (hl : l.length ≤ 1048576) : ∃ r : List S25 × Int × Bool, r.1.length ≤ 4096 ∧ ∀ k, l.length + 600 < k → spec_WeaveDays.f k l id days = some r ∧ impl_WeaveDays.f k l id days = some r := by
  have js : ∀ k (x : Int), 0 < k → spec_WeaveDays.j0 k l days x true = some ([], 0, false) := fun k x hk => by
    obtain ⟨k, rfl⟩ : ∃ q, k = q + 1 := ⟨k - 1, by omega⟩
    simp only [spec_WeaveDays.j0]; rfl
  have ji : ∀ k (x : Int), 0 < k → impl_WeaveDays.j0 k l days x true = some ([], 0, false) := fun k x hk => by
    obtain ⟨k, rfl⟩ : ∃ q, k = q + 1 := ⟨k - 1, by omega⟩
    simp only [impl_WeaveDays.j0]; rfl
  by_cases g : goodB l = true
  · have hs := (good_parts g).1
    rcases idx_cases l id with e | ⟨i, hi, e, en⟩
    · refine ⟨([], 0, false), by simp, fun k hk => ⟨?_, ?_⟩⟩
      · unfold spec_WeaveDays.f; rw [l5Find_eq l id _ _ hl k (by omega), pick_none g e]; exact js _ _ (by omega)
      · unfold impl_WeaveDays.f; rw [findLoom_eq l id hl k (by omega), if_pos g, e]; exact ji _ _ (by omega)
    · have hp := loom_parts ((good_parts g).2.1 i hi)
      by_cases c : (rd_T25 l i).f4 = 2
      · by_cases cd : (decide (0 ≤ days) && decide (days ≤ 200)) = true
        · have cd2 : 0 ≤ days ∧ days ≤ 200 := by simpa using cd
          obtain ⟨d0, d1⟩ := cd2
          have f0 : 50 ≤ (rd_T25 l i).f3 := by omega
          have f1 : (rd_T25 l i).f3 ≤ 500 := by omega
          generalize hD : ((rd_T25 l i).f3 - 50) / 3 = D
          have hD0 : 0 ≤ D := by omega
          have hD1 : D ≤ 200 := by omega
          obtain ⟨t, ht⟩ : ∃ t : Nat, (t : Int) = if days < D then days else D := ⟨(if days < D then days else D).toNat, by split <;> omega⟩
          have hmn : mn days D = t := by rw [ht]; unfold mn; split <;> split <;> omega
          have tl : (t : Int) ≤ days := by rw [ht]; split <;> omega
          have tl2 : (t : Int) ≤ D := by rw [ht]; split <;> omega
          have tl3 : (t : Int) < days → (t : Int) = D := by rw [ht]; split <;> omega
          refine ⟨((withB l i ⟨(rd_T25 l i).f0, (rd_T25 l i).f1, (rd_T25 l i).f2, (rd_T25 l i).f3 - 3 * t, if 0 + (t : Int) < days then 3 else 2⟩).1, 0 + (t : Int), (withB l i ⟨(rd_T25 l i).f0, (rd_T25 l i).f1, (rd_T25 l i).f2, (rd_T25 l i).f3 - 3 * t, if 0 + (t : Int) < days then 3 else 2⟩).2), withB_small l i _ (by omega), fun k hk => ⟨?_, ?_⟩⟩
          · unfold spec_WeaveDays.f; rw [l5Find_eq l id _ _ hl k (by omega), pick_hit g e (Or.inl c)]; simp only [Option.bind_some]; rw [if_neg (by omega), l1In_eq]; simp only [Option.bind_some]
            rw [cd]
            obtain ⟨k, rfl⟩ : ∃ q, k = q + 1 := ⟨k - 1, by omega⟩
            simp only [spec_WeaveDays.j0, Bool.not_true]
            rw [if_neg (by simp), if_pos (by omega), if_pos (by omega), c]
            exact weave_l0 l i days _ _ _ hl hi d0 d1 t k 0 _ (by omega) (by omega) f0 f1 (by omega) (by omega)
          · unfold impl_WeaveDays.f; rw [findLoom_eq l id hl k (by omega), if_pos g, e]; simp only [Option.bind_some]; rw [if_neg (by omega), if_pos (by omega), if_pos (by omega), if_pos c, impl_in_some]; simp only [Option.bind_some]
            rw [cd]
            obtain ⟨k, rfl⟩ : ∃ q, k = q + 1 := ⟨k - 1, by omega⟩
            simp only [impl_WeaveDays.j0, Bool.not_true]
            have hdl : impl_Loom_daysLeft.f (rd_T25 l i).f0 (rd_T25 l i).f1 (rd_T25 l i).f2 (rd_T25 l i).f3 (rd_T25 l i).f4 = some D := by
              unfold impl_Loom_daysLeft.f
              rw [wrap_in (x := (rd_T25 l i).f3 - 50) (by omega) (by omega), Int.tdiv_eq_ediv_of_nonneg (by omega), hD, wrap_in (by omega) (by omega)]
            rw [if_neg (by simp), if_pos (by omega), if_pos (by omega), hdl]
            simp only [Option.bind_some, hmn]
            rw [wrap_in (x := 3 * (t : Int)) (by omega) (by omega), wrap_in (x := (rd_T25 l i).f3 - 3 * (t : Int)) (by omega) (by omega)]
            by_cases e2 : (t : Int) < days
            · rw [if_pos e2, withLoom_eq l i _ _ _ _ _ hl (by omega) (by omega) k (by omega), if_pos (show 0 + (t : Int) < days by omega), show 0 + (t : Int) = t by omega]; rfl
            · rw [if_neg e2, withLoom_eq l i _ _ _ _ _ hl (by omega) (by omega) k (by omega), if_neg (show ¬ 0 + (t : Int) < days by omega), show 0 + (t : Int) = t by omega, c]; rfl
        · rw [Bool.not_eq_true] at cd
          refine ⟨([], 0, false), by simp, fun k hk => ⟨?_, ?_⟩⟩
          · unfold spec_WeaveDays.f; rw [l5Find_eq l id _ _ hl k (by omega), pick_hit g e (Or.inl c)]; simp only [Option.bind_some]; rw [if_neg (by omega), l1In_eq, cd]; exact js _ _ (by omega)
          · unfold impl_WeaveDays.f; rw [findLoom_eq l id hl k (by omega), if_pos g, e]; simp only [Option.bind_some]; rw [if_neg (by omega), if_pos (by omega), if_pos (by omega), if_pos c, impl_in_some, cd]; exact ji _ _ (by omega)
      · refine ⟨([], 0, false), by simp, fun k hk => ⟨?_, ?_⟩⟩
        · unfold spec_WeaveDays.f; rw [l5Find_eq l id _ _ hl k (by omega), pick_miss g e (by omega)]; exact js _ _ (by omega)
        · unfold impl_WeaveDays.f; rw [findLoom_eq l id hl k (by omega), if_pos g, e]; simp only [Option.bind_some]; rw [if_neg (by omega), if_pos (by omega), if_pos (by omega), if_neg c]; exact ji _ _ (by omega)
  · refine ⟨([], 0, false), by simp, fun k hk => ⟨?_, ?_⟩⟩
    · unfold spec_WeaveDays.f; rw [l5Find_eq l id _ _ hl k (by omega), pick_bad g]; exact js _ _ (by omega)
    · unfold impl_WeaveDays.f; rw [findLoom_eq l id hl k (by omega), if_neg g]; exact ji _ _ (by omega)
theorem FnExactWeaveDays {P_ : S23 → Prop} (l : List S23) (id : Int) (days : Int) (hl : l.length ≤ 9223372036854775807 ∧ ∀ y ∈ l, P_ y) (_ : (-9223372036854775808 ≤ id ∧ id ≤ 9223372036854775807)) (_ : (-9223372036854775808 ≤ days ∧ days ≤ 9223372036854775807)) : ∃ k, laws_FnExactWeaveDays.f k l id days = some true := by
  unfold laws_FnExactWeaveDays.f
  rw [szLoomS_eq l 1048576 (by omega) (by omega) hl.1]
  simp only [Option.bind_some]
  by_cases hs : (1048576 : Int) < l.length
  · refine ⟨0, ?_⟩
    rw [if_pos hs, if_pos (by omega)]
  · rw [if_neg hs]
    simp only [if_neg (show ¬ ((1048576 : Int) - (l.length : Int) < 0) by omega)]
    have hL : (l.map toLoom).length ≤ 1048576 := by simp; omega
    have hL2 : (l.map toLoom).length = l.length := by simp
    obtain ⟨⟨r1, r2, r3⟩, hrl, hb⟩ := WeaveDays_both (l.map toLoom) id days hL
    (try dsimp only at hrl)
    obtain ⟨B, hB⟩ : ∃ B, 3000000 ≤ B := ⟨_, Nat.le_refl _⟩
    refine ⟨B + 1 + 1 + 1, ?_⟩
    repeat (first
      | rfl
      | refine bs_ (toLoomS_eq l (by omega) _ (by omega)) ?_
      | refine bs_ (hb _ (by omega)).1 ?_
      | refine bs_ (hb _ (by omega)).2 ?_
      | refine bs_ (eqLoomS_eq r1 (by omega) _ (by omega)) ?_
      | refine bs_ (markLoomS_eq r1 1 (by omega) (by omega) (by omega) _ (by omega)) ?_
      | refine bs_ (markLoomS_eq (l.map toLoom) 1 hL (by omega) (by omega) _ (by omega)) ?_
      | refine bs_ (heldLoomS_eq r1.length 1 (by omega) (by omega) (by omega) _ (by omega)) ?_
      | refine bs_ (eqLoomS_eq (l.map toLoom) hL _ (by omega)) ?_
      | refine it_ rfl ?_
      | (refine ie_ ?hc ?_; (case hc => first | omega | (dsimp only; omega) | (simp; done)))
      | rw [laws_FnExactWeaveDays.j0]
      | rw [laws_FnExactWeaveDays.j1]
      | rw [laws_FnExactWeaveDays.j2])
end Go.Proofs.Ytihkopkoiibahaa.Pure
