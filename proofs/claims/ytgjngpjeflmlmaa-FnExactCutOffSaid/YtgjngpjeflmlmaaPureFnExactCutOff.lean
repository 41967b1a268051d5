/- For every list of looms the program's CutOff answers as the reference's, in memory of its own. -/
import Derived.Test.YtgjngpjeflmlmaaGx0
import Derived.Test.YtgjngpjeflmlmaaGx12
import Derived.Test.YtgjngpjeflmlmaaGx3
import Derived.Test.YtgjngpjeflmlmaaGx7
import Derived.Test.YtgjngpjeflmlmaaGx9
import Derived.Test.YtgjngpjeflmlmaaPFind
import Derived.Test.YtgjngpjeflmlmaaPMark
namespace Go.Proofs.Ytgjngpjeflmlmaa.Pure
open Go.RowKit Go.Proofs.Ytgjngpjeflmlmaa.G Go.Proofs.YtgjngpjeflmlmaaW.PrintWords Go.Proofs.YtgjngpjeflmlmaaW.PrintLast
set_option linter.unusedSimpArgs false
set_option linter.unusedVariables false

theorem CutOff_both (l : List S36) (id : Int) (hl : l.length ≤ 1048576) : ∃ r : List S36 × Int × Bool, r.1.length ≤ 4096 ∧ ∀ k, l.length + 40 < k → spec_CutOff.f k l id = some r ∧ impl_CutOff.f k l id = some r := by
  have most : ∀ a b : Int, spec_l1Most.f a b = some (if a > b then a else b) := fun a b => by unfold spec_l1Most.f; split <;> rfl
  by_cases g : goodB l = true
  · have hs := (good_parts g).1
    rcases idx_cases l id with e | ⟨i, hi, e, en⟩
    · refine ⟨([], 0, false), by simp, fun k hk => ⟨?_, ?_⟩⟩
      · unfold spec_CutOff.f; rw [l5Find_eq l id _ _ hl k hk, l5Find_eq l id _ _ hl k hk, pick_none g e, pick_none g e]; simp only [Option.bind_some, most]; rfl
      · unfold impl_CutOff.f; rw [findLoom_eq l id hl k hk, if_pos g, e]; rfl
    · have hp := loom_parts ((good_parts g).2.1 i hi)
      by_cases c : (rd_T36 l i).f4 = 0
      · refine ⟨([], 0, false), by simp, fun k hk => ⟨?_, ?_⟩⟩
        · unfold spec_CutOff.f; rw [l5Find_eq l id _ _ hl k hk, l5Find_eq l id _ _ hl k hk, pick_miss g e (by omega), pick_miss g e (by omega)]; simp only [Option.bind_some, most]; rfl
        · unfold impl_CutOff.f; rw [findLoom_eq l id hl k hk, if_pos g, e]; simp only [Option.bind_some]; rw [if_neg (by omega), if_pos (by omega), if_pos (by omega), if_pos c]
      · have hm : (if pick l id 1 2 > pick l id 3 3 then pick l id 1 2 else pick l id 3 3) = (i : Int) := by
          by_cases c2 : (rd_T36 l i).f4 = 1 ∨ (rd_T36 l i).f4 = 2
          · rw [pick_hit g e c2, pick_miss g e (by omega), if_pos (by omega)]
          · rw [pick_miss g e c2, pick_hit g e (Or.inl (by omega)), if_neg (by omega)]
        refine ⟨((withB l i ⟨id, (rd_T36 l i).f1, 0, 0, 0⟩).1, (rd_T36 l i).f2, (withB l i ⟨id, (rd_T36 l i).f1, 0, 0, 0⟩).2), withB_small l i _ (by omega), fun k hk => ⟨?_, ?_⟩⟩
        · unfold spec_CutOff.f; rw [l5Find_eq l id _ _ hl k hk, l5Find_eq l id _ _ hl k hk]; simp only [Option.bind_some, most, hm]; rw [if_neg (by omega), if_pos (by omega), if_pos (by omega), l5With_eq l i _ _ _ _ _ hl (by omega) (by omega) k hk]; rfl
        · unfold impl_CutOff.f; rw [findLoom_eq l id hl k hk, if_pos g, e]; simp only [Option.bind_some]; rw [if_neg (by omega), if_pos (by omega), if_pos (by omega), if_neg c, withLoom_eq l i _ _ _ _ _ hl (by omega) (by omega) k hk]; rfl
  · refine ⟨([], 0, false), by simp, fun k hk => ⟨?_, ?_⟩⟩
    · unfold spec_CutOff.f; rw [l5Find_eq l id _ _ hl k hk, l5Find_eq l id _ _ hl k hk, pick_bad g, pick_bad g]; simp only [Option.bind_some, most]; rfl
    · unfold impl_CutOff.f; rw [findLoom_eq l id hl k hk, if_neg g]; rfl
theorem FnExactCutOff {P_ : S38 → Prop} (l : List S38) (id : Int) (hl : l.length ≤ 9223372036854775807 ∧ ∀ y ∈ l, P_ y) (_ : (-9223372036854775808 ≤ id ∧ id ≤ 9223372036854775807)) : ∃ k, laws_FnExactCutOff.f k l id = some true := by
  unfold laws_FnExactCutOff.f
  rw [szLoomS_eq l 1048576 (by omega) (by omega) hl.1]
  simp only [Option.bind_some]
  by_cases hs : (1048576 : Int) < l.length
  · refine ⟨0, ?_⟩
    rw [if_pos hs, if_pos (by omega)]
  · rw [if_neg hs]
    simp only [if_neg (show ¬ ((1048576 : Int) - (l.length : Int) < 0) by omega)]
    have hL : (l.map toLoom).length ≤ 1048576 := by simp; omega
    have hL2 : (l.map toLoom).length = l.length := by simp
    obtain ⟨⟨r1, r2, r3⟩, hrl, hb⟩ := CutOff_both (l.map toLoom) id hL
    (try dsimp only at hrl)
    obtain ⟨B, hB⟩ : ∃ B, 3000000 ≤ B := ⟨_, Nat.le_refl _⟩
    refine ⟨B + 1 + 1 + 1, ?_⟩
    repeat (first
      | rfl
      | refine bs_ (toLoomS_eq l (by omega) _ (by omega)) ?_
      | refine bs_ (hb _ (by omega)).1 ?_
      | refine bs_ (hb _ (by omega)).2 ?_
      | refine bs_ (eqLoomS_eq r1 (by omega) _ (by omega)) ?_
      | refine bs_ (markLoomS_eq r1 1 (by omega) (by omega) (by omega) _ (by omega)) ?_
      | refine bs_ (markLoomS_eq (l.map toLoom) 1 hL (by omega) (by omega) _ (by omega)) ?_
      | refine bs_ (heldLoomS_eq r1.length 1 (by omega) (by omega) (by omega) _ (by omega)) ?_
      | refine bs_ (eqLoomS_eq (l.map toLoom) hL _ (by omega)) ?_
      | refine it_ rfl ?_
      | (refine ie_ ?hc ?_; (case hc => first | omega | (dsimp only; omega) | (simp; done)))
      | rw [laws_FnExactCutOff.j0]
      | rw [laws_FnExactCutOff.j1]
      | rw [laws_FnExactCutOff.j2])
end Go.Proofs.Ytgjngpjeflmlmaa.Pure
