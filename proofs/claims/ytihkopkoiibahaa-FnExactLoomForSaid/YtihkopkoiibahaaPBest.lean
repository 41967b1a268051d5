/- The best free loom of a list: what the program and the reference compute. -/
import Derived.Test.YtihkopkoiibahaaGx11
import Derived.Test.YtihkopkoiibahaaGx12
import Derived.Test.YtihkopkoiibahaaGx13
import Derived.Test.YtihkopkoiibahaaPParts
namespace Go.Proofs.Ytihkopkoiibahaa.Pure
open Go.RowKit Go.Proofs.Ytihkopkoiibahaa.G Go.Proofs.YtihkopkoiibahaaW.PrintWords Go.Proofs.YtihkopkoiibahaaW.PrintLast
set_option linter.unusedSimpArgs false
set_option linter.unusedVariables false

/-! ### the best free loom -/
def stepM (bt : S25 → S25 → Bool) (m : Option S25) (x : S25) : Option S25 := match m with
  | none => some x
  | some m => if bt x m = true then some x else some m
def best (bt : S25 → S25 → Bool) (st : Option S25) (xs : List S25) : Option S25 := xs.foldl (stepM bt) st
def outM : Option S25 → Int
  | none => 0
  | some m => m.f0
def freeB (w : Int) (x : S25) : Bool := decide (x.f4 = 0) && decide (x.f1 ≥ w)
def btF (flag : Bool) (x m : S25) : Bool := if flag = true then decide (x.f1 > m.f1) else decide (x.f1 < m.f1)
theorem drop_rd (l : List S25) (n : Nat) (h : n < l.length) : l.drop n = rd_T25 l n :: l.drop (n + 1) := by
  rw [List.drop_eq_getElem_cons h, rdLoom_at _ _ (by simpa using h)]
  simp
theorem best_mem (bt : S25 → S25 → Bool) : ∀ (xs : List S25) (st : Option S25) (r : S25), best bt st xs = some r → st = some r ∨ r ∈ xs
  | [], st, r, h => Or.inl h
  | x :: xs, st, r, h => by
    rcases best_mem bt xs (stepM bt st x) r h with e | e
    · cases st with
      | none => exact Or.inr (by simp [stepM] at e; simp [e])
      | some m =>
        simp only [stepM] at e
        split at e
        · exact Or.inr (by simp at e; simp [e])
        · exact Or.inl e
    · exact Or.inr (by simp [e])
theorem l5Best_l0 (l : List S25) (w : Int) (flag : Bool) (hl : l.length ≤ 1048576) (d : Nat) : ∀ (k : Nat) (i b : Int) (st : Option S25), 0 ≤ i → i + d = l.length → ((b = -1 ∧ st = none) ∨ (0 ≤ b ∧ b < l.length ∧ st = some (rd_T25 l b))) → d < k → spec_l5Best.l0 k l w flag b i = some (outM (best (btF flag) st ((l.drop i.toNat).filter (freeB w)))) := by
  induction d with
  | zero =>
    intro k i b st h0 h1 hb hk
    obtain ⟨k, rfl⟩ : ∃ q, k = q + 1 := ⟨k - 1, by omega⟩
    simp only [spec_l5Best.l0]
    rw [if_neg (by omega), List.drop_eq_nil_of_le (by omega)]
    rcases hb with ⟨rfl, rfl⟩ | ⟨b0, b1, rfl⟩
    · rfl
    · rw [if_neg (by omega), if_pos b0, if_pos b1]; rfl
  | succ d ih =>
    intro k i b st h0 h1 hb hk
    obtain ⟨k, rfl⟩ : ∃ q, k = q + 1 := ⟨k - 1, by omega⟩
    obtain ⟨n, rfl⟩ : ∃ n : Nat, i = n := ⟨i.toNat, by omega⟩
    simp only [spec_l5Best.l0, Int.toNat_natCast]
    rw [if_pos (by omega), if_pos h0, drop_rd l n (by omega), wrap_in (by omega) (by omega)]
    have ih' := fun b st hb => ih k ((n : Int) + 1) b st (by omega) (by omega) hb (by omega)
    rw [show ((n : Int) + 1).toNat = n + 1 by omega] at ih'
    by_cases c1 : (rd_T25 l n).f4 = 0
    · by_cases c2 : (rd_T25 l n).f1 ≥ w
      · have hq : freeB w (rd_T25 l n) = true := by unfold freeB; rw [decide_eq_true c1, decide_eq_true c2]; rfl
        rw [if_pos c1, if_pos c2, List.filter_cons_of_pos hq]
        rcases hb with ⟨rfl, rfl⟩ | ⟨b0, b1, rfl⟩
        · rw [if_pos (by omega)]
          exact ih' n (some (rd_T25 l n)) (Or.inr ⟨by omega, by omega, rfl⟩)
        · rw [if_neg (by omega)]
          cases flag with
          | true =>
            rw [if_pos rfl, if_pos b0, if_pos b1]
            by_cases c3 : (rd_T25 l n).f1 > (rd_T25 l b).f1
            · rw [if_pos c3, ih' n (some (rd_T25 l n)) (Or.inr ⟨by omega, by omega, rfl⟩)]
              simp [best, stepM, btF, c3]
            · rw [if_neg c3, ih' b _ (Or.inr ⟨b0, b1, rfl⟩)]
              simp [best, stepM, btF, c3]
          | false =>
            rw [if_neg (by simp), if_pos b0, if_pos b1]
            by_cases c3 : (rd_T25 l n).f1 < (rd_T25 l b).f1
            · rw [if_pos c3, ih' n (some (rd_T25 l n)) (Or.inr ⟨by omega, by omega, rfl⟩)]
              simp [best, stepM, btF, c3]
            · rw [if_neg c3, ih' b _ (Or.inr ⟨b0, b1, rfl⟩)]
              simp [best, stepM, btF, c3]
      · have hq : ¬ freeB w (rd_T25 l n) = true := by unfold freeB; rw [decide_eq_false c2]; simp
        rw [if_pos c1, if_neg c2, List.filter_cons_of_neg hq]
        exact ih' b st hb
    · have hq : ¬ freeB w (rd_T25 l n) = true := by unfold freeB; rw [decide_eq_false c1]; simp
      rw [if_neg c1, List.filter_cons_of_neg hq]
      exact ih' b st hb
theorem l5Best_eq (l : List S25) (w : Int) (flag : Bool) (hl : l.length ≤ 1048576) (k : Nat) (hk : l.length < k) : spec_l5Best.f k l w flag = some (outM (best (btF flag) none (l.filter (freeB w)))) := by
  unfold spec_l5Best.f
  exact l5Best_l0 l w flag hl l.length k 0 (-1) none (by omega) (by omega) (Or.inl ⟨rfl, rfl⟩) hk
theorem freeLooms_l0 (l : List S25) (w : Int) (hl : l.length ≤ 1048576) (d : Nat) : ∀ (k : Nat) (i : Int) (acc : List S25), 0 ≤ i → i + d = l.length → (acc.length : Int) ≤ i → d < k → impl_freeLooms.l0 k w acc l (l.length : Int) i = some (acc ++ (l.drop i.toNat).filter (freeB w)) := by
  induction d with
  | zero =>
    intro k i acc h0 h1 ha hk
    obtain ⟨k, rfl⟩ : ∃ q, k = q + 1 := ⟨k - 1, by omega⟩
    simp only [impl_freeLooms.l0]
    rw [if_neg (by omega), List.drop_eq_nil_of_le (by omega)]
    simp
  | succ d ih =>
    intro k i acc h0 h1 ha hk
    obtain ⟨k, rfl⟩ : ∃ q, k = q + 1 := ⟨k - 1, by omega⟩
    obtain ⟨n, rfl⟩ : ∃ n : Nat, i = n := ⟨i.toNat, by omega⟩
    simp only [impl_freeLooms.l0, Int.toNat_natCast]
    rw [if_pos (by omega), if_pos h0, if_pos (by omega), drop_rd l n (by omega), wrap_in (by omega) (by omega)]
    by_cases c1 : (rd_T25 l n).f4 = 0
    · by_cases c2 : (rd_T25 l n).f1 ≥ w
      · have hq : freeB w (rd_T25 l n) = true := by unfold freeB; rw [decide_eq_true c1, decide_eq_true c2]; rfl
        rw [if_pos c1, if_pos c2, List.filter_cons_of_pos hq, if_pos (by omega), ih k ((n : Int) + 1) _ (by omega) (by omega) (by simp; omega) (by omega), show ((n : Int) + 1).toNat = n + 1 by omega]
        simp
      · have hq : ¬ freeB w (rd_T25 l n) = true := by unfold freeB; rw [decide_eq_false c2]; simp
        rw [if_pos c1, if_neg c2, List.filter_cons_of_neg hq, ih k ((n : Int) + 1) _ (by omega) (by omega) (by omega) (by omega), show ((n : Int) + 1).toNat = n + 1 by omega]
    · have hq : ¬ freeB w (rd_T25 l n) = true := by unfold freeB; rw [decide_eq_false c1]; simp
      rw [if_neg c1, List.filter_cons_of_neg hq, ih k ((n : Int) + 1) _ (by omega) (by omega) (by omega) (by omega), show ((n : Int) + 1).toNat = n + 1 by omega]
theorem freeLooms_eq (l : List S25) (w : Int) (hl : l.length ≤ 1048576) (k : Nat) (hk : l.length < k) : impl_freeLooms.f k l w = some (l.filter (freeB w)) := by
  unfold impl_freeLooms.f
  rw [freeLooms_l0 l w hl l.length k 0 [] (by omega) (by omega) (by simp) hk]
  rfl
theorem compare_eq (a b : Int) : cmp_Compare_int.f a b = some (if a < b then -1 else if a > b then 1 else 0) := by
  unfold cmp_Compare_int.f cmp_isNaN_int.f
  simp only [Option.bind_some, bne_self_eq_false]
  rw [if_neg (by simp), if_neg (by simp)]
  split
  · rfl
  · split <;> rfl
theorem compare_lt (a b : Int) : ((if a < b then (-1 : Int) else if a > b then 1 else 0) < 0) ↔ a < b := by
  split
  · omega
  · split <;> omega
theorem minLoomFor_l0 (F : List S25) (hl : F.length ≤ 1048576) (d : Nat) : ∀ (k : Nat) (i : Int) (m : S25), 0 ≤ i → i + d = F.length → d < k → ∃ r : S25, best (btF false) (some m) (F.drop i.toNat) = some r ∧ minLoomFor.l0 k F i m.f0 m.f1 m.f2 m.f3 m.f4 = some (r.f0, r.f1, r.f2, r.f3, r.f4) := by
  induction d with
  | zero =>
    intro k i m h0 h1 hk
    obtain ⟨k, rfl⟩ : ∃ q, k = q + 1 := ⟨k - 1, by omega⟩
    simp only [minLoomFor.l0]
    rw [if_neg (by omega), List.drop_eq_nil_of_le (by omega)]
    exact ⟨m, rfl, rfl⟩
  | succ d ih =>
    intro k i m h0 h1 hk
    obtain ⟨k, rfl⟩ : ∃ q, k = q + 1 := ⟨k - 1, by omega⟩
    obtain ⟨n, rfl⟩ : ∃ n : Nat, i = n := ⟨i.toNat, by omega⟩
    simp only [minLoomFor.l0, impl_LoomFor_1.f, compare_eq, Option.bind_some, Int.toNat_natCast, compare_lt]
    rw [if_pos (by omega), if_pos h0, drop_rd F n (by omega), wrap_in (by omega) (by omega)]
    have ih' := fun m => ih k ((n : Int) + 1) m (by omega) (by omega) (by omega)
    rw [show ((n : Int) + 1).toNat = n + 1 by omega] at ih'
    by_cases c : (rd_T25 F n).f1 < m.f1
    · rw [if_pos c]
      obtain ⟨r, h1, h2⟩ := ih' (rd_T25 F n)
      refine ⟨r, ?_, h2⟩
      rw [← h1]
      simp [best, stepM, btF, c]
    · rw [if_neg c]
      obtain ⟨r, h1, h2⟩ := ih' m
      refine ⟨r, ?_, h2⟩
      rw [← h1]
      simp [best, stepM, btF, c]
theorem minLoomFor_eq (F : List S25) (hl : F.length ≤ 1048576) (h0 : 0 < F.length) (k : Nat) (hk : F.length < k) : ∃ r : S25, best (btF false) none F = some r ∧ minLoomFor.f k F = some (r.f0, r.f1, r.f2, r.f3, r.f4) := by
  unfold minLoomFor.f
  obtain ⟨r, h1, h2⟩ := minLoomFor_l0 F hl (F.length - 1) k 1 (rd_T25 F 0) (by omega) (by omega) (by omega)
  refine ⟨r, ?_, ?_⟩
  · rw [← h1]
    have := drop_rd F 0 h0
    rw [List.drop_zero] at this
    conv => lhs; rw [this]
    rfl
  · rw [if_neg (by omega), if_pos (by omega)]
    exact h2
theorem minWidest_l0 (F : List S25) (hl : F.length ≤ 1048576) (d : Nat) : ∀ (k : Nat) (i : Int) (m : S25), 0 ≤ i → i + d = F.length → d < k → ∃ r : S25, best (btF true) (some m) (F.drop i.toNat) = some r ∧ minWidest.l0 k F i m.f0 m.f1 m.f2 m.f3 m.f4 = some (r.f0, r.f1, r.f2, r.f3, r.f4) := by
  induction d with
  | zero =>
    intro k i m h0 h1 hk
    obtain ⟨k, rfl⟩ : ∃ q, k = q + 1 := ⟨k - 1, by omega⟩
    simp only [minWidest.l0]
    rw [if_neg (by omega), List.drop_eq_nil_of_le (by omega)]
    exact ⟨m, rfl, rfl⟩
  | succ d ih =>
    intro k i m h0 h1 hk
    obtain ⟨k, rfl⟩ : ∃ q, k = q + 1 := ⟨k - 1, by omega⟩
    obtain ⟨n, rfl⟩ : ∃ n : Nat, i = n := ⟨i.toNat, by omega⟩
    simp only [minWidest.l0, impl_WidestFree_1.f, compare_eq, Option.bind_some, Int.toNat_natCast, compare_lt]
    rw [if_pos (by omega), if_pos h0, drop_rd F n (by omega), wrap_in (by omega) (by omega)]
    have ih' := fun m => ih k ((n : Int) + 1) m (by omega) (by omega) (by omega)
    rw [show ((n : Int) + 1).toNat = n + 1 by omega] at ih'
    by_cases c : m.f1 < (rd_T25 F n).f1
    · rw [if_pos c]
      obtain ⟨r, h1, h2⟩ := ih' (rd_T25 F n)
      refine ⟨r, ?_, h2⟩
      rw [← h1]
      simp [best, stepM, btF, c]
    · rw [if_neg c]
      obtain ⟨r, h1, h2⟩ := ih' m
      refine ⟨r, ?_, h2⟩
      rw [← h1]
      simp [best, stepM, btF, c]
theorem minWidest_eq (F : List S25) (hl : F.length ≤ 1048576) (h0 : 0 < F.length) (k : Nat) (hk : F.length < k) : ∃ r : S25, best (btF true) none F = some r ∧ minWidest.f k F = some (r.f0, r.f1, r.f2, r.f3, r.f4) := by
  unfold minWidest.f
  obtain ⟨r, h1, h2⟩ := minWidest_l0 F hl (F.length - 1) k 1 (rd_T25 F 0) (by omega) (by omega) (by omega)
  refine ⟨r, ?_, ?_⟩
  · rw [← h1]
    have := drop_rd F 0 h0
    rw [List.drop_zero] at this
    conv => lhs; rw [this]
    rfl
  · rw [if_neg (by omega), if_pos (by omega)]
    exact h2
/-- The id of a loom of a valid list. -/
theorem good_id {l : List S25} (g : goodB l = true) {r : S25} (h : r ∈ l) : 1 ≤ r.f0 ∧ 30 ≤ r.f1 := by
  obtain ⟨j, hj, e⟩ := List.getElem_of_mem h
  have := loom_parts ((good_parts g).2.1 j hj)
  rw [rdLoom_at _ _ (by simpa using hj)] at this
  simp only [Int.toNat_natCast, e] at this
  omega
end Go.Proofs.Ytihkopkoiibahaa.Pure
