/- Plain facts on baths: what a valid one is, in program and reference. -/
import Derived.Test.YtcdinmemjkeolaaDoorGx13
import Derived.Test.YtcdinmemjkeolaaDoorGx2
import Derived.Test.YtcdinmemjkeolaaDoorGx7
import Derived.Test.YtcdinmemjkeolaaDoorGx9
import Derived.Test.YtcdinmemjkeolaaDoorPRecipe
namespace Go.Proofs.YtcdinmemjkeolaaDoor.Pure
open Go.RowKit Go.Proofs.YtcdinmemjkeolaaDoor.G Go.Proofs.YtcdinmemjkeolaaDoorW.PrintWords Go.Proofs.YtcdinmemjkeolaaDoorW.PrintLast
set_option linter.unusedSimpArgs false
set_option linter.unusedVariables false

def gramsOk (s : List Int) : Bool := s.all gramsB
/-- What a bath for a recipe is. -/
def bathB (l : List S48) (a b c : Int) (s : List Int) : Bool := recB l && ((decide (1 ≤ a) && decide (a ≤ 500)) && ((decide (0 ≤ b) && decide (b ≤ 100)) && (gramsB c && (((s.length : Int) == (l.length : Int)) && s.all gramsB))))
theorem grams_spec (x : Int) : spec_l7Grams.f x = some (gramsB x) := by unfold spec_l7Grams.f; rw [l1In_eq]; rfl
theorem grams_impl (x : Int) : impl_isGrams.f x = some (gramsB x) := by unfold impl_isGrams.f; rw [in_eq]; rfl
theorem l7Bath_ev (l : List S48) (hl : l.length ≤ 1048576) (hx : ∀ x ∈ l, x.f0.size ≤ 9223372036854775807) (a b c : Int) (s : List Int) (hs : s.length ≤ 1048576) : Ev (fun k => spec_l7Bath.f k l a b c s) (bathB l a b c s) := by
  have hr := l7Good_ev l hl hx
  have loop : ∀ (d i : Nat), i + d = s.length → Ev (fun k => spec_l7Bath.l0 k l (i : Int) a b c s) (allFrom (fun j => gramsB (rd s (j : Int))) d i && (recB l && ((decide (1 ≤ a) && decide (a ≤ 500)) && ((decide (0 ≤ b) && decide (b ≤ 100)) && (gramsB c && ((s.length : Int) == (l.length : Int))))))) := by
    intro d
    induction d with
    | zero =>
      intro i hi
      refine Ev.step (fun k => rfl) ?_
      simp only [spec_l7Bath.l0, l1In_eq, grams_spec, Option.bind_some, allFrom, Bool.true_and]
      refine ev_neg (by omega) (Ev.bind hr ?_)
      cases recB l with
      | false => exact ev_neg (by simp) (Ev.now _)
      | true =>
        refine ev_pos (by trivial) ?_
        cases (decide (1 ≤ a) && decide (a ≤ 500)) with
        | false => exact ev_neg (by simp) (Ev.now _)
        | true =>
          refine ev_pos (by trivial) ?_
          cases (decide (0 ≤ b) && decide (b ≤ 100)) with
          | false => exact ev_neg (by simp) (Ev.now _)
          | true =>
            refine ev_pos (by trivial) ?_
            cases gramsB c with
            | false => exact ev_neg (by simp) (Ev.now _)
            | true => exact ev_pos (by trivial) (Ev.now _)
    | succ d ih =>
      intro i hi
      refine Ev.step (fun k => rfl) ?_
      simp only [spec_l7Bath.l0, grams_spec, Option.bind_some]
      rw [wrap_in (x := (i : Int) + 1) (by omega) (by omega)]
      refine ev_pos (by omega) (ev_pos (by omega) ?_)
      cases g : gramsB (rd s (i : Int)) with
      | false =>
        refine ev_neg (by simp) (ev_val ?_ (Ev.now false))
        simp [allFrom, g]
      | true =>
        refine ev_pos (by trivial) ?_
        simp only [allFrom, g, Bool.true_and]
        exact ih (i + 1) (by omega)
  refine ev_val ?_ (loop s.length 0 (by omega))
  have e : allFrom (fun j => gramsB (rd s (j : Int))) s.length 0 = s.all gramsB := by
    apply bool_iff
    rw [allFrom_iff, all_get s 0]
    constructor
    · intro h j hj
      have := h j (by omega) (by omega)
      simpa [rd] using this
    · intro h j _ hj
      have := h j (by omega)
      simpa [rd] using this
  rw [e]
  unfold bathB
  cases recB l <;> cases (decide (1 ≤ a) && decide (a ≤ 500)) <;> cases (decide (0 ≤ b) && decide (b ≤ 100)) <;> cases gramsB c <;> cases ((s.length : Int) == (l.length : Int)) <;> cases s.all gramsB <;> rfl
theorem IsBath_ev (l : List S48) (hl : l.length ≤ 1048576) (a b c : Int) (s : List Int) : Ev (fun k => impl_IsBath.f k l a b c s) (bathB l a b c s) := by
  unfold impl_IsBath.f impl_areAll_int.f
  simp only [in_eq, grams_impl, Option.bind_some, if_true]
  refine Ev.bind (IsRecipe_ev l hl) ?_
  unfold bathB
  cases recB l with
  | false => exact ev_neg (by simp) (Ev.now _)
  | true =>
    refine ev_pos (by trivial) ?_
    cases (decide (1 ≤ a) && decide (a ≤ 500)) with
    | false => exact ev_neg (by simp) (Ev.now _)
    | true =>
      refine ev_pos (by trivial) ?_
      cases (decide (0 ≤ b) && decide (b ≤ 100)) with
      | false => exact ev_neg (by simp) (Ev.now _)
      | true =>
        refine ev_pos (by trivial) ?_
        cases gramsB c with
        | false => exact ev_neg (by simp) (Ev.now _)
        | true =>
          refine ev_pos (by trivial) ?_
          by_cases e : (s.length : Int) = (l.length : Int)
          · rw [beq_iff_eq.mpr e]
            exact ev_pos e (Ev.now _)
          · rw [beq_eq_false_iff_ne.mpr e]
            exact ev_neg e (Ev.now _)
theorem grams_parts {x : Int} (h : gramsB x = true) : 0 ≤ x ∧ x ≤ 50000 := by
  unfold gramsB at h
  simp only [Bool.and_eq_true, decide_eq_true_eq] at h
  exact h
theorem bath_parts {l : List S48} {a b c : Int} {s : List Int} (h : bathB l a b c s = true) : recB l = true ∧ 1 ≤ a ∧ a ≤ 500 ∧ 0 ≤ b ∧ b ≤ 100 ∧ 0 ≤ c ∧ c ≤ 50000 ∧ s.length = l.length ∧ ∀ i : Int, 0 ≤ i → i < s.length → 0 ≤ rd s i ∧ rd s i ≤ 50000 := by
  unfold bathB at h
  simp only [Bool.and_eq_true, decide_eq_true_eq, beq_iff_eq] at h
  obtain ⟨h1, h2, h3, h4, h5, h6⟩ := h
  obtain ⟨g1, g2⟩ := grams_parts h4
  refine ⟨h1, h2.1, h2.2, h3.1, h3.2, g1, g2, by omega, fun i i0 i1 => ?_⟩
  rw [List.all_eq_true] at h6
  exact grams_parts (h6 _ (rd_mem s i i0 i1))
end Go.Proofs.YtcdinmemjkeolaaDoor.Pure
