/- Plain facts on baths that are ready: reference and program agree on how much yarn a bath takes. -/
import Derived.Test.YtcdinmemjkeolaaDoorGx0
import Derived.Test.YtcdinmemjkeolaaDoorGx10
import Derived.Test.YtcdinmemjkeolaaDoorGx13
import Derived.Test.YtcdinmemjkeolaaDoorGx14
import Derived.Test.YtcdinmemjkeolaaDoorPNeeds
namespace Go.Proofs.YtcdinmemjkeolaaDoor.Pure
open Go.RowKit Go.Proofs.YtcdinmemjkeolaaDoor.G Go.Proofs.YtcdinmemjkeolaaDoorW.PrintWords Go.Proofs.YtcdinmemjkeolaaDoorW.PrintLast
set_option linter.unusedSimpArgs false
set_option linter.unusedVariables false

/-- The reference's word on a bath that is ready for so much yarn. -/
def needAt (l : List S48) (s : List Int) (y : Int) (j : Nat) : Bool := decide (((rd_T48 l (j : Int)).f1 * y + 999) / 1000 ≤ rd s (j : Int))
def warmB (b : Int) : Bool := decide (60 ≤ b) && decide (b ≤ 95)
def readyS (l : List S48) (a b : Int) (s : List Int) (y : Int) : Bool := allFrom (needAt l s y) l.length 0 && (decide (20 * ((y + 999) / 1000) ≤ a) && warmB b)
theorem ready_ev {l : List S48} {a b c : Int} {s : List Int} (hb : bathB l a b c s = true) (y : Int) (y1 : 0 ≤ y) (y2 : y ≤ 50000) : Ev (fun k => spec_l7Ready.f k l a b c s y) (readyS l a b s y) := by
  obtain ⟨hr, a1, a2, b1, b2, c1, c2, hl, hs⟩ := bath_parts hb
  obtain ⟨r1, r2, r3, _⟩ := rec_parts hr
  have hn := needsL_length l y
  have loop : ∀ (d i : Nat), i + d = l.length → Ev (fun k => spec_l7Ready.l0 k y (needsL l y) (i : Int) a b c s) (allFrom (needAt l s y) d i && (decide (20 * ((y + 999) / 1000) ≤ a) && warmB b)) := by
    intro d
    induction d with
    | zero =>
      intro i hi
      refine Ev.step (fun k => rfl) ?_
      simp only [spec_l7Ready.l0, l1In_eq, Option.bind_some, allFrom, Bool.true_and]
      rw [wrap_in (x := y + 999) (by omega) (by omega), tdiv_nn (by omega), wrap_in (x := (y + 999) / 1000) (by omega) (by omega), wrap_in (x := 20 * ((y + 999) / 1000)) (by omega) (by omega)]
      refine ev_neg (by omega) ?_
      by_cases q : 20 * ((y + 999) / 1000) ≤ a
      · rw [decide_eq_true q]
        exact ev_pos q (Ev.now _)
      · rw [decide_eq_false q]
        exact ev_neg q (Ev.now _)
    | succ d ih =>
      intro i hi
      have e := needsL_rd l y (i : Int) (by omega) (by omega)
      refine Ev.step (fun k => rfl) ?_
      simp only [spec_l7Ready.l0]
      rw [e, wrap_in (x := (i : Int) + 1) (by omega) (by omega)]
      refine ev_pos (by omega) (ev_pos (by omega) (ev_pos (by omega) ?_))
      by_cases q : rd s (i : Int) < ((rd_T48 l (i : Int)).f1 * y + 999) / 1000
      · refine ev_pos q (ev_val ?_ (Ev.now false))
        simp only [allFrom, needAt]
        rw [decide_eq_false (by omega)]
        rfl
      · refine ev_neg q ?_
        simp only [allFrom, needAt]
        rw [decide_eq_true (by omega), Bool.true_and]
        exact ih (i + 1) (by omega)
  unfold spec_l7Ready.f
  exact Ev.bind (l7Needs_ev hr y y1 y2) (loop l.length 0 (by omega))
theorem most_ev {l : List S48} {a b c : Int} {s : List Int} (hb : bathB l a b c s = true) : ∃ M, Ev (fun k => impl_Bath_mostYarn.f k a b c s l) M ∧ 0 ≤ M ∧ M ≤ 50000 ∧ ∀ y, 0 ≤ y → y ≤ 50000 → readyS l a b s y = (decide (y ≤ M) && warmB b) := by
  obtain ⟨hr, a1, a2, b1, b2, c1, c2, hl, hs⟩ := bath_parts hb
  obtain ⟨r1, r2, r3, _⟩ := rec_parts hr
  have loop : ∀ (d i : Nat) (acc : Int), i + d = l.length → 0 ≤ acc → acc ≤ 50000 → ∃ M, Ev (fun k => impl_Bath_mostYarn.l0 k acc l (l.length : Int) (i : Int) a b c s) M ∧ 0 ≤ M ∧ M ≤ acc ∧ ∀ y, 0 ≤ y → y ≤ 50000 → (y ≤ M ↔ y ≤ acc ∧ allFrom (needAt l s y) d i = true) := by
    intro d
    induction d with
    | zero =>
      intro i acc hi h0 h1
      refine ⟨acc, Ev.step (fun k => rfl) ?_, h0, Int.le_refl _, fun y _ _ => by simp [allFrom]⟩
      simp only [impl_Bath_mostYarn.l0]
      exact ev_neg (by omega) (Ev.now _)
    | succ d ih =>
      intro i acc hi h0 h1
      obtain ⟨p1, p2⟩ := r3 (i : Int) (by omega) (by omega)
      obtain ⟨s1, s2⟩ := hs (i : Int) (by omega) (by omega)
      have q0 : 0 ≤ 1000 * rd s (i : Int) / (rd_T48 l (i : Int)).f1 := Int.ediv_nonneg (by omega) (by omega)
      have q1 : 1000 * rd s (i : Int) / (rd_T48 l (i : Int)).f1 ≤ 1000 * rd s (i : Int) := Int.ediv_le_self _ (by omega)
      have hmn : 0 ≤ mn acc (1000 * rd s (i : Int) / (rd_T48 l (i : Int)).f1) ∧ mn acc (1000 * rd s (i : Int) / (rd_T48 l (i : Int)).f1) ≤ acc ∧ ∀ y, y ≤ mn acc (1000 * rd s (i : Int) / (rd_T48 l (i : Int)).f1) ↔ y ≤ acc ∧ y ≤ 1000 * rd s (i : Int) / (rd_T48 l (i : Int)).f1 := by
        generalize 1000 * rd s (i : Int) / (rd_T48 l (i : Int)).f1 = q at q0 q1 ⊢
        unfold mn
        refine ⟨by omega, by omega, fun y => by omega⟩
      obtain ⟨m1, m2, m3⟩ := hmn
      obtain ⟨M, e1, e2, e3, e4⟩ := ih (i + 1) (mn acc (1000 * rd s (i : Int) / (rd_T48 l (i : Int)).f1)) (by omega) m1 (by omega)
      refine ⟨M, Ev.step (fun k => rfl) ?_, e2, by omega, fun y y0 y1 => ?_⟩
      · simp only [impl_Bath_mostYarn.l0]
        rw [wrap_in (x := 1000 * rd s (i : Int)) (by omega) (by omega), tdiv_nn (by omega), wrap_in (x := 1000 * rd s (i : Int) / (rd_T48 l (i : Int)).f1) (by omega) (by omega), wrap_in (x := (i : Int) + 1) (by omega) (by omega)]
        exact ev_pos (by omega) (ev_pos (by omega) (ev_pos (by omega) (ev_pos (by omega) (ev_neg (by omega) e1))))
      · rw [e4 y y0 y1, m3 y, Int.le_ediv_iff_mul_le (by omega), Int.mul_comm y]
        simp only [allFrom, needAt, Bool.and_eq_true, decide_eq_true_eq]
        generalize (rd_T48 l (i : Int)).f1 * y = z
        constructor
        · rintro ⟨⟨x1, x2⟩, x3⟩
          exact ⟨x1, by omega, x3⟩
        · rintro ⟨x1, x2, x3⟩
          exact ⟨⟨x1, by omega⟩, x3⟩
  have hw : wrap64 (wrap64 (Int.tdiv a 20) * 1000) = a / 20 * 1000 := by
    rw [tdiv_nn (by omega), wrap_in (x := a / 20) (by omega) (by omega), wrap_in (by omega) (by omega)]
  have hmn : 0 ≤ mn 50000 (a / 20 * 1000) ∧ mn 50000 (a / 20 * 1000) ≤ 50000 ∧ ∀ y, y ≤ mn 50000 (a / 20 * 1000) ↔ y ≤ 50000 ∧ y ≤ a / 20 * 1000 := by
    unfold mn
    refine ⟨by omega, by omega, fun y => by omega⟩
  obtain ⟨M, e1, e2, e3, e4⟩ := loop l.length 0 (mn 50000 (a / 20 * 1000)) (by omega) hmn.1 hmn.2.1
  refine ⟨M, ?_, e2, by omega, fun y y0 y1 => ?_⟩
  · unfold impl_Bath_mostYarn.f
    rw [hw]
    exact e1
  · unfold readyS
    have := e4 y y0 y1
    rw [hmn.2.2 y] at this
    cases warmB b with
    | false => simp
    | true =>
      simp only [Bool.and_true]
      apply bool_iff
      rw [Bool.and_eq_true, decide_eq_true_eq, decide_eq_true_eq, this]
      constructor
      · rintro ⟨x1, x2⟩
        exact ⟨⟨y1, by omega⟩, x1⟩
      · rintro ⟨⟨x1, x2⟩, x3⟩
        exact ⟨x3, by omega⟩
theorem warm_eq (a b c : Int) (s : List Int) : impl_Bath_isWarm.f a b c s = some (warmB b) := by unfold impl_Bath_isWarm.f; rw [in_eq]; rfl
end Go.Proofs.YtcdinmemjkeolaaDoor.Pure
