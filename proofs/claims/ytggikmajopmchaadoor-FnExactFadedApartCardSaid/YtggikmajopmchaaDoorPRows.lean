/- Plain facts on rows of rows that are marked. -/
import Derived.Test.YtggikmajopmchaaDoorGs0
import Derived.Test.YtggikmajopmchaaDoorGx3
import Derived.Test.YtggikmajopmchaaDoorGx4
import Derived.Test.YtggikmajopmchaaDoorGx7
import Derived.Test.YtggikmajopmchaaDoorPMark
import Derived.Test.YtggikmajopmchaaDoorPCard
namespace Go.Proofs.YtggikmajopmchaaDoor.Pure
open Go.RowKit Go.Proofs.YtggikmajopmchaaDoor.G Go.Proofs.YtggikmajopmchaaDoorW.PrintWords Go.Proofs.YtggikmajopmchaaDoorW.PrintLast
set_option linter.unusedSimpArgs false
set_option linter.unusedVariables false

theorem row_le : ∀ (l : List (List Int)) (i : Nat), i < l.length → ((l.getD i []).length : Int) ≤ totalL l
  | [], i, h => absurd h (by simp)
  | r :: l, 0, _ => by
    have := totalL_nn l
    rw [totalL_cons]
    show (r.length : Int) ≤ _
    omega
  | r :: l, i + 1, h => by
    have := row_le l i (by simpa using h)
    rw [totalL_cons]
    have e : (r :: l).getD (i + 1) [] = l.getD i [] := by simp
    rw [e]
    omega
theorem rdL_nat (l : List (List Int)) (i : Nat) : rd_L1 l (i : Int) = l.getD i [] := by
  unfold rd_L1
  rw [Int.toNat_natCast]
theorem eqSS_ev (l : List (List Int)) (hl : l.length ≤ 1048576) (ht : totalL l ≤ 1048576) : Ev (fun k => laws_eqIntSS.f k l l) true := by
  have loop : ∀ (d : Nat) (i : Nat), i + d = l.length → Ev (fun k => laws_eqIntSS.l0 k l l (i : Int)) true := by
    intro d
    induction d with
    | zero =>
      intro i hi
      refine Ev.step (fun k => rfl) ?_
      simp only [laws_eqIntSS.l0]
      exact ev_neg (by omega) (Ev.now _)
    | succ d ih =>
      intro i hi
      have hr := row_le l i (by omega)
      rw [← rdL_nat] at hr
      have hE := eqIntS_ev (rd_L1 l (i : Int)) (by omega)
      refine Ev.step (fun k => rfl) ?_
      simp only [laws_eqIntSS.l0]
      rw [wrap_in (x := (i : Int) + 1) (by omega) (by omega)]
      exact ev_pos (by omega) (ev_pos (by omega) (ev_pos (by omega) (Ev.bind hE (ev_pos rfl (ih (i + 1) (by omega))))))
  unfold laws_eqIntSS.f
  exact ev_pos rfl (loop l.length 0 (by omega))
theorem marksG_marks (n : Nat) (m : Int) : marksG n m = marks n m := rfl
theorem marksL_get : ∀ (l : List (List Int)) (m : Int) (i : Nat), i < l.length → (marksL l m).getD i [] = marks (l.getD i []).length (m + totalL (l.take i))
  | [], _, i, h => absurd h (by simp)
  | r :: l, m, 0, _ => by
    rw [marksL_cons, List.take_zero, totalL_nil, Int.add_zero]
    rfl
  | r :: l, m, i + 1, h => by
    have := marksL_get l (m + r.length) i (by simpa using h)
    rw [marksL_cons, List.take_succ_cons, totalL_cons]
    have e1 : (marksG r.length m :: marksL l (m + r.length)).getD (i + 1) [] = (marksL l (m + r.length)).getD i [] := by simp
    have e2 : (r :: l).getD (i + 1) [] = l.getD i [] := by simp
    rw [e1, e2, this, Int.add_assoc]
theorem totalL_take_succ : ∀ (l : List (List Int)) (i : Nat), i < l.length → totalL (l.take (i + 1)) = totalL (l.take i) + (l.getD i []).length
  | [], i, h => absurd h (by simp)
  | r :: l, 0, _ => by
    rw [List.take_zero, totalL_nil, List.take_succ_cons, List.take_zero, totalL_cons, totalL_nil]
    show (r.length : Int) + 0 = 0 + (r.length : Int)
    omega
  | r :: l, i + 1, h => by
    have := totalL_take_succ l i (by simpa using h)
    rw [List.take_succ_cons, List.take_succ_cons, totalL_cons, totalL_cons, this]
    have e2 : (r :: l).getD (i + 1) [] = l.getD i [] := by simp
    rw [e2]
    omega
theorem totalL_take_le : ∀ (l : List (List Int)) (i : Nat), totalL (l.take i) ≤ totalL l
  | [], i => by simp
  | r :: l, 0 => by
    have := totalL_nn (r :: l)
    rw [List.take_zero, totalL_nil]
    exact this
  | r :: l, i + 1 => by
    have := totalL_take_le l i
    rw [List.take_succ_cons, totalL_cons, totalL_cons]
    omega
theorem heldSS_ev (l : List (List Int)) (hl : l.length ≤ 1048576) (m : Int) (m0 : 0 ≤ m) (ht : m + totalL l ≤ 1000000) : Ev (fun k => laws_heldIntSS.f k (marksL l m) m) (m + totalL l) := by
  have hn := marksL_length l m
  have loop : ∀ (d : Nat) (i : Nat), i + d = l.length → Ev (fun k => laws_heldIntSS.l0 k (marksL l m) (m + totalL (l.take i)) (i : Int)) (m + totalL l) := by
    intro d
    induction d with
    | zero =>
      intro i hi
      rw [List.take_of_length_le (by omega)]
      refine Ev.step (fun k => rfl) ?_
      simp only [laws_heldIntSS.l0]
      exact ev_neg (by omega) (Ev.now _)
    | succ d ih =>
      intro i hi
      have hr := row_le l i (by omega)
      have h1 := totalL_take_le l i
      have h2 := totalL_nn (l.take i)
      have h3 := totalL_take_succ l i (by omega)
      have e : rd_L1 (marksL l m) (i : Int) = marks (l.getD i []).length (m + totalL (l.take i)) := by rw [rdL_nat]; exact marksL_get l m i (by omega)
      have hH := heldIntS_ev (l.getD i []).length (by omega) (m + totalL (l.take i)) (by omega) (by omega)
      have k := ih (i + 1) (by omega)
      rw [h3] at k
      refine Ev.step (fun k => rfl) ?_
      simp only [laws_heldIntSS.l0]
      rw [e, wrap_in (x := (i : Int) + 1) (by omega) (by omega)]
      refine ev_pos (by omega) (ev_pos (by omega) (Ev.bind hH (ev_neg (by omega) ?_)))
      rw [Int.add_assoc]
      exact k
  have h := loop l.length 0 (by omega)
  rw [List.take_zero, totalL_nil, Int.add_zero] at h
  exact h
theorem szS2_ev (l : List S38) (hl : l.length ≤ 9223372036854775807) (hx : ∀ x ∈ l, x.f1.size ≤ 9223372036854775807) : ∃ r, Ev (fun k => laws_szShadeS.f k l 1048576) r ∧ (¬ r < 0 → l.length ≤ 1048576) := by
  obtain ⟨r, h1, h2, _⟩ := szS_ev l hl hx
  exact ⟨r, h1, h2⟩
theorem markSS_ok (l : List (List Int)) (h : totalL l ≤ 900000) : laws_markIntSS.f l 1 = some (1 + totalL l) := by
  have := totalL_nn l
  unfold laws_markIntSS.f markOk
  rw [if_pos (by rw [Bool.and_eq_true, decide_eq_true_eq, decide_eq_true_eq]; omega)]
end Go.Proofs.YtggikmajopmchaaDoor.Pure
