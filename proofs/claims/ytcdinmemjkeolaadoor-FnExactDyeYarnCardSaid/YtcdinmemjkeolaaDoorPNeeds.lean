/- Plain facts on what is needed for a recipe. -/
import Derived.Test.YtcdinmemjkeolaaDoorGx0
import Derived.Test.YtcdinmemjkeolaaDoorGx14
import Derived.Test.YtcdinmemjkeolaaDoorGx15
import Derived.Test.YtcdinmemjkeolaaDoorGx9
import Derived.Test.YtcdinmemjkeolaaDoorPBath
namespace Go.Proofs.YtcdinmemjkeolaaDoor.Pure
open Go.RowKit Go.Proofs.YtcdinmemjkeolaaDoor.G Go.Proofs.YtcdinmemjkeolaaDoorW.PrintWords Go.Proofs.YtcdinmemjkeolaaDoorW.PrintLast
set_option linter.unusedSimpArgs false
set_option linter.unusedVariables false

theorem drop_rd (l : List S48) (n : Nat) (h : n < l.length) : l.drop n = rd_T48 l (n : Int) :: l.drop (n + 1) := by
  rw [List.drop_eq_getElem_cons h, rdDyePart_at l (n : Int) (by simpa using h)]
  simp
def needOf (y : Int) (x : S48) : Int := (x.f1 * y + 999) / 1000
/-- How many grams of each stuff are needed. -/
def needsL (l : List S48) (y : Int) : List Int := l.map (needOf y)
theorem prod_in {p y : Int} (p1 : 1 ≤ p) (p2 : p ≤ 1000) (y1 : 0 ≤ y) (y2 : y ≤ 50000) : 0 ≤ p * y ∧ p * y ≤ 50000000 := by
  have := mul_bound (a := p) (b := y) (A := 1000) (B := 50000) (by omega) p2 y1 y2
  omega
theorem l7Needs_ev {l : List S48} (hr : recB l = true) (y : Int) (y1 : 0 ≤ y) (y2 : y ≤ 50000) : Ev (fun k => spec_l7Needs.f k l y) (needsL l y) := by
  obtain ⟨r1, r2, r3, _⟩ := rec_parts hr
  have loop : ∀ (d i : Nat) (acc : List Int), i + d = l.length → acc.length ≤ i → Ev (fun k => spec_l7Needs.l0 k l y acc (i : Int)) (acc ++ needsL (l.drop i) y) := by
    intro d
    induction d with
    | zero =>
      intro i acc hi ha
      refine Ev.step (fun k => rfl) ?_
      simp only [spec_l7Needs.l0]
      rw [List.drop_eq_nil_of_le (by omega)]
      refine ev_neg (by omega) (ev_val ?_ (Ev.now acc))
      simp [needsL]
    | succ d ih =>
      intro i acc hi ha
      obtain ⟨p1, p2⟩ := r3 (i : Int) (by omega) (by omega)
      obtain ⟨q1, q2⟩ := prod_in p1 p2 y1 y2
      refine Ev.step (fun k => rfl) ?_
      simp only [spec_l7Needs.l0]
      rw [wrap_in (x := (rd_T48 l (i : Int)).f1 * y) (by omega) (by omega), wrap_in (x := (rd_T48 l (i : Int)).f1 * y + 999) (by omega) (by omega), tdiv_nn (by omega), wrap_in (x := ((rd_T48 l (i : Int)).f1 * y + 999) / 1000) (by omega) (by omega), wrap_in (x := (i : Int) + 1) (by omega) (by omega)]
      refine ev_pos (by omega) (ev_pos (by omega) (ev_pos (by omega) ?_))
      have := ih (i + 1) (acc ++ [((rd_T48 l (i : Int)).f1 * y + 999) / 1000]) (by omega) (by simp; omega)
      rw [drop_rd l i (by omega)]
      simpa [needsL, needOf] using this
  have := loop l.length 0 [] (by omega) (by simp)
  simpa [spec_l7Needs.f] using this
theorem needs_ev {l : List S48} (hr : recB l = true) (y : Int) (y1 : 0 ≤ y) (y2 : y ≤ 50000) : Ev (fun k => impl_needs.f k l y) (needsL l y) := by
  obtain ⟨r1, r2, r3, _⟩ := rec_parts hr
  have loop : ∀ (d i : Nat) (acc : List Int), i + d = l.length → acc.length ≤ i → Ev (fun k => impl_needs.l0 k y acc l (l.length : Int) (i : Int)) (acc ++ needsL (l.drop i) y) := by
    intro d
    induction d with
    | zero =>
      intro i acc hi ha
      refine Ev.step (fun k => rfl) ?_
      simp only [impl_needs.l0]
      rw [List.drop_eq_nil_of_le (by omega)]
      refine ev_neg (by omega) (ev_val ?_ (Ev.now acc))
      simp [needsL]
    | succ d ih =>
      intro i acc hi ha
      obtain ⟨p1, p2⟩ := r3 (i : Int) (by omega) (by omega)
      obtain ⟨q1, q2⟩ := prod_in p1 p2 y1 y2
      have hc : impl_ceilDiv.f ((rd_T48 l (i : Int)).f1 * y) 1000 = some (((rd_T48 l (i : Int)).f1 * y + 999) / 1000) := by
        unfold impl_ceilDiv.f
        rw [if_neg (by omega), wrap_in (x := (rd_T48 l (i : Int)).f1 * y + 1000) (by omega) (by omega), wrap_in (x := (rd_T48 l (i : Int)).f1 * y + 1000 - 1) (by omega) (by omega), tdiv_nn (by omega), wrap_in (x := ((rd_T48 l (i : Int)).f1 * y + 1000 - 1) / 1000) (by omega) (by omega), show (rd_T48 l (i : Int)).f1 * y + 1000 - 1 = (rd_T48 l (i : Int)).f1 * y + 999 by omega]
      refine Ev.step (fun k => rfl) ?_
      simp only [impl_needs.l0]
      rw [wrap_in (x := (rd_T48 l (i : Int)).f1 * y) (by omega) (by omega), hc, wrap_in (x := (i : Int) + 1) (by omega) (by omega)]
      simp only [Option.bind_some]
      refine ev_pos (by omega) (ev_pos (by omega) (ev_pos (by omega) (ev_pos (by omega) ?_)))
      have := ih (i + 1) (acc ++ [((rd_T48 l (i : Int)).f1 * y + 999) / 1000]) (by omega) (by simp; omega)
      rw [drop_rd l i (by omega)]
      simpa [needsL, needOf] using this
  have := loop l.length 0 [] (by omega) (by simp)
  simpa [impl_needs.f] using this
theorem needsL_length (l : List S48) (y : Int) : (needsL l y).length = l.length := by simp [needsL]
theorem needsL_rd (l : List S48) (y : Int) (i : Int) (h0 : 0 ≤ i) (h1 : i < l.length) : rd (needsL l y) i = ((rd_T48 l i).f1 * y + 999) / 1000 := by
  rw [rd_at _ _ (by rw [needsL_length]; omega), rdDyePart_at l i (by omega)]
  simp [needsL, needOf]
end Go.Proofs.YtcdinmemjkeolaaDoor.Pure
