/- Plain facts on the places of a motif in a chart. -/
import Derived.Test.YtpbipijjihbjhaaGx2
import Derived.Test.YtpbipijjihbjhaaGx3
import Derived.Test.YtpbipijjihbjhaaGx4
import Derived.Test.YtpbipijjihbjhaaGx6
import Derived.Test.YtpbipijjihbjhaaGx7
import Derived.Test.YtpbipijjihbjhaaGx8
import Derived.Test.YtpbipijjihbjhaaGx9
import Derived.Test.YtpbipijjihbjhaaPPart
import Derived.Test.YtpbipijjihbjhaaPGrid
namespace Go.Proofs.Ytpbipijjihbjhaa.Pure
open Go.RowKit Go.Proofs.Ytpbipijjihbjhaa.G Go.Proofs.YtpbipijjihbjhaaW.PrintWords Go.Proofs.YtpbipijjihbjhaaW.PrintLast
set_option linter.unusedSimpArgs false
set_option linter.unusedVariables false

/-- Two rows are the same from a place on. -/
def sameFrom (x y : List Int) : Nat → Nat → Bool
  | _, 0 => true
  | i, d + 1 => decide (rd x (i : Int) = rd y (i : Int)) && sameFrom x y (i + 1) d
theorem sameFrom_symm (x y : List Int) : ∀ (d i : Nat), sameFrom x y i d = sameFrom y x i d
  | 0, _ => rfl
  | d + 1, i => by
    unfold sameFrom
    rw [sameFrom_symm x y d (i + 1), show decide (rd x (i : Int) = rd y (i : Int)) = decide (rd y (i : Int) = rd x (i : Int)) from decide_eq_decide.mpr eq_comm]
theorem l4Same_l0 (a b p q : Int) (x y : List Int) (hl : x.length = y.length) (hb : x.length ≤ 1048576) (d : Nat) : ∀ i : Nat, i + d = x.length → Ev (fun k => spec_l4Same.l0 k (i : Int) a b x p q y) (sameFrom x y i d) := by
  induction d with
  | zero =>
    intro i hi
    refine Ev.step (fun k => rfl) ?_
    simp only [spec_l4Same.l0]
    exact ev_neg (by omega) (Ev.now _)
  | succ d ih =>
    intro i hi
    refine Ev.step (fun k => rfl) ?_
    simp only [spec_l4Same.l0]
    rw [wrap_in (x := (i : Int) + 1) (by omega) (by omega)]
    unfold sameFrom
    by_cases c : rd x (i : Int) = rd y (i : Int)
    · rw [decide_eq_true c, Bool.true_and]
      exact ev_pos (by omega) (ev_pos (by omega) (ev_pos (by omega) (ev_pos c (ih (i + 1) (by omega)))))
    · rw [decide_eq_false c, Bool.false_and]
      exact ev_pos (by omega) (ev_pos (by omega) (ev_pos (by omega) (ev_neg c (Ev.now _))))
theorem l4Same_ev (a b : Int) (x y : List Int) (hl : x.length = y.length) (hb : x.length ≤ 1048576) : Ev (fun k => spec_l4Same.f k a b x a b y) (sameFrom x y 0 x.length) := by
  unfold spec_l4Same.f
  refine ev_pos rfl (Ev.step (fun k => rfl) ?_)
  simp only [spec_l4Same.j0]
  exact ev_neg (by simp) (l4Same_l0 a b a b x y hl hb x.length 0 (by omega))
theorem Equal_l0 (x y : List Int) (hl : x.length = y.length) (hb : x.length ≤ 1048576) (d : Nat) : ∀ i : Nat, i + d = x.length → Ev (fun k => slices_Equal_int_int.l0 k x y (x.length : Int) (i : Int)) (sameFrom x y i d) := by
  induction d with
  | zero =>
    intro i hi
    refine Ev.step (fun k => rfl) ?_
    simp only [slices_Equal_int_int.l0]
    exact ev_neg (by omega) (Ev.now _)
  | succ d ih =>
    intro i hi
    refine Ev.step (fun k => rfl) ?_
    simp only [slices_Equal_int_int.l0]
    rw [wrap_in (x := (i : Int) + 1) (by omega) (by omega)]
    unfold sameFrom
    by_cases c : rd x (i : Int) = rd y (i : Int)
    · rw [decide_eq_true c, Bool.true_and]
      exact ev_pos (by omega) (ev_pos (by omega) (ev_pos (by omega) (ev_pos (by omega) (ev_pos c (ih (i + 1) (by omega))))))
    · rw [decide_eq_false c, Bool.false_and]
      exact ev_pos (by omega) (ev_pos (by omega) (ev_pos (by omega) (ev_pos (by omega) (ev_neg c (Ev.now _)))))
theorem sameChart_ev (a b : Int) (x y : List Int) (hl : x.length = y.length) (hb : x.length ≤ 1048576) : Ev (fun k => impl_sameChart.f k a b x a b y) (sameFrom x y 0 x.length) := by
  unfold impl_sameChart.f slices_Equal_int_int.f
  exact ev_pos rfl (ev_pos rfl (Ev.bind (ev_pos (by omega) (Equal_l0 x y hl hb x.length 0 (by omega))) (Ev.now _)))
/-- One row of places: both go on alike, if they do so from the next row on. -/
theorem row_both {w h mw mh : Int} {l ml : List Int} (g : goodB w h l = true) (gm : goodB mw mh ml = true) (r : Int) (r0 : 0 ≤ r) (r1 : r + mh ≤ h)
    (next : ∀ out : List S44, (out.length : Int) ≤ 8 * (r + 1) → ∃ res : List S44, Ev (fun k => spec_l6Places.l0 k out (r + 1) w h l mw mh ml) res ∧ Ev (fun k => impl_Chart_places.l0 k out (r + 1) w h l mw mh ml) res ∧ res.length ≤ 100)
    (d : Nat) : ∀ (c : Int) (out : List S44), 0 ≤ c → c + d = max (w - mw + 1) c → (out.length : Int) ≤ 8 * r + c → c ≤ 8 →
      ∃ res : List S44, Ev (fun k => spec_l6Places.l1 k out r c w h l mw mh ml) res ∧ Ev (fun k => impl_Chart_places.l1 k out r c w h l mw mh ml) res ∧ res.length ≤ 100 := by
  obtain ⟨w1, w8, h1, h8, hl, _, _⟩ := good_parts g
  obtain ⟨v1, v8, k1, k8, hm, hm2, _⟩ := good_parts gm
  induction d with
  | zero =>
    intro c out c0 cd ho c8
    obtain ⟨res, e1, e2, e3⟩ := next out (by omega)
    refine ⟨res, Ev.step (fun k => rfl) ?_, Ev.step (fun k => rfl) ?_, e3⟩
    · simp only [spec_l6Places.l1]
      rw [wrap_in (x := c + mw) (by omega) (by omega), wrap_in (x := r + 1) (by omega) (by omega)]
      exact ev_neg (by omega) e1
    · simp only [impl_Chart_places.l1]
      rw [wrap_in (x := c + mw) (by omega) (by omega), wrap_in (x := r + 1) (by omega) (by omega)]
      exact ev_neg (by omega) e2
  | succ d ih =>
    intro c out c0 cd ho c8
    have hp : PartIn w h l r c mh mw := ⟨r0, c0, k1, v1, r1, by omega, w8, h8, hl⟩
    have pS : Ev (fun k => spec_l2Part.f k w h l r c mh mw) (mw, mh, chartL (partG w l r c) mw mh) := by
      obtain ⟨K, hK⟩ := l2Part_eq g r c mh mw hp
      exact ⟨K, hK⟩
    have pI : Ev (fun _ : Nat => impl_Chart_part.f w h l r c mh mw) (mw, mh, chartL (partG w l r c) mw mh) := ev_eq (fun _ => part_eq r c mh mw hp)
    have hL : ml.length = (chartL (partG w l r c) mw mh).length := by
      have := chartL_len (partG w l r c) (w := mw) (h := mh) (by omega) (by omega)
      omega
    have sS := l4Same_ev mw mh ml (chartL (partG w l r c) mw mh) hL (by omega)
    have sI := sameChart_ev mw mh (chartL (partG w l r c) mw mh) ml hL.symm (by omega)
    rw [sameFrom_symm, ← hL] at sI
    cases hs : sameFrom ml (chartL (partG w l r c) mw mh) 0 ml.length with
    | true =>
      rw [hs] at sS sI
      obtain ⟨res, e1, e2, e3⟩ := ih (c + 1) (out ++ [(⟨r, c⟩ : S44)]) (by omega) (by omega) (by rw [List.length_append, List.length_singleton]; omega) (by omega)
      refine ⟨res, Ev.step (fun k => rfl) ?_, Ev.step (fun k => rfl) ?_, e3⟩
      · simp only [spec_l6Places.l1]
        rw [wrap_in (x := c + mw) (by omega) (by omega), wrap_in (x := r + 1) (by omega) (by omega), wrap_in (x := c + 1) (by omega) (by omega)]
        exact ev_pos (by omega) (Ev.bind pS (Ev.bind sS (ev_pos rfl (ev_pos (by omega) e1))))
      · simp only [impl_Chart_places.l1]
        rw [wrap_in (x := c + mw) (by omega) (by omega), wrap_in (x := r + 1) (by omega) (by omega), wrap_in (x := c + 1) (by omega) (by omega)]
        exact ev_pos (by omega) (Ev.bind pI (Ev.bind sI (ev_pos rfl (ev_pos (by omega) e2))))
    | false =>
      rw [hs] at sS sI
      obtain ⟨res, e1, e2, e3⟩ := ih (c + 1) out (by omega) (by omega) (by omega) (by omega)
      refine ⟨res, Ev.step (fun k => rfl) ?_, Ev.step (fun k => rfl) ?_, e3⟩
      · simp only [spec_l6Places.l1]
        rw [wrap_in (x := c + mw) (by omega) (by omega), wrap_in (x := r + 1) (by omega) (by omega), wrap_in (x := c + 1) (by omega) (by omega)]
        exact ev_pos (by omega) (Ev.bind pS (Ev.bind sS (ev_neg (by simp) e1)))
      · simp only [impl_Chart_places.l1]
        rw [wrap_in (x := c + mw) (by omega) (by omega), wrap_in (x := r + 1) (by omega) (by omega), wrap_in (x := c + 1) (by omega) (by omega)]
        exact ev_pos (by omega) (Ev.bind pI (Ev.bind sI (ev_neg (by simp) e2)))
theorem rows_both {w h mw mh : Int} {l ml : List Int} (g : goodB w h l = true) (gm : goodB mw mh ml = true) (d : Nat) : ∀ (r : Int) (out : List S44), 0 ≤ r → r + d = max (h - mh + 1) r → (out.length : Int) ≤ 8 * r → r ≤ 8 →
    ∃ res : List S44, Ev (fun k => spec_l6Places.l0 k out r w h l mw mh ml) res ∧ Ev (fun k => impl_Chart_places.l0 k out r w h l mw mh ml) res ∧ res.length ≤ 100 := by
  obtain ⟨w1, w8, h1, h8, hl, _, _⟩ := good_parts g
  obtain ⟨v1, v8, k1, k8, hm, hm2, _⟩ := good_parts gm
  induction d with
  | zero =>
    intro r out r0 rd ho r8
    refine ⟨out, Ev.step (fun k => rfl) ?_, Ev.step (fun k => rfl) ?_, by omega⟩
    · simp only [spec_l6Places.l0]
      rw [wrap_in (x := r + mh) (by omega) (by omega)]
      exact ev_neg (by omega) (Ev.now _)
    · simp only [impl_Chart_places.l0]
      rw [wrap_in (x := r + mh) (by omega) (by omega)]
      exact ev_neg (by omega) (Ev.now _)
  | succ d ih =>
    intro r out r0 rd ho r8
    obtain ⟨res, e1, e2, e3⟩ := row_both g gm r r0 (by omega) (fun o hO => ih (r + 1) o (by omega) (by omega) hO (by omega)) (max (w - mw + 1) 0).toNat 0 out (by omega) (by omega) (by omega) (by omega)
    refine ⟨res, Ev.step (fun k => rfl) ?_, Ev.step (fun k => rfl) ?_, e3⟩
    · simp only [spec_l6Places.l0]
      rw [wrap_in (x := r + mh) (by omega) (by omega)]
      exact ev_pos (by omega) e1
    · simp only [impl_Chart_places.l0]
      rw [wrap_in (x := r + mh) (by omega) (by omega)]
      exact ev_pos (by omega) e2
theorem places_both {w h mw mh : Int} {l ml : List Int} (g : goodB w h l = true) (gm : goodB mw mh ml = true) :
    ∃ res : List S44, Ev (fun k => spec_l6Places.f k w h l mw mh ml) res ∧ Ev (fun k => impl_Chart_places.f k w h l mw mh ml) res ∧ res.length ≤ 100 :=
  rows_both g gm (max (h - mh + 1) 0).toNat 0 [] (by omega) (by omega) (by simp) (by omega)
end Go.Proofs.Ytpbipijjihbjhaa.Pure
