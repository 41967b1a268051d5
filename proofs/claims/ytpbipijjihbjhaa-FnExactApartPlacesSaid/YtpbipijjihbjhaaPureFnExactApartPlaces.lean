/- The number of places that lie apart is told as the statement says: at all arguments, with no premise. -/
import Derived.Test.YtpbipijjihbjhaaGs0
import Derived.Test.YtpbipijjihbjhaaGs1
import Derived.Test.YtpbipijjihbjhaaGx1
import Derived.Test.YtpbipijjihbjhaaGx12
import Derived.Test.YtpbipijjihbjhaaGx15
import Derived.Test.YtpbipijjihbjhaaGx16
import Derived.Test.YtpbipijjihbjhaaGx18
import Derived.Test.YtpbipijjihbjhaaGx5
import Derived.Test.YtpbipijjihbjhaaPPlaces
namespace Go.Proofs.Ytpbipijjihbjhaa.Pure
open Go.RowKit Go.Proofs.Ytpbipijjihbjhaa.G Go.Proofs.YtpbipijjihbjhaaW.PrintWords Go.Proofs.YtpbipijjihbjhaaW.PrintLast
set_option linter.unusedSimpArgs false
set_option linter.unusedVariables false

theorem toC_ev' (w h : Int) (l : List Int) (hl : l.length ≤ 1048576) : Ev (fun k => laws_toChart.f k w h l) (w, h, l) := ⟨l.length + 1, fun k hk => toChart_eq w h l hl k (by omega)⟩
theorem eqC_ev' (w h : Int) (l : List Int) (hl : l.length ≤ 1048576) : Ev (fun k => laws_eqChart.f k w h l w h l) true := ⟨l.length + 1, fun k hk => eqChart_eq w h l hl k (by omega)⟩
theorem l2Good_ev' (w h : Int) (l : List Int) (hl : l.length ≤ 1048576) : Ev (fun k => spec_l2Good.f k w h l) (goodB w h l) := ⟨l.length + 1, fun k hk => l2Good_eq w h l hl k (by omega)⟩
theorem most_eq (x : Int) : spec_l1Most.f x (wrap64 (-x)) = some (mxA x) := by
  unfold spec_l1Most.f mxA mx
  by_cases c : x > wrap64 (-x)
  · rw [if_pos c, if_neg (by omega)]
  · rw [if_neg c]
    by_cases e : x < wrap64 (-x)
    · rw [if_pos e]
    · rw [if_neg e, show wrap64 (-x) = x by omega]
theorem dropA_rd (l : List S44) (i : Nat) (h : i < l.length) : l.drop i = rd_T44 l (i : Int) :: l.drop (i + 1) := by
  rw [List.drop_eq_getElem_cons h]
  congr 1
  simp [rd_T44, h]
theorem ap_inner (A T : List S44) (i : Nat) (hi : i < A.length) (hA : A.length ≤ 1000) (mw mh : Int) (ml : List Int) (hT : T.length ≤ 1000) (r : Int × Bool) (d : Nat) : ∀ (j : Nat) (b : Bool), j + d = T.length →
    Ev (fun k => spec_ApartPlaces.l1 k A T (i : Int) (b && (T.drop j).all (apartV (rd_T44 A (i : Int)).f0 (rd_T44 A (i : Int)).f1 mw mh)) (T.length : Int) mw mh ml) r → Ev (fun k => spec_ApartPlaces.l1 k A T (i : Int) b (j : Int) mw mh ml) r := by
  induction d with
  | zero =>
    intro j b hj h
    have e : j = T.length := by omega
    rw [e, List.drop_eq_nil_of_le (Nat.le_refl _), List.all_nil, Bool.and_true] at h
    rw [e]
    exact h
  | succ d ih =>
    intro j b hj h
    rw [dropA_rd T j (by omega), List.all_cons] at h
    refine Ev.step (fun k => rfl) ?_
    simp only [spec_ApartPlaces.l1]
    rw [most_eq, most_eq]
    simp only [Option.bind_some]
    rw [wrap_in (x := (j : Int) + 1) (by omega) (by omega)]
    by_cases c0 : mxA (wrap64 ((rd_T44 A (i : Int)).f0 - (rd_T44 T (j : Int)).f0)) < mh
    · by_cases c1 : mxA (wrap64 ((rd_T44 A (i : Int)).f1 - (rd_T44 T (j : Int)).f1)) < mw
      · have e : apartV (rd_T44 A (i : Int)).f0 (rd_T44 A (i : Int)).f1 mw mh (rd_T44 T (j : Int)) = false := by
          unfold apartV
          rw [if_neg (by omega), decide_eq_false (by omega)]
        rw [e, Bool.false_and, Bool.and_false] at h
        refine ev_pos (by omega) (ev_pos (by omega) (ev_pos (by omega) (ev_pos (by omega) (ev_pos c0 (ev_pos c1 (ih (j + 1) false (by omega) ?_))))))
        rw [Bool.false_and]
        exact h
      · have e : apartV (rd_T44 A (i : Int)).f0 (rd_T44 A (i : Int)).f1 mw mh (rd_T44 T (j : Int)) = true := by
          unfold apartV
          rw [if_neg (by omega), decide_eq_true (by omega)]
        rw [e, Bool.true_and] at h
        exact ev_pos (by omega) (ev_pos (by omega) (ev_pos (by omega) (ev_pos (by omega) (ev_pos c0 (ev_neg c1 (ih (j + 1) b (by omega) h))))))
    · have e : apartV (rd_T44 A (i : Int)).f0 (rd_T44 A (i : Int)).f1 mw mh (rd_T44 T (j : Int)) = true := by
        unfold apartV
        rw [if_pos (by omega)]
      rw [e, Bool.true_and] at h
      exact ev_pos (by omega) (ev_pos (by omega) (ev_pos (by omega) (ev_pos (by omega) (ev_neg c0 (ih (j + 1) b (by omega) h)))))
theorem ap_outer (A : List S44) (hA : A.length ≤ 1000) (mw mh : Int) (ml : List Int) (d : Nat) : ∀ (i : Nat) (T : List S44), i + d = A.length → T.length ≤ i →
    ∃ r, Ev (fun k => spec_ApartPlaces.l0 k A T (i : Int) mw mh ml) r ∧ Ev (fun k => impl_ApartPlaces.l0 k T A (A.length : Int) (i : Int) mw mh ml) r := by
  induction d with
  | zero =>
    intro i T hi hT
    refine ⟨((T.length : Int), true), Ev.step (fun k => rfl) ?_, Ev.step (fun k => rfl) ?_⟩
    · simp only [spec_ApartPlaces.l0]
      exact ev_neg (by omega) (Ev.now _)
    · simp only [impl_ApartPlaces.l0]
      exact ev_neg (by omega) (Ev.now _)
  | succ d ih =>
    intro i T hi hT
    cases c : T.all (apartV (rd_T44 A (i : Int)).f0 (rd_T44 A (i : Int)).f1 mw mh) with
    | true =>
      obtain ⟨r, e1, e2⟩ := ih (i + 1) (T ++ [(⟨(rd_T44 A (i : Int)).f0, (rd_T44 A (i : Int)).f1⟩ : S44)]) (by omega) (by rw [List.length_append, List.length_singleton]; omega)
      refine ⟨r, Ev.step (fun k => rfl) ?_, Ev.step (fun k => rfl) ?_⟩
      · simp only [spec_ApartPlaces.l0]
        refine ev_pos (by omega) (ap_inner A T i (by omega) hA mw mh ml (by omega) r T.length 0 true (by omega) ?_)
        rw [List.drop_zero, c, Bool.and_true]
        refine Ev.step (fun k => rfl) ?_
        simp only [spec_ApartPlaces.l1]
        rw [wrap_in (x := (i : Int) + 1) (by omega) (by omega)]
        exact ev_neg (by omega) (ev_pos trivial (ev_pos (by omega) (ev_pos (by omega) (ev_pos (by omega) e1))))
      · simp only [impl_ApartPlaces.l0, impl_areAll_2_int.f, Option.bind_some]
        rw [c, wrap_in (x := (i : Int) + 1) (by omega) (by omega)]
        exact ev_pos (by omega) (ev_pos (by omega) (ev_pos (by omega) (ev_pos rfl (ev_pos (by omega) e2))))
    | false =>
      obtain ⟨r, e1, e2⟩ := ih (i + 1) T (by omega) (by omega)
      refine ⟨r, Ev.step (fun k => rfl) ?_, Ev.step (fun k => rfl) ?_⟩
      · simp only [spec_ApartPlaces.l0]
        refine ev_pos (by omega) (ap_inner A T i (by omega) hA mw mh ml (by omega) r T.length 0 true (by omega) ?_)
        rw [List.drop_zero, c, Bool.and_false]
        refine Ev.step (fun k => rfl) ?_
        simp only [spec_ApartPlaces.l1]
        rw [wrap_in (x := (i : Int) + 1) (by omega) (by omega)]
        exact ev_neg (by omega) (ev_neg (by simp) e1)
      · simp only [impl_ApartPlaces.l0, impl_areAll_2_int.f, Option.bind_some]
        rw [c, wrap_in (x := (i : Int) + 1) (by omega) (by omega)]
        exact ev_pos (by omega) (ev_pos (by omega) (ev_pos (by omega) (ev_neg (by simp) e2)))
theorem Apart_both (w h mw mh : Int) (l ml : List Int) (hl : l.length ≤ 1048576) (hm : ml.length ≤ 1048576) :
    ∃ r : Int × Bool, Ev (fun k => spec_ApartPlaces.f k w h l mw mh ml) r ∧ Ev (fun k => impl_ApartPlaces.f k w h l mw mh ml) r := by
  have g1 := l2Good_ev' w h l hl
  have g2 := l2Good_ev' mw mh ml hm
  have i1 := ev_eq (fun _ : Nat => IsChart_eq w h l)
  have i2 := ev_eq (fun _ : Nat => IsChart_eq mw mh ml)
  have jS : Ev (fun k => spec_ApartPlaces.j0 k true w h l mw mh ml) (0, false) := by
    refine Ev.step (fun k => rfl) ?_
    simp only [spec_ApartPlaces.j0]
    exact ev_pos trivial (Ev.now _)
  have jI : Ev (fun k => impl_ApartPlaces.j0 k true w h l mw mh ml) (0, false) := by
    refine Ev.step (fun k => rfl) ?_
    simp only [impl_ApartPlaces.j0]
    exact ev_pos trivial (Ev.now _)
  unfold spec_ApartPlaces.f impl_ApartPlaces.f
  cases cg : goodB w h l with
  | false =>
    rw [cg] at g1 i1
    exact ⟨(0, false), Ev.bind g1 (ev_neg (by simp) jS), Ev.bind i1 (ev_neg (by simp) jI)⟩
  | true =>
    rw [cg] at g1 i1
    cases cm : goodB mw mh ml with
    | false =>
      rw [cm] at g2 i2
      exact ⟨(0, false), Ev.bind g1 (ev_pos rfl (Ev.bind g2 jS)), Ev.bind i1 (ev_pos rfl (Ev.bind i2 jI))⟩
    | true =>
      rw [cm] at g2 i2
      obtain ⟨res, e1, e2, e3⟩ := places_both cg cm
      obtain ⟨r, p1, p2⟩ := ap_outer res (by omega) mw mh ml res.length 0 [] (by omega) (by simp)
      refine ⟨r, Ev.bind g1 (ev_pos rfl (Ev.bind g2 ?_)), Ev.bind i1 (ev_pos rfl (Ev.bind i2 ?_))⟩
      · refine Ev.step (fun k => rfl) ?_
        simp only [spec_ApartPlaces.j0]
        exact ev_neg (by simp) (Ev.bind e1 p1)
      · refine Ev.step (fun k => rfl) ?_
        simp only [impl_ApartPlaces.j0]
        exact ev_neg (by simp) (Ev.bind e2 p2)
theorem FnExactApartPlaces (w h : Int) (l : List Int) (mw mh : Int) (ml : List Int) (_ : (-9223372036854775808 ≤ w ∧ w ≤ 9223372036854775807)) (_ : (-9223372036854775808 ≤ h ∧ h ≤ 9223372036854775807)) (hl : l.length ≤ 9223372036854775807 ∧ ∀ y ∈ l, (-9223372036854775808 ≤ y ∧ y ≤ 9223372036854775807))
    (_ : (-9223372036854775808 ≤ mw ∧ mw ≤ 9223372036854775807)) (_ : (-9223372036854775808 ≤ mh ∧ mh ≤ 9223372036854775807)) (hm : ml.length ≤ 9223372036854775807 ∧ ∀ y ∈ ml, (-9223372036854775808 ≤ y ∧ y ≤ 9223372036854775807)) : ∃ k, laws_FnExactApartPlaces.f k w h l mw mh ml = some true := by
  refine Ev.rounds (g := fun k => laws_FnExactApartPlaces.f k w h l mw mh ml) ?_
  unfold laws_FnExactApartPlaces.f
  rw [szChart_eq w h l 1048576 (by omega) (by omega) hl.1]
  simp only [Option.bind_some]
  by_cases c1 : (1048576 : Int) < l.length
  · rw [if_pos c1]
    exact ev_pos (by omega) (Ev.now _)
  rw [if_neg c1, szChart_eq mw mh ml (1048576 - (l.length : Int)) (by omega) (by omega) hm.1]
  refine ev_neg (by omega) ?_
  simp only [Option.bind_some]
  by_cases c2 : 1048576 - (l.length : Int) < ml.length
  · rw [if_pos c2]
    exact ev_pos (by omega) (Ev.now _)
  rw [if_neg c2]
  refine ev_neg (by omega) ?_
  have n0 : l.length ≤ 1048576 := by omega
  have n1 : ml.length ≤ 1048576 := by omega
  have T0 := toC_ev' w h l n0
  have T1 := toC_ev' mw mh ml n1
  have Q0 := eqC_ev' w h l n0
  have Q1 := eqC_ev' mw mh ml n1
  obtain ⟨⟨o, ok⟩, hS, hI⟩ := Apart_both w h mw mh l ml n0 n1
  refine Ev.bind T0 (Ev.bind T1 (Ev.bind hS (Ev.bind T0 (Ev.bind T1 (Ev.bind hI (ev_pos rfl ?_))))))
  refine Ev.step (fun k => rfl) ?_
  simp only [laws_FnExactApartPlaces.j0]
  exact ev_neg (by simp) (Ev.bind T0 (Ev.bind Q0 (ev_pos rfl (Ev.bind T1 (Ev.bind Q1 (ev_pos rfl (Ev.now _)))))))
end Go.Proofs.Ytpbipijjihbjhaa.Pure
