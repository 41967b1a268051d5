/- Plain facts on the shade that is nearest. -/
import Derived.Test.YtafokpklcmegaaaDoorGx10
import Derived.Test.YtafokpklcmegaaaDoorGx11
import Derived.Test.YtafokpklcmegaaaDoorGx13
import Derived.Test.YtafokpklcmegaaaDoorGx14
import Derived.Test.YtafokpklcmegaaaDoorGx2
import Derived.Test.YtafokpklcmegaaaDoorGx3
import Derived.Test.YtafokpklcmegaaaDoorGx9
import Derived.Test.YtafokpklcmegaaaDoorPCard
import Derived.Test.YtafokpklcmegaaaDoorPFar
namespace Go.Proofs.YtafokpklcmegaaaDoor.Pure
open Go.RowKit Go.Proofs.YtafokpklcmegaaaDoor.G Go.Proofs.YtafokpklcmegaaaDoorW.PrintWords Go.Proofs.YtafokpklcmegaaaDoorW.PrintLast
set_option linter.unusedSimpArgs false
set_option linter.unusedVariables false

theorem cmp_eq (a b : Int) : cmp_Compare_int.f a b = some (if a < b then -1 else if a > b then 1 else 0) := by
  unfold cmp_Compare_int.f cmp_isNaN_int.f
  have h1 : (a != a) = false := by simp
  have h2 : (b != b) = false := by simp
  rw [h1, h2]
  by_cases c : a < b
  · simp [c]
  · by_cases c2 : a > b <;> simp [c, c2]
def okS (b c : Int) : Prop := 0 ≤ b ∧ b ≤ 23 ∧ 0 ≤ c ∧ c ≤ 9
theorem near_l0 (l : List S48) (hl : l.length ≤ 1048576) (hx : ∀ x ∈ l, okS x.f2 x.f3) (w dp : Int) (hw : okS w dp) (d : Nat) : ∀ (i : Int) (b0 : Int) (b1 : ByteArray) (b2 b3 b4 : Int), okS b2 b3 → 0 ≤ i → i + d = l.length →
    ∃ (r0 : Int) (r1 : ByteArray) (r2 r3 r4 : Int), Ev (fun k => spec_NearestShade.l0 k l w dp i b0 b1 b2 b3 b4) (r0, true) ∧ Ev (fun k => slices_MinFunc_impl_Shade_impl_Shade.l0 (nearOF ⟨#[]⟩ w dp) k l i b0 b1 b2 b3 b4) (r0, r1, r2, r3, r4) := by
  obtain ⟨w1, w2, w3, w4⟩ := hw
  induction d with
  | zero =>
    intro i b0 b1 b2 b3 b4 hb h0 h1
    refine ⟨b0, b1, b2, b3, b4, Ev.step (fun k => rfl) ?_, Ev.step (fun k => rfl) ?_⟩
    · simp only [spec_NearestShade.l0]
      exact ev_neg (by omega) (Ev.now _)
    · simp only [slices_MinFunc_impl_Shade_impl_Shade.l0]
      exact ev_neg (by omega) (Ev.now _)
  | succ d ih =>
    intro i b0 b1 b2 b3 b4 hb h0 h1
    obtain ⟨c1, c2, c3, c4⟩ := hb
    have hm := hx _ (rdS_mem l i h0 (by omega))
    obtain ⟨m1, m2, m3, m4⟩ := hm
    obtain ⟨r, e1, e2, _, _⟩ := far_eq (rd_T48 l i).f0 (rd_T48 l i).f1 (rd_T48 l i).f2 (rd_T48 l i).f3 (rd_T48 l i).f4 0 ⟨#[]⟩ w dp 0 m1 m2 w1 w2 m3 m4 w3 w4
    obtain ⟨q, e3, e4, _, _⟩ := far_eq b0 b1 b2 b3 b4 0 ⟨#[]⟩ w dp 0 c1 c2 w1 w2 c3 c4 w3 w4
    have hO : nearOF ⟨#[]⟩ w dp (rd_T48 l i).f0 (rd_T48 l i).f1 (rd_T48 l i).f2 (rd_T48 l i).f3 (rd_T48 l i).f4 b0 b1 b2 b3 b4 = some (if r < q then -1 else if r > q then 1 else 0) := by
      unfold nearOF
      rw [e2, e4]
      exact cmp_eq r q
    by_cases c : r < q
    · obtain ⟨r0, r1, r2, r3, r4, f1, f2⟩ := ih (i + 1) (rd_T48 l i).f0 (rd_T48 l i).f1 (rd_T48 l i).f2 (rd_T48 l i).f3 (rd_T48 l i).f4 ⟨m1, m2, m3, m4⟩ (by omega) (by omega)
      refine ⟨r0, r1, r2, r3, r4, Ev.step (fun k => rfl) ?_, Ev.step (fun k => rfl) ?_⟩
      · simp only [spec_NearestShade.l0]
        rw [e1, e3, wrap_in (x := i + 1) (by omega) (by omega)]
        exact ev_pos (by omega) (ev_pos h0 (Ev.bind (Ev.now _) (Ev.bind (Ev.now _) (ev_pos c f1))))
      · simp only [slices_MinFunc_impl_Shade_impl_Shade.l0]
        rw [hO, if_pos c, wrap_in (x := i + 1) (by omega) (by omega)]
        exact ev_pos (by omega) (ev_pos h0 (Ev.bind (Ev.now _) (ev_pos (by omega) f2)))
    · obtain ⟨r0, r1, r2, r3, r4, f1, f2⟩ := ih (i + 1) b0 b1 b2 b3 b4 ⟨c1, c2, c3, c4⟩ (by omega) (by omega)
      refine ⟨r0, r1, r2, r3, r4, Ev.step (fun k => rfl) ?_, Ev.step (fun k => rfl) ?_⟩
      · simp only [spec_NearestShade.l0]
        rw [e1, e3, wrap_in (x := i + 1) (by omega) (by omega)]
        exact ev_pos (by omega) (ev_pos h0 (Ev.bind (Ev.now _) (Ev.bind (Ev.now _) (ev_neg c f1))))
      · simp only [slices_MinFunc_impl_Shade_impl_Shade.l0]
        rw [hO, if_neg c, wrap_in (x := i + 1) (by omega) (by omega)]
        exact ev_pos (by omega) (ev_pos h0 (Ev.bind (Ev.now _) (ev_neg (by split <;> omega) f2)))
theorem step_spec (a : Int) : spec_l3Step.f a = some (stepB a) := by
  unfold spec_l3Step.f
  rw [l1In_eq]
  rfl
theorem depth_spec (a : Int) : spec_l3Depth.f a = some (depthB a) := by
  unfold spec_l3Depth.f
  rw [l1In_eq]
  rfl
theorem card_ok (l : List S48) (h : cardB l = true) : ∀ x ∈ l, okS x.f2 x.f3 := by
  intro x hx
  have hl : l.length ≤ 10 := by
    unfold cardB at h
    rw [Bool.and_eq_true] at h
    exact of_decide_eq_true h.2
  rw [card_parts l hl, Bool.and_eq_true, List.all_eq_true] at h
  have h1 := h.1 x hx
  rw [P_one] at h1
  obtain ⟨_, _, p1, p2, p3, p4, _⟩ := shade_parts h1
  exact ⟨p1, p2, p3, p4⟩
theorem NearestShade_both (l : List S48) (w dp : Int) (hl : l.length ≤ 1048576) (hx : ∀ x ∈ l, x.f1.size ≤ 9223372036854775807) : ∃ r : Int × Bool, Ev (fun k => spec_NearestShade.f k l w dp) r ∧ Ev (fun k => impl_NearestShade.f k l w dp) r := by
  have hS := good_ev l hl hx
  have hI := impl_card_ev l hl
  have hj : Ev (fun k => spec_NearestShade.j0 k l w dp true) (0, false) := by
    refine Ev.step (fun k => rfl) ?_
    simp only [spec_NearestShade.j0]
    exact ev_pos trivial (Ev.now _)
  unfold spec_NearestShade.f impl_NearestShade.f
  cases hc : cardB l with
  | false => exact ⟨(0, false), Ev.bind (ev_val hc hS) (ev_neg (by simp) hj), Ev.bind (ev_val hc hI) (ev_neg (by simp) (Ev.now _))⟩
  | true =>
    have hok := card_ok l hc
    have hS' := ev_val hc hS
    have hI' := ev_val hc hI
    by_cases z : l.length = 0
    · refine ⟨(0, false), Ev.bind hS' (ev_pos rfl (ev_pos (by omega) hj)), Ev.bind hI' (ev_pos rfl ?_)⟩
      cases stepB w with
      | false => exact ev_neg (by simp) (Ev.now _)
      | true =>
        refine ev_pos rfl ?_
        cases depthB dp with
        | false => exact ev_neg (by simp) (Ev.now _)
        | true => exact ev_pos rfl (ev_pos z (Ev.now _))
    · rw [step_spec, depth_spec]
      cases hs : stepB w with
      | false => exact ⟨(0, false), Ev.bind hS' (ev_pos rfl (ev_neg (by omega) (Ev.bind (Ev.now _) (ev_neg (by simp) hj)))), Ev.bind hI' (ev_pos rfl (ev_neg (by simp) (Ev.now _)))⟩
      | true =>
        cases hd : depthB dp with
        | false => exact ⟨(0, false), Ev.bind hS' (ev_pos rfl (ev_neg (by omega) (Ev.bind (Ev.now _) (ev_pos rfl (Ev.bind (Ev.now _) hj))))), Ev.bind hI' (ev_pos rfl (ev_pos rfl (ev_neg (by simp) (Ev.now _))))⟩
        | true =>
          unfold stepB at hs
          unfold depthB at hd
          simp only [Bool.and_eq_true, decide_eq_true_eq] at hs hd
          obtain ⟨r0, r1, r2, r3, r4, f1, f2⟩ := near_l0 l hl hok w dp ⟨hs.1, hs.2, hd.1, hd.2⟩ (l.length - 1) 1 (rd_T48 l 0).f0 (rd_T48 l 0).f1 (rd_T48 l 0).f2 (rd_T48 l 0).f3 (rd_T48 l 0).f4 (hok _ (rdS_mem l 0 (by omega) (by omega))) (by omega) (by omega)
          have hj2 : Ev (fun k => spec_NearestShade.j0 k l w dp (!true)) (r0, true) := by
            refine Ev.step (fun k => rfl) ?_
            simp only [spec_NearestShade.j0]
            exact ev_neg (by simp) (ev_pos (by omega) f1)
          have hm : Ev (fun k => slices_MinFunc_impl_Shade_impl_Shade.f (nearOF ⟨#[]⟩ w dp) k l) (r0, r1, r2, r3, r4) := by
            unfold slices_MinFunc_impl_Shade_impl_Shade.f
            exact ev_neg (by omega) (ev_pos (by omega) f2)
          exact ⟨(r0, true), Ev.bind hS' (ev_pos rfl (ev_neg (by omega) (Ev.bind (Ev.now _) (ev_pos rfl (Ev.bind (Ev.now _) hj2))))), Ev.bind hI' (ev_pos rfl (ev_pos rfl (ev_pos rfl (ev_neg z (Ev.bind hm (Ev.now _))))))⟩
end Go.Proofs.YtafokpklcmegaaaDoor.Pure
