/- Plain facts on pairs of shades that fade together. -/
import Derived.Test.YtggikmajopmchaaDoorGs0
import Derived.Test.YtggikmajopmchaaDoorGs3
import Derived.Test.YtggikmajopmchaaDoorGx10
import Derived.Test.YtggikmajopmchaaDoorGx17
import Derived.Test.YtggikmajopmchaaDoorGx18
import Derived.Test.YtggikmajopmchaaDoorGx19
import Derived.Test.YtggikmajopmchaaDoorPCard
import Derived.Test.YtggikmajopmchaaDoorPFar
import Derived.Test.YtggikmajopmchaaDoorPGap
namespace Go.Proofs.YtggikmajopmchaaDoor.Pure
open Go.RowKit Go.Proofs.YtggikmajopmchaaDoor.G Go.Proofs.YtggikmajopmchaaDoorW.PrintWords Go.Proofs.YtggikmajopmchaaDoorW.PrintLast
set_option linter.unusedSimpArgs false
set_option linter.unusedVariables false

theorem card_at2 {l : List S42} (h : cardB l = true) : l.length ≤ 10 ∧ ∀ i : Nat, i < l.length → (0 ≤ (rd_T42 l (i : Int)).f2 ∧ (rd_T42 l (i : Int)).f2 ≤ 23) ∧ (0 ≤ (rd_T42 l (i : Int)).f3 ∧ (rd_T42 l (i : Int)).f3 ≤ 9) ∧ 1 ≤ (rd_T42 l (i : Int)).f4 ∧ (rd_T42 l (i : Int)).f4 ≤ 8 := by
  unfold cardB at h
  rw [Bool.and_eq_true, decide_eq_true_eq, allFrom_iff] at h
  refine ⟨h.2, fun i hi => ?_⟩
  have := h.1 i (Nat.zero_le _) (by omega)
  unfold okB at this
  rw [Bool.and_eq_true] at this
  have hs := shade_parts this.1
  exact ⟨⟨hs.2.2.1, hs.2.2.2.1⟩, ⟨hs.2.2.2.2.1, hs.2.2.2.2.2.1⟩, hs.2.2.2.2.2.2.1, hs.2.2.2.2.2.2.2.1⟩
/-- The depth of a shade that has faded for some years. -/
def fad (c d y : Int) : Int := mx 0 (c - y / (5 * d))
theorem faded_eq (a : Int) (n : ByteArray) (b c d y : Int) (c0 : 0 ≤ c) (c1 : c ≤ 9) (d0 : 1 ≤ d) (d1 : d ≤ 8) (y0 : 0 ≤ y) (y1 : y ≤ 200) :
    spec_l3Faded.f a n b c d y = some (a, n, b, fad c d y, d) ∧ impl_Shade_faded.f a n b c d y = some (a, n, b, fad c d y, d) ∧ 0 ≤ fad c d y ∧ fad c d y ≤ 9 := by
  unfold spec_l3Faded.f impl_Shade_faded.f fad spec_l1Most.f
  rw [wrap_in (x := 5 * d) (by omega) (by omega), tdiv_nn y0]
  have q0 : 0 ≤ y / (5 * d) := Int.ediv_nonneg y0 (by omega)
  have q1 : y / (5 * d) ≤ y := Int.ediv_le_self _ y0
  generalize y / (5 * d) = q at q0 q1 ⊢
  rw [wrap_in (x := q) (by omega) (by omega), wrap_in (x := c - q) (by omega) (by omega)]
  simp only [if_neg (show ¬ (5 * d = 0) by omega)]
  refine ⟨?_, trivial, by unfold mx; omega, by unfold mx; omega⟩
  have e : (if (0 : Int) > c - q then some (0 : Int) else some (c - q)) = some (mx 0 (c - q)) := by
    unfold mx
    by_cases h : (0 : Int) > c - q
    · rw [if_pos h, if_neg (by omega)]
    · rw [if_neg h]
      by_cases h2 : 0 < c - q
      · rw [if_pos h2]
      · rw [if_neg h2]
        congr 1
        omega
  rw [e]
  rfl
theorem rd_dropF (l : List S42) (p q : Nat) : rd_T42 (l.drop p) (q : Int) = rd_T42 l ((p + q : Nat) : Int) := by
  unfold rd_T42
  rw [Int.toNat_natCast, Int.toNat_natCast, List.getD_eq_getElem?_getD, List.getD_eq_getElem?_getD, List.getElem?_drop]
theorem totalL_snocF (r : List Int) : ∀ l : List (List Int), totalL (l ++ [r]) = totalL l + r.length
  | [] => by
    rw [List.nil_append, totalL_cons, totalL_nil]
    omega
  | x :: l => by
    rw [List.cons_append, totalL_cons, totalL_cons, totalL_snocF r l]
    omega
def FinF (r : List (List Int) × Bool) : Prop := r.1.length ≤ 1000 ∧ totalL r.1 ≤ 3000
def GoodF (out : List (List Int)) (c : Nat) : Prop := out.length ≤ c ∧ totalL out = 2 * (out.length : Int)
def iF1 (l : List S42) (y e : Int) (i p : Nat) (out : List (List Int)) (k : Nat) : Option (List (List Int) × Bool) :=
  impl_FadedApart.l1 k l y e out l (l.length : Int) (i : Int) (l.drop (i + 1)) ((l.drop (i + 1)).length : Int) (p : Int) (rd_T42 l (i : Int)).f0 (rd_T42 l (i : Int)).f1 (rd_T42 l (i : Int)).f2 (rd_T42 l (i : Int)).f3 (rd_T42 l (i : Int)).f4
theorem fad_l1 (l : List S42) (hc : cardB l = true) (y e : Int) (y0 : 0 ≤ y) (y1 : y ≤ 200) (i : Nat) (hi : i < l.length)
    (next : ∀ out : List (List Int), GoodF out (10 * (i + 1)) → ∃ r, Ev (fun k => spec_FadedApart.l0 k l y e out ((i + 1 : Nat) : Int)) r ∧ Ev (fun k => impl_FadedApart.l0 k l y e out l (l.length : Int) ((i + 1 : Nat) : Int)) r ∧ FinF r) (d : Nat) :
    ∀ (p : Nat) (out : List (List Int)), i + 1 + p + d = l.length → GoodF out (10 * i + p) → ∃ r, Ev (fun k => spec_FadedApart.l1 k l y e out (i : Int) ((i + 1 + p : Nat) : Int)) r ∧ Ev (iF1 l y e i p out) r ∧ FinF r := by
  obtain ⟨h10, hw⟩ := card_at2 hc
  have hd1 : (l.drop (i + 1)).length = l.length - (i + 1) := List.length_drop
  induction d with
  | zero =>
    intro p out hp ho
    obtain ⟨r, e1, e2, e3⟩ := next out ⟨by have := ho.1; omega, ho.2⟩
    refine ⟨r, Ev.step (fun k => rfl) ?_, ?_, e3⟩
    · simp only [spec_FadedApart.l1]
      rw [show wrap64 ((i : Int) + 1) = ((i + 1 : Nat) : Int) by rw [wrap_in (by omega) (by omega)]; omega]
      exact ev_neg (by omega) e1
    · unfold iF1
      refine Ev.step (fun k => rfl) ?_
      simp only [impl_FadedApart.l1]
      rw [show wrap64 ((i : Int) + 1) = ((i + 1 : Nat) : Int) by rw [wrap_in (by omega) (by omega)]; omega]
      exact ev_neg (by omega) e2
  | succ d ih =>
    intro p out hp ho
    have w9 : wrap64 (((i + 1 + p : Nat) : Int) + 1) = ((i + 1 + (p + 1) : Nat) : Int) := by rw [wrap_in (by omega) (by omega)]; omega
    have wq : wrap64 ((p : Int) + 1) = ((p + 1 : Nat) : Int) := by rw [wrap_in (by omega) (by omega)]; omega
    have ba := hw i hi
    have bb := hw (i + 1 + p) (by omega)
    have fa := faded_eq (rd_T42 l (i : Int)).f0 (rd_T42 l (i : Int)).f1 (rd_T42 l (i : Int)).f2 _ _ y ba.2.1.1 ba.2.1.2 ba.2.2.1 ba.2.2.2 y0 y1
    have fb := faded_eq (rd_T42 l ((i + 1 + p : Nat) : Int)).f0 (rd_T42 l ((i + 1 + p : Nat) : Int)).f1 (rd_T42 l ((i + 1 + p : Nat) : Int)).f2 _ _ y bb.2.1.1 bb.2.1.2 bb.2.2.1 bb.2.2.2 y0 y1
    obtain ⟨g, g1, g2, _, _⟩ := far_eq (rd_T42 l (i : Int)).f0 (rd_T42 l (i : Int)).f1 _ _ (rd_T42 l (i : Int)).f4 (rd_T42 l ((i + 1 + p : Nat) : Int)).f0 (rd_T42 l ((i + 1 + p : Nat) : Int)).f1 _ _ (rd_T42 l ((i + 1 + p : Nat) : Int)).f4 ba.1.1 ba.1.2 bb.1.1 bb.1.2 ba.2.1.1 ba.2.1.2 bb.2.1.1 bb.2.1.2
    obtain ⟨q, q1, q2, _, _⟩ := far_eq (rd_T42 l (i : Int)).f0 (rd_T42 l (i : Int)).f1 _ _ (rd_T42 l (i : Int)).f4 (rd_T42 l ((i + 1 + p : Nat) : Int)).f0 (rd_T42 l ((i + 1 + p : Nat) : Int)).f1 _ _ (rd_T42 l ((i + 1 + p : Nat) : Int)).f4 ba.1.1 ba.1.2 bb.1.1 bb.1.2 fa.2.2.1 fa.2.2.2 fb.2.2.1 fb.2.2.2
    have same := ih (p + 1) out (by omega) ⟨by have := ho.1; omega, ho.2⟩
    have more := ih (p + 1) (out ++ [([(rd_T42 l (i : Int)).f0, (rd_T42 l ((i + 1 + p : Nat) : Int)).f0] : List Int)]) (by omega) ⟨by have := ho.1; rw [List.length_append, List.length_singleton]; omega, by
      rw [totalL_snocF, List.length_append, List.length_singleton, ho.2]
      simp only [List.length_cons, List.length_nil]
      omega⟩
    have S : ∀ r, Ev (fun k => if g ≥ e then (if q < e then spec_FadedApart.l1 k l y e (out ++ [([(rd_T42 l (i : Int)).f0, (rd_T42 l ((i + 1 + p : Nat) : Int)).f0] : List Int)]) (i : Int) ((i + 1 + (p + 1) : Nat) : Int) else spec_FadedApart.l1 k l y e out (i : Int) ((i + 1 + (p + 1) : Nat) : Int)) else spec_FadedApart.l1 k l y e out (i : Int) ((i + 1 + (p + 1) : Nat) : Int)) r →
        Ev (fun k => spec_FadedApart.l1 k l y e out (i : Int) ((i + 1 + p : Nat) : Int)) r := by
      intro r hr
      refine Ev.step (fun k => rfl) ?_
      simp only [spec_FadedApart.l1]
      rw [fa.1, fb.1]
      simp only [Option.bind_some]
      rw [g1, q1, w9]
      simp only [Option.bind_some]
      refine ev_pos (by omega) (ev_pos (by omega) (ev_pos (by omega) (ev_pos (by omega) ?_)))
      refine Ev.congr (fun k => ?_) hr
      rw [if_pos (show out.length < 5864062014805 by have := ho.1; omega)]
    have I : ∀ r, Ev (fun k => if g ≥ e then (if q < e then iF1 l y e i (p + 1) (out ++ [([(rd_T42 l (i : Int)).f0, (rd_T42 l ((i + 1 + p : Nat) : Int)).f0] : List Int)]) k else iF1 l y e i (p + 1) out k) else iF1 l y e i (p + 1) out k) r → Ev (iF1 l y e i p out) r := by
      intro r hr
      unfold iF1 at hr ⊢
      refine Ev.step (fun k => rfl) ?_
      simp only [impl_FadedApart.l1]
      rw [rd_dropF, g2]
      simp only [Option.bind_some]
      rw [fa.2.1, fb.2.1]
      simp only [Option.bind_some]
      rw [q2, wq]
      simp only [Option.bind_some]
      refine ev_pos (by omega) (ev_pos (by omega) (ev_pos (by omega) ?_))
      refine Ev.congr (fun k => ?_) hr
      rw [if_pos (show out.length < 5864062014805 by have := ho.1; omega)]
    by_cases c1 : g ≥ e
    · by_cases c2 : q < e
      · obtain ⟨r, e1, e2, e3⟩ := more
        exact ⟨r, S r (ev_pos c1 (ev_pos c2 e1)), I r (ev_pos c1 (ev_pos c2 e2)), e3⟩
      · obtain ⟨r, e1, e2, e3⟩ := same
        exact ⟨r, S r (ev_pos c1 (ev_neg c2 e1)), I r (ev_pos c1 (ev_neg c2 e2)), e3⟩
    · obtain ⟨r, e1, e2, e3⟩ := same
      exact ⟨r, S r (ev_neg c1 e1), I r (ev_neg c1 e2), e3⟩
theorem fad_l0 (l : List S42) (hc : cardB l = true) (y e : Int) (y0 : 0 ≤ y) (y1 : y ≤ 200) (d : Nat) :
    ∀ (i : Nat) (out : List (List Int)), i + d = l.length → GoodF out (10 * i) → ∃ r, Ev (fun k => spec_FadedApart.l0 k l y e out (i : Int)) r ∧ Ev (fun k => impl_FadedApart.l0 k l y e out l (l.length : Int) (i : Int)) r ∧ FinF r := by
  obtain ⟨h10, hw⟩ := card_at2 hc
  induction d with
  | zero =>
    intro i out hi ho
    have hl := ho.1
    have ht := ho.2
    refine ⟨(out, true), Ev.step (fun k => rfl) ?_, Ev.step (fun k => rfl) ?_, ⟨by show out.length ≤ 1000; omega, by show totalL out ≤ 3000; omega⟩⟩
    · simp only [spec_FadedApart.l0]
      exact ev_neg (by omega) (Ev.now _)
    · simp only [impl_FadedApart.l0]
      exact ev_neg (by omega) (Ev.now _)
  | succ d ih =>
    intro i out hi ho
    obtain ⟨r, e1, e2, e3⟩ := fad_l1 l hc y e y0 y1 i (by omega) (fun o g => ih (i + 1) o (by omega) g) (l.length - (i + 1)) 0 out (by omega) ⟨by have := ho.1; omega, ho.2⟩
    refine ⟨r, Ev.step (fun k => rfl) ?_, Ev.step (fun k => rfl) ?_, e3⟩
    · simp only [spec_FadedApart.l0]
      rw [show wrap64 ((i : Int) + 1) = ((i + 1 + 0 : Nat) : Int) by rw [wrap_in (by omega) (by omega)]; omega]
      exact ev_pos (by omega) e1
    · unfold iF1 at e2
      simp only [impl_FadedApart.l0, Option.bind_some]
      rw [show wrap64 ((i : Int) + 1) = ((i + 1 : Nat) : Int) by rw [wrap_in (by omega) (by omega)]; omega, Int.toNat_natCast]
      exact ev_pos (by omega) (ev_pos (by omega) (ev_pos (by omega) (ev_pos (by omega) (ev_pos (by omega) e2))))
theorem Faded_both (l : List S42) (hl : l.length ≤ 1048576) (hx : ∀ x ∈ l, x.f1.size ≤ 9223372036854775807) (y e : Int) :
    ∃ r, Ev (fun k => spec_FadedApart.f k l y e) r ∧ Ev (fun k => impl_FadedApart.f k l y e) r ∧ FinF r := by
  have g1 := good_ev l hl hx
  have i1 := impl_card_ev l hl
  have nil : FinF (([] : List (List Int)), false) := ⟨by simp, by show totalL [] ≤ 3000; rw [totalL_nil]; omega⟩
  have jS : Ev (fun k => spec_FadedApart.j0 k l y e [] true) (([] : List (List Int)), false) := by
    refine Ev.step (fun k => rfl) ?_
    simp only [spec_FadedApart.j0]
    exact ev_pos trivial (Ev.now _)
  have jI : Ev (fun k => impl_FadedApart.j0 k l y e true) (([] : List (List Int)), false) := by
    refine Ev.step (fun k => rfl) ?_
    simp only [impl_FadedApart.j0]
    exact ev_pos trivial (Ev.now _)
  have yS : ∀ _ : Nat, spec_l3Years.f y = some (decide (0 ≤ y) && decide (y ≤ 200)) := fun _ => by unfold spec_l3Years.f; rw [l1In_eq]; rfl
  have yI : ∀ _ : Nat, impl_isYears.f y = some (decide (0 ≤ y) && decide (y ≤ 200)) := fun _ => by unfold impl_isYears.f; rw [in_eq]; rfl
  have yE := ev_eq yS
  have yE2 := ev_eq yI
  unfold spec_FadedApart.f impl_FadedApart.f
  simp only [Option.bind_some]
  cases cg : cardB l with
  | false =>
    rw [cg] at g1 i1
    exact ⟨_, Ev.bind g1 (ev_neg (by simp) jS), Ev.bind i1 (ev_neg (by simp) jI), nil⟩
  | true =>
    rw [cg] at g1 i1
    cases cy : (decide (0 ≤ y) && decide (y ≤ 200)) with
    | false =>
      rw [cy] at yE yE2
      exact ⟨_, Ev.bind g1 (ev_pos rfl (Ev.bind yE (ev_neg (by simp) jS))), Ev.bind i1 (ev_pos rfl (Ev.bind yE2 (ev_neg (by simp) jI))), nil⟩
    | true =>
      rw [cy] at yE yE2
      rw [Bool.and_eq_true, decide_eq_true_eq, decide_eq_true_eq] at cy
      have inE := ev_eq (fun _ : Nat => in_eq e 0 33)
      have l1E := ev_eq (fun _ : Nat => l1In_eq e 0 33)
      cases cs : (decide (0 ≤ e) && decide (e ≤ 33)) with
      | false =>
        rw [cs] at inE l1E
        exact ⟨_, Ev.bind g1 (ev_pos rfl (Ev.bind yE (ev_pos rfl (Ev.bind l1E jS)))), Ev.bind i1 (ev_pos rfl (Ev.bind yE2 (ev_pos rfl (Ev.bind inE jI)))), nil⟩
      | true =>
        rw [cs] at inE l1E
        obtain ⟨r, e1, e2, e3⟩ := fad_l0 l cg y e cy.1 cy.2 l.length 0 [] (by omega) ⟨by simp, by rw [totalL_nil]; simp⟩
        refine ⟨r, Ev.bind g1 (ev_pos rfl (Ev.bind yE (ev_pos rfl (Ev.bind l1E ?_)))), Ev.bind i1 (ev_pos rfl (Ev.bind yE2 (ev_pos rfl (Ev.bind inE ?_)))), e3⟩
        · refine Ev.step (fun k => rfl) ?_
          simp only [spec_FadedApart.j0]
          exact ev_neg (by simp) e1
        · refine Ev.step (fun k => rfl) ?_
          simp only [impl_FadedApart.j0]
          exact ev_neg (by simp) e2
end Go.Proofs.YtggikmajopmchaaDoor.Pure
