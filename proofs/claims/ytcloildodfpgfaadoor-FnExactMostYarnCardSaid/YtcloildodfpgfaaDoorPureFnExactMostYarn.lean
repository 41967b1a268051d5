/- For every list of dye parts and every bath the program's MostYarn answers as the reference's. -/
import Derived.Test.YtcloildodfpgfaaDoorGx21
import Derived.Test.YtcloildodfpgfaaDoorGx22
import Derived.Test.YtcloildodfpgfaaDoorPReady
namespace Go.Proofs.YtcloildodfpgfaaDoor.Pure
open Go.RowKit Go.Proofs.YtcloildodfpgfaaDoor.G Go.Proofs.YtcloildodfpgfaaDoorW.PrintWords Go.Proofs.YtcloildodfpgfaaDoorW.PrintLast
set_option linter.unusedSimpArgs false
set_option linter.unusedVariables false

theorem MostYarn_both (l : List S64) (hl : l.length ≤ 1048576) (hx : ∀ x ∈ l, x.f0.size ≤ 9223372036854775807) (a b c : Int) (s : List Int) (hs : s.length ≤ 1048576) : ∃ r : Int × Bool, Ev (fun k => spec_MostYarn.f k l a b c s) r ∧ Ev (fun k => impl_MostYarn.f k l a b c s) r := by
  unfold spec_MostYarn.f impl_MostYarn.f
  simp only [warm_eq, Option.bind_some]
  have stop : ∀ b', b' = true → Ev (fun k => spec_MostYarn.j0 k l b' a b c s) (0, false) := fun b' hb => Ev.step (fun k => by simp only [spec_MostYarn.j0]; rw [if_pos hb]) (Ev.now _)
  cases h : bathB l a b c s with
  | false => exact ⟨(0, false), Ev.bind (ev_val h (l7Bath_ev l hl hx a b c s hs)) (ev_neg (by simp) (stop _ rfl)), Ev.bind (ev_val h (IsBath_ev l hl a b c s)) (ev_neg (by simp) (Ev.now _))⟩
  | true =>
    obtain ⟨M, e1, e2, e3, e4⟩ := most_ev h
    have h0 : readyS l a b s 0 = warmB b := by rw [e4 0 (by omega) (by omega), decide_eq_true e2, Bool.true_and]
    have hz := ready_ev h 0 (by omega) (by omega)
    rw [h0] at hz
    cases w : warmB b with
    | false =>
      rw [w] at hz
      exact ⟨(0, false), Ev.bind (ev_val h (l7Bath_ev l hl hx a b c s hs)) (ev_pos (by trivial) (Ev.bind hz (stop _ rfl))), Ev.bind (ev_val h (IsBath_ev l hl a b c s)) (ev_pos (by trivial) (ev_neg (by simp) (Ev.now _)))⟩
    | true =>
      rw [w] at hz
      have search : ∀ (d : Nat) (lo hi : Int), hi - lo ≤ d → 0 ≤ lo → lo ≤ M → M ≤ hi → hi ≤ 50000 → Ev (fun k => spec_MostYarn.l0 k l lo hi a b c s) (M, true) := by
        intro d
        induction d with
        | zero =>
          intro lo hi g0 g1 g2 g3 g4
          refine Ev.step (fun k => rfl) ?_
          simp only [spec_MostYarn.l0]
          refine ev_neg (by omega) (ev_val ?_ (Ev.now _))
          rw [show lo = M by omega]
        | succ d ih =>
          intro lo hi g0 g1 g2 g3 g4
          refine Ev.step (fun k => rfl) ?_
          simp only [spec_MostYarn.l0]
          by_cases q : lo < hi
          · have hmid : wrap64 (Int.tdiv (wrap64 (wrap64 (lo + hi) + 1)) 2) = (lo + hi + 1) / 2 := by
              rw [wrap_in (x := lo + hi) (by omega) (by omega), wrap_in (x := lo + hi + 1) (by omega) (by omega), tdiv_nn (by omega), wrap_in (by omega) (by omega)]
            rw [hmid, wrap_in (x := (lo + hi + 1) / 2 - 1) (by omega) (by omega)]
            have hm := ready_ev h ((lo + hi + 1) / 2) (by omega) (by omega)
            rw [e4 _ (by omega) (by omega), w, Bool.and_true] at hm
            refine ev_pos q (Ev.bind hm ?_)
            by_cases z : (lo + hi + 1) / 2 ≤ M
            · rw [decide_eq_true z]
              exact ev_pos (by trivial) (ih _ _ (by omega) (by omega) z g3 g4)
            · rw [decide_eq_false z]
              exact ev_neg (by simp) (ih _ _ (by omega) g1 g2 (by omega) (by omega))
          · refine ev_neg q (ev_val ?_ (Ev.now _))
            rw [show lo = M by omega]
      exact ⟨(M, true), Ev.bind (ev_val h (l7Bath_ev l hl hx a b c s hs)) (ev_pos (by trivial) (Ev.bind hz (Ev.step (fun k => by simp only [spec_MostYarn.j0]; exact if_neg (by simp)) (search 50000 0 50000 (by omega) (by omega) e2 e3 (by omega))))), Ev.bind (ev_val h (IsBath_ev l hl a b c s)) (ev_pos (by trivial) (ev_pos (by trivial) (Ev.bind e1 (Ev.now _))))⟩
theorem FnExactMostYarn (l : List S62) (a b c : Int) (s : List Int) (hl : l.length ≤ 9223372036854775807 ∧ ∀ y ∈ l, (y.f0.size ≤ 9223372036854775807 ∧ (-9223372036854775808 ≤ y.f1 ∧ y.f1 ≤ 9223372036854775807))) (_ : (-9223372036854775808 ≤ a ∧ a ≤ 9223372036854775807)) (_ : (-9223372036854775808 ≤ b ∧ b ≤ 9223372036854775807)) (_ : (-9223372036854775808 ≤ c ∧ c ≤ 9223372036854775807)) (hs : s.length ≤ 9223372036854775807 ∧ ∀ y ∈ s, (-9223372036854775808 ≤ y ∧ y ≤ 9223372036854775807)) : ∃ k, laws_FnExactMostYarn.f k l a b c s = some true := by
  refine Ev.rounds (g := fun k => laws_FnExactMostYarn.f k l a b c s) ?_
  unfold laws_FnExactMostYarn.f
  obtain ⟨r, hz, hr⟩ := szR_ev l hl.1 (fun x hx => (hl.2 x hx).1)
  refine Ev.bind hz ?_
  by_cases c1 : r < 0
  · exact ev_pos c1 (Ev.now _)
  obtain ⟨h1, h2⟩ := hr c1
  refine ev_neg c1 ?_
  obtain ⟨q, hq, hr2⟩ := szBath_eq a b c s hs.1 r (by omega) h2
  simp only [hq, Option.bind_some]
  by_cases c2 : q < 0
  · exact ev_pos c2 (Ev.now _)
  have h3 := hr2 c2
  refine ev_neg c2 ?_
  have hm : (l.map toDyePart).length ≤ 1048576 := by simpa using h1
  have hx : ∀ x ∈ l.map toDyePart, x.f0.size ≤ 9223372036854775807 := by
    intro x hx
    obtain ⟨y, hy, rfl⟩ := List.mem_map.1 hx
    exact (hl.2 y hy).1
  have hT := toR_ev l h1
  have hQ := eqR_ev (l.map toDyePart) hm
  have hB := toBath_ev a b c s h3
  have hE := eqBath_ev a b c s h3
  obtain ⟨⟨v1, v2⟩, hS, hI⟩ := MostYarn_both (l.map toDyePart) hm hx a b c s h3
  repeat (first
    | exact Ev.now _
    | refine Ev.bind (hT) ?_
    | refine Ev.bind (hQ) ?_
    | refine Ev.bind (hB) ?_
    | refine Ev.bind (hE) ?_
    | refine Ev.bind (hS) ?_
    | refine Ev.bind (hI) ?_
    | (refine ev_neg ?hc ?_; (case hc => first | omega | (dsimp only; omega) | (simp; done)))
    | (refine ev_pos ?hc ?_; (case hc => first | exact rfl | omega | (dsimp only; omega) | (simp; done)))
    | (refine Ev.step (fun k => rfl) ?_; simp only [laws_FnExactMostYarn.j0]))
end Go.Proofs.YtcloildodfpgfaaDoor.Pure
