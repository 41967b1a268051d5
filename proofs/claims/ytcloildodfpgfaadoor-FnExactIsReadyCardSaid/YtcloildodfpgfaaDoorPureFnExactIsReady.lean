/- For every list of dye parts and every bath the program's IsReady answers as the reference's. -/
import Derived.Test.YtcloildodfpgfaaDoorGx18
import Derived.Test.YtcloildodfpgfaaDoorGx19
import Derived.Test.YtcloildodfpgfaaDoorGx20
import Derived.Test.YtcloildodfpgfaaDoorPReady
namespace Go.Proofs.YtcloildodfpgfaaDoor.Pure
open Go.RowKit Go.Proofs.YtcloildodfpgfaaDoor.G Go.Proofs.YtcloildodfpgfaaDoorW.PrintWords Go.Proofs.YtcloildodfpgfaaDoorW.PrintLast
set_option linter.unusedSimpArgs false
set_option linter.unusedVariables false

theorem IsReady_both (l : List S64) (hl : l.length ≤ 1048576) (hx : ∀ x ∈ l, x.f0.size ≤ 9223372036854775807) (a b c : Int) (s : List Int) (hs : s.length ≤ 1048576) : ∃ r : Bool × Bool, Ev (fun k => spec_IsReady.f k l a b c s) r ∧ Ev (fun k => impl_IsReady.f k l a b c s) r := by
  unfold spec_IsReady.f impl_IsReady.f impl_Bath_isReady.f
  simp only [warm_eq, Option.bind_some]
  cases h : bathB l a b c s with
  | false => exact ⟨(false, false), Ev.bind (ev_val h (l7Bath_ev l hl hx a b c s hs)) (ev_neg (by simp) (Ev.now _)), Ev.bind (ev_val h (IsBath_ev l hl a b c s)) (ev_neg (by simp) (Ev.now _))⟩
  | true =>
    obtain ⟨hr, a1, a2, b1, b2, c1, c2, _, _⟩ := bath_parts h
    obtain ⟨M, e1, e2, e3, e4⟩ := most_ev h
    refine ⟨(readyS l a b s c, true), Ev.bind (ev_val h (l7Bath_ev l hl hx a b c s hs)) (ev_pos (by trivial) (Ev.bind (ready_ev h c c1 c2) (Ev.now _))), Ev.bind (ev_val h (IsBath_ev l hl a b c s)) (ev_pos (by trivial) (Ev.bind (a := readyS l a b s c) ?_ (Ev.now _)))⟩
    rw [e4 c c1 c2]
    cases warmB b with
    | false => exact ev_neg (by simp) (ev_val (by simp) (Ev.now false))
    | true => exact ev_pos (by trivial) (Ev.bind e1 (ev_val (by simp) (Ev.now _)))
theorem FnExactIsReady (l : List S62) (a b c : Int) (s : List Int) (hl : l.length ≤ 9223372036854775807 ∧ ∀ y ∈ l, (y.f0.size ≤ 9223372036854775807 ∧ (-9223372036854775808 ≤ y.f1 ∧ y.f1 ≤ 9223372036854775807))) (_ : (-9223372036854775808 ≤ a ∧ a ≤ 9223372036854775807)) (_ : (-9223372036854775808 ≤ b ∧ b ≤ 9223372036854775807)) (_ : (-9223372036854775808 ≤ c ∧ c ≤ 9223372036854775807)) (hs : s.length ≤ 9223372036854775807 ∧ ∀ y ∈ s, (-9223372036854775808 ≤ y ∧ y ≤ 9223372036854775807)) : ∃ k, laws_FnExactIsReady.f k l a b c s = some true := by
  refine Ev.rounds (g := fun k => laws_FnExactIsReady.f k l a b c s) ?_
  unfold laws_FnExactIsReady.f
  obtain ⟨r, hz, hr⟩ := szR_ev l hl.1 (fun x hx => (hl.2 x hx).1)
  refine Ev.bind hz ?_
  by_cases c1 : r < 0
  · exact ev_pos c1 (Ev.now _)
  obtain ⟨h1, h2⟩ := hr c1
  refine ev_neg c1 ?_
  obtain ⟨q, hq, hr2⟩ := szBath_eq a b c s hs.1 r (by omega) h2
  simp only [hq, Option.bind_some]
  by_cases c2 : q < 0
  · exact ev_pos c2 (Ev.now _)
  have h3 := hr2 c2
  refine ev_neg c2 ?_
  have hm : (l.map toDyePart).length ≤ 1048576 := by simpa using h1
  have hx : ∀ x ∈ l.map toDyePart, x.f0.size ≤ 9223372036854775807 := by
    intro x hx
    obtain ⟨y, hy, rfl⟩ := List.mem_map.1 hx
    exact (hl.2 y hy).1
  have hT := toR_ev l h1
  have hQ := eqR_ev (l.map toDyePart) hm
  have hB := toBath_ev a b c s h3
  have hE := eqBath_ev a b c s h3
  obtain ⟨⟨v1, v2⟩, hS, hI⟩ := IsReady_both (l.map toDyePart) hm hx a b c s h3
  repeat (first
    | exact Ev.now _
    | refine Ev.bind (hT) ?_
    | refine Ev.bind (hQ) ?_
    | refine Ev.bind (hB) ?_
    | refine Ev.bind (hE) ?_
    | refine Ev.bind (hS) ?_
    | refine Ev.bind (hI) ?_
    | (refine ev_neg ?hc ?_; (case hc => first | omega | (dsimp only; omega) | (simp; done)))
    | (refine ev_pos ?hc ?_; (case hc => first | exact rfl | omega | (dsimp only; omega) | (simp; done)))
    | (refine Ev.step (fun k => rfl) ?_; simp only [laws_FnExactIsReady.j0]))
end Go.Proofs.YtcloildodfpgfaaDoor.Pure
