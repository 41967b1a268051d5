/- For every list of dye parts and every int the program's NeedsFor answers as the reference's, in memory of its own. -/
import Derived.Test.YtcloildodfpgfaaDoorGx12
import Derived.Test.YtcloildodfpgfaaDoorGx13
import Derived.Test.YtcloildodfpgfaaDoorGx14
import Derived.Test.YtcloildodfpgfaaDoorGx9
import Derived.Test.YtcloildodfpgfaaDoorPNeeds
import Derived.Test.YtcloildodfpgfaaDoorPMark
namespace Go.Proofs.YtcloildodfpgfaaDoor.Pure
open Go.RowKit Go.Proofs.YtcloildodfpgfaaDoor.G Go.Proofs.YtcloildodfpgfaaDoorW.PrintWords Go.Proofs.YtcloildodfpgfaaDoorW.PrintLast
set_option linter.unusedSimpArgs false
set_option linter.unusedVariables false

theorem NeedsFor_both (l : List S64) (hl : l.length ≤ 1048576) (hx : ∀ x ∈ l, x.f0.size ≤ 9223372036854775807) (y : Int) : ∃ r : List Int × Bool, Ev (fun k => spec_NeedsFor.f k l y) r ∧ Ev (fun k => impl_NeedsFor.f k l y) r ∧ r.1.length ≤ 1048576 := by
  unfold spec_NeedsFor.f impl_NeedsFor.f
  simp only [grams_spec, grams_impl, Option.bind_some]
  cases h : recB l with
  | false => exact ⟨([], false), Ev.bind (ev_val h (l7Good_ev l hl hx)) (ev_neg (by simp) (Ev.now _)), Ev.bind (ev_val h (IsRecipe_ev l hl)) (ev_neg (by simp) (Ev.now _)), by simp⟩
  | true =>
    cases g : gramsB y with
    | false => exact ⟨([], false), Ev.bind (ev_val h (l7Good_ev l hl hx)) (ev_pos (by trivial) (ev_neg (by simp) (Ev.now _))), Ev.bind (ev_val h (IsRecipe_ev l hl)) (ev_pos (by trivial) (ev_neg (by simp) (Ev.now _))), by simp⟩
    | true =>
      obtain ⟨y1, y2⟩ := grams_parts g
      exact ⟨(needsL l y, true), Ev.bind (ev_val h (l7Good_ev l hl hx)) (ev_pos (by trivial) (ev_pos (by trivial) (Ev.bind (l7Needs_ev h y y1 y2) (Ev.now _)))), Ev.bind (ev_val h (IsRecipe_ev l hl)) (ev_pos (by trivial) (ev_pos (by trivial) (Ev.bind (needs_ev h y y1 y2) (Ev.now _)))), by show (needsL l y).length ≤ _; rw [needsL_length]; exact hl⟩
theorem FnExactNeedsFor (l : List S62) (y : Int) (hl : l.length ≤ 9223372036854775807 ∧ ∀ y ∈ l, (y.f0.size ≤ 9223372036854775807 ∧ (-9223372036854775808 ≤ y.f1 ∧ y.f1 ≤ 9223372036854775807))) (_ : (-9223372036854775808 ≤ y ∧ y ≤ 9223372036854775807)) : ∃ k, laws_FnExactNeedsFor.f k l y = some true := by
  refine Ev.rounds (g := fun k => laws_FnExactNeedsFor.f k l y) ?_
  unfold laws_FnExactNeedsFor.f
  obtain ⟨r, hz, hr⟩ := szR_ev l hl.1 (fun x hx => (hl.2 x hx).1)
  refine Ev.bind hz ?_
  by_cases c1 : r < 0
  · exact ev_pos c1 (Ev.now _)
  obtain ⟨h1, h2⟩ := hr c1
  refine ev_neg c1 ?_
  have hm : (l.map toDyePart).length ≤ 1048576 := by simpa using h1
  have hx : ∀ x ∈ l.map toDyePart, x.f0.size ≤ 9223372036854775807 := by
    intro x hx
    obtain ⟨y, hy, rfl⟩ := List.mem_map.1 hx
    exact (hl.2 y hy).1
  have hT := toR_ev l h1
  have hQ := eqR_ev (l.map toDyePart) hm
  obtain ⟨⟨v1, v2⟩, hS, hI, hv⟩ := NeedsFor_both (l.map toDyePart) hm hx y
  dsimp only at hv
  obtain ⟨lm, hMk⟩ := markR_ev (l.map toDyePart) hm 1 (by omega) (by omega)
  repeat (first
    | exact Ev.now _
    | refine Ev.bind (hT) ?_
    | refine Ev.bind (hQ) ?_
    | refine Ev.bind (hS) ?_
    | refine Ev.bind (hI) ?_
    | refine Ev.bind (hMk) ?_
    | refine Ev.bind (eqIntS_ev v1 hv) ?_
    | refine Ev.bind (markIntS_ev v1 hv 1 (by omega) (by omega)) ?_
    | refine Ev.bind (heldIntS_ev v1.length hv 1 (by omega) (by omega)) ?_
    | (refine ev_neg ?hc ?_; (case hc => first | omega | (dsimp only; omega) | (simp; done)))
    | (refine ev_pos ?hc ?_; (case hc => first | exact rfl | omega | (dsimp only; omega) | (simp; done)))
    | (refine Ev.step (fun k => rfl) ?_; simp only [laws_FnExactNeedsFor.j0])
    | (refine Ev.step (fun k => rfl) ?_; simp only [laws_FnExactNeedsFor.j1])
    | (refine Ev.step (fun k => rfl) ?_; simp only [laws_FnExactNeedsFor.j2]))
end Go.Proofs.YtcloildodfpgfaaDoor.Pure
