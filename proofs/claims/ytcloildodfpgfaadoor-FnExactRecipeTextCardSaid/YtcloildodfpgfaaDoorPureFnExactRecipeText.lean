/- For every list of dye parts the program's RecipeText answers as the reference's. -/
import Derived.Test.YtcloildodfpgfaaDoorGx41
import Derived.Test.YtcloildodfpgfaaDoorGx43
import Derived.Test.YtcloildodfpgfaaDoorGx44
import Derived.Test.YtcloildodfpgfaaDoorPText
namespace Go.Proofs.YtcloildodfpgfaaDoor.Pure
open Go.RowKit Go.Proofs.YtcloildodfpgfaaDoor.G Go.Proofs.YtcloildodfpgfaaDoorW.PrintWords Go.Proofs.YtcloildodfpgfaaDoorW.PrintLast
set_option linter.unusedSimpArgs false
set_option linter.unusedVariables false

theorem RecipeText_both (l : List S64) (hl : l.length ≤ 1048576) (hx : ∀ x ∈ l, x.f0.size ≤ 9223372036854775807) : ∃ r : ByteArray × Bool, Ev (fun k => spec_RecipeText.f k l) r ∧ Ev (fun k => impl_RecipeText.f k l) r := by
  unfold spec_RecipeText.f impl_RecipeText.f
  cases h : recB l with
  | false => exact ⟨((⟨#[]⟩ : ByteArray), false), Ev.bind (ev_val h (l7Good_ev l hl hx)) (ev_neg (by simp) (Ev.now _)), Ev.bind (ev_val h (IsRecipe_ev l hl)) (ev_neg (by simp) (Ev.now _))⟩
  | true =>
    obtain ⟨r1, r2, _, _⟩ := rec_parts h
    have hf := fine_of h
    have e1 := ev_val h (l7Good_ev l hl hx)
    have e2 := ev_val h (IsRecipe_ev l hl)
    cases l with
    | nil => simp at r1
    | cons x r =>
      exact ⟨(FT (partT x) r, true), Ev.bind e1 (ev_pos (by trivial) (spec_ev x r r2 hf)), Ev.bind e2 (ev_pos (by trivial) (impl_loop (x :: r) _ r2 hf (r.length + 1) [] 0 (by omega) (by simp) (by simp) (by simpa using join_ok x r r2 hf)))⟩
theorem FnExactRecipeText (l : List S62) (hl : l.length ≤ 9223372036854775807 ∧ ∀ y ∈ l, (y.f0.size ≤ 9223372036854775807 ∧ (-9223372036854775808 ≤ y.f1 ∧ y.f1 ≤ 9223372036854775807))) : ∃ k, laws_FnExactRecipeText.f k l = some true := by
  refine Ev.rounds (g := fun k => laws_FnExactRecipeText.f k l) ?_
  unfold laws_FnExactRecipeText.f
  obtain ⟨r, hz, hr⟩ := szR_ev l hl.1 (fun x hx => (hl.2 x hx).1)
  refine Ev.bind hz ?_
  by_cases c1 : r < 0
  · exact ev_pos c1 (Ev.now _)
  obtain ⟨h1, h2⟩ := hr c1
  refine ev_neg c1 ?_
  have hm : (l.map toDyePart).length ≤ 1048576 := by simpa using h1
  have hx : ∀ x ∈ l.map toDyePart, x.f0.size ≤ 9223372036854775807 := by
    intro x hx
    obtain ⟨y, hy, rfl⟩ := List.mem_map.1 hx
    exact (hl.2 y hy).1
  have hT := toR_ev l h1
  have hQ := eqR_ev (l.map toDyePart) hm
  obtain ⟨⟨v1, v2⟩, hS, hI⟩ := RecipeText_both (l.map toDyePart) hm hx
  repeat (first
    | exact Ev.now _
    | refine Ev.bind (hT) ?_
    | refine Ev.bind (hQ) ?_
    | refine Ev.bind (hS) ?_
    | refine Ev.bind (hI) ?_
    | (refine ev_neg ?hc ?_; (case hc => first | omega | (dsimp only; omega) | (simp; done)))
    | (refine ev_pos ?hc ?_; (case hc => first | exact rfl | omega | (dsimp only; omega) | (simp; done)))
    | (refine Ev.step (fun k => rfl) ?_; simp only [laws_FnExactRecipeText.j0]))
end Go.Proofs.YtcloildodfpgfaaDoor.Pure
