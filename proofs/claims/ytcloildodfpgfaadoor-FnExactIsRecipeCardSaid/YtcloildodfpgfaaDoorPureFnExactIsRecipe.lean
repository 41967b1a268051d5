/- For every list of dye parts the program's IsRecipe answers as the reference's. -/
import Derived.Test.YtcloildodfpgfaaDoorGx6
import Derived.Test.YtcloildodfpgfaaDoorGx7
import Derived.Test.YtcloildodfpgfaaDoorPRecipe
namespace Go.Proofs.YtcloildodfpgfaaDoor.Pure
open Go.RowKit Go.Proofs.YtcloildodfpgfaaDoor.G Go.Proofs.YtcloildodfpgfaaDoorW.PrintWords Go.Proofs.YtcloildodfpgfaaDoorW.PrintLast
set_option linter.unusedSimpArgs false
set_option linter.unusedVariables false

theorem IsRecipe_both (l : List S64) (hl : l.length ≤ 1048576) (hx : ∀ x ∈ l, x.f0.size ≤ 9223372036854775807) : ∃ r : Bool, Ev (fun k => spec_IsRecipe.f k l) r ∧ Ev (fun k => impl_IsRecipe.f k l) r :=
  ⟨recB l, by unfold spec_IsRecipe.f; exact Ev.bind (l7Good_ev l hl hx) (Ev.now _), IsRecipe_ev l hl⟩
theorem FnExactIsRecipe (l : List S62) (hl : l.length ≤ 9223372036854775807 ∧ ∀ y ∈ l, (y.f0.size ≤ 9223372036854775807 ∧ (-9223372036854775808 ≤ y.f1 ∧ y.f1 ≤ 9223372036854775807))) : ∃ k, laws_FnExactIsRecipe.f k l = some true := by
  refine Ev.rounds (g := fun k => laws_FnExactIsRecipe.f k l) ?_
  unfold laws_FnExactIsRecipe.f
  obtain ⟨r, hz, hr⟩ := szR_ev l hl.1 (fun x hx => (hl.2 x hx).1)
  refine Ev.bind hz ?_
  by_cases c1 : r < 0
  · exact ev_pos c1 (Ev.now _)
  obtain ⟨h1, h2⟩ := hr c1
  refine ev_neg c1 ?_
  have hm : (l.map toDyePart).length ≤ 1048576 := by simpa using h1
  have hx : ∀ x ∈ l.map toDyePart, x.f0.size ≤ 9223372036854775807 := by
    intro x hx
    obtain ⟨y, hy, rfl⟩ := List.mem_map.1 hx
    exact (hl.2 y hy).1
  have hT := toR_ev l h1
  have hQ := eqR_ev (l.map toDyePart) hm
  obtain ⟨v, hS, hI⟩ := IsRecipe_both (l.map toDyePart) hm hx
  repeat (first
    | exact Ev.now _
    | refine Ev.bind (hT) ?_
    | refine Ev.bind (hQ) ?_
    | refine Ev.bind (hS) ?_
    | refine Ev.bind (hI) ?_
    | (refine ev_neg ?hc ?_; (case hc => first | omega | (dsimp only; omega) | (simp; done)))
    | (refine ev_pos ?hc ?_; (case hc => first | exact rfl | omega | (dsimp only; omega) | (simp; done))))
end Go.Proofs.YtcloildodfpgfaaDoor.Pure
