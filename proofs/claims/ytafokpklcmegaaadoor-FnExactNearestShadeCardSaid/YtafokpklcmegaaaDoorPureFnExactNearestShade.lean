/- For every list of shades the program's NearestShade answers as the reference's. -/
import Derived.Test.YtafokpklcmegaaaDoorGx14
import Derived.Test.YtafokpklcmegaaaDoorPNear
import Derived.Test.YtafokpklcmegaaaDoorRWords
namespace Go.Proofs.YtafokpklcmegaaaDoor.Pure
open Go.RowKit Go.Proofs.YtafokpklcmegaaaDoor.G Go.Proofs.YtafokpklcmegaaaDoorW.PrintWords Go.Proofs.YtafokpklcmegaaaDoorW.PrintLast
set_option linter.unusedSimpArgs false
set_option linter.unusedVariables false

theorem FnExactNearestShade (l : List S47) (w dp : Int) (hl : l.length ≤ 9223372036854775807 ∧ ∀ y ∈ l, R.wfS47 y) (_ : (-9223372036854775808 ≤ w ∧ w ≤ 9223372036854775807)) (_ : (-9223372036854775808 ≤ dp ∧ dp ≤ 9223372036854775807)) : ∃ k, laws_FnExactNearestShade.f k l w dp = some true := by
  refine Ev.rounds (g := fun k => laws_FnExactNearestShade.f k l w dp) ?_
  unfold laws_FnExactNearestShade.f
  have hx : ∀ x ∈ l, x.f1.size ≤ 9223372036854775807 := fun x h => (hl.2 x h).2.1
  obtain ⟨r, hr, hb, _⟩ := szS_ev l hl.1 hx
  refine Ev.bind hr ?_
  by_cases q : r < 0
  · exact ev_pos q (Ev.now _)
  refine ev_neg q ?_
  have hL := hb q
  have ht := toS_ev l hL
  have hL2 : (l.map toShade).length ≤ 1048576 := by rw [List.length_map]; exact hL
  have hx2 : ∀ x ∈ l.map toShade, x.f1.size ≤ 9223372036854775807 := by
    intro x h
    obtain ⟨y, hy, rfl⟩ := List.mem_map.mp h
    exact hx y hy
  obtain ⟨⟨v1, v2⟩, hS, hI⟩ := NearestShade_both (l.map toShade) w dp hL2 hx2
  refine Ev.bind ht (Ev.bind hS (Ev.bind ht (Ev.bind hI (ev_pos rfl ?_))))
  refine Ev.step (fun k => rfl) ?_
  simp only [laws_FnExactNearestShade.j0]
  exact ev_neg (by simp) (Ev.bind ht (Ev.bind (eqS_ev _ hL2) (ev_pos rfl (Ev.now _))))
end Go.Proofs.YtafokpklcmegaaaDoor.Pure
