/- For every list of shades the program's IsShadeCard answers as the reference's. -/
import Derived.Test.YtafokpklcmegaaaDoorGx5
import Derived.Test.YtafokpklcmegaaaDoorGx9
import Derived.Test.YtafokpklcmegaaaDoorPCard
import Derived.Test.YtafokpklcmegaaaDoorRWords
namespace Go.Proofs.YtafokpklcmegaaaDoor.Pure
open Go.RowKit Go.Proofs.YtafokpklcmegaaaDoor.G Go.Proofs.YtafokpklcmegaaaDoorW.PrintWords Go.Proofs.YtafokpklcmegaaaDoorW.PrintLast
set_option linter.unusedSimpArgs false
set_option linter.unusedVariables false

theorem FnExactIsShadeCard (l : List S47) (hl : l.length ≤ 9223372036854775807 ∧ ∀ y ∈ l, R.wfS47 y) : ∃ k, laws_FnExactIsShadeCard.f k l = some true := by
  refine Ev.rounds (g := fun k => laws_FnExactIsShadeCard.f k l) ?_
  unfold laws_FnExactIsShadeCard.f spec_IsShadeCard.f
  have hx : ∀ x ∈ l, x.f1.size ≤ 9223372036854775807 := fun x h => (hl.2 x h).2.1
  obtain ⟨r, hr, hb, _⟩ := szS_ev l hl.1 hx
  refine Ev.bind hr ?_
  by_cases q : r < 0
  · exact ev_pos q (Ev.now _)
  refine ev_neg q ?_
  have hL := hb q
  have ht := toS_ev l hL
  have hL2 : (l.map toShade).length ≤ 1048576 := by rw [List.length_map]; exact hL
  have hx2 : ∀ x ∈ l.map toShade, x.f1.size ≤ 9223372036854775807 := by
    intro x h
    obtain ⟨y, hy, rfl⟩ := List.mem_map.mp h
    exact hx y hy
  refine Ev.bind ht (Ev.bind (Ev.bind (good_ev _ hL2 hx2) (Ev.now _)) (Ev.bind ht (Ev.bind (impl_card_ev _ hL2) (ev_neg (by simp) (Ev.bind ht (Ev.bind (eqS_ev _ hL2) (ev_pos rfl (Ev.now _))))))))
end Go.Proofs.YtafokpklcmegaaaDoor.Pure
