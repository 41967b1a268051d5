/- For every list of shades and every step the program's WheelOrder answers as the reference's. -/
import Derived.Test.YtafokpklcmegaaaDoorGx19
import Derived.Test.YtafokpklcmegaaaDoorPWheel
import Derived.Test.YtafokpklcmegaaaDoorRWords
namespace Go.Proofs.YtafokpklcmegaaaDoor.Pure
open Go.RowKit Go.Proofs.YtafokpklcmegaaaDoor.G Go.Proofs.YtafokpklcmegaaaDoorW.PrintWords Go.Proofs.YtafokpklcmegaaaDoorW.PrintLast
set_option linter.unusedSimpArgs false
set_option linter.unusedVariables false

theorem FnExactWheelOrder (l : List S47) (fr : Int) (hl : l.length ≤ 9223372036854775807 ∧ ∀ y ∈ l, R.wfS47 y) (_ : (-9223372036854775808 ≤ fr ∧ fr ≤ 9223372036854775807)) : ∃ k, laws_FnExactWheelOrder.f k l fr = some true := by
  refine Ev.rounds (g := fun k => laws_FnExactWheelOrder.f k l fr) ?_
  unfold laws_FnExactWheelOrder.f
  have hx : ∀ x ∈ l, x.f1.size ≤ 9223372036854775807 := fun x h => (hl.2 x h).2.1
  obtain ⟨r, hr, hb, _⟩ := szS_ev l hl.1 hx
  refine Ev.bind hr ?_
  by_cases q : r < 0
  · exact ev_pos q (Ev.now _)
  refine ev_neg q ?_
  have hL := hb q
  have ht := toS_ev l hL
  have hL2 : (l.map toShade).length ≤ 1048576 := by rw [List.length_map]; exact hL
  have hx2 : ∀ x ∈ l.map toShade, x.f1.size ≤ 9223372036854775807 := by
    intro x h
    obtain ⟨y, hy, rfl⟩ := List.mem_map.mp h
    exact hx y hy
  obtain ⟨⟨v1, v2⟩, hS, hI, hv⟩ := WheelOrder_both (l.map toShade) fr hL2 hx2
  have hE := eqIntS_ev v1 hv
  obtain ⟨l', hM⟩ := markSh_ev (l.map toShade) hL2 1 (by omega) (by omega)
  have hm := markIntS_ev v1 hv 1 (by omega) (by omega)
  have hh := heldIntS_ev v1.length hv 1 (by omega) (by omega)
  refine Ev.bind ht (Ev.bind hS (Ev.bind ht (Ev.bind hI (Ev.bind hE (ev_pos rfl ?_)))))
  refine Ev.step (fun k => rfl) ?_
  simp only [laws_FnExactWheelOrder.j0]
  refine ev_neg (by simp) (Ev.bind ht (Ev.bind (eqS_ev _ hL2) (ev_pos rfl (Ev.bind hM (ev_neg (by dsimp only; omega) (Ev.bind hE (ev_pos rfl ?_)))))))
  refine Ev.step (fun k => rfl) ?_
  simp only [laws_FnExactWheelOrder.j1]
  refine ev_neg (by simp) (Ev.bind hm (Ev.bind hh (ev_neg (by omega) (ev_pos rfl (Ev.bind ht (Ev.bind hI (Ev.bind hE (ev_pos rfl ?_))))))))
  refine Ev.step (fun k => rfl) ?_
  simp only [laws_FnExactWheelOrder.j2]
  exact ev_neg (by simp) (Ev.bind hh (ev_neg (by omega) (ev_pos rfl (Ev.now _))))
end Go.Proofs.YtafokpklcmegaaaDoor.Pure
