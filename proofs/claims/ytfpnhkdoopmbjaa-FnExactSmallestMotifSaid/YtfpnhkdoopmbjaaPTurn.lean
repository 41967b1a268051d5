/- Plain facts on turned and mirrored charts. -/
import Derived.Test.YtfpnhkdoopmbjaaGx10
import Derived.Test.YtfpnhkdoopmbjaaGx11
import Derived.Test.YtfpnhkdoopmbjaaGx8
import Derived.Test.YtfpnhkdoopmbjaaPGrid
namespace Go.Proofs.Ytfpnhkdoopmbjaa.Pure
open Go.RowKit Go.Proofs.Ytfpnhkdoopmbjaa.G Go.Proofs.YtfpnhkdoopmbjaaW.PrintWords Go.Proofs.YtfpnhkdoopmbjaaW.PrintLast
set_option linter.unusedSimpArgs false
set_option linter.unusedVariables false

theorem l4Turn_eq {w h : Int} {l : List Int} (g : Dim w h l) : Ev (fun k => spec_l4Turn.f k w h l) (h, w, chartL (turnG w h l) h w) := by
  have g' := g
  obtain ⟨w1, w2, h1, h2, _⟩ := g'
  unfold spec_l4Turn.f
  refine build_rows (fun k r acc => spec_l4Turn.l0 k r w h l h w acc) (fun k r c acc => spec_l4Turn.l1 k r c w h l h w acc) (turnG w h l) h w (fun acc => (h, w, acc)) (by omega) (by omega) (by omega) (by omega) ?_ ?_ ?_ ?_
  · intro k r acc r0 r1
    simp only [spec_l4Turn.l0]
    rw [if_pos r1]
  · intro k acc
    simp only [spec_l4Turn.l0]
    rw [if_neg (by omega)]
  · intro k r c acc r0 r1 c0 c1 hl
    simp only [spec_l4Turn.l1]
    rw [if_pos c1, wrap_in (x := h - 1) (by omega) (by omega), wrap_in (x := h - 1 - c) (by omega) (by omega), l2At_d g (by omega) (by omega) r0 r1, Option.bind_some, if_pos (by omega), wrap_in (by omega) (by omega)]
    rfl
  · intro k r acc r0 r1
    simp only [spec_l4Turn.l1]
    rw [if_neg (by omega), wrap_in (by omega) (by omega)]
theorem turned_eq {w h : Int} {l : List Int} (g : Dim w h l) : impl_Chart_turned.f w h l = some (h, w, chartL (turnG w h l) h w) := by
  obtain ⟨w1, w2, h1, h2, e⟩ := g
  unfold impl_Chart_turned.f
  rw [if_pos ⟨w1, w2, h1, h2, e⟩]
end Go.Proofs.Ytfpnhkdoopmbjaa.Pure
