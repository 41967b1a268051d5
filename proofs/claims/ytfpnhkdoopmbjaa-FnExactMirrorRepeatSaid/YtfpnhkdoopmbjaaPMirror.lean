/- Plain facts on mirrored charts. -/
import Derived.Test.YtfpnhkdoopmbjaaGx10
import Derived.Test.YtfpnhkdoopmbjaaGx24
import Derived.Test.YtfpnhkdoopmbjaaGx25
import Derived.Test.YtfpnhkdoopmbjaaPGrid
namespace Go.Proofs.Ytfpnhkdoopmbjaa.Pure
open Go.RowKit Go.Proofs.Ytfpnhkdoopmbjaa.G Go.Proofs.YtfpnhkdoopmbjaaW.PrintWords Go.Proofs.YtfpnhkdoopmbjaaW.PrintLast
set_option linter.unusedSimpArgs false
set_option linter.unusedVariables false

theorem l4Mirror_eq {w h : Int} {l : List Int} (g : Dim w h l) : Ev (fun k => spec_l4Mirror.f k w h l) (w, h, chartL (mirrG w l) w h) := by
  have g' := g
  obtain ⟨w1, w2, h1, h2, _⟩ := g'
  unfold spec_l4Mirror.f
  refine build_rows (fun k r acc => spec_l4Mirror.l0 k r w h l w h acc) (fun k r c acc => spec_l4Mirror.l1 k r c w h l w h acc) (mirrG w l) w h (fun acc => (w, h, acc)) (by omega) (by omega) (by omega) (by omega) ?_ ?_ ?_ ?_
  · intro k r acc r0 r1
    simp only [spec_l4Mirror.l0]
    rw [if_pos r1]
  · intro k acc
    simp only [spec_l4Mirror.l0]
    rw [if_neg (by omega)]
  · intro k r c acc r0 r1 c0 c1 hl
    simp only [spec_l4Mirror.l1]
    rw [if_pos c1, wrap_in (x := w - 1) (by omega) (by omega), wrap_in (x := w - 1 - c) (by omega) (by omega), l2At_d g r0 r1 (by omega) (by omega), Option.bind_some, if_pos (by omega), wrap_in (by omega) (by omega)]
    rfl
  · intro k r acc r0 r1
    simp only [spec_l4Mirror.l1]
    rw [if_neg (by omega), wrap_in (by omega) (by omega)]
end Go.Proofs.Ytfpnhkdoopmbjaa.Pure
