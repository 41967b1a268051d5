/- Plain facts on a chart's places. -/
import Derived.Test.YtpbipijjihbjhaaGx2
import Derived.Test.YtpbipijjihbjhaaPBase
namespace Go.Proofs.Ytpbipijjihbjhaa.Pure
open Go.RowKit Go.Proofs.Ytpbipijjihbjhaa.G Go.Proofs.YtpbipijjihbjhaaW.PrintWords Go.Proofs.YtpbipijjihbjhaaW.PrintLast
set_option linter.unusedSimpArgs false
set_option linter.unusedVariables false


theorem idx_ok {w h r c : Int} (a : 1 ≤ w ∧ w ≤ 8) (b : 1 ≤ h ∧ h ≤ 8) (r0 : 0 ≤ r) (r1 : r < h) (c0 : 0 ≤ c) (c1 : c < w) : wrap64 (wrap64 (r * w) + c) = r * w + c ∧ 0 ≤ r * w + c ∧ r * w + c < w * h := by
  obtain ⟨a1, a2⟩ := a
  have e : w = 1 ∨ w = 2 ∨ w = 3 ∨ w = 4 ∨ w = 5 ∨ w = 6 ∨ w = 7 ∨ w = 8 := by omega
  unfold wrap64
  rcases e with rfl | rfl | rfl | rfl | rfl | rfl | rfl | rfl <;> omega
theorem l2At_eq {w h : Int} {l : List Int} (g : goodB w h l = true) {r c : Int} (r0 : 0 ≤ r) (r1 : r < h) (c0 : 0 ≤ c) (c1 : c < w) : spec_l2At.f w h l r c = some (rd l (r * w + c)) := by
  obtain ⟨w1, w2, h1, h2, e, _, _⟩ := good_parts g
  obtain ⟨k1, k2, k3⟩ := idx_ok ⟨w1, w2⟩ ⟨h1, h2⟩ r0 r1 c0 c1
  unfold spec_l2At.f
  rw [k1, if_pos k2, if_pos (by omega)]
end Go.Proofs.Ytpbipijjihbjhaa.Pure
