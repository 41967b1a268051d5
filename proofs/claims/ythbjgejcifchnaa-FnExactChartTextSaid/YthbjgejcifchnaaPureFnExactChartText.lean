/- For every chart the program's ChartText answers as the reference's. -/
import Derived.Test.YthbjgejcifchnaaGx3
import Derived.Test.YthbjgejcifchnaaGx5
import Derived.Test.YthbjgejcifchnaaGx6
import Derived.Test.YthbjgejcifchnaaPChart
namespace Go.Proofs.Ythbjgejcifchnaa.Pure
open Go.RowKit Go.Proofs.Ythbjgejcifchnaa.G Go.Proofs.YthbjgejcifchnaaW.PrintWords Go.Proofs.YthbjgejcifchnaaW.PrintLast
set_option linter.unusedSimpArgs false
set_option linter.unusedVariables false

theorem FnExactChartText (w h : Int) (l : List Int) (_ : (-9223372036854775808 ≤ w ∧ w ≤ 9223372036854775807)) (_ : (-9223372036854775808 ≤ h ∧ h ≤ 9223372036854775807)) (hl : (l.length ≤ 9223372036854775807 ∧ ∀ y ∈ l, (-9223372036854775808 ≤ y ∧ y ≤ 9223372036854775807))) : ∃ k, laws_FnExactChartText.f k w h l = some true := by
  refine Ev.rounds (g := fun k => laws_FnExactChartText.f k w h l) ?_
  unfold laws_FnExactChartText.f
  rw [szChart_eq w h l 1048576 (by omega) (by omega) hl.1]
  simp only [Option.bind_some]
  by_cases q : (1048576 : Int) < l.length
  · rw [if_pos q]
    exact ev_pos (by omega) (Ev.now _)
  rw [if_neg q]
  refine ev_neg (by omega) ?_
  have hT : Ev (fun k => laws_toChart.f k w h l) (w, h, l) := ⟨l.length + 1, fun k hk => toChart_eq w h l (by omega) k (by omega)⟩
  have hQ : Ev (fun k => laws_eqChart.f k w h l w h l) true := ⟨l.length + 1, fun k hk => eqChart_eq w h l (by omega) k (by omega)⟩
  obtain ⟨⟨v1, v2⟩, hS, hI⟩ := ChartText_both w h l (by omega)
  refine Ev.bind hT (Ev.bind hS (Ev.bind hT (Ev.bind hI (ev_pos rfl ?_))))
  refine Ev.step (fun k => rfl) ?_
  simp only [laws_FnExactChartText.j0]
  exact ev_neg (by simp) (Ev.bind hT (Ev.bind hQ (ev_pos rfl (Ev.now _))))
end Go.Proofs.Ythbjgejcifchnaa.Pure
