/- For every string the program's AppendChecksum answers as the reference's. -/
import Derived.Test.YtopbcfgbfamifaaDoorGx3
import Derived.Test.YtopbcfgbfamifaaDoorPSeal
namespace Go.Proofs.YtopbcfgbfamifaaDoor.Pure
open Go.RowKit Go.Proofs.YtopbcfgbfamifaaDoor.G Go.Proofs.YtopbcfgbfamifaaDoorW.PrintWords Go.Proofs.YtopbcfgbfamifaaDoorW.PrintLast
set_option linter.unusedSimpArgs false
set_option linter.unusedVariables false

theorem FnExactAppendChecksum (s : ByteArray) (_ : s.size ≤ 9223372036854775807) : ∃ k, laws_FnExactAppendChecksum.f k s = some true := by
  refine Ev.rounds (g := fun k => laws_FnExactAppendChecksum.f k s) ?_
  unfold laws_FnExactAppendChecksum.f
  by_cases q : (s.size : Int) > 1048576
  · exact ev_pos q (Ev.now _)
  refine ev_neg q ?_
  obtain ⟨⟨v1, v2⟩, hS, hI⟩ := AppendChecksum_both s (by omega)
  exact Ev.bind hS (Ev.bind hI (ev_pos rfl (ev_neg (by simp) (Ev.now _))))
end Go.Proofs.YtopbcfgbfamifaaDoor.Pure
