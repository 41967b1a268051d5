/- For every string the program's VerifyChecksum answers as the reference's. -/
import Derived.Test.YtehbjmcbpmoonaaDoorGx3
import Derived.Test.YtehbjmcbpmoonaaDoorPVerify
namespace Go.Proofs.YtehbjmcbpmoonaaDoor.Pure
open Go.RowKit Go.Proofs.YtehbjmcbpmoonaaDoor.G Go.Proofs.YtehbjmcbpmoonaaDoorW.PrintWords Go.Proofs.YtehbjmcbpmoonaaDoorW.PrintLast
set_option linter.unusedSimpArgs false
set_option linter.unusedVariables false

theorem FnExactVerifyChecksum (s : ByteArray) (_ : s.size ≤ 9223372036854775807) : ∃ k, laws_FnExactVerifyChecksum.f k s = some true := by
  refine Ev.rounds (g := fun k => laws_FnExactVerifyChecksum.f k s) ?_
  unfold laws_FnExactVerifyChecksum.f
  by_cases q : (s.size : Int) > 1048576
  · exact ev_pos q (Ev.now _)
  refine ev_neg q ?_
  obtain ⟨⟨v1, v2⟩, hS, hI⟩ := VerifyChecksum_both s (by omega)
  exact Ev.bind hS (Ev.bind hI (ev_pos rfl (ev_neg (by simp) (Ev.now _))))
end Go.Proofs.YtehbjmcbpmoonaaDoor.Pure
