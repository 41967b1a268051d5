/- For every string the program's ParseInt answers as the reference's. -/
import Derived.Test.YthcgeejoocpbmaaDoorGx2
import Derived.Test.YthcgeejoocpbmaaDoorGx3
import Derived.Test.YthcgeejoocpbmaaDoorPRead
namespace Go.Proofs.YthcgeejoocpbmaaDoor.Pure
open Go.RowKit Go.Proofs.YthcgeejoocpbmaaDoor.G Go.Proofs.YthcgeejoocpbmaaDoorW.PrintWords Go.Proofs.YthcgeejoocpbmaaDoorW.PrintLast
set_option linter.unusedSimpArgs false
set_option linter.unusedVariables false

theorem FnExactParseInt (s : ByteArray) (_ : s.size ≤ 9223372036854775807) : ∃ k, laws_FnExactParseInt.f k s = some true := by
  refine Ev.rounds (g := fun k => laws_FnExactParseInt.f k s) ?_
  unfold laws_FnExactParseInt.f spec_ParseInt.f impl_ParseInt.f
  by_cases q : (s.size : Int) > 1048576
  · exact ev_pos q (Ev.now _)
  refine ev_neg q (Ev.bind (Ev.bind (read_ev s (by omega)) (Ev.now _)) ?_)
  rw [if_pos (by omega)]
  exact Ev.bind (Ev.now _) (ev_pos rfl (ev_neg (by simp) (Ev.now _)))
end Go.Proofs.YthcgeejoocpbmaaDoor.Pure
