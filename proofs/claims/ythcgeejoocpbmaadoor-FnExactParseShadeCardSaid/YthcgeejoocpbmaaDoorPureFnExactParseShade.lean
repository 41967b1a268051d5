/- For every text the program's ParseShade answers as the reference's. -/
import Derived.Test.YthcgeejoocpbmaaDoorGx13
import Derived.Test.YthcgeejoocpbmaaDoorPShade
namespace Go.Proofs.YthcgeejoocpbmaaDoor.Pure
open Go.RowKit Go.Proofs.YthcgeejoocpbmaaDoor.G Go.Proofs.YthcgeejoocpbmaaDoorW.PrintWords Go.Proofs.YthcgeejoocpbmaaDoorW.PrintLast
set_option linter.unusedSimpArgs false
set_option linter.unusedVariables false

theorem eqSh (x : Int) (n : ByteArray) (b c d : Int) : laws_eqShade.f x n b c d x n b c d = some true := by
  unfold laws_eqShade.f
  simp
theorem FnExactParseShade (s : ByteArray) (hs : s.size ≤ 9223372036854775807) : ∃ k, laws_FnExactParseShade.f k s = some true := by
  refine Ev.rounds (g := fun k => laws_FnExactParseShade.f k s) ?_
  unfold laws_FnExactParseShade.f
  by_cases q : (s.size : Int) > 1048576
  · exact ev_pos q (Ev.now _)
  · have h1 := specEv s (by omega)
    have h2 := implEv s (by omega)
    rw [← both_same] at h2
    generalize specV s = r at h1 h2
    obtain ⟨a, n, b, c, d, e⟩ := r
    refine ev_neg q (Ev.bind h1 (Ev.bind h2 ?_))
    dsimp only
    rw [eqSh]
    exact Ev.bind (Ev.now _) (ev_pos rfl (ev_neg (by simp) (Ev.now _)))
end Go.Proofs.YthcgeejoocpbmaaDoor.Pure
