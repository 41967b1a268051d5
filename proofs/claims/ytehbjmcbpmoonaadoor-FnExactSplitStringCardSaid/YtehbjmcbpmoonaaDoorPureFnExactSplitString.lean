/- For all strings the program's SplitString answers as the reference's. -/
import Derived.Test.YtehbjmcbpmoonaaDoorGx5
import Derived.Test.YtehbjmcbpmoonaaDoorGx6
import Derived.Test.YtehbjmcbpmoonaaDoorGx7
import Derived.Test.YtehbjmcbpmoonaaDoorPMarks
namespace Go.Proofs.YtehbjmcbpmoonaaDoor.Pure
open Go.RowKit Go.Proofs.YtehbjmcbpmoonaaDoor.G Go.Proofs.YtehbjmcbpmoonaaDoorW.PrintWords Go.Proofs.YtehbjmcbpmoonaaDoorW.PrintLast
set_option linter.unusedSimpArgs false
set_option linter.unusedVariables false

theorem FnExactSplitString (s a : ByteArray) (_ : s.size ≤ 9223372036854775807) (_ : a.size ≤ 9223372036854775807) : ∃ k, laws_FnExactSplitString.f k s a = some true := by
  refine Ev.rounds (g := fun k => laws_FnExactSplitString.f k s a) ?_
  unfold laws_FnExactSplitString.f
  by_cases q : (s.size : Int) > 1048576
  · exact ev_pos q (Ev.now _)
  by_cases q2 : (a.size : Int) > 1048576
  · exact ev_neg q (ev_pos q2 (Ev.now _))
  refine ev_neg q (ev_neg q2 ?_)
  obtain ⟨⟨l, b⟩, hS, hI, hl⟩ := SplitString_both s a (by omega)
  dsimp only at hl
  obtain ⟨mt, hm⟩ := text_ev
  have heq := eqStringS_ev l (by omega)
  obtain ⟨y, hy, hy1, hy2⟩ := mark_l0 mt hm l.length l 0 (by omega) (by omega) (by omega) (fun j hj => by omega)
  have hy' : Ev (fun k => laws_markStringS.f k l 1) (1 + (l.length : Int), y) := hy
  have hh : Ev (fun k => laws_heldStringS.f k y 1) (1 + (l.length : Int)) := by
    have h := held_l0 mt hm y (by omega) hy2 y.length 0 (by omega) (by omega)
    rw [hy1] at h
    exact h
  refine Ev.bind hS (Ev.bind hI (Ev.bind heq (ev_pos rfl ?_)))
  refine Ev.step (fun k => rfl) ?_
  simp only [laws_FnExactSplitString.j0]
  refine ev_neg (by simp) (Ev.bind hy' (Ev.bind hh (ev_neg (by omega) (ev_pos rfl (Ev.bind hI (Ev.bind heq (ev_pos rfl ?_)))))))
  refine Ev.step (fun k => rfl) ?_
  simp only [laws_FnExactSplitString.j1]
  exact ev_neg (by simp) (Ev.bind hh (ev_neg (by omega) (ev_pos rfl (Ev.now _))))
end Go.Proofs.YtehbjmcbpmoonaaDoor.Pure
