/- For every list of strings and every string the program's JoinStrings answers as the reference's. -/
import Derived.Test.YtpifekbndclfhaaGx5
import Derived.Test.YtpifekbndclfhaaPJoin
namespace Go.Proofs.Ytpifekbndclfhaa.Pure
open Go.RowKit Go.Proofs.Ytpifekbndclfhaa.G Go.Proofs.YtpifekbndclfhaaW.PrintWords Go.Proofs.YtpifekbndclfhaaW.PrintLast
set_option linter.unusedSimpArgs false
set_option linter.unusedVariables false

theorem FnExactJoinStrings (l : List ByteArray) (a : ByteArray) (hl : (l.length ≤ 9223372036854775807 ∧ ∀ y ∈ l, y.size ≤ 9223372036854775807)) (ha : a.size ≤ 9223372036854775807) : ∃ k, laws_FnExactJoinStrings.f k l a = some true := by
  refine Ev.rounds (g := fun k => laws_FnExactJoinStrings.f k l a) ?_
  unfold laws_FnExactJoinStrings.f
  by_cases q : (a.size : Int) > 1048576
  · exact ev_pos q (Ev.now _)
  refine ev_neg q ?_
  obtain ⟨s, hs, hb⟩ := szStringS_ev l hl.1 hl.2
  refine Ev.bind hs ?_
  by_cases q0 : s < 0
  · exact ev_pos q0 (Ev.now _)
  refine ev_neg q0 ?_
  obtain ⟨h1, h2⟩ := hb q0
  obtain ⟨⟨v1, v2⟩, hS, hI⟩ := JoinStrings_both l a h1 h2
  refine Ev.bind (toStringS_ev l h1) (Ev.bind hS (Ev.bind (toStringS_ev l h1) (Ev.bind hI (ev_pos rfl ?_))))
  refine Ev.step (fun k => rfl) ?_
  simp only [laws_FnExactJoinStrings.j0]
  refine ev_neg (by simp) (Ev.bind (toStringS_ev l h1) (Ev.bind (eqStringS_ev l h1) (ev_pos rfl (Ev.now _))))
end Go.Proofs.Ytpifekbndclfhaa.Pure
