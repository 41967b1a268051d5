/- For every string the program's ParseChart answers as the reference's. -/
import Derived.Test.YthbjgejcifchnaaDoorGx7
import Derived.Test.YthbjgejcifchnaaDoorGx8
import Derived.Test.YthbjgejcifchnaaDoorGx9
import Derived.Test.YthbjgejcifchnaaDoorPParse
namespace Go.Proofs.YthbjgejcifchnaaDoor.Pure
open Go.RowKit Go.Proofs.YthbjgejcifchnaaDoor.G Go.Proofs.YthbjgejcifchnaaDoorW.PrintWords Go.Proofs.YthbjgejcifchnaaDoorW.PrintLast
set_option linter.unusedSimpArgs false
set_option linter.unusedVariables false

theorem FnExactParseChart (s : ByteArray) (_ : s.size ≤ 9223372036854775807) : ∃ k, laws_FnExactParseChart.f k s = some true := by
  refine Ev.rounds (g := fun k => laws_FnExactParseChart.f k s) ?_
  unfold laws_FnExactParseChart.f
  by_cases q : (s.size : Int) > 1048576
  · exact ev_pos q (Ev.now _)
  refine ev_neg q ?_
  obtain ⟨⟨w, h, l, b⟩, hS, hI, hl⟩ := ParseChart_both s (by omega)
  dsimp only at hl
  have heq : Ev (fun k => laws_eqChart.f k w h l w h l) true := ⟨l.length + 1, fun k hk => eqChart_eq w h l hl k (by omega)⟩
  have hm : Ev (fun k => laws_markChart.f k w h l 1) (1 + (l.length : Int), marks l.length 1) := ⟨l.length + 1, fun k hk => markChart_eq w h l 1 hl (by omega) (by omega) k (by omega)⟩
  have hh : Ev (fun k => laws_heldChart.f k w h (marks l.length 1) 1) (1 + (l.length : Int)) := ⟨l.length + 1, fun k hk => heldChart_eq w h l.length 1 hl (by omega) (by omega) k (by omega)⟩
  refine Ev.bind hS (Ev.bind hI (Ev.bind heq (ev_pos rfl ?_)))
  refine Ev.step (fun k => rfl) ?_
  simp only [laws_FnExactParseChart.j0]
  refine ev_neg (by simp) (Ev.bind hm (Ev.bind hh (ev_neg (by omega) (ev_pos rfl (Ev.bind hI (Ev.bind heq (ev_pos rfl ?_)))))))
  refine Ev.step (fun k => rfl) ?_
  simp only [laws_FnExactParseChart.j1]
  exact ev_neg (by simp) (Ev.bind hh (ev_neg (by omega) (ev_pos rfl (Ev.now _))))
end Go.Proofs.YthbjgejcifchnaaDoor.Pure
