/- The pairs that fade together are told as the statement says: at all arguments, with no premise. -/
import Derived.Test.YtggikmajopmchaaDoorGs0
import Derived.Test.YtggikmajopmchaaDoorGx21
import Derived.Test.YtggikmajopmchaaDoorPFaded
import Derived.Test.YtggikmajopmchaaDoorPRows
namespace Go.Proofs.YtggikmajopmchaaDoor.Pure
open Go.RowKit Go.Proofs.YtggikmajopmchaaDoor.G Go.Proofs.YtggikmajopmchaaDoorW.PrintWords Go.Proofs.YtggikmajopmchaaDoorW.PrintLast
set_option linter.unusedSimpArgs false
set_option linter.unusedVariables false

theorem FnExactFadedApart (l0 : List S38) (y n : Int) (h0 : l0.length ≤ 9223372036854775807 ∧ ∀ y ∈ l0, ((-9223372036854775808 ≤ y.f0 ∧ y.f0 ≤ 9223372036854775807) ∧ y.f1.size ≤ 9223372036854775807 ∧ (-9223372036854775808 ≤ y.f2 ∧ y.f2 ≤ 9223372036854775807) ∧ (-9223372036854775808 ≤ y.f3 ∧ y.f3 ≤ 9223372036854775807) ∧ (-9223372036854775808 ≤ y.f4 ∧ y.f4 ≤ 9223372036854775807))) (_ : (-9223372036854775808 ≤ y ∧ y ≤ 9223372036854775807)) (_ : (-9223372036854775808 ≤ n ∧ n ≤ 9223372036854775807)) : ∃ k, laws_FnExactFadedApart.f k l0 y n = some true := by
  refine Ev.rounds (g := fun k => laws_FnExactFadedApart.f k l0 y n) ?_
  unfold laws_FnExactFadedApart.f
  obtain ⟨r, hz, hr⟩ := szS2_ev l0 h0.1 (fun x hx => (h0.2 x hx).2.1)
  refine Ev.bind hz ?_
  by_cases c1 : r < 0
  · exact ev_pos c1 (Ev.now _)
  have n0 := hr c1
  refine ev_neg c1 ?_
  have m0 : (l0.map toShade).length ≤ 1048576 := by simpa using n0
  have hx : ∀ x ∈ l0.map toShade, x.f1.size ≤ 9223372036854775807 := by
    intro x hx
    obtain ⟨y, hy, rfl⟩ := List.mem_map.1 hx
    exact (h0.2 y hy).2.1
  have T0 := toS_ev l0 n0
  have Q0 := eqS_ev (l0.map toShade) m0
  obtain ⟨⟨o, ok⟩, hS, hI, hol⟩ := Faded_both (l0.map toShade) m0 hx y n
  have hol1 : o.length ≤ 1000 := hol.1
  have hol2 : totalL o ≤ 3000 := hol.2
  have nn := totalL_nn o
  have hE := eqSS_ev o (by omega) (by omega)
  obtain ⟨x0, hM0⟩ := markSh_ev (l0.map toShade) m0 1 (by omega) (by omega)
  have hM : Ev (fun _ : Nat => laws_markIntSS.f o 1) (1 + totalL o) := ev_eq (fun _ => markSS_ok o (by omega))
  have hC : Ev (fun _ : Nat => gosem_cut.f o 1) (marksL o 1) := ev_eq (fun _ => rfl)
  have hH := heldSS_ev o (by omega) 1 (by omega) (by omega)
  refine Ev.bind T0 (Ev.bind hS (Ev.bind T0 (Ev.bind hI (Ev.bind hE (ev_pos rfl ?_)))))
  refine Ev.step (fun k => rfl) ?_
  simp only [laws_FnExactFadedApart.j0]
  refine ev_neg (by simp) (Ev.bind T0 (Ev.bind Q0 (ev_pos rfl (Ev.bind hM0 (ev_neg (by dsimp only; omega) (Ev.bind hE (ev_pos rfl ?_)))))))
  refine Ev.step (fun k => rfl) ?_
  simp only [laws_FnExactFadedApart.j1]
  refine ev_neg (by simp) (Ev.bind hM (Ev.bind hC (Ev.bind hH (ev_neg (by omega) (ev_pos rfl (Ev.bind T0 (Ev.bind hI (Ev.bind hE (ev_pos rfl ?_)))))))))
  refine Ev.step (fun k => rfl) ?_
  simp only [laws_FnExactFadedApart.j2]
  exact ev_neg (by simp) (Ev.bind hH (ev_neg (by omega) (ev_pos rfl (Ev.now _))))
end Go.Proofs.YtggikmajopmchaaDoor.Pure
