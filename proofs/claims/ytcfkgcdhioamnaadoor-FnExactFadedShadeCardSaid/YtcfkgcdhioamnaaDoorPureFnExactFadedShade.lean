/- For every shade and every int the program's FadedShade answers as the reference's. -/
import Derived.Test.YtcfkgcdhioamnaaDoorGx6
import Derived.Test.YtcfkgcdhioamnaaDoorGx7
import Derived.Test.YtcfkgcdhioamnaaDoorPFade
namespace Go.Proofs.YtcfkgcdhioamnaaDoor.Pure
open Go.RowKit Go.Proofs.YtcfkgcdhioamnaaDoor.G Go.Proofs.YtcfkgcdhioamnaaDoorW.PrintWords Go.Proofs.YtcfkgcdhioamnaaDoorW.PrintLast
set_option linter.unusedSimpArgs false
set_option linter.unusedVariables false

theorem FadedShade_both (a : Int) (n : ByteArray) (b c d : Int) (y : Int) (hn : n.size ≤ 9223372036854775807) : ∃ r : Int × ByteArray × Int × Int × Int × Bool, Ev (fun k => spec_FadedShade.f k a n b c d y) r ∧ Ev (fun k => impl_FadedShade.f a n b c d y) r := by
  unfold spec_FadedShade.f impl_FadedShade.f
  simp only [IsShade_eq, years_spec, years_impl, Option.bind_some]
  have e1 := l3One_ev a n b c d hn
  cases h1 : shadeB a n b c d with
  | false => exact ⟨(0, ⟨#[]⟩, 0, 0, 0, false), Ev.bind (ev_val h1 e1) (ev_neg (by simp) (Ev.now _)), ev_neg (by simp) (Ev.now _)⟩
  | true =>
    cases h2 : (decide (0 ≤ y) && decide (y ≤ 200)) with
    | false => exact ⟨(0, ⟨#[]⟩, 0, 0, 0, false), Ev.bind (ev_val h1 e1) (ev_pos (by trivial) (ev_neg (by simp) (Ev.now _))), ev_pos (by trivial) (ev_neg (by simp) (Ev.now _))⟩
    | true =>
      simp only [Bool.and_eq_true, decide_eq_true_eq] at h2
      obtain ⟨_, _, _, _, p3, p4, p5, p6, _⟩ := shade_parts h1
      obtain ⟨e, r1, r2, _, _⟩ := faded_eq a n b c d y p3 p4 p5 p6 h2.1 h2.2
      simp only [r1, r2, Option.bind_some]
      exact ⟨(a, n, b, e, d, true), Ev.bind (ev_val h1 e1) (ev_pos (by trivial) (ev_pos (by trivial) (Ev.now _))), ev_pos (by trivial) (ev_pos (by trivial) (Ev.now _))⟩
theorem FnExactFadedShade (a : Int) (n : ByteArray) (b c d : Int) (y : Int) (_ : (-9223372036854775808 ≤ a ∧ a ≤ 9223372036854775807)) (hn : n.size ≤ 9223372036854775807) (_ : (-9223372036854775808 ≤ b ∧ b ≤ 9223372036854775807)) (_ : (-9223372036854775808 ≤ c ∧ c ≤ 9223372036854775807)) (_ : (-9223372036854775808 ≤ d ∧ d ≤ 9223372036854775807)) (_ : (-9223372036854775808 ≤ y ∧ y ≤ 9223372036854775807)) : ∃ k, laws_FnExactFadedShade.f k a n b c d y = some true := by
  refine Ev.rounds (g := fun k => laws_FnExactFadedShade.f k a n b c d y) ?_
  unfold laws_FnExactFadedShade.f
  obtain ⟨s0, hs0, hb0⟩ := szShade_eq a n b c d 1048576 (by omega) (by omega) hn
  simp only [hs0, Option.bind_some]
  by_cases q0 : s0 < 0
  · exact ev_pos q0 (Ev.now _)
  refine ev_neg q0 ?_
  simp only [toShade_eq, eqShade_eq, Option.bind_some]
  obtain ⟨⟨v1, v2, v3, v4, v5, v6⟩, hS, hI⟩ := FadedShade_both a n b c d y hn
  repeat (first
    | exact Ev.now _
    | refine Ev.bind (hS) ?_
    | refine Ev.bind (hI) ?_
    | refine Ev.bind ((ev_eq (fun _ => eqShade_eq v1 v2 v3 v4 v5) : Ev (fun _ => laws_eqShade.f v1 v2 v3 v4 v5 v1 v2 v3 v4 v5) true)) ?_
    | (refine ev_neg ?hc ?_; (case hc => first | omega | (dsimp only; omega) | (simp; done)))
    | (refine ev_pos ?hc ?_; (case hc => first | exact rfl | omega | (dsimp only; omega) | (simp; done))))
end Go.Proofs.YtcfkgcdhioamnaaDoor.Pure
