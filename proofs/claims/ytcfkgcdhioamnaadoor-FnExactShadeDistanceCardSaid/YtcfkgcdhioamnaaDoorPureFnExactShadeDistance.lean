/- For every two shades the program's ShadeDistance answers as the reference's. -/
import Derived.Test.YtcfkgcdhioamnaaDoorGx4
import Derived.Test.YtcfkgcdhioamnaaDoorGx5
import Derived.Test.YtcfkgcdhioamnaaDoorPFar
namespace Go.Proofs.YtcfkgcdhioamnaaDoor.Pure
open Go.RowKit Go.Proofs.YtcfkgcdhioamnaaDoor.G Go.Proofs.YtcfkgcdhioamnaaDoorW.PrintWords Go.Proofs.YtcfkgcdhioamnaaDoorW.PrintLast
set_option linter.unusedSimpArgs false
set_option linter.unusedVariables false

theorem ShadeDistance_both (a : Int) (n : ByteArray) (b c d : Int) (a2 : Int) (n2 : ByteArray) (b2 c2 d2 : Int) (hn : n.size ≤ 9223372036854775807) (hn2 : n2.size ≤ 9223372036854775807) : ∃ r : Int × Bool, Ev (fun k => spec_ShadeDistance.f k a n b c d a2 n2 b2 c2 d2) r ∧ Ev (fun k => impl_ShadeDistance.f a n b c d a2 n2 b2 c2 d2) r := by
  unfold spec_ShadeDistance.f impl_ShadeDistance.f
  simp only [IsShade_eq, Option.bind_some]
  have e1 := l3One_ev a n b c d hn
  have e2 := l3One_ev a2 n2 b2 c2 d2 hn2
  cases h1 : shadeB a n b c d with
  | false => exact ⟨(0, false), Ev.bind (ev_val h1 e1) (ev_neg (by simp) (Ev.now _)), ev_neg (by simp) (Ev.now _)⟩
  | true =>
    cases h2 : shadeB a2 n2 b2 c2 d2 with
    | false => exact ⟨(0, false), Ev.bind (ev_val h1 e1) (ev_pos (by trivial) (Ev.bind (ev_val h2 e2) (ev_neg (by simp) (Ev.now _)))), ev_pos (by trivial) (ev_neg (by simp) (Ev.now _))⟩
    | true =>
      obtain ⟨_, _, p1, p2, p3, p4, _, _, _⟩ := shade_parts h1
      obtain ⟨_, _, q1, q2, q3, q4, _, _, _⟩ := shade_parts h2
      obtain ⟨r, r1, r2, _, _⟩ := far_eq a n b c d a2 n2 b2 c2 d2 p1 p2 q1 q2 p3 p4 q3 q4
      simp only [r1, r2, Option.bind_some]
      exact ⟨(r, true), Ev.bind (ev_val h1 e1) (ev_pos (by trivial) (Ev.bind (ev_val h2 e2) (ev_pos (by trivial) (Ev.now _)))), ev_pos (by trivial) (ev_pos (by trivial) (Ev.now _))⟩
theorem FnExactShadeDistance (a : Int) (n : ByteArray) (b c d : Int) (a2 : Int) (n2 : ByteArray) (b2 c2 d2 : Int) (_ : (-9223372036854775808 ≤ a ∧ a ≤ 9223372036854775807)) (hn : n.size ≤ 9223372036854775807) (_ : (-9223372036854775808 ≤ b ∧ b ≤ 9223372036854775807)) (_ : (-9223372036854775808 ≤ c ∧ c ≤ 9223372036854775807)) (_ : (-9223372036854775808 ≤ d ∧ d ≤ 9223372036854775807)) (_ : (-9223372036854775808 ≤ a2 ∧ a2 ≤ 9223372036854775807)) (hn2 : n2.size ≤ 9223372036854775807) (_ : (-9223372036854775808 ≤ b2 ∧ b2 ≤ 9223372036854775807)) (_ : (-9223372036854775808 ≤ c2 ∧ c2 ≤ 9223372036854775807)) (_ : (-9223372036854775808 ≤ d2 ∧ d2 ≤ 9223372036854775807)) : ∃ k, laws_FnExactShadeDistance.f k a n b c d a2 n2 b2 c2 d2 = some true := by
  refine Ev.rounds (g := fun k => laws_FnExactShadeDistance.f k a n b c d a2 n2 b2 c2 d2) ?_
  unfold laws_FnExactShadeDistance.f
  obtain ⟨s0, hs0, hb0⟩ := szShade_eq a n b c d 1048576 (by omega) (by omega) hn
  simp only [hs0, Option.bind_some]
  by_cases q0 : s0 < 0
  · exact ev_pos q0 (Ev.now _)
  refine ev_neg q0 ?_
  obtain ⟨s1, hs1, hb1⟩ := szShade_eq a2 n2 b2 c2 d2 s0 (by omega) (by omega) hn2
  simp only [hs1, Option.bind_some]
  by_cases q1 : s1 < 0
  · exact ev_pos q1 (Ev.now _)
  refine ev_neg q1 ?_
  simp only [toShade_eq, eqShade_eq, Option.bind_some]
  obtain ⟨⟨v1, v2⟩, hS, hI⟩ := ShadeDistance_both a n b c d a2 n2 b2 c2 d2 hn hn2
  repeat (first
    | exact Ev.now _
    | refine Ev.bind (hS) ?_
    | refine Ev.bind (hI) ?_
    | (refine ev_neg ?hc ?_; (case hc => first | omega | (dsimp only; omega) | (simp; done)))
    | (refine ev_pos ?hc ?_; (case hc => first | exact rfl | omega | (dsimp only; omega) | (simp; done))))
end Go.Proofs.YtcfkgcdhioamnaaDoor.Pure
