/- For every shade the program's IsShade answers as the reference's. -/
import Derived.Test.YtcfkgcdhioamnaaDoorGx2
import Derived.Test.YtcfkgcdhioamnaaDoorGx3
import Derived.Test.YtcfkgcdhioamnaaDoorPBase
namespace Go.Proofs.YtcfkgcdhioamnaaDoor.Pure
open Go.RowKit Go.Proofs.YtcfkgcdhioamnaaDoor.G Go.Proofs.YtcfkgcdhioamnaaDoorW.PrintWords Go.Proofs.YtcfkgcdhioamnaaDoorW.PrintLast
set_option linter.unusedSimpArgs false
set_option linter.unusedVariables false

theorem IsShade_both (a : Int) (n : ByteArray) (b c d : Int) (hn : n.size ≤ 9223372036854775807) : ∃ r : Bool, Ev (fun k => spec_IsShade.f k a n b c d) r ∧ Ev (fun k => impl_IsShade.f a n b c d) r :=
  ⟨shadeB a n b c d, by unfold spec_IsShade.f; exact Ev.bind (l3One_ev a n b c d hn) (Ev.now _), ev_eq (fun _ => IsShade_eq a n b c d)⟩
theorem FnExactIsShade (a : Int) (n : ByteArray) (b c d : Int) (_ : (-9223372036854775808 ≤ a ∧ a ≤ 9223372036854775807)) (hn : n.size ≤ 9223372036854775807) (_ : (-9223372036854775808 ≤ b ∧ b ≤ 9223372036854775807)) (_ : (-9223372036854775808 ≤ c ∧ c ≤ 9223372036854775807)) (_ : (-9223372036854775808 ≤ d ∧ d ≤ 9223372036854775807)) : ∃ k, laws_FnExactIsShade.f k a n b c d = some true := by
  refine Ev.rounds (g := fun k => laws_FnExactIsShade.f k a n b c d) ?_
  unfold laws_FnExactIsShade.f
  obtain ⟨s0, hs0, hb0⟩ := szShade_eq a n b c d 1048576 (by omega) (by omega) hn
  simp only [hs0, Option.bind_some]
  by_cases q0 : s0 < 0
  · exact ev_pos q0 (Ev.now _)
  refine ev_neg q0 ?_
  simp only [toShade_eq, eqShade_eq, Option.bind_some]
  obtain ⟨v, hS, hI⟩ := IsShade_both a n b c d hn
  repeat (first
    | exact Ev.now _
    | refine Ev.bind (hS) ?_
    | refine Ev.bind (hI) ?_
    | (refine ev_neg ?hc ?_; (case hc => first | omega | (dsimp only; omega) | (simp; done)))
    | (refine ev_pos ?hc ?_; (case hc => first | exact rfl | omega | (dsimp only; omega) | (simp; done))))
end Go.Proofs.YtcfkgcdhioamnaaDoor.Pure
