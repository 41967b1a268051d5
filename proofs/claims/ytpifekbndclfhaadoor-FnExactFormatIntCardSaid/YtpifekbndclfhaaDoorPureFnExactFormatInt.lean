/- For every int the program's FormatInt answers as the reference's. -/
import Derived.Test.YtpifekbndclfhaaDoorGx1
import Derived.Test.YtpifekbndclfhaaDoorGx2
import Derived.Test.YtpifekbndclfhaaDoorPNum
namespace Go.Proofs.YtpifekbndclfhaaDoor.Pure
open Go.RowKit Go.Proofs.YtpifekbndclfhaaDoor.G Go.Proofs.YtpifekbndclfhaaDoorW.PrintWords Go.Proofs.YtpifekbndclfhaaDoorW.PrintLast
set_option linter.unusedSimpArgs false
set_option linter.unusedVariables false

theorem FormatInt_both (x : Int) : ∃ r : ByteArray × Bool, Ev (fun k => spec_FormatInt.f k x) r ∧ Ev (fun k => impl_FormatInt.f x) r := by
  unfold spec_FormatInt.f impl_FormatInt.f spec_l1In.f impl_in.f
  by_cases c : x ≥ -999999
  · by_cases c2 : x ≤ 999999
    · simp only [if_pos c, decide_eq_true c2, Option.bind_some, if_true]
      rw [decimal_eq x (by omega) (by omega)]
      exact ⟨(numT (Lib.itoa x), true), Ev.bind (l1Num_all x (by omega) (by omega)) (Ev.now _), Ev.now _⟩
    · simp only [if_pos c, decide_eq_false c2, Option.bind_some]
      exact ⟨((⟨#[]⟩ : ByteArray), false), ev_neg (by simp) (Ev.now _), ev_neg (by simp) (Ev.now _)⟩
  · simp only [if_neg c, Option.bind_some]
    exact ⟨((⟨#[]⟩ : ByteArray), false), ev_neg (by simp) (Ev.now _), ev_neg (by simp) (Ev.now _)⟩
theorem FnExactFormatInt (x : Int) (_ : (-9223372036854775808 ≤ x ∧ x ≤ 9223372036854775807)) : ∃ k, laws_FnExactFormatInt.f k x = some true := by
  refine Ev.rounds (g := fun k => laws_FnExactFormatInt.f k x) ?_
  unfold laws_FnExactFormatInt.f
  obtain ⟨⟨v1, v2⟩, hS, hI⟩ := FormatInt_both x
  exact Ev.bind hS (Ev.bind hI (ev_pos rfl (ev_neg (by simp) (Ev.now _))))
end Go.Proofs.YtpifekbndclfhaaDoor.Pure
