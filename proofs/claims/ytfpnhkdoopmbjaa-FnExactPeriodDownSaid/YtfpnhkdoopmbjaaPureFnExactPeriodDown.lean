/- For every chart-like argument the program's PeriodDown answers as the reference's. -/
import Derived.Test.YtfpnhkdoopmbjaaGx10
import Derived.Test.YtfpnhkdoopmbjaaGx11
import Derived.Test.YtfpnhkdoopmbjaaGx12
import Derived.Test.YtfpnhkdoopmbjaaGx2
import Derived.Test.YtfpnhkdoopmbjaaGx6
import Derived.Test.YtfpnhkdoopmbjaaGx9
import Derived.Test.YtfpnhkdoopmbjaaPPeriod
import Derived.Test.YtfpnhkdoopmbjaaPTurn
namespace Go.Proofs.Ytfpnhkdoopmbjaa.Pure
open Go.RowKit Go.Proofs.Ytfpnhkdoopmbjaa.G Go.Proofs.YtfpnhkdoopmbjaaW.PrintWords Go.Proofs.YtfpnhkdoopmbjaaW.PrintLast
set_option linter.unusedSimpArgs false
set_option linter.unusedVariables false

theorem PeriodDown_both (w h : Int) (l : List Int) (hl : l.length ≤ 1048576) : ∃ r : Int × Bool, True ∧ Ev (fun k => spec_PeriodDown.f k w h l) r ∧ Ev (fun k => impl_PeriodDown.f k w h l) r := by
  have good : ∀ b, goodB w h l = b → Ev (fun k => spec_l2Good.f k w h l) b := fun b g => ⟨l.length + 1, fun k hk => (l2Good_eq w h l hl k (by omega)).trans (by rw [g])⟩
  unfold spec_PeriodDown.f impl_PeriodDown.f
  cases g : goodB w h l with
  | false =>
    refine ⟨(0, false), trivial, Ev.bind (good _ g) (ev_neg (by simp) (Ev.now _)), ?_⟩
    simp only [IsChart_eq, g, Option.bind_some]
    exact ev_neg (by simp) (Ev.now _)
  | true =>
    have g' := good_dim g
    have g2 := g'
    obtain ⟨w1, w2, h1, h2, _⟩ := g2
    have hT := l4Turn_eq g'
    have gT := chartL_dim (turnG w h l) ⟨h1, h2⟩ ⟨w1, w2⟩
    obtain ⟨q, q1, q2, n1, n2⟩ := period_both gT (fun k p => spec_PeriodDown.l0 k p w h l) (fun p b r a n => Ev.step (fun k => by simp only [spec_PeriodDown.l0]; rfl) (Ev.bind hT (Ev.bind a n))) (h - 1).toNat 1 (by omega) (by omega)
    refine ⟨(q, true), trivial, Ev.bind (good _ g) (ev_pos (by trivial) n1), ?_⟩
    simp only [IsChart_eq, g, Option.bind_some, turned_eq g']
    exact ev_pos (by trivial) (Ev.bind (g := fun k => impl_Chart_period.f k h w (chartL (turnG w h l) h w) false) n2 (Ev.now _))
theorem FnExactPeriodDown (w h : Int) (l : List Int) (_ : (-9223372036854775808 ≤ w ∧ w ≤ 9223372036854775807)) (_ : (-9223372036854775808 ≤ h ∧ h ≤ 9223372036854775807))
    (hl : l.length ≤ 9223372036854775807 ∧ ∀ y ∈ l, (-9223372036854775808 ≤ y ∧ y ≤ 9223372036854775807)) : ∃ k, laws_FnExactPeriodDown.f k w h l = some true := by
  unfold laws_FnExactPeriodDown.f
  rw [szChart_eq w h l 1048576 (by omega) (by omega) hl.1]
  simp only [Option.bind_some]
  by_cases hs : (1048576 : Int) < l.length
  · refine ⟨0, ?_⟩
    rw [if_pos hs, if_pos (by omega)]
  · rw [if_neg hs]
    simp only [if_neg (show ¬ ((1048576 : Int) - (l.length : Int) < 0) by omega)]
    obtain ⟨⟨r1, r2⟩, hrl, ⟨K1, hs1⟩, ⟨K2, hs2⟩⟩ := PeriodDown_both w h l (by omega)
    (try dsimp only at hrl)
    obtain ⟨B, hB⟩ : ∃ B, K1 + K2 + 3000000 ≤ B := ⟨_, Nat.le_refl _⟩
    refine ⟨B + 1 + 1 + 1, ?_⟩
    repeat (first
      | rfl
      | refine bs_ (toChart_eq w h l (by omega) _ (by omega)) ?_
      | refine bs_ (hs1 _ (by omega)) ?_
      | refine bs_ (hs2 _ (by omega)) ?_
      | refine bs_ (hs2) ?_
      | refine bs_ (eqChart_eq w h l (by omega) _ (by omega)) ?_
      | refine it_ rfl ?_
      | (refine ie_ ?hc ?_; (case hc => first | omega | (dsimp only; omega) | (simp; done)))
      | rw [laws_FnExactPeriodDown.j0])
end Go.Proofs.Ytfpnhkdoopmbjaa.Pure
