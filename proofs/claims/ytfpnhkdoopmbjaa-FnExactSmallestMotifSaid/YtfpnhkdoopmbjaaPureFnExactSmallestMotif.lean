/- For every chart-like argument the program's SmallestMotif answers as the reference's, in memory of its own. -/
import Derived.Test.YtfpnhkdoopmbjaaGx10
import Derived.Test.YtfpnhkdoopmbjaaGx11
import Derived.Test.YtfpnhkdoopmbjaaGx2
import Derived.Test.YtfpnhkdoopmbjaaGx20
import Derived.Test.YtfpnhkdoopmbjaaGx21
import Derived.Test.YtfpnhkdoopmbjaaGx22
import Derived.Test.YtfpnhkdoopmbjaaGx23
import Derived.Test.YtfpnhkdoopmbjaaGx6
import Derived.Test.YtfpnhkdoopmbjaaPPeriod
import Derived.Test.YtfpnhkdoopmbjaaPTurn
import Derived.Test.YtfpnhkdoopmbjaaPPart
namespace Go.Proofs.Ytfpnhkdoopmbjaa.Pure
open Go.RowKit Go.Proofs.Ytfpnhkdoopmbjaa.G Go.Proofs.YtfpnhkdoopmbjaaW.PrintWords Go.Proofs.YtfpnhkdoopmbjaaW.PrintLast
set_option linter.unusedSimpArgs false
set_option linter.unusedVariables false

theorem SmallestMotif_both (w h : Int) (l : List Int) (hl : l.length ≤ 1048576) : ∃ r : Int × Int × List Int × Bool, r.2.2.1.length ≤ 4096 ∧ Ev (fun k => spec_SmallestMotif.f k w h l) r ∧ Ev (fun k => impl_SmallestMotif.f k w h l) r := by
  have good : ∀ b, goodB w h l = b → Ev (fun k => spec_l2Good.f k w h l) b := fun b g => ⟨l.length + 1, fun k hk => (l2Good_eq w h l hl k (by omega)).trans (by rw [g])⟩
  unfold spec_SmallestMotif.f impl_SmallestMotif.f
  cases g : goodB w h l with
  | false =>
    refine ⟨(0, 0, [], false), by simp, Ev.bind (good _ g) (ev_neg (by simp) (Ev.now _)), ?_⟩
    simp only [IsChart_eq, g, Option.bind_some]
    exact ev_neg (by simp) (Ev.now _)
  | true =>
    have g' := good_dim g
    have g2 := g'
    obtain ⟨w1, w2, h1, h2, e⟩ := g2
    have hT := l4Turn_eq g'
    have gT := chartL_dim (turnG w h l) ⟨h1, h2⟩ ⟨w1, w2⟩
    obtain ⟨p, p1, p2, m1, m2⟩ := divisor_both gT (h - 1).toNat 1 (by omega) (by omega)
    obtain ⟨q, q1, q2, n1, n2⟩ := divisor_both g' (w - 1).toNat 1 (by omega) (by omega)
    have hp : PartIn w h l 0 0 p q := ⟨by omega, by omega, by omega, by omega, by omega, by omega, w2, h2, e⟩
    have hK : Ev (fun k => spec_l2Part.f k w h l 0 0 p q) (q, p, chartL (partG w l 0 0) q p) := l2Part_eq g 0 0 p q hp
    refine ⟨(q, p, chartL (partG w l 0 0) q p, true), chartL_small _ _ _ (by omega) (by omega), ?_, ?_⟩
    · exact Ev.bind (good _ g) (ev_pos (by trivial) (Ev.bind hT (Ev.bind (g := fun k => spec_l6Divisor.f k h w (chartL (turnG w h l) h w)) m1 (Ev.bind (g := fun k => spec_l6Divisor.f k w h l) n1 (Ev.bind hK (Ev.now _))))))
    · simp only [IsChart_eq, g, Option.bind_some, turned_eq g']
      refine ev_pos (by trivial) (Ev.bind (g := fun k => impl_Chart_period.f k h w (chartL (turnG w h l) h w) true) m2 (Ev.bind (g := fun k => impl_Chart_period.f k w h l true) n2 ?_))
      simp only [part_eq _ _ _ _ hp, Option.bind_some]
      exact Ev.now _
theorem FnExactSmallestMotif (w h : Int) (l : List Int) (_ : (-9223372036854775808 ≤ w ∧ w ≤ 9223372036854775807)) (_ : (-9223372036854775808 ≤ h ∧ h ≤ 9223372036854775807))
    (hl : l.length ≤ 9223372036854775807 ∧ ∀ y ∈ l, (-9223372036854775808 ≤ y ∧ y ≤ 9223372036854775807)) : ∃ k, laws_FnExactSmallestMotif.f k w h l = some true := by
  unfold laws_FnExactSmallestMotif.f
  rw [szChart_eq w h l 1048576 (by omega) (by omega) hl.1]
  simp only [Option.bind_some]
  by_cases hs : (1048576 : Int) < l.length
  · refine ⟨0, ?_⟩
    rw [if_pos hs, if_pos (by omega)]
  · rw [if_neg hs]
    simp only [if_neg (show ¬ ((1048576 : Int) - (l.length : Int) < 0) by omega)]
    obtain ⟨⟨r1, r2, r3, r4⟩, hrl, ⟨K1, hs1⟩, ⟨K2, hs2⟩⟩ := SmallestMotif_both w h l (by omega)
    (try dsimp only at hrl)
    obtain ⟨B, hB⟩ : ∃ B, K1 + K2 + 3000000 ≤ B := ⟨_, Nat.le_refl _⟩
    refine ⟨B + 1 + 1 + 1, ?_⟩
    repeat (first
      | rfl
      | refine bs_ (toChart_eq w h l (by omega) _ (by omega)) ?_
      | refine bs_ (hs1 _ (by omega)) ?_
      | refine bs_ (hs2 _ (by omega)) ?_
      | refine bs_ (hs2) ?_
      | refine bs_ (eqChart_eq r1 r2 r3 (by omega) _ (by omega)) ?_
      | refine bs_ (eqChart_eq w h l (by omega) _ (by omega)) ?_
      | refine bs_ (markChart_eq r1 r2 r3 1 (by omega) (by omega) (by omega) _ (by omega)) ?_
      | refine bs_ (markChart_eq w h l 1 (by omega) (by omega) (by omega) _ (by omega)) ?_
      | refine bs_ (heldChart_eq r1 r2 r3.length 1 (by omega) (by omega) (by omega) _ (by omega)) ?_
      | refine it_ rfl ?_
      | (refine ie_ ?hc ?_; (case hc => first | omega | (dsimp only; omega) | (simp; done)))
      | rw [laws_FnExactSmallestMotif.j0]
      | rw [laws_FnExactSmallestMotif.j1]
      | rw [laws_FnExactSmallestMotif.j2])
end Go.Proofs.Ytfpnhkdoopmbjaa.Pure
