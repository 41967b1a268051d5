/- Plain facts on periods: program and reference find the same one. -/
import Derived.Test.YtfpnhkdoopmbjaaGx21
import Derived.Test.YtfpnhkdoopmbjaaGx3
import Derived.Test.YtfpnhkdoopmbjaaGx5
import Derived.Test.YtfpnhkdoopmbjaaGx6
import Derived.Test.YtfpnhkdoopmbjaaPGrid
namespace Go.Proofs.Ytfpnhkdoopmbjaa.Pure
open Go.RowKit Go.Proofs.Ytfpnhkdoopmbjaa.G Go.Proofs.YtfpnhkdoopmbjaaW.PrintWords Go.Proofs.YtfpnhkdoopmbjaaW.PrintLast
set_option linter.unusedSimpArgs false
set_option linter.unusedVariables false

theorem inner_both {w h : Int} {l : List Int} (g : Dim w h l) (p : Int) (p1 : 1 ≤ p) (p2 : p ≤ 100) (r : Int) (r0 : 0 ≤ r) (r1 : r < h)
    (nx : ∃ b, Ev (fun k => spec_l6Across.l0 k p (r + 1) w h l) b ∧ Ev (fun k => impl_Chart_hasPeriod.l0 k p h (r + 1) w h l) b ∧ (w ≤ p → b = true)) (d : Nat) :
    ∀ c, 0 ≤ c → c ≤ w → w - p - c ≤ d → ∃ b, Ev (fun k => spec_l6Across.l1 k p r c w h l) b ∧ Ev (fun k => impl_Chart_hasPeriod.l1 k p r h r (w - p) c w h l) b ∧ (w ≤ p → b = true) := by
  have g' := g
  obtain ⟨w1, w2, h1, h2, _⟩ := g'
  have stop : ∀ c, 0 ≤ c → c ≤ w → w - p ≤ c → ∃ b, Ev (fun k => spec_l6Across.l1 k p r c w h l) b ∧ Ev (fun k => impl_Chart_hasPeriod.l1 k p r h r (w - p) c w h l) b ∧ (w ≤ p → b = true) := by
    intro c c0 cw hc
    obtain ⟨b, n1, n2, n3⟩ := nx
    refine ⟨b, Ev.step (fun k => ?_) n1, Ev.step (fun k => ?_) n2, n3⟩
    · simp only [spec_l6Across.l1]
      rw [wrap_in (x := c + p) (by omega) (by omega), if_neg (by omega), wrap_in (by omega) (by omega)]
    · simp only [impl_Chart_hasPeriod.l1]
      rw [if_neg (by omega), wrap_in (by omega) (by omega)]
  induction d with
  | zero => exact fun c c0 cw hd => stop c c0 cw (by omega)
  | succ d ih =>
    intro c c0 cw hd
    by_cases hc : c + p < w
    · have e1 := l2At_d g r0 r1 c0 (show c < w by omega)
      have e2 := l2At_d g r0 r1 (show 0 ≤ c + p by omega) hc
      have e3 := at_d g r0 r1 c0 (show c < w by omega)
      have e4 := at_d g r0 r1 (show 0 ≤ c + p by omega) hc
      by_cases q : rd l (r * w + c) = rd l (r * w + (c + p))
      · obtain ⟨b, n1, n2, n3⟩ := ih (c + 1) (by omega) (by omega) (by omega)
        refine ⟨b, Ev.step (fun k => ?_) n1, Ev.step (fun k => ?_) n2, n3⟩
        · simp only [spec_l6Across.l1]
          rw [wrap_in (x := c + p) (by omega) (by omega), if_pos hc, e1, e2, wrap_in (x := c + 1) (by omega) (by omega)]
          simp only [Option.bind_some]
          rw [if_pos q]
        · simp only [impl_Chart_hasPeriod.l1]
          rw [if_pos (by omega), wrap_in (x := c + p) (by omega) (by omega), e3, e4, wrap_in (x := c + 1) (by omega) (by omega)]
          simp only [Option.bind_some]
          rw [if_pos q]
      · refine ⟨false, Ev.step (fun k => ?_) (Ev.now false), Ev.step (fun k => ?_) (Ev.now false), fun hh => by omega⟩
        · simp only [spec_l6Across.l1]
          rw [wrap_in (x := c + p) (by omega) (by omega), if_pos hc, e1, e2]
          simp only [Option.bind_some]
          rw [if_neg q]
        · simp only [impl_Chart_hasPeriod.l1]
          rw [if_pos (by omega), wrap_in (x := c + p) (by omega) (by omega), e3, e4]
          simp only [Option.bind_some]
          rw [if_neg q]
    · exact stop c c0 cw (by omega)
theorem across_rows {w h : Int} {l : List Int} (g : Dim w h l) (p : Int) (p1 : 1 ≤ p) (p2 : p ≤ 100) (d : Nat) :
    ∀ r, 0 ≤ r → r + d = h → ∃ b, Ev (fun k => spec_l6Across.l0 k p r w h l) b ∧ Ev (fun k => impl_Chart_hasPeriod.l0 k p h r w h l) b ∧ (w ≤ p → b = true) := by
  have g' := g
  obtain ⟨w1, w2, h1, h2, _⟩ := g'
  induction d with
  | zero =>
    intro r r0 r1
    refine ⟨true, Ev.step (fun k => ?_) (Ev.now true), Ev.step (fun k => ?_) (Ev.now true), fun _ => rfl⟩
    · simp only [spec_l6Across.l0]
      rw [if_neg (by omega)]
    · simp only [impl_Chart_hasPeriod.l0]
      rw [if_neg (by omega)]
  | succ d ih =>
    intro r r0 r1
    obtain ⟨b, n1, n2, n3⟩ := inner_both g p p1 p2 r r0 (by omega) (ih (r + 1) (by omega) (by omega)) (w - p).toNat 0 (by omega) (by omega) (by omega)
    refine ⟨b, Ev.step (fun k => ?_) n1, Ev.step (fun k => ?_) n2, n3⟩
    · simp only [spec_l6Across.l0]
      rw [if_pos (by omega)]
    · simp only [impl_Chart_hasPeriod.l0]
      rw [if_pos (by omega), wrap_in (by omega) (by omega)]
theorem across_both {w h : Int} {l : List Int} (g : Dim w h l) (p : Int) (p1 : 1 ≤ p) (p2 : p ≤ 100) :
    ∃ b, Ev (fun k => spec_l6Across.f k w h l p) b ∧ Ev (fun k => impl_Chart_hasPeriod.f k w h l p) b ∧ (w ≤ p → b = true) := by
  have g' := g
  obtain ⟨w1, w2, h1, h2, _⟩ := g'
  exact across_rows g p p1 p2 h.toNat 0 (by omega) (by omega)
theorem period_both {w h : Int} {l : List Int} (g : Dim w h l) (F : Nat → Int → Option (Int × Bool)) (hF : ∀ p b r, Ev (fun k => spec_l6Across.f k w h l p) b → Ev (fun k => if b = true then some (p, true) else F k (wrap64 (p + 1))) r → Ev (fun k => F k p) r) (d : Nat) :
    ∀ p, 1 ≤ p → p + d = w → ∃ q, 1 ≤ q ∧ q ≤ w ∧ Ev (fun k => F k p) (q, true) ∧ Ev (fun k => impl_Chart_period.l0 k false p w h l) q := by
  have g' := g
  obtain ⟨w1, w2, h1, h2, _⟩ := g'
  induction d with
  | zero =>
    intro p p1 pd
    obtain ⟨b, a1, a2, a3⟩ := across_both g p p1 (by omega)
    obtain rfl := a3 (by omega)
    refine ⟨p, p1, by omega, hF p _ _ a1 (ev_pos (by trivial) (Ev.now _)), ?_⟩
    refine Ev.step (fun k => rfl) ?_
    simp only [impl_Chart_period.l0]
    exact Ev.bind a2 (ev_pos (by trivial) (ev_neg (by simp) (Ev.now _)))
  | succ d ih =>
    intro p p1 pd
    obtain ⟨b, a1, a2, a3⟩ := across_both g p p1 (by omega)
    cases b with
    | true =>
      refine ⟨p, p1, by omega, hF p _ _ a1 (ev_pos (by trivial) (Ev.now _)), ?_⟩
      refine Ev.step (fun k => rfl) ?_
      simp only [impl_Chart_period.l0]
      exact Ev.bind a2 (ev_pos (by trivial) (ev_neg (by simp) (Ev.now _)))
    | false =>
      obtain ⟨q, q1, q2, n1, n2⟩ := ih (p + 1) (by omega) (by omega)
      refine ⟨q, q1, q2, hF p _ _ a1 (ev_neg (by simp) ?_), ?_⟩
      · rw [wrap_in (by omega) (by omega)]
        exact n1
      · refine Ev.step (fun k => rfl) ?_
        simp only [impl_Chart_period.l0]
        refine Ev.bind a2 (ev_neg (by simp) ?_)
        rw [wrap_in (by omega) (by omega)]
        exact n2
theorem divisor_both {w h : Int} {l : List Int} (g : Dim w h l) (d : Nat) :
    ∀ p, 1 ≤ p → p + d = w → ∃ q, 1 ≤ q ∧ q ≤ w ∧ Ev (fun k => spec_l6Divisor.l0 k p w h l) q ∧ Ev (fun k => impl_Chart_period.l0 k true p w h l) q := by
  have g' := g
  obtain ⟨w1, w2, h1, h2, _⟩ := g'
  have yes : ∀ p, 1 ≤ p → p ≤ w → Int.tmod w p = 0 → Ev (fun k => spec_l6Across.f k w h l p) true → Ev (fun k => impl_Chart_hasPeriod.f k w h l p) true → ∃ q, 1 ≤ q ∧ q ≤ w ∧ Ev (fun k => spec_l6Divisor.l0 k p w h l) q ∧ Ev (fun k => impl_Chart_period.l0 k true p w h l) q := by
    intro p p1 p2 m a1 a2
    refine ⟨p, p1, p2, ?_, ?_⟩
    · refine Ev.step (fun k => rfl) ?_
      simp only [spec_l6Divisor.l0]
      exact ev_neg (by omega) (ev_pos m (Ev.bind a1 (ev_pos (by trivial) (Ev.now _))))
    · refine Ev.step (fun k => rfl) ?_
      simp only [impl_Chart_period.l0]
      exact Ev.bind a2 (ev_pos (by trivial) (ev_pos (by simp) (ev_neg (by omega) (ev_pos m (Ev.now _)))))
  induction d with
  | zero =>
    intro p p1 pd
    obtain ⟨b, a1, a2, a3⟩ := across_both g p p1 (by omega)
    obtain rfl := a3 (by omega)
    obtain rfl : p = w := by omega
    exact yes p p1 (by omega) (Int.tmod_self) a1 a2
  | succ d ih =>
    intro p p1 pd
    obtain ⟨b, a1, a2, a3⟩ := across_both g p p1 (by omega)
    obtain ⟨q, q1, q2, n1, n2⟩ := ih (p + 1) (by omega) (by omega)
    rw [← wrap_in (x := p + 1) (by omega) (by omega)] at n1 n2
    by_cases m : Int.tmod w p = 0
    · cases b with
      | true => exact yes p p1 (by omega) m a1 a2
      | false =>
        refine ⟨q, q1, q2, ?_, ?_⟩
        · refine Ev.step (fun k => rfl) ?_
          simp only [spec_l6Divisor.l0]
          exact ev_neg (by omega) (ev_pos m (Ev.bind a1 (ev_neg (by simp) n1)))
        · refine Ev.step (fun k => rfl) ?_
          simp only [impl_Chart_period.l0]
          exact Ev.bind a2 (ev_neg (by simp) n2)
    · refine ⟨q, q1, q2, ?_, ?_⟩
      · refine Ev.step (fun k => rfl) ?_
        simp only [spec_l6Divisor.l0]
        exact ev_neg (by omega) (ev_neg m n1)
      · refine Ev.step (fun k => rfl) ?_
        simp only [impl_Chart_period.l0]
        cases b with
        | true => exact Ev.bind a2 (ev_pos (by trivial) (ev_pos (by simp) (ev_neg (by omega) (ev_neg m n2))))
        | false => exact Ev.bind a2 (ev_neg (by simp) n2)
end Go.Proofs.Ytfpnhkdoopmbjaa.Pure
