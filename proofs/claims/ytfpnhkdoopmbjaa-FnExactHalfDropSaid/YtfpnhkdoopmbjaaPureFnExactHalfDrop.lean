/- For every chart-like motif the program's HalfDrop answers as the reference's, in memory of its own. -/
import Derived.Test.YtfpnhkdoopmbjaaGx10
import Derived.Test.YtfpnhkdoopmbjaaGx15
import Derived.Test.YtfpnhkdoopmbjaaGx2
import Derived.Test.YtfpnhkdoopmbjaaGx20
import Derived.Test.YtfpnhkdoopmbjaaGx22
import Derived.Test.YtfpnhkdoopmbjaaGx28
import Derived.Test.YtfpnhkdoopmbjaaGx29
import Derived.Test.YtfpnhkdoopmbjaaGx30
import Derived.Test.YtfpnhkdoopmbjaaPTile
import Derived.Test.YtfpnhkdoopmbjaaPPart
namespace Go.Proofs.Ytfpnhkdoopmbjaa.Pure
open Go.RowKit Go.Proofs.Ytfpnhkdoopmbjaa.G Go.Proofs.YtfpnhkdoopmbjaaW.PrintWords Go.Proofs.YtfpnhkdoopmbjaaW.PrintLast
set_option linter.unusedSimpArgs false
set_option linter.unusedVariables false

theorem half_puts {w h : Int} {l : List Int} (gg : goodB w h l = true) (W1 : 2 * w ≤ 8) (n : Int) (hn : h = 2 * n) (X : List Int) (hX : Dim (2 * w) h X) :
    Ev (fun k => (spec_l2Put.f k (2 * w) h X w h l 0 0).bind fun bt209 => ((spec_l2Part.f k w h l n 0 n w).bind fun bt214 => ((spec_l2Put.f k bt209.1 bt209.2.1 bt209.2.2 bt214.1 bt214.2.1 bt214.2.2 0 w).bind fun bt219 => ((spec_l2Part.f k w h l 0 0 n w).bind fun bt224 => ((spec_l2Put.f k bt219.1 bt219.2.1 bt219.2.2 bt224.1 bt224.2.1 bt224.2.2 n w).bind fun bt229 => (some (bt229.1, bt229.2.1, bt229.2.2, true))))))) (2 * w, h, chartL (halfG w h l) (2 * w) h, true) := by
  have g := good_dim gg
  have g' := g
  obtain ⟨w1, w2, h1, h2, e⟩ := g'
  have pA : PartIn w h l n 0 n w := ⟨by omega, by omega, by omega, by omega, by omega, by omega, w2, h2, e⟩
  have pB : PartIn w h l 0 0 n w := ⟨by omega, by omega, by omega, by omega, by omega, by omega, w2, h2, e⟩
  have kA : Ev (fun k => spec_l2Part.f k w h l n 0 n w) (w, n, chartL (partG w l n 0) w n) := l2Part_eq gg n 0 n w pA
  have kB : Ev (fun k => spec_l2Part.f k w h l 0 0 n w) (w, n, chartL (partG w l 0 0) w n) := l2Part_eq gg 0 0 n w pB
  have dA := chartL_dim (partG w l n 0) (w := w) (h := n) ⟨w1, w2⟩ ⟨by omega, by omega⟩
  have dB := chartL_dim (partG w l 0 0) (w := w) (h := n) ⟨w1, w2⟩ ⟨by omega, by omega⟩
  obtain ⟨X1, n1, m1⟩ := l2Put_eq hX g 0 0 (by omega) (by omega) (by omega) (by omega)
  have d1 := held_dim hX m1
  obtain ⟨X2, n2, m2⟩ := l2Put_eq d1 dA 0 w (by omega) (by omega) (by omega) (by omega)
  have d2 := held_dim d1 m2
  obtain ⟨X3, n3, m3⟩ := l2Put_eq d2 dB n w (by omega) (by omega) (by omega) (by omega)
  have d3 := held_dim d2 m3
  have e3 := chart_ext d3 (halfG w h l) (fun a b c1 c2 c3 c4 => by
    have ht : h / 2 = n := by omega
    unfold halfG
    rw [ht, m3.2 a b c1 c2 c3 c4]
    by_cases hb : w ≤ b
    · have eb : b % w = b - w := by have := tmod_at (a := b) (h := w) (i := 1) (by omega) (by omega) (by omega) (by omega); rw [this]; omega
      rw [if_pos hb, eb]
      by_cases ha : a < n
      · have ea : (a + n) % h = a + n := by have := tmod_at (a := a + n) (h := h) (i := 0) (by omega) (by omega) (by omega) (by omega); rw [this]; omega
        rw [if_neg (by omega), m2.2 a b c1 c2 c3 c4, if_pos (by omega), ea, rd_chartL _ (by omega) (by omega) (by omega) (by omega)]
        unfold partG
        congr 1
        rw [show n + (a - 0) = a + n by omega]
        omega
      · have ea : (a + n) % h = a - n := by have := tmod_at (a := a + n) (h := h) (i := 1) (by omega) (by omega) (by omega) (by omega); rw [this]; omega
        rw [if_pos (by omega), ea, rd_chartL _ (by omega) (by omega) (by omega) (by omega)]
        unfold partG
        congr 1
        rw [show 0 + (a - n) = a - n by omega]
        omega
    · have eb : b % w = b := by have := tmod_at (a := b) (h := w) (i := 0) (by omega) (by omega) (by omega) (by omega); rw [this]; omega
      rw [if_neg hb, if_neg (by omega), m2.2 a b c1 c2 c3 c4, if_neg (by omega), m1.2 a b c1 c2 c3 c4, if_pos (by omega), eb]
      congr 1
      rw [show a - 0 = a by omega]
      omega)
  rw [← e3]
  exact Ev.bind n1 (Ev.bind kA (Ev.bind n2 (Ev.bind kB (Ev.bind n3 (Ev.now _)))))
theorem HalfDrop_both (w h : Int) (l : List Int) (hl : l.length ≤ 1048576) : ∃ r : Int × Int × List Int × Bool, r.2.2.1.length ≤ 4096 ∧ Ev (fun k => spec_HalfDrop.f k w h l) r ∧ Ev (fun k => impl_HalfDrop.f w h l) r := by
  have good : ∀ b, goodB w h l = b → Ev (fun k => spec_l2Good.f k w h l) b := fun b g => ⟨l.length + 1, fun k hk => (l2Good_eq w h l hl k (by omega)).trans (by rw [g])⟩
  unfold spec_HalfDrop.f impl_HalfDrop.f
  cases g : goodB w h l with
  | false =>
    refine ⟨(0, 0, [], false), by simp, Ev.bind (good _ g) (ev_neg (by simp) ?_), ?_⟩
    · refine Ev.step (fun k => rfl) ?_
      simp only [spec_HalfDrop.j0]
      exact ev_pos (by trivial) (Ev.now _)
    · simp only [IsChart_eq, g, Option.bind_some]
      exact ev_neg (by simp) (Ev.now _)
  | true =>
    have g' := good_dim g
    have g2 := g'
    obtain ⟨w1, w2, h1, h2, e⟩ := g2
    have hm : Int.tmod h 2 = h % 2 := Int.tmod_eq_emod_of_nonneg (by omega)
    rw [hm]
    cases od : (h % 2 == 1) with
    | true =>
      refine ⟨(0, 0, [], false), by simp, Ev.bind (good _ g) (ev_pos (by trivial) ?_), ?_⟩
      · refine Ev.step (fun k => rfl) ?_
        simp only [spec_HalfDrop.j0]
        exact ev_pos (by trivial) (Ev.now _)
      · simp only [IsChart_eq, g, Option.bind_some]
        exact ev_pos (by trivial) (ev_neg (by simp) (Ev.now _))
    | false =>
      have ht : Int.tdiv h 2 = h / 2 := Int.tdiv_eq_ediv_of_nonneg (by omega)
      by_cases ca : copiesB w 2 = true
      · have ca' := (copies_iff w1 w2).1 ca
        refine ⟨(2 * w, h, chartL (halfG w h l) (2 * w) h, true), chartL_small _ _ _ (by omega) (by omega), Ev.bind (good _ g) (ev_pos (by trivial) ?_), ?_⟩
        · refine Ev.step (fun k => rfl) ?_
          simp only [spec_HalfDrop.j0]
          refine ev_neg (by simp) ?_
          rw [wrap_in (x := 2 * w) (by omega) (by omega), l6Blank_eq, if_pos ⟨ca'.2, ⟨h1, h2⟩⟩, ht, wrap_in (x := h / 2) (by omega) (by omega)]
          simp only [Option.bind_some]
          exact ev_pos (by trivial) (half_puts g ca'.2.2 (h / 2) (by have : ¬ (h % 2 = 1) := beq_eq_false_iff_ne.mp od; omega) _ (blank_dim ca'.2 ⟨h1, h2⟩))
        · simp only [IsChart_eq, g, Option.bind_some]
          exact ev_pos (by trivial) (ev_pos (by trivial) (ev_pos ca (Ev.now _)))
      · refine ⟨(0, 0, [], false), by simp, Ev.bind (good _ g) (ev_pos (by trivial) ?_), ?_⟩
        · rw [copies_iff w1 w2] at ca
          refine Ev.step (fun k => rfl) ?_
          simp only [spec_HalfDrop.j0]
          refine ev_neg (by simp) ?_
          rw [wrap_in (x := 2 * w) (by omega) (by omega), l6Blank_eq, if_neg (fun x => ca ⟨by omega, x.1⟩)]
          exact ev_eq (fun k => rfl)
        · simp only [IsChart_eq, g, Option.bind_some]
          exact ev_pos (by trivial) (ev_pos (by trivial) (ev_neg ca (Ev.now _)))
theorem FnExactHalfDrop (w h : Int) (l : List Int) (_ : (-9223372036854775808 ≤ w ∧ w ≤ 9223372036854775807)) (_ : (-9223372036854775808 ≤ h ∧ h ≤ 9223372036854775807))
    (hl : l.length ≤ 9223372036854775807 ∧ ∀ y ∈ l, (-9223372036854775808 ≤ y ∧ y ≤ 9223372036854775807)) : ∃ k, laws_FnExactHalfDrop.f k w h l = some true := by
  unfold laws_FnExactHalfDrop.f
  rw [szChart_eq w h l 1048576 (by omega) (by omega) hl.1]
  simp only [Option.bind_some]
  by_cases hs : (1048576 : Int) < l.length
  · refine ⟨0, ?_⟩
    rw [if_pos hs, if_pos (by omega)]
  · rw [if_neg hs]
    simp only [if_neg (show ¬ ((1048576 : Int) - (l.length : Int) < 0) by omega)]
    obtain ⟨⟨r1, r2, r3, r4⟩, hrl, ⟨K1, hs1⟩, ⟨K2, hs2⟩⟩ := HalfDrop_both w h l (by omega)
    (try dsimp only at hrl)
    obtain ⟨B, hB⟩ : ∃ B, K1 + K2 + 3000000 ≤ B := ⟨_, Nat.le_refl _⟩
    refine ⟨B + 1 + 1 + 1, ?_⟩
    repeat (first
      | rfl
      | refine bs_ (toChart_eq w h l (by omega) _ (by omega)) ?_
      | refine bs_ (hs1 _ (by omega)) ?_
      | refine bs_ (hs2 _ (by omega)) ?_
      | refine bs_ (hs2 K2 (Nat.le_refl _)) ?_
      | refine bs_ (eqChart_eq r1 r2 r3 (by omega) _ (by omega)) ?_
      | refine bs_ (eqChart_eq w h l (by omega) _ (by omega)) ?_
      | refine bs_ (markChart_eq r1 r2 r3 1 (by omega) (by omega) (by omega) _ (by omega)) ?_
      | refine bs_ (markChart_eq w h l 1 (by omega) (by omega) (by omega) _ (by omega)) ?_
      | refine bs_ (heldChart_eq r1 r2 r3.length 1 (by omega) (by omega) (by omega) _ (by omega)) ?_
      | refine it_ rfl ?_
      | (refine ie_ ?hc ?_; (case hc => first | omega | (dsimp only; omega) | (simp; done)))
      | rw [laws_FnExactHalfDrop.j0]
      | rw [laws_FnExactHalfDrop.j1]
      | rw [laws_FnExactHalfDrop.j2])
end Go.Proofs.Ytfpnhkdoopmbjaa.Pure
