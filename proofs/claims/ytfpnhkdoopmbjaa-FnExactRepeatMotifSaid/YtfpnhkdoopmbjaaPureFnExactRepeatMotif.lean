/- For every chart-like motif and all ints the program's RepeatMotif answers as the reference's, in memory of its own. -/
import Derived.Test.YtfpnhkdoopmbjaaGx10
import Derived.Test.YtfpnhkdoopmbjaaGx16
import Derived.Test.YtfpnhkdoopmbjaaGx17
import Derived.Test.YtfpnhkdoopmbjaaGx18
import Derived.Test.YtfpnhkdoopmbjaaGx19
import Derived.Test.YtfpnhkdoopmbjaaGx2
import Derived.Test.YtfpnhkdoopmbjaaPTile
import Derived.Test.YtfpnhkdoopmbjaaPPart
namespace Go.Proofs.Ytfpnhkdoopmbjaa.Pure
open Go.RowKit Go.Proofs.Ytfpnhkdoopmbjaa.G Go.Proofs.YtfpnhkdoopmbjaaW.PrintWords Go.Proofs.YtfpnhkdoopmbjaaW.PrintLast
set_option linter.unusedSimpArgs false
set_option linter.unusedVariables false

def RepInv (w h : Int) (l : List Int) (W H : Int) (i k : Int) (X : List Int) : Prop := Dim W H X ∧ ∀ a b, 0 ≤ a → a < H → 0 ≤ b → b < W → (a < i * h ∨ (a < i * h + h ∧ b < k * w)) → rd X (a * W + b) = repG w h l a b
theorem rep_loop {w h : Int} {l : List Int} (g : Dim w h l) (a1 a2 : Int) (p1 : 1 ≤ a1) (p2 : a1 ≤ 8) (W1 : a1 * w ≤ 8) (q1 : 1 ≤ a2) (q2 : a2 ≤ 8) (H1 : a2 * h ≤ 8) (X : List Int) (hX : Dim (a1 * w) (a2 * h) X) :
    Ev (fun k => spec_RepeatMotif.l0 k a1 a2 0 w h l (a1 * w) (a2 * h) X) (a1 * w, a2 * h, chartL (repG w h l) (a1 * w) (a2 * h), true) := by
  have g' := g
  obtain ⟨w1, w2, h1, h2, e⟩ := g'
  have inner : ∀ (d : Nat) (i k : Int) (X : List Int) (res : Int × Int × List Int × Bool), 0 ≤ i → i < a2 → 0 ≤ k → k + d = a1 → RepInv w h l (a1 * w) (a2 * h) i k X →
      (∀ X', RepInv w h l (a1 * w) (a2 * h) (i + 1) 0 X' → Ev (fun n => spec_RepeatMotif.l0 n a1 a2 (i + 1) w h l (a1 * w) (a2 * h) X') res) →
      Ev (fun n => spec_RepeatMotif.l1 n a1 a2 i k w h l (a1 * w) (a2 * h) X) res := by
    intro d
    induction d with
    | zero =>
      intro i k X res i0 i1 k0 kd hI nx
      obtain rfl : k = a1 := by omega
      refine Ev.step (fun n => ?_) (nx X ⟨hI.1, fun a b c1 c2 c3 c4 c5 => hI.2 a b c1 c2 c3 c4 ?_⟩)
      · simp only [spec_RepeatMotif.l1]
        rw [if_neg (by omega), wrap_in (by omega) (by omega)]
      · rw [mul_next] at c5
        omega
    | succ d ih =>
      intro i k X res i0 i1 k0 kd hI nx
      have m1 : 0 ≤ i * h := Int.mul_nonneg i0 (by omega)
      have m2 : i * h + h ≤ a2 * h := mul_to (by omega) (by omega)
      have m3 : 0 ≤ k * w := Int.mul_nonneg k0 (by omega)
      have m4 : k * w + w ≤ a1 * w := mul_to (by omega) (by omega)
      obtain ⟨X', n1, n2⟩ := l2Put_eq hI.1 g (i * h) (k * w) m1 m3 m2 m4
      refine Ev.step (fun n => rfl) ?_
      simp only [spec_RepeatMotif.l1]
      rw [wrap_in (x := i * h) (by omega) (by omega), wrap_in (x := k * w) (by omega) (by omega), wrap_in (x := k + 1) (by omega) (by omega)]
      refine ev_pos (by omega) (Ev.bind n1 (ih i (k + 1) X' res i0 i1 (by omega) (by omega) ⟨held_dim hI.1 n2, fun a b c1 c2 c3 c4 c5 => ?_⟩ nx))
      rw [n2.2 a b c1 c2 c3 c4]
      rw [mul_next] at c5
      by_cases z : i * h ≤ a ∧ a < i * h + h ∧ k * w ≤ b ∧ b < k * w + w
      · rw [if_pos z]
        unfold repG
        rw [tmod_at m1 (by omega) z.1 z.2.1, tmod_at m3 (by omega) z.2.2.1 z.2.2.2]
      · rw [if_neg z]
        exact hI.2 a b c1 c2 c3 c4 (by omega)
  have outer : ∀ (d : Nat) (i : Int) (X : List Int), 0 ≤ i → i + d = a2 → RepInv w h l (a1 * w) (a2 * h) i 0 X →
      Ev (fun n => spec_RepeatMotif.l0 n a1 a2 i w h l (a1 * w) (a2 * h) X) (a1 * w, a2 * h, chartL (repG w h l) (a1 * w) (a2 * h), true) := by
    intro d
    induction d with
    | zero =>
      intro i X i0 id hI
      obtain rfl : i = a2 := by omega
      have e := chart_ext hI.1 (repG w h l) (fun a b c1 c2 c3 c4 => hI.2 a b c1 c2 c3 c4 (Or.inl c2))
      rw [← e]
      refine Ev.step (fun n => ?_) (Ev.now _)
      simp only [spec_RepeatMotif.l0]
      rw [if_neg (by omega)]
    | succ d ih =>
      intro i X i0 id hI
      refine Ev.step (fun n => ?_) (inner a1.toNat i 0 X _ i0 (by omega) (by omega) (by omega) hI (fun X' hI' => ih (i + 1) X' (by omega) (by omega) hI'))
      simp only [spec_RepeatMotif.l0]
      rw [if_pos (by omega)]
  exact outer a2.toNat 0 X (by omega) (by omega) ⟨hX, fun a b c1 c2 c3 c4 c5 => by omega⟩
theorem RepeatMotif_both (w h : Int) (l : List Int) (hl : l.length ≤ 1048576) (a1 a2 : Int) : ∃ r : Int × Int × List Int × Bool, r.2.2.1.length ≤ 4096 ∧ Ev (fun k => spec_RepeatMotif.f k w h l a1 a2) r ∧ Ev (fun k => impl_RepeatMotif.f w h l a1 a2) r := by
  have good : ∀ b, goodB w h l = b → Ev (fun k => spec_l2Good.f k w h l) b := fun b g => ⟨l.length + 1, fun k hk => (l2Good_eq w h l hl k (by omega)).trans (by rw [g])⟩
  unfold spec_RepeatMotif.f impl_RepeatMotif.f
  cases g : goodB w h l with
  | false =>
    refine ⟨(0, 0, [], false), by simp, Ev.bind (good _ g) (ev_neg (by simp) ?_), ?_⟩
    · refine Ev.step (fun k => rfl) ?_
      simp only [spec_RepeatMotif.j0]
      exact ev_pos (by trivial) (Ev.now _)
    · simp only [IsChart_eq, g, Option.bind_some]
      exact ev_neg (by simp) (Ev.now _)
  | true =>
    have g' := good_dim g
    have g2 := g'
    obtain ⟨w1, w2, h1, h2, e⟩ := g2
    have stop : ∀ b, b = true → Ev (fun k => spec_RepeatMotif.j0 k a1 a2 b w h l) (0, 0, [], false) := by
      intro b hb
      refine Ev.step (fun k => rfl) ?_
      simp only [spec_RepeatMotif.j0]
      exact ev_pos hb (Ev.now _)
    have fail : ¬ (copiesB w a1 = true ∧ copiesB h a2 = true) → Ev (fun k => (spec_l6Times.f a1).bind fun t410 => if t410 = true then (spec_l6Times.f a2).bind fun t411 => spec_RepeatMotif.j0 k a1 a2 (!t411) w h l else spec_RepeatMotif.j0 k a1 a2 true w h l) (0, 0, [], false) := by
      intro c
      rw [copies_iff w1 w2, copies_iff h1 h2] at c
      simp only [times_eq, Option.bind_some]
      by_cases t1 : 1 ≤ a1 ∧ a1 ≤ 8
      · refine ev_pos (by simpa using t1) ?_
        by_cases t2 : 1 ≤ a2 ∧ a2 ≤ 8
        · refine Ev.step (fun k => rfl) ?_
          simp only [spec_RepeatMotif.j0]
          refine ev_neg (by simpa using t2) ?_
          rw [small_mul t1 ⟨w1, w2⟩, small_mul t2 ⟨h1, h2⟩, l6Blank_eq, if_neg (fun x => c ⟨⟨t1, x.1⟩, ⟨t2, x.2⟩⟩)]
          exact ev_eq (fun k => rfl)
        · exact stop _ (by simp; omega)
      · exact ev_neg (by simpa using t1) (stop _ rfl)
    by_cases ca : copiesB w a1 = true
    · by_cases cb : copiesB h a2 = true
      · have ca' := (copies_iff w1 w2).1 ca
        have cb' := (copies_iff h1 h2).1 cb
        refine ⟨(a1 * w, a2 * h, chartL (repG w h l) (a1 * w) (a2 * h), true), chartL_small _ _ _ (by omega) (by omega), Ev.bind (good _ g) (ev_pos (by trivial) ?_), ?_⟩
        · simp only [times_eq, Option.bind_some]
          refine ev_pos (by simpa using ca'.1) (Ev.step (fun k => rfl) ?_)
          simp only [spec_RepeatMotif.j0]
          refine ev_neg (by simpa using cb'.1) ?_
          rw [small_mul ca'.1 ⟨w1, w2⟩, small_mul cb'.1 ⟨h1, h2⟩, l6Blank_eq, if_pos ⟨ca'.2, cb'.2⟩]
          simp only [Option.bind_some]
          exact ev_pos (by trivial) (rep_loop g' a1 a2 ca'.1.1 ca'.1.2 ca'.2.2 cb'.1.1 cb'.1.2 cb'.2.2 _ (blank_dim ca'.2 cb'.2))
        · simp only [IsChart_eq, g, Option.bind_some]
          refine ev_pos (by trivial) (ev_pos ca (ev_pos cb ?_))
          rw [Int.mul_comm w a1, Int.mul_comm h a2]
          exact Ev.now _
      · refine ⟨(0, 0, [], false), by simp, Ev.bind (good _ g) (ev_pos (by trivial) (fail (fun x => cb x.2))), ?_⟩
        simp only [IsChart_eq, g, Option.bind_some]
        exact ev_pos (by trivial) (ev_pos ca (ev_neg cb (Ev.now _)))
    · refine ⟨(0, 0, [], false), by simp, Ev.bind (good _ g) (ev_pos (by trivial) (fail (fun x => ca x.1))), ?_⟩
      simp only [IsChart_eq, g, Option.bind_some]
      exact ev_pos (by trivial) (ev_neg ca (Ev.now _))
theorem FnExactRepeatMotif (w h : Int) (l : List Int) (a1 a2 : Int) (_ : (-9223372036854775808 ≤ w ∧ w ≤ 9223372036854775807)) (_ : (-9223372036854775808 ≤ h ∧ h ≤ 9223372036854775807))
    (hl : l.length ≤ 9223372036854775807 ∧ ∀ y ∈ l, (-9223372036854775808 ≤ y ∧ y ≤ 9223372036854775807)) (_ : (-9223372036854775808 ≤ a1 ∧ a1 ≤ 9223372036854775807)) (_ : (-9223372036854775808 ≤ a2 ∧ a2 ≤ 9223372036854775807)) : ∃ k, laws_FnExactRepeatMotif.f k w h l a1 a2 = some true := by
  unfold laws_FnExactRepeatMotif.f
  rw [szChart_eq w h l 1048576 (by omega) (by omega) hl.1]
  simp only [Option.bind_some]
  by_cases hs : (1048576 : Int) < l.length
  · refine ⟨0, ?_⟩
    rw [if_pos hs, if_pos (by omega)]
  · rw [if_neg hs]
    simp only [if_neg (show ¬ ((1048576 : Int) - (l.length : Int) < 0) by omega)]
    obtain ⟨⟨r1, r2, r3, r4⟩, hrl, ⟨K1, hs1⟩, ⟨K2, hs2⟩⟩ := RepeatMotif_both w h l (by omega) a1 a2
    (try dsimp only at hrl)
    obtain ⟨B, hB⟩ : ∃ B, K1 + K2 + 3000000 ≤ B := ⟨_, Nat.le_refl _⟩
    refine ⟨B + 1 + 1 + 1, ?_⟩
    repeat (first
      | rfl
      | refine bs_ (toChart_eq w h l (by omega) _ (by omega)) ?_
      | refine bs_ (hs1 _ (by omega)) ?_
      | refine bs_ (hs2 _ (by omega)) ?_
      | refine bs_ (hs2 K2 (Nat.le_refl _)) ?_
      | refine bs_ (eqChart_eq r1 r2 r3 (by omega) _ (by omega)) ?_
      | refine bs_ (eqChart_eq w h l (by omega) _ (by omega)) ?_
      | refine bs_ (markChart_eq r1 r2 r3 1 (by omega) (by omega) (by omega) _ (by omega)) ?_
      | refine bs_ (markChart_eq w h l 1 (by omega) (by omega) (by omega) _ (by omega)) ?_
      | refine bs_ (heldChart_eq r1 r2 r3.length 1 (by omega) (by omega) (by omega) _ (by omega)) ?_
      | refine it_ rfl ?_
      | (refine ie_ ?hc ?_; (case hc => first | omega | (dsimp only; omega) | (simp; done)))
      | rw [laws_FnExactRepeatMotif.j0]
      | rw [laws_FnExactRepeatMotif.j1]
      | rw [laws_FnExactRepeatMotif.j2])
end Go.Proofs.Ytfpnhkdoopmbjaa.Pure
