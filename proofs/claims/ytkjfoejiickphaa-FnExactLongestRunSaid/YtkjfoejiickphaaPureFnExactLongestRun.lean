/- For every chart-like argument the program's LongestRun answers as the reference's. -/
import Derived.Test.YtkjfoejiickphaaGx15
import Derived.Test.YtkjfoejiickphaaPPlace
namespace Go.Proofs.Ytkjfoejiickphaa.Pure
open Go.RowKit Go.Proofs.Ytkjfoejiickphaa.G Go.Proofs.YtkjfoejiickphaaW.PrintWords Go.Proofs.YtkjfoejiickphaaW.PrintLast

theorem run_same (w h : Int) (l : List Int) (g : goodB w h l = true) : ∀ k : Nat,
    (∀ x5 x6 x7, 0 ≤ x7 → spec_LongestRun.l0 k x5 x6 x7 w h l = impl_LongestRun.l0 k x5 x6 h x7 w h l) ∧
    (∀ x5 x6 x7 x8 x9, 0 ≤ x7 → x7 < h → 0 ≤ x9 → spec_LongestRun.l1 k x5 x6 x7 x8 x9 w h l = impl_LongestRun.l1 k x5 x6 x7 x8 h x7 w x9 w h l) ∧
    (∀ x5 x6 x7 x8 x9 b, 0 ≤ x7 → x7 < h → 0 ≤ x9 → x9 < w → spec_LongestRun.j2 k x5 x6 x7 x8 x9 b w h l = impl_LongestRun.j2 k x5 x6 x7 x8 h x7 w x9 (!b) w h l) := by
  obtain ⟨w1, w2, h1, h2, e, e64, hx⟩ := good_parts g
  intro k
  induction k with
  | zero => exact ⟨fun _ _ _ _ => rfl, fun _ _ _ _ _ _ _ _ => rfl, fun _ _ _ _ _ _ _ _ _ _ => rfl⟩
  | succ k ih =>
    obtain ⟨i0, i1, i2⟩ := ih
    refine ⟨fun x5 x6 x7 a => ?_, fun x5 x6 x7 x8 x9 a b c => ?_, fun x5 x6 x7 x8 x9 v a b c d => ?_⟩
    · simp only [spec_LongestRun.l0, impl_LongestRun.l0]
      by_cases q : x7 < h
      · rw [if_pos q, if_pos q]; exact i1 x5 x6 x7 0 0 a q (by omega)
      · rw [if_neg q, if_neg q]
    · simp only [spec_LongestRun.l1, impl_LongestRun.l1]
      by_cases q : x9 < w
      · rw [if_pos q, if_pos q]
        by_cases z : x9 = 0
        · rw [if_neg (by omega), if_pos z]; exact i2 x5 x6 x7 x8 x9 false a b c q
        · rw [if_pos (by omega), if_neg z, wrap_in (by omega) (by omega), l2At_eq g a b c q, l2At_eq g a b (by omega) (by omega), at_eq g a b c q, at_eq g a b (by omega) (by omega)]
          simp only [Option.bind_some]
          exact i2 x5 x6 x7 x8 x9 _ a b c q
      · rw [if_neg q, if_neg q, wrap_in (by omega) (by omega)]; exact i0 x5 x6 (x7 + 1) (by omega)
    · simp only [spec_LongestRun.j2, impl_LongestRun.j2]
      rw [wrap_in (x := x9 + 1) (by omega) (by omega)]
      cases v with
      | true =>
        simp only [Bool.not_true, if_true, Bool.false_eq_true, if_false]
        split
        · exact i1 _ _ _ _ _ a b (by omega)
        · exact i1 _ _ _ _ _ a b (by omega)
      | false =>
        simp only [Bool.not_false, if_true, Bool.false_eq_true, if_false]
        split
        · exact i1 _ _ _ _ _ a b (by omega)
        · exact i1 _ _ _ _ _ a b (by omega)
theorem run_ends (w h : Int) (l : List Int) (g : goodB w h l = true) (d : Nat) : ∀ x5 x6 x7 : Int, 0 ≤ x7 → x7 + d = h → ∃ k r, spec_LongestRun.l0 k x5 x6 x7 w h l = some r := by
  obtain ⟨w1, w2, h1, h2, e, e64, hx⟩ := good_parts g
  induction d with
  | zero =>
    intro x5 x6 x7 a b
    refine ⟨1, (x5, x6, true), ?_⟩
    simp only [spec_LongestRun.l0]
    rw [if_neg (by omega)]
  | succ d ih =>
    intro x5 x6 x7 a b
    have cols : ∀ (c : Nat) (x5 x6 x8 x9 : Int), 0 ≤ x9 → x9 + c = w → ∃ k r, spec_LongestRun.l1 k x5 x6 x7 x8 x9 w h l = some r := by
      intro c
      induction c with
      | zero =>
        intro x5 x6 x8 x9 c0 c1
        obtain ⟨k, r, hr⟩ := ih x5 x6 (x7 + 1) (by omega) (by omega)
        refine ⟨k + 1, r, ?_⟩
        simp only [spec_LongestRun.l1]
        rw [if_neg (by omega), wrap_in (by omega) (by omega)]
        exact hr
      | succ c ih2 =>
        intro x5 x6 x8 x9 c0 c1
        have j : ∀ v, ∃ k r, spec_LongestRun.j2 k x5 x6 x7 x8 x9 v w h l = some r := fun v => by
          cases v with
          | true =>
            by_cases q : wrap64 (x8 + 1) > x5
            · obtain ⟨k, r, hr⟩ := ih2 (wrap64 (x8 + 1)) x7 (wrap64 (x8 + 1)) (x9 + 1) (by omega) (by omega)
              refine ⟨k + 1, r, ?_⟩
              simp only [spec_LongestRun.j2, if_true]
              rw [if_pos q, wrap_in (x := x9 + 1) (by omega) (by omega)]; exact hr
            · obtain ⟨k, r, hr⟩ := ih2 x5 x6 (wrap64 (x8 + 1)) (x9 + 1) (by omega) (by omega)
              refine ⟨k + 1, r, ?_⟩
              simp only [spec_LongestRun.j2, if_true]
              rw [if_neg q, wrap_in (x := x9 + 1) (by omega) (by omega)]; exact hr
          | false =>
            by_cases q : 1 > x5
            · obtain ⟨k, r, hr⟩ := ih2 1 x7 1 (x9 + 1) (by omega) (by omega)
              refine ⟨k + 1, r, ?_⟩
              simp only [spec_LongestRun.j2, Bool.false_eq_true, if_false]
              rw [if_pos q, wrap_in (x := x9 + 1) (by omega) (by omega)]; exact hr
            · obtain ⟨k, r, hr⟩ := ih2 x5 x6 1 (x9 + 1) (by omega) (by omega)
              refine ⟨k + 1, r, ?_⟩
              simp only [spec_LongestRun.j2, Bool.false_eq_true, if_false]
              rw [if_neg q, wrap_in (x := x9 + 1) (by omega) (by omega)]; exact hr
        by_cases z : x9 > 0
        · obtain ⟨k, r, hr⟩ := j (rd l (x7 * w + x9) == rd l (x7 * w + (x9 - 1)))
          refine ⟨k + 1, r, ?_⟩
          simp only [spec_LongestRun.l1]
          rw [if_pos (by omega), if_pos z, wrap_in (x := x9 - 1) (by omega) (by omega), l2At_eq g a (by omega) c0 (by omega), l2At_eq g a (by omega) (by omega) (by omega)]
          exact hr
        · obtain ⟨k, r, hr⟩ := j false
          refine ⟨k + 1, r, ?_⟩
          simp only [spec_LongestRun.l1]
          rw [if_pos (by omega), if_neg z]
          exact hr
    obtain ⟨k, r, hr⟩ := cols w.toNat x5 x6 0 0 (by omega) (by omega)
    refine ⟨k + 1, r, ?_⟩
    simp only [spec_LongestRun.l0]
    rw [if_pos (by omega)]
    exact hr
theorem spec_more (w h : Int) (l : List Int) {r : Int × Int × Bool} {k : Nat} (hk : spec_LongestRun.f k w h l = some r) : ∀ d, spec_LongestRun.f (k + d) w h l = some r
  | 0 => hk
  | d + 1 => spec_LongestRun.mono _ _ _ _ _ (spec_more w h l hk d)
theorem impl_more (w h : Int) (l : List Int) {r : Int × Int × Bool} {k : Nat} (hk : impl_LongestRun.f k w h l = some r) : ∀ d, impl_LongestRun.f (k + d) w h l = some r
  | 0 => hk
  | d + 1 => impl_LongestRun.mono _ _ _ _ _ (impl_more w h l hk d)
theorem LongestRun_both (w h : Int) (l : List Int) (hl : l.length ≤ 1048576) : ∃ (r : Int × Int × Bool) (K : Nat), ∀ k, K ≤ k → spec_LongestRun.f k w h l = some r ∧ impl_LongestRun.f k w h l = some r := by
  suffices H : ∃ (r : Int × Int × Bool) (K : Nat), spec_LongestRun.f K w h l = some r ∧ impl_LongestRun.f K w h l = some r by
    obtain ⟨r, K, h1, h2⟩ := H
    refine ⟨r, K, fun k hk => ?_⟩
    obtain ⟨d, rfl⟩ : ∃ d, k = K + d := ⟨k - K, by omega⟩
    exact ⟨spec_more w h l h1 d, impl_more w h l h2 d⟩
  cases g : goodB w h l with
  | false =>
    refine ⟨(0, 0, false), l.length + 1, ?_, ?_⟩
    · unfold spec_LongestRun.f; rw [l2Good_eq w h l hl _ (by omega), g]; rfl
    · unfold impl_LongestRun.f; rw [IsChart_eq, g]; rfl
  | true =>
    obtain ⟨w1, w2, h1, h2, e, e64, hx⟩ := good_parts g
    obtain ⟨k, r, hr⟩ := run_ends w h l g h.toNat 0 0 0 (by omega) (by omega)
    have more : ∀ d, spec_LongestRun.l0 (k + d) 0 0 0 w h l = some r := by
      intro d
      induction d with
      | zero => exact hr
      | succ d ih => exact (spec_LongestRun.mono_l (k + d)).1 _ _ _ _ _ _ _ ih
    refine ⟨r, k + (l.length + 1), ?_, ?_⟩
    · unfold spec_LongestRun.f; rw [l2Good_eq w h l hl _ (by omega), g]
      simp only [Option.bind_some, if_true]
      exact more _
    · unfold impl_LongestRun.f; rw [IsChart_eq, g]
      simp only [Option.bind_some, if_true]
      rw [← (run_same w h l g _).1 0 0 0 (by omega)]
      exact more _
theorem FnExactLongestRun (w h : Int) (l : List Int) (_ : (-9223372036854775808 ≤ w ∧ w ≤ 9223372036854775807)) (_ : (-9223372036854775808 ≤ h ∧ h ≤ 9223372036854775807))
    (hl : l.length ≤ 9223372036854775807 ∧ ∀ y ∈ l, (-9223372036854775808 ≤ y ∧ y ≤ 9223372036854775807)) : ∃ k, laws_FnExactLongestRun.f k w h l = some true := by
  unfold laws_FnExactLongestRun.f
  rw [szChart_eq w h l 1048576 (by omega) (by omega) hl.1]
  simp only [Option.bind_some]
  by_cases hs : (1048576 : Int) < l.length
  · refine ⟨0, ?_⟩
    rw [if_pos hs, if_pos (by omega)]
  · rw [if_neg hs]
    simp only [if_neg (show ¬ ((1048576 : Int) - (l.length : Int) < 0) by omega)]
    obtain ⟨⟨r1, r2, r3⟩, K, hr⟩ := LongestRun_both w h l (by omega)
    obtain ⟨B, hB⟩ : ∃ B, K + 3000000 ≤ B := ⟨_, Nat.le_refl _⟩
    refine ⟨B + 1 + 1 + 1, ?_⟩
    repeat (first
      | rfl
      | refine bs_ (toChart_eq w h l (by omega) _ (by omega)) ?_
      | refine bs_ ((hr _ (by omega)).1) ?_
      | refine bs_ ((hr _ (by omega)).2) ?_
      | refine bs_ (eqChart_eq w h l (by omega) _ (by omega)) ?_
      | refine it_ rfl ?_
      | (refine ie_ ?hc ?_; (case hc => first | omega | (dsimp only; omega) | (simp; done)))
      | rw [laws_FnExactLongestRun.j0])
end Go.Proofs.Ytkjfoejiickphaa.Pure
