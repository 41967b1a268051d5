/- For all ints the program's PlainChart answers as the reference's, in memory of its own. -/
import Derived.Test.YtkjfoejiickphaaGx5
import Derived.Test.YtkjfoejiickphaaPBase
import Derived.OpenShut
namespace Go.Proofs.Ytkjfoejiickphaa.Pure
open Go.RowKit Go.Proofs.Ytkjfoejiickphaa.G Go.Proofs.YtkjfoejiickphaaW.PrintWords Go.Proofs.YtkjfoejiickphaaW.PrintLast

theorem chartL_const (c w h : Int) : chartL (fun _ _ => c) w h = List.replicate (h.toNat * w.toNat) c := by
  rw [List.eq_replicate_iff]
  constructor
  · simp [chartL, List.length_flatMap, List.map_const']
  · intro b hb
    simp only [chartL, List.mem_flatMap, List.mem_map] at hb
    obtain ⟨_, _, _, _, rfl⟩ := hb
    rfl
theorem PlainChart_l0 (w h c a b : Int) (hw : 1 ≤ w ∧ w ≤ 8) (hh : 1 ≤ h ∧ h ≤ 8) (d : Nat) : ∀ (k : Nat) (i : Int) (acc : List Int), 0 ≤ i → i + d = w * h → acc.length + d ≤ 2000 → d < k →
    spec_PlainChart.l0 k w h c i a b acc = some (a, b, acc ++ List.replicate d c, true) := by
  obtain ⟨m1, m2, m3⟩ := mul_small hw hh
  induction d with
  | zero =>
    intro k i acc h0 h1 hb hk
    obtain ⟨k, rfl⟩ : ∃ q, k = q + 1 := ⟨k - 1, by omega⟩
    simp only [spec_PlainChart.l0]
    rw [m1, if_neg (by omega)]
    simp
  | succ d ih =>
    intro k i acc h0 h1 hb hk
    obtain ⟨k, rfl⟩ : ∃ q, k = q + 1 := ⟨k - 1, by omega⟩
    simp only [spec_PlainChart.l0]
    rw [m1, if_pos (by omega), if_pos (by omega), wrap_in (by omega) (by omega)]
    rw [ih k (i + 1) (acc ++ [c]) (by omega) (by omega) (by simp; omega) (by omega)]
    simp [List.replicate_succ]
theorem PlainChart_both (w h c : Int) : ∃ r : Int × Int × List Int × Bool, r.2.2.1.length ≤ 64 ∧ (∀ k, 100 < k → spec_PlainChart.f k w h c = some r) ∧ impl_PlainChart.f w h c = some r := by
  by_cases a : 1 ≤ w ∧ w ≤ 8
  · by_cases b : 1 ≤ h ∧ h ≤ 8
    · by_cases d : 0 ≤ c ∧ c ≤ 5
      · obtain ⟨m1, m2, m3⟩ := mul_small a b
        have e : h.toNat * w.toNat = (w * h).toNat := by
          have : ((h.toNat * w.toNat : Nat) : Int) = w * h := by rw [Int.natCast_mul, Int.toNat_of_nonneg (by omega), Int.toNat_of_nonneg (by omega), Int.mul_comm]
          omega
        refine ⟨(w, h, List.replicate (w * h).toNat c, true), by simp; omega, fun k hk => ?_, ?_⟩
        · unfold spec_PlainChart.f
          obtain ⟨k, rfl⟩ : ∃ q, k = q + 1 := ⟨k - 1, by omega⟩
          rw [l2Side_eq, l2Side_eq, l2Color_eq, decide_eq_true a.1, decide_eq_true a.2, decide_eq_true b.1, decide_eq_true b.2, show isColorB c = true by simp [isColorB, d.1, d.2]]
          simp only [Option.bind_some, Bool.and_self, if_true, Bool.not_true, spec_PlainChart.j0, Bool.false_eq_true, if_false]
          rw [PlainChart_l0 w h c w h a b (w * h).toNat k 0 [] (by omega) (by omega) (by simp; omega) (by omega)]
          simp
        · unfold impl_PlainChart.f
          rw [if_pos a, if_pos b, if_pos d, chartL_const, e]
      · refine ⟨(0, 0, [], false), by simp, fun k hk => ?_, ?_⟩
        · unfold spec_PlainChart.f
          obtain ⟨k, rfl⟩ : ∃ q, k = q + 1 := ⟨k - 1, by omega⟩
          rw [l2Side_eq, l2Side_eq, l2Color_eq, decide_eq_true a.1, decide_eq_true a.2, decide_eq_true b.1, decide_eq_true b.2, show isColorB c = false by simp only [isColorB, ← Bool.decide_and]; exact decide_eq_false d]
          simp [spec_PlainChart.j0]
        · unfold impl_PlainChart.f
          rw [if_pos a, if_pos b, if_neg d]
    · refine ⟨(0, 0, [], false), by simp, fun k hk => ?_, ?_⟩
      · unfold spec_PlainChart.f
        obtain ⟨k, rfl⟩ : ∃ q, k = q + 1 := ⟨k - 1, by omega⟩
        rw [l2Side_eq, l2Side_eq, decide_eq_true a.1, decide_eq_true a.2, ← Bool.decide_and (1 ≤ h), decide_eq_false b]
        simp [spec_PlainChart.j0]
      · unfold impl_PlainChart.f
        rw [if_pos a, if_neg b]
  · refine ⟨(0, 0, [], false), by simp, fun k hk => ?_, ?_⟩
    · unfold spec_PlainChart.f
      obtain ⟨k, rfl⟩ : ∃ q, k = q + 1 := ⟨k - 1, by omega⟩
      rw [l2Side_eq, ← Bool.decide_and (1 ≤ w), decide_eq_false a]
      simp [spec_PlainChart.j0]
    · unfold impl_PlainChart.f
      rw [if_neg a]
theorem FnExactPlainChart : laws_FnExactPlainChart.Pure := by
  intro w h c _ _ _
  obtain ⟨⟨r1, r2, r3, r4⟩, hl, hr1, hr2⟩ := PlainChart_both w h c
  dsimp only at hl
  refine ⟨1048590, ?_⟩
  unfold laws_FnExactPlainChart.f
  have hn : ¬ (1 + (r3.length : Int) < 0) := by omega
  simp (disch := omega) only [hr1, hr2, eqChart_eq, markChart_eq, heldChart_eq, laws_FnExactPlainChart.j0, laws_FnExactPlainChart.j1, Option.bind_some, bne_self_eq_false, if_true, if_false, Bool.false_eq_true, hn]
end Go.Proofs.Ytkjfoejiickphaa.Pure
