/- Plain facts on copies of a motif: which are not too many. -/
import Derived.Test.YtfpnhkdoopmbjaaGx10
import Derived.Test.YtfpnhkdoopmbjaaGx16
import Derived.Test.YtfpnhkdoopmbjaaPPut
namespace Go.Proofs.Ytfpnhkdoopmbjaa.Pure
open Go.RowKit Go.Proofs.Ytfpnhkdoopmbjaa.G Go.Proofs.YtfpnhkdoopmbjaaW.PrintWords Go.Proofs.YtfpnhkdoopmbjaaW.PrintLast
set_option linter.unusedSimpArgs false
set_option linter.unusedVariables false

theorem copies_iff {s n : Int} (h1 : 1 ≤ s) (h2 : s ≤ 8) : copiesB s n = true ↔ (1 ≤ n ∧ n ≤ 8) ∧ (1 ≤ n * s ∧ n * s ≤ 8) := by
  unfold copiesB
  simp only [Bool.and_eq_true, decide_eq_true_eq]
  have c : s = 1 ∨ s = 2 ∨ s = 3 ∨ s = 4 ∨ s = 5 ∨ s = 6 ∨ s = 7 ∨ s = 8 := by omega
  rcases c with rfl | rfl | rfl | rfl | rfl | rfl | rfl | rfl <;> omega
theorem tmod_at {a h i : Int} (i0 : 0 ≤ i * h) (h0 : 0 < h) (a0 : i * h ≤ a) (a1 : a < i * h + h) : a % h = a - i * h := by
  have e : a = (a - i * h) + i * h := by omega
  rw [e, Int.add_mul_emod_self_right, Int.emod_eq_of_lt (by omega) (by omega)]
  omega
theorem tdiv_at {a h i : Int} (i0 : 0 ≤ i * h) (h0 : 0 < h) (a0 : i * h ≤ a) (a1 : a < i * h + h) : a / h = i := by
  have e : a = (a - i * h) + i * h := by omega
  rw [e, Int.add_mul_ediv_right _ _ (by omega), Int.ediv_eq_zero_of_lt (by omega) (by omega)]
  omega
theorem mul_next (i h : Int) : (i + 1) * h = i * h + h := by rw [Int.add_mul, Int.one_mul]
theorem mul_to {i n h : Int} (h0 : 0 ≤ h) (e : i + 1 ≤ n) : i * h + h ≤ n * h := by
  rw [← mul_next]
  exact Int.mul_le_mul_of_nonneg_right e h0
theorem times_eq (n : Int) : spec_l6Times.f n = some (decide (1 ≤ n) && decide (n ≤ 8)) := by unfold spec_l6Times.f; rw [l1In_eq]; rfl
theorem small_mul {n s : Int} (a : 1 ≤ n ∧ n ≤ 8) (b : 1 ≤ s ∧ s ≤ 8) : wrap64 (n * s) = n * s := (mul_small a b).1
end Go.Proofs.Ytfpnhkdoopmbjaa.Pure
