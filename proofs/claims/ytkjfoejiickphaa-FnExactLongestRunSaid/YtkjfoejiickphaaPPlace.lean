/- Plain facts on a chart's places: within, at. -/
import Derived.Test.YtkjfoejiickphaaGx9
import Derived.Test.YtkjfoejiickphaaPBase
namespace Go.Proofs.Ytkjfoejiickphaa.Pure
open Go.RowKit Go.Proofs.Ytkjfoejiickphaa.G Go.Proofs.YtkjfoejiickphaaW.PrintWords Go.Proofs.YtkjfoejiickphaaW.PrintLast

theorem idx_ok {w h r c : Int} (a : 1 ≤ w ∧ w ≤ 8) (b : 1 ≤ h ∧ h ≤ 8) (r0 : 0 ≤ r) (r1 : r < h) (c0 : 0 ≤ c) (c1 : c < w) : wrap64 (wrap64 (r * w) + c) = r * w + c ∧ 0 ≤ r * w + c ∧ r * w + c < w * h := by
  obtain ⟨a1, a2⟩ := a
  have e : w = 1 ∨ w = 2 ∨ w = 3 ∨ w = 4 ∨ w = 5 ∨ w = 6 ∨ w = 7 ∨ w = 8 := by omega
  unfold wrap64
  rcases e with rfl | rfl | rfl | rfl | rfl | rfl | rfl | rfl <;> omega
theorem l2At_eq {w h : Int} {l : List Int} (g : goodB w h l = true) {r c : Int} (r0 : 0 ≤ r) (r1 : r < h) (c0 : 0 ≤ c) (c1 : c < w) : spec_l2At.f w h l r c = some (rd l (r * w + c)) := by
  obtain ⟨w1, w2, h1, h2, e, _, _⟩ := good_parts g
  obtain ⟨k1, k2, k3⟩ := idx_ok ⟨w1, w2⟩ ⟨h1, h2⟩ r0 r1 c0 c1
  unfold spec_l2At.f
  rw [k1, if_pos k2, if_pos (by omega)]
theorem at_eq {w h : Int} {l : List Int} (g : goodB w h l = true) {r c : Int} (r0 : 0 ≤ r) (r1 : r < h) (c0 : 0 ≤ c) (c1 : c < w) : impl_Chart_at.f w h l r c = some (rd l (r * w + c)) := by
  obtain ⟨w1, w2, h1, h2, e, _, _⟩ := good_parts g
  obtain ⟨k1, k2, k3⟩ := idx_ok ⟨w1, w2⟩ ⟨h1, h2⟩ r0 r1 c0 c1
  unfold impl_Chart_at.f
  rw [k1, if_pos k2, if_pos (by omega)]
def placeB (w h a b : Int) : Bool := (decide (0 ≤ a) && decide (a ≤ h - 1)) && (decide (0 ≤ b) && decide (b ≤ w - 1))
theorem placeB_parts {w h a b : Int} (p : placeB w h a b = true) : 0 ≤ a ∧ a < h ∧ 0 ≤ b ∧ b < w := by
  unfold placeB at p
  simp only [Bool.and_eq_true, decide_eq_true_eq] at p
  omega
theorem hasPlace_eq {w h : Int} {l : List Int} (g : goodB w h l = true) (a b : Int) : impl_Chart_hasPlace.f w h l a b = some (placeB w h a b) := by
  obtain ⟨w1, w2, h1, h2, e, _, _⟩ := good_parts g
  unfold impl_Chart_hasPlace.f placeB
  rw [in_eq, in_eq, wrap_in (by omega) (by omega), wrap_in (by omega) (by omega)]
  simp only [Option.bind_some]
  cases decide (0 ≤ a) && decide (a ≤ h - 1) <;> simp
theorem l2Within_eq (w h : Int) (l : List Int) (hl : l.length ≤ 1048576) (k : Nat) (hk : l.length < k) (a b : Int) : spec_l2Within.f k w h l a b = some (goodB w h l && placeB w h a b) := by
  unfold spec_l2Within.f
  rw [l2Good_eq w h l hl k hk]
  simp only [Option.bind_some]
  cases g : goodB w h l with
  | false => simp
  | true =>
    obtain ⟨w1, w2, h1, h2, e, _, _⟩ := good_parts g
    rw [if_pos rfl, l1In_eq, l1In_eq, wrap_in (by omega) (by omega), wrap_in (by omega) (by omega)]
    simp only [Option.bind_some, Bool.true_and]
    unfold placeB
    cases decide (0 ≤ a) && decide (a ≤ h - 1) <;> simp
end Go.Proofs.Ytkjfoejiickphaa.Pure
