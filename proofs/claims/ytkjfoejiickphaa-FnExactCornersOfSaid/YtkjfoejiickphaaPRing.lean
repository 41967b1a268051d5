/- Plain facts on charts with a ring and on patterns. -/
import Derived.Test.YtkjfoejiickphaaGx21
import Derived.Test.YtkjfoejiickphaaGx22
import Derived.Test.YtkjfoejiickphaaPPlace
namespace Go.Proofs.Ytkjfoejiickphaa.Pure
open Go.RowKit Go.Proofs.Ytkjfoejiickphaa.G Go.Proofs.YtkjfoejiickphaaW.PrintWords Go.Proofs.YtkjfoejiickphaaW.PrintLast

def ringB (w h : Int) : Bool := (decide (2 ≤ w) && decide (w ≤ 8)) && (decide (2 ≤ h) && decide (h ≤ 8))
theorem ring_parts {w h : Int} (p : ringB w h = true) : 2 ≤ w ∧ w ≤ 8 ∧ 2 ≤ h ∧ h ≤ 8 := by
  unfold ringB at p
  simp only [Bool.and_eq_true, decide_eq_true_eq] at p
  omega
theorem l8Good_eq (w h : Int) (l : List Int) (hl : l.length ≤ 1048576) (k : Nat) (hk : l.length < k) : spec_l8Good.f k w h l = some (goodB w h l && ringB w h) := by
  unfold spec_l8Good.f spec_l8Side.f ringB
  rw [l2Good_eq w h l hl k hk, l1In_eq, l1In_eq]
  simp only [Option.bind_some]
  cases goodB w h l <;> cases (decide (2 ≤ w) && decide (w ≤ 8)) <;> simp
theorem hasRing_eq (w h : Int) (l : List Int) : impl_hasRing.f w h l = some (goodB w h l && ringB w h) := by
  unfold impl_hasRing.f impl_isRingSide.f ringB
  rw [IsChart_eq, in_eq, in_eq]
  simp only [Option.bind_some]
  cases goodB w h l <;> cases (decide (2 ≤ w) && decide (w ≤ 8)) <;> simp
theorem l8Length_eq {w h : Int} (p : ringB w h = true) : spec_l8Length.f w h = some (2 * (w + h) - 4) := by
  obtain ⟨a, b, c, d⟩ := ring_parts p
  unfold spec_l8Length.f wrap64
  congr 1
  omega
theorem ringLength_eq {w h : Int} (p : ringB w h = true) : impl_ringLength.f w h = some (2 * (w + h) - 4) := by
  obtain ⟨a, b, c, d⟩ := ring_parts p
  unfold impl_ringLength.f wrap64
  congr 1
  omega
def patB (l : List Int) : Bool := l.all isColorB && (decide (1 ≤ (l.length : Int)) && decide ((l.length : Int) ≤ 8))
theorem isPattern_eq (l : List Int) : impl_isPattern.f l = some (patB l) := by
  unfold impl_isPattern.f patB
  congr 1
  rw [← Bool.decide_and]
  by_cases h : 1 ≤ l.length ∧ l.length ≤ 8
  · rw [if_pos h, decide_eq_true (by omega), Bool.and_true]
  · rw [if_neg h, decide_eq_false (by omega), Bool.and_false]
theorem l8Colors_l0 (l : List Int) (hl : l.length ≤ 1048576) (d : Nat) : ∀ (k : Nat) (i : Int), 0 ≤ i → i + d = l.length → (∀ j : Nat, (j : Int) < i → ∀ x, l[j]? = some x → isColorB x = true) → d < k → spec_l8Colors.l0 k l i = some (l.all isColorB) := by
  induction d with
  | zero =>
    intro k i h0 h1 h3 hk
    obtain ⟨k, rfl⟩ : ∃ q, k = q + 1 := ⟨k - 1, by omega⟩
    simp only [spec_l8Colors.l0]
    rw [if_neg (by omega)]
    congr 1
    symm
    rw [List.all_eq_true]
    intro x hx
    obtain ⟨j, hj, e⟩ := List.getElem_of_mem hx
    exact h3 j (by omega) x (by rw [List.getElem?_eq_getElem hj, e])
  | succ d ih =>
    intro k i h0 h1 h3 hk
    obtain ⟨k, rfl⟩ : ∃ q, k = q + 1 := ⟨k - 1, by omega⟩
    simp only [spec_l8Colors.l0]
    rw [if_pos (by omega), if_pos h0, l2Color_eq]
    simp only [Option.bind_some]
    have hi : i.toNat < l.length := by omega
    by_cases c : isColorB (rd l i) = true
    · rw [if_pos c, wrap_in (by omega) (by omega)]
      refine ih k (i + 1) (by omega) (by omega) (fun j hj x hx => ?_) (by omega)
      by_cases e : (j : Int) = i
      · have e2 : j = i.toNat := by omega
        subst e2
        rw [List.getElem?_eq_getElem hi] at hx
        rw [rd_at l i hi, Option.some.inj hx] at c
        exact c
      · exact h3 j (by omega) x hx
    · rw [if_neg c]
      congr 1
      symm
      rw [Bool.eq_false_iff]
      intro hc
      rw [List.all_eq_true] at hc
      exact c (by rw [rd_at l i hi]; exact hc _ (List.getElem_mem hi))
theorem l8Pattern_eq (l : List Int) (hl : l.length ≤ 1048576) (k : Nat) (hk : l.length < k) : spec_l8Pattern.f k l = some (patB l) := by
  unfold spec_l8Pattern.f spec_l8Colors.f patB
  rw [l8Colors_l0 l hl l.length k 0 (by omega) (by omega) (fun j hj => by omega) hk, l1In_eq]
  simp only [Option.bind_some]
  cases l.all isColorB <;> simp
end Go.Proofs.Ytkjfoejiickphaa.Pure
