/- Plain facts on the printed helpers for lists of ints and for charts: copies, comparisons, marks, validity. No program in sight. -/
import Derived.Test.YtpbipijjihbjhaaGx1
import Derived.Test.YtpbipijjihbjhaaGx12
import Derived.Test.YtpbipijjihbjhaaGx5
import Derived.Test.YtpbipijjihbjhaaGx6
namespace Go.Proofs.Ytpbipijjihbjhaa.Pure
open Go.RowKit Go.Proofs.Ytpbipijjihbjhaa.G Go.Proofs.YtpbipijjihbjhaaW.PrintWords Go.Proofs.YtpbipijjihbjhaaW.PrintLast
set_option linter.unusedSimpArgs false
set_option linter.unusedVariables false


theorem wrap_in {x : Int} (h0 : -9223372036854775808 ≤ x) (h1 : x ≤ 9223372036854775807) : wrap64 x = x := by unfold wrap64; omega
theorem rd_at (l : List Int) (i : Int) (h : i.toNat < l.length) : rd l i = l[i.toNat] := by simp [rd, h]
/-! ### one step of a law's text -/
theorem bs_ {α β : Type} {x : Option α} {f : α → Option β} {a : α} {r : Option β} (h : x = some a) (k : f a = r) : x.bind f = r := by rw [h]; exact k
theorem it_ {α : Type} {c : Prop} {i : Decidable c} {a b r : α} (h : c) (k : a = r) : (@ite α c i a b) = r := by rw [if_pos h]; exact k
theorem ie_ {α : Type} {c : Prop} {i : Decidable c} {a b r : α} (h : ¬ c) (k : b = r) : (@ite α c i a b) = r := by rw [if_neg h]; exact k

/-! ### copies -/
theorem toIntS_l0 (l : List Int) (hl : l.length ≤ 1048576) (d : Nat) : ∀ (k : Nat) (x3 : List Int) (i : Int), 0 ≤ i → i + d = l.length → x3.length = l.length → (∀ j : Nat, (j : Int) < i → x3[j]? = l[j]?) → d < k → laws_toIntS.l0 k l x3 i = some l := by
  induction d with
  | zero =>
    intro k x3 i h0 h1 h2 h3 hk
    obtain ⟨k, rfl⟩ : ∃ m, k = m + 1 := ⟨k - 1, by omega⟩
    simp only [laws_toIntS.l0]
    rw [if_neg (by omega)]
    congr 1
    apply List.ext_getElem? 
    intro j
    by_cases hj : j < l.length
    · exact h3 j (by omega)
    · rw [List.getElem?_eq_none (by omega), List.getElem?_eq_none (by omega)]
  | succ d ih =>
    intro k x3 i h0 h1 h2 h3 hk
    obtain ⟨k, rfl⟩ : ∃ m, k = m + 1 := ⟨k - 1, by omega⟩
    simp only [laws_toIntS.l0]
    rw [if_pos (by omega), if_pos h0, if_pos (by omega), wrap_in (by omega) (by omega)]
    refine ih k _ (i + 1) (by omega) (by omega) (by simpa using h2) (fun j hj => ?_) (by omega)
    rw [List.getElem?_set]
    by_cases e : i.toNat = j
    · subst e
      rw [if_pos rfl, if_pos (by omega), rd_at l i (by omega), List.getElem?_eq_getElem (by omega)]
    · rw [if_neg e]
      exact h3 j (by omega)
theorem toIntS_eq (l : List Int) (hl : l.length ≤ 1048576) (k : Nat) (hk : l.length < k) : laws_toIntS.f k l = some l := by
  unfold laws_toIntS.f
  rw [if_pos (by omega), if_pos (by omega)]
  exact toIntS_l0 l hl l.length k _ 0 (by omega) (by omega) (by simp) (fun j hj => by omega) hk
theorem toChart_eq (w h : Int) (l : List Int) (hl : l.length ≤ 1048576) (k : Nat) (hk : l.length < k) : laws_toChart.f k w h l = some (w, h, l) := by
  unfold laws_toChart.f
  rw [toIntS_eq l hl k hk]
  rfl

/-! ### comparisons -/
theorem eqIntS_l0 (l : List Int) (hl : l.length ≤ 1048576) (d : Nat) : ∀ (k : Nat) (i : Int), 0 ≤ i → i + d = l.length → d < k → laws_eqIntS.l0 k l l i = some true := by
  induction d with
  | zero =>
    intro k i h0 h1 hk
    obtain ⟨k, rfl⟩ : ∃ m, k = m + 1 := ⟨k - 1, by omega⟩
    simp only [laws_eqIntS.l0]
    rw [if_neg (by omega)]
  | succ d ih =>
    intro k i h0 h1 hk
    obtain ⟨k, rfl⟩ : ∃ m, k = m + 1 := ⟨k - 1, by omega⟩
    simp only [laws_eqIntS.l0]
    rw [if_pos (by omega), if_pos h0, if_pos (by omega), if_pos trivial, wrap_in (by omega) (by omega)]
    exact ih k (i + 1) (by omega) (by omega) (by omega)
theorem eqIntS_eq (l : List Int) (hl : l.length ≤ 1048576) (k : Nat) (hk : l.length < k) : laws_eqIntS.f k l l = some true := by
  unfold laws_eqIntS.f
  rw [if_pos rfl]
  exact eqIntS_l0 l hl l.length k 0 (by omega) (by omega) hk
theorem eqChart_eq (w h : Int) (l : List Int) (hl : l.length ≤ 1048576) (k : Nat) (hk : l.length < k) : laws_eqChart.f k w h l w h l = some true := by
  unfold laws_eqChart.f
  rw [if_pos rfl, if_pos rfl, eqIntS_eq l hl k hk]
  rfl

/-! ### marks -/
def marks (n : Nat) (m : Int) : List Int := (List.range n).map fun (j : Nat) => m + j
theorem marks_length (n : Nat) (m : Int) : (marks n m).length = n := by simp [marks]
theorem markIntS_l0 (m : Int) (h0m : 0 ≤ m) (hm : m ≤ 100000000) (d : Nat) : ∀ (k : Nat) (x : List Int) (i : Int), x.length ≤ 1048576 → 0 ≤ i → i + d = x.length → (∀ j : Nat, (j : Int) < i → x[j]? = some (m + j)) → d < k → laws_markIntS.l0 k x (m + i) i = some (m + x.length, marks x.length m) := by
  induction d with
  | zero =>
    intro k x i hx h0 h1 h3 hk
    obtain ⟨k, rfl⟩ : ∃ q, k = q + 1 := ⟨k - 1, by omega⟩
    simp only [laws_markIntS.l0]
    rw [if_neg (by omega)]
    have e : x = marks x.length m := by
      apply List.ext_getElem?
      intro j
      by_cases hj : j < x.length
      · rw [h3 j (by omega)]; simp [marks, hj]
      · rw [List.getElem?_eq_none (by omega), List.getElem?_eq_none (by rw [marks_length]; omega)]
    rw [← e, show m + i = m + (x.length : Int) by omega]
  | succ d ih =>
    intro k x i hx h0 h1 h3 hk
    obtain ⟨k, rfl⟩ : ∃ q, k = q + 1 := ⟨k - 1, by omega⟩
    simp only [laws_markIntS.l0]
    rw [if_pos (by omega), if_pos h0, wrap_in (by omega) (by omega), wrap_in (by omega) (by omega)]
    have := ih k (x.set i.toNat (m + i)) (i + 1) (by simpa using hx) (by omega) (by simp; omega) (fun j hj => by
      rw [List.getElem?_set]
      by_cases e : i.toNat = j
      · subst e; rw [if_pos rfl, if_pos (by omega)]; congr 1; omega
      · rw [if_neg e]; exact h3 j (by omega)) (by omega)
    simp only [List.length_set] at this
    rw [← this]
    congr 1
    omega
theorem markIntS_eq (l : List Int) (m : Int) (hl : l.length ≤ 1048576) (h0m : 0 ≤ m) (hm : m ≤ 100000000) (k : Nat) (hk : l.length < k) : laws_markIntS.f k l m = some (m + l.length, marks l.length m) := by
  unfold laws_markIntS.f
  have := markIntS_l0 m h0m hm l.length k l 0 hl (by omega) (by omega) (fun j hj => by omega) hk
  simpa using this
theorem markChart_eq (w h : Int) (l : List Int) (m : Int) (hl : l.length ≤ 1048576) (h0m : 0 ≤ m) (hm : m ≤ 100000000) (k : Nat) (hk : l.length < k) : laws_markChart.f k w h l m = some (m + l.length, marks l.length m) := by
  unfold laws_markChart.f
  rw [markIntS_eq l m hl h0m hm k hk]
  rfl
theorem szIntS_eq (l : List Int) (a : Int) (h0 : 0 ≤ a) (ha : a ≤ 1048576) (hl : l.length ≤ 9223372036854775807) : laws_szIntS.f l a = some (if a < l.length then -1 else a - l.length) := by
  unfold laws_szIntS.f
  rw [wrap_in (by omega) (by omega)]
  by_cases h : a < (l.length : Int)
  · rw [if_pos (by omega), if_pos h]
  · rw [if_neg (by omega), if_neg h]
theorem szChart_eq (w h : Int) (l : List Int) (a : Int) (h0 : 0 ≤ a) (ha : a ≤ 1048576) (hl : l.length ≤ 9223372036854775807) : laws_szChart.f w h l a = some (if a < l.length then -1 else a - l.length) := by
  unfold laws_szChart.f
  rw [szIntS_eq l a h0 ha hl]
  simp only [Option.bind_some]
  by_cases h : a < (l.length : Int)
  · rw [if_pos h]; rfl
  · rw [if_neg h, if_neg (by omega)]

/-! ### charts -/
theorem l1In_eq (a lo hi : Int) : spec_l1In.f a lo hi = some (decide (lo ≤ a) && decide (a ≤ hi)) := by
  unfold spec_l1In.f
  by_cases h : a ≥ lo
  · rw [if_pos h, decide_eq_true (show lo ≤ a from h)]; rfl
  · rw [if_neg h, decide_eq_false (show ¬ lo ≤ a from h)]; rfl
theorem in_eq (a lo hi : Int) : impl_in.f a lo hi = some (decide (lo ≤ a) && decide (a ≤ hi)) := by
  unfold impl_in.f
  by_cases h : a ≥ lo
  · rw [if_pos h, decide_eq_true (show lo ≤ a from h)]; rfl
  · rw [if_neg h, decide_eq_false (show ¬ lo ≤ a from h)]; rfl
theorem l2Side_eq (a : Int) : spec_l2Side.f a = some (decide (1 ≤ a) && decide (a ≤ 8)) := by unfold spec_l2Side.f; rw [l1In_eq]; rfl
theorem l2Color_eq (a : Int) : spec_l2Color.f a = some (isColorB a) := by unfold spec_l2Color.f; rw [l1In_eq]; rfl
/-- What a valid chart is. -/
def goodB (w h : Int) (l : List Int) : Bool := decide (1 ≤ w ∧ w ≤ 8) && (decide (1 ≤ h ∧ h ≤ 8) && (decide ((l.length : Int) = w * h) && l.all isColorB))
theorem mul_small {w h : Int} (a : 1 ≤ w ∧ w ≤ 8) (b : 1 ≤ h ∧ h ≤ 8) : wrap64 (w * h) = w * h ∧ 0 ≤ w * h ∧ w * h ≤ 64 := by
  obtain ⟨a1, a2⟩ := a
  have c : w = 1 ∨ w = 2 ∨ w = 3 ∨ w = 4 ∨ w = 5 ∨ w = 6 ∨ w = 7 ∨ w = 8 := by omega
  unfold wrap64
  rcases c with rfl | rfl | rfl | rfl | rfl | rfl | rfl | rfl <;> omega
theorem IsChart_eq (w h : Int) (l : List Int) : impl_IsChart.f w h l = some (goodB w h l) := by
  unfold impl_IsChart.f goodB
  by_cases a : 1 ≤ w ∧ w ≤ 8
  · by_cases b : 1 ≤ h ∧ h ≤ 8
    · rw [if_pos a, if_pos b, (mul_small a b).1, decide_eq_true a, decide_eq_true b]
      by_cases c : (l.length : Int) = w * h
      · rw [if_pos c, decide_eq_true c]; rfl
      · rw [if_neg c, decide_eq_false c]; rfl
    · rw [if_pos a, if_neg b, decide_eq_false b]; simp
  · rw [if_neg a, decide_eq_false a]; simp
theorem good_parts {w h : Int} {l : List Int} (g : goodB w h l = true) : 1 ≤ w ∧ w ≤ 8 ∧ 1 ≤ h ∧ h ≤ 8 ∧ (l.length : Int) = w * h ∧ l.length ≤ 64 ∧ ∀ x ∈ l, 0 ≤ x ∧ x ≤ 5 := by
  unfold goodB at g
  simp only [Bool.and_eq_true, decide_eq_true_eq, List.all_eq_true] at g
  obtain ⟨a, b, c, d⟩ := g
  refine ⟨a.1, a.2, b.1, b.2, c, ?_, fun x hx => ?_⟩
  · have := mul_small a b; omega
  · have := d x hx; unfold isColorB at this; simpa using this
theorem l2Good_l0 (w h : Int) (l : List Int) (hl : l.length ≤ 1048576) (d : Nat) : ∀ (k : Nat) (i : Int), 0 ≤ i → i + d = l.length → (∀ j : Nat, (j : Int) < i → ∀ x, l[j]? = some x → isColorB x = true) → d < k → spec_l2Good.l0 k i w h l = some (goodB w h l) := by
  induction d with
  | zero =>
    intro k i h0 h1 h3 hk
    obtain ⟨k, rfl⟩ : ∃ q, k = q + 1 := ⟨k - 1, by omega⟩
    simp only [spec_l2Good.l0]
    have hall : l.all isColorB = true := by
      rw [List.all_eq_true]
      intro x hx
      obtain ⟨j, hj, e⟩ := List.getElem_of_mem hx
      exact h3 j (by omega) x (by rw [List.getElem?_eq_getElem hj, e])
    rw [if_neg (by omega), l2Side_eq, l2Side_eq]
    simp only [Option.bind_some]
    unfold goodB
    rw [hall]
    by_cases a : 1 ≤ w ∧ w ≤ 8
    · have a' := a
      rw [decide_eq_true a]
      obtain ⟨a1, a2⟩ := a'
      rw [decide_eq_true a1, decide_eq_true a2, if_pos (by rfl)]
      by_cases b : 1 ≤ h ∧ h ≤ 8
      · have b' := b
        rw [decide_eq_true b]
        obtain ⟨b1, b2⟩ := b'
        rw [decide_eq_true b1, decide_eq_true b2, if_pos (by rfl), (mul_small a b).1]
        congr 1
        by_cases c : (l.length : Int) = w * h
        · rw [decide_eq_true c, beq_iff_eq.mpr c]; rfl
        · rw [decide_eq_false c, beq_eq_false_iff_ne.mpr c]; rfl
      · have b2 : ¬ ((decide (1 ≤ h) && decide (h ≤ 8)) = true) := by simpa using b
        rw [if_neg b2, decide_eq_false b]; rfl
    · have a2 : ¬ ((decide (1 ≤ w) && decide (w ≤ 8)) = true) := by simpa using a
      rw [if_neg a2, decide_eq_false a]; rfl
  | succ d ih =>
    intro k i h0 h1 h3 hk
    obtain ⟨k, rfl⟩ : ∃ q, k = q + 1 := ⟨k - 1, by omega⟩
    simp only [spec_l2Good.l0]
    rw [if_pos (by omega), if_pos h0, l2Color_eq]
    simp only [Option.bind_some]
    have hi : i.toNat < l.length := by omega
    by_cases c : isColorB (rd l i) = true
    · rw [if_pos c, wrap_in (by omega) (by omega)]
      refine ih k (i + 1) (by omega) (by omega) (fun j hj x hx => ?_) (by omega)
      by_cases e : (j : Int) = i
      · have e2 : j = i.toNat := by omega
        subst e2
        rw [List.getElem?_eq_getElem hi] at hx
        rw [rd_at l i hi, Option.some.inj hx] at c
        exact c
      · exact h3 j (by omega) x hx
    · rw [if_neg c]
      congr 1
      symm
      unfold goodB
      have hall : l.all isColorB = false := by
        rw [Bool.eq_false_iff]
        intro hc
        rw [List.all_eq_true] at hc
        exact c (by rw [rd_at l i hi]; exact hc _ (List.getElem_mem hi))
      rw [hall]
      simp
theorem l2Good_eq (w h : Int) (l : List Int) (hl : l.length ≤ 1048576) (k : Nat) (hk : l.length < k) : spec_l2Good.f k w h l = some (goodB w h l) := by
  unfold spec_l2Good.f
  exact l2Good_l0 w h l hl l.length k 0 (by omega) (by omega) (fun j hj => by omega) hk
end Go.Proofs.Ytpbipijjihbjhaa.Pure
