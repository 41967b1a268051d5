/- Plain facts on the marks of lists of looms. -/
import Derived.Test.YtgjngpjeflmlmaaGx0
import Derived.Test.YtgjngpjeflmlmaaGx11
import Derived.Test.YtgjngpjeflmlmaaPBase
namespace Go.Proofs.Ytgjngpjeflmlmaa.Pure
open Go.RowKit Go.Proofs.Ytgjngpjeflmlmaa.G Go.Proofs.YtgjngpjeflmlmaaW.PrintWords Go.Proofs.YtgjngpjeflmlmaaW.PrintLast
set_option linter.unusedSimpArgs false

def marksLoom (n : Nat) (m : Int) : List S36 := (List.range n).map fun (j : Nat) => (⟨m + 5 * (j : Int), m + 5 * (j : Int) + 1, m + 5 * (j : Int) + 2, m + 5 * (j : Int) + 3, m + 5 * (j : Int) + 4⟩ : S36)
theorem marksLoom_length (n : Nat) (m : Int) : (marksLoom n m).length = n := by simp [marksLoom]
theorem markLoomS_l0 (m : Int) (h0m : 0 ≤ m) (hm : m ≤ 100000000) (d : Nat) : ∀ (k : Nat) (x : List S36) (i : Int), x.length ≤ 1048576 → 0 ≤ i → i + d = x.length → (∀ j : Nat, (j : Int) < i → x[j]? = some (⟨m + 5 * (j : Int), m + 5 * (j : Int) + 1, m + 5 * (j : Int) + 2, m + 5 * (j : Int) + 3, m + 5 * (j : Int) + 4⟩ : S36)) → d < k → laws_markLoomS.l0 k x (m + 5 * i) i = some (m + 5 * x.length, marksLoom x.length m) := by
  induction d with
  | zero =>
    intro k x i hx h0 h1 h3 hk
    obtain ⟨k, rfl⟩ : ∃ q, k = q + 1 := ⟨k - 1, by omega⟩
    simp only [laws_markLoomS.l0]
    rw [if_neg (by omega)]
    have e : x = marksLoom x.length m := by
      apply List.ext_getElem?
      intro j
      by_cases hj : j < x.length
      · rw [h3 j (by omega)]; simp [marksLoom, hj]
      · rw [List.getElem?_eq_none (by omega), List.getElem?_eq_none (by rw [marksLoom_length]; omega)]
    rw [← e, show i = (x.length : Int) by omega]
  | succ d ih =>
    intro k x i hx h0 h1 h3 hk
    obtain ⟨k, rfl⟩ : ∃ q, k = q + 1 := ⟨k - 1, by omega⟩
    have hi : i.toNat < x.length := by omega
    simp only [laws_markLoomS.l0, Option.bind_some]
    rw [if_pos (by omega), if_pos h0]
    simp only [rdLoom_set, hi, List.length_set, List.set_set]
    have w1_ : wrap64 (m + 5 * i + 1) = m + 5 * i + 1 := wrap_in (by omega) (by omega)
    have w2_ : wrap64 (m + 5 * i + 1 + 1) = m + 5 * i + 2 := by rw [wrap_in (by omega) (by omega)]; omega
    have w3_ : wrap64 (m + 5 * i + 2 + 1) = m + 5 * i + 3 := by rw [wrap_in (by omega) (by omega)]; omega
    have w4_ : wrap64 (m + 5 * i + 3 + 1) = m + 5 * i + 4 := by rw [wrap_in (by omega) (by omega)]; omega
    have w5_ : wrap64 (m + 5 * i + 4 + 1) = m + 5 * i + 5 := by rw [wrap_in (by omega) (by omega)]; omega
    simp only [w1_, w2_, w3_, w4_, w5_]
    rw [wrap_in (x := i + 1) (by omega) (by omega)]
    have := ih k (x.set i.toNat (⟨m + 5 * i, m + 5 * i + 1, m + 5 * i + 2, m + 5 * i + 3, m + 5 * i + 4⟩ : S36)) (i + 1) (by simpa using hx) (by omega) (by simp; omega) (fun j hj => by
      rw [List.getElem?_set]
      by_cases e : i.toNat = j
      · subst e; rw [if_pos rfl, if_pos (by omega), show (i.toNat : Int) = i by omega]
      · rw [if_neg e]; exact h3 j (by omega)) (by omega)
    simp only [List.length_set] at this
    rw [← this]
    congr 1
    omega
theorem markLoomS_eq (l : List S36) (m : Int) (hl : l.length ≤ 1048576) (h0m : 0 ≤ m) (hm : m ≤ 100000000) (k : Nat) (hk : l.length < k) : laws_markLoomS.f k l m = some (m + 5 * l.length, marksLoom l.length m) := by
  unfold laws_markLoomS.f
  have := markLoomS_l0 m h0m hm l.length k l 0 hl (by omega) (by omega) (fun j hj => by omega) hk
  simpa using this
theorem heldLoomS_l0 (n : Nat) (m : Int) (hn : n ≤ 1048576) (h0m : 0 ≤ m) (hm : m ≤ 100000000) (d : Nat) : ∀ (k : Nat) (i : Int), 0 ≤ i → i + d = n → d < k → laws_heldLoomS.l0 k (marksLoom n m) (m + 5 * i) i = some (m + 5 * n) := by
  induction d with
  | zero =>
    intro k i h0 h1 hk
    obtain ⟨k, rfl⟩ : ∃ q, k = q + 1 := ⟨k - 1, by omega⟩
    simp only [laws_heldLoomS.l0]
    rw [if_neg (by rw [marksLoom_length]; omega)]
    congr 1; omega
  | succ d ih =>
    intro k i h0 h1 hk
    obtain ⟨k, rfl⟩ : ∃ q, k = q + 1 := ⟨k - 1, by omega⟩
    simp only [laws_heldLoomS.l0]
    have e : rd_T36 (marksLoom n m) i = (⟨m + 5 * i, m + 5 * i + 1, m + 5 * i + 2, m + 5 * i + 3, m + 5 * i + 4⟩ : S36) := by
      rw [rdLoom_at _ _ (by rw [marksLoom_length]; omega)]
      simp only [marksLoom, List.getElem_map, List.getElem_range]
      rw [show (i.toNat : Int) = i by omega]
    rw [if_pos (by rw [marksLoom_length]; omega), if_pos h0, e]
    dsimp only
    have w1_ : wrap64 (m + 5 * i + 1) = m + 5 * i + 1 := wrap_in (by omega) (by omega)
    have w2_ : wrap64 (m + 5 * i + 1 + 1) = m + 5 * i + 2 := by rw [wrap_in (by omega) (by omega)]; omega
    have w3_ : wrap64 (m + 5 * i + 2 + 1) = m + 5 * i + 3 := by rw [wrap_in (by omega) (by omega)]; omega
    have w4_ : wrap64 (m + 5 * i + 3 + 1) = m + 5 * i + 4 := by rw [wrap_in (by omega) (by omega)]; omega
    have w5_ : wrap64 (m + 5 * i + 4 + 1) = m + 5 * i + 5 := by rw [wrap_in (by omega) (by omega)]; omega
    simp only [w1_, w2_, w3_, w4_, w5_]
    rw [wrap_in (x := i + 1) (by omega) (by omega)]
    simp only [if_true]
    have := ih k (i + 1) (by omega) (by omega) (by omega)
    rw [← this]
    congr 1
    omega
theorem heldLoomS_eq (n : Nat) (m : Int) (hn : n ≤ 1048576) (h0m : 0 ≤ m) (hm : m ≤ 100000000) (k : Nat) (hk : n < k) : laws_heldLoomS.f k (marksLoom n m) m = some (m + 5 * n) := by
  unfold laws_heldLoomS.f
  have := heldLoomS_l0 n m hn h0m hm n k 0 (by omega) (by omega) hk
  simpa using this
end Go.Proofs.Ytgjngpjeflmlmaa.Pure
