/- The place of a loom in a list, another loom at a place: what the program and the reference compute. -/
import Derived.Test.YtgjngpjeflmlmaaGx0
import Derived.Test.YtgjngpjeflmlmaaGx6
import Derived.Test.YtgjngpjeflmlmaaGx7
import Derived.Test.YtgjngpjeflmlmaaGx9
import Derived.Test.YtgjngpjeflmlmaaPParts
namespace Go.Proofs.Ytgjngpjeflmlmaa.Pure
open Go.RowKit Go.Proofs.Ytgjngpjeflmlmaa.G Go.Proofs.YtgjngpjeflmlmaaW.PrintWords Go.Proofs.YtgjngpjeflmlmaaW.PrintLast
set_option linter.unusedSimpArgs false
set_option linter.unusedVariables false

/-! ### the place of a loom -/
def idx (l : List S36) (id : Int) : Int := idxILoom (fun x => x.f0 == id) l
theorem idxI_spec (q : S36 → Bool) : ∀ l : List S36, (idxILoom q l = -1 ∧ ∀ j : Nat, j < l.length → q (rd_T36 l j) = false) ∨ ∃ i : Nat, i < l.length ∧ idxILoom q l = i ∧ q (rd_T36 l i) = true
  | [] => Or.inl ⟨rfl, fun j hj => by simp at hj⟩
  | x :: xs => by
    cases h0 : q x with
    | true => exact Or.inr ⟨0, by simp, by simp [idxILoom, h0], h0⟩
    | false =>
      rcases idxI_spec q xs with ⟨h1, h2⟩ | ⟨i, h1, h2, h3⟩
      · refine Or.inl ⟨by simp [idxILoom, h0, h1], fun j hj => ?_⟩
        cases j with
        | zero => exact h0
        | succ j => have := h2 j (by simpa using hj); simpa [rd_T36] using this
      · refine Or.inr ⟨i + 1, by simpa using h1, ?_, by simpa [rd_T36] using h3⟩
        have h4 : ¬ ((i : Int) < 0) := by omega
        simp [idxILoom, h0, h2, h4]
theorem idx_spec (l : List S36) (id : Int) : (idx l id = -1 ∧ ∀ j : Nat, j < l.length → (rd_T36 l j).f0 ≠ id) ∨ ∃ i : Nat, i < l.length ∧ idx l id = i ∧ (rd_T36 l i).f0 = id := by
  unfold idx
  rcases idxI_spec (fun x => x.f0 == id) l with ⟨h1, h2⟩ | ⟨i, h1, h2, h3⟩
  · exact Or.inl ⟨h1, fun j hj e => by have := h2 j hj; simp [e] at this⟩
  · exact Or.inr ⟨i, h1, h2, by simpa using h3⟩
theorem asc_lt {l : List S36} (h : Asc l) (i : Nat) : ∀ j : Nat, i < j → j < l.length → (rd_T36 l i).f0 < (rd_T36 l j).f0
  | 0, h1, _ => by omega
  | j + 1, h1, h2 => by
    have a := h j (by omega)
    by_cases e : i = j
    · subst e; exact a
    · have b := asc_lt h i j (by omega) (by omega)
      omega
theorem asc_one {l : List S36} (h : Asc l) {i j : Nat} (hi : i < l.length) (hj : j < l.length) (e : (rd_T36 l i).f0 = (rd_T36 l j).f0) : i = j := by
  rcases Nat.lt_trichotomy i j with c | c | c
  · have := asc_lt h i j c hj; omega
  · exact c
  · have := asc_lt h j i c hi; omega
/-- What the reference finds: the place of the loom in a valid list if its state is one of two. -/
def pick (l : List S36) (id s o : Int) : Int := if goodB l = true then (if idx l id < 0 then -1 else if (rd_T36 l (idx l id)).f4 = s ∨ (rd_T36 l (idx l id)).f4 = o then idx l id else -1) else -1
theorem l5Find_l0 (l : List S36) (id s o : Int) (g : goodB l = true) (d : Nat) : ∀ (k : Nat) (i : Int), 0 ≤ i → i + d = l.length → (∀ j : Nat, (j : Int) < i → ¬ ((rd_T36 l j).f0 = id ∧ ((rd_T36 l j).f4 = s ∨ (rd_T36 l j).f4 = o))) → 2 * d + 16 < k → spec_l5Find.l0 k l id s o i = some (pick l id s o) := by
  have hg := good_parts g
  induction d with
  | zero =>
    intro k i h0 h1 h3 hk
    obtain ⟨k, rfl⟩ : ∃ q, k = q + 1 + 1 := ⟨k - 2, by omega⟩
    simp only [spec_l5Find.l0]
    rw [if_neg (by omega)]
    simp only [spec_l5Find.j1]
    rw [if_neg (by simp)]
    congr 1
    unfold pick
    rw [if_pos g]
    rcases idx_spec l id with ⟨e, _⟩ | ⟨n, hn, e, en⟩
    · rw [e]; rfl
    · rw [e, if_neg (by omega), if_neg (fun c => h3 n (by omega) ⟨en, c⟩)]
  | succ d ih =>
    intro k i h0 h1 h3 hk
    obtain ⟨k, rfl⟩ : ∃ q, k = q + 1 + 1 := ⟨k - 2, by omega⟩
    simp only [spec_l5Find.l0]
    rw [if_pos (by omega), l5Good_eq l (by omega) (k + 1) (by omega), g]
    simp only [Option.bind_some, spec_l5Find.j1]
    rw [if_pos (by simp), if_pos h0, if_pos (by omega), wrap_in (by omega) (by omega)]
    obtain ⟨n, rfl⟩ : ∃ n : Nat, i = n := ⟨i.toNat, by omega⟩
    have next : ¬ ((rd_T36 l n).f0 = id ∧ ((rd_T36 l n).f4 = s ∨ (rd_T36 l n).f4 = o)) → spec_l5Find.l0 k l id s o ((n : Int) + 1) = some (pick l id s o) := fun hn => by
      refine ih k _ (by omega) (by omega) (fun j hj => ?_) (by omega)
      by_cases e : j = n
      · subst e; exact hn
      · exact h3 j (by omega)
    have hit : (rd_T36 l n).f0 = id → ((rd_T36 l n).f4 = s ∨ (rd_T36 l n).f4 = o) → some (n : Int) = some (pick l id s o) := fun e1 e2 => by
      congr 1
      unfold pick
      rw [if_pos g]
      rcases idx_spec l id with ⟨_, e⟩ | ⟨m, hm, e, em⟩
      · exact absurd e1 (e n (by omega))
      · have : n = m := asc_one hg.2.2 (by omega) hm (by rw [e1, em])
        subst this
        rw [e, if_neg (by omega), if_pos e2]
    by_cases c1 : (rd_T36 l n).f0 = id
    · rw [if_pos c1]
      by_cases c2 : (rd_T36 l n).f4 = s
      · rw [if_pos c2]; exact hit c1 (Or.inl c2)
      · rw [if_neg c2]
        by_cases c3 : (rd_T36 l n).f4 = o
        · rw [if_pos c3]; exact hit c1 (Or.inr c3)
        · rw [if_neg c3]; exact next (fun h => by rcases h.2 with h | h; exact c2 h; exact c3 h)
    · rw [if_neg c1]; exact next (fun h => c1 h.1)
theorem l5Find_eq (l : List S36) (id s o : Int) (hl : l.length ≤ 1048576) (k : Nat) (hk : l.length + 40 < k) : spec_l5Find.f k l id s o = some (pick l id s o) := by
  unfold spec_l5Find.f
  by_cases g : goodB l = true
  · have := (good_parts g).1
    exact l5Find_l0 l id s o g l.length k 0 (by omega) (by omega) (fun j hj => by omega) (by omega)
  · obtain ⟨k, rfl⟩ : ∃ q, k = q + 1 + 1 := ⟨k - 2, by omega⟩
    unfold pick
    rw [if_neg g]
    simp only [spec_l5Find.l0]
    by_cases c : (0 : Int) < (l.length : Int)
    · rw [if_pos c, l5Good_eq l hl (k + 1) (by omega)]
      simp only [Option.bind_some, spec_l5Find.j1]
      rw [if_neg g]
    · rw [if_neg c]
      simp only [spec_l5Find.j1]
      rw [if_neg (by simp)]
theorem findLoom_eq (l : List S36) (id : Int) (hl : l.length ≤ 1048576) (k : Nat) (hk : l.length + 40 < k) : impl_findLoom.f k l id = some (if goodB l = true then idx l id else -1) := by
  unfold impl_findLoom.f
  rw [AreLooms_eq l hl k (by omega)]
  simp only [Option.bind_some]
  by_cases g : goodB l = true
  · rw [if_pos g, if_pos g]; rfl
  · rw [if_neg g, if_neg g]
/-! ### another loom at a place -/
def withB (l : List S36) (i : Int) (x : S36) : List S36 × Bool := if goodB (l.set i.toNat x) = true then (l.set i.toNat x, true) else ([], false)
theorem withB_small (l : List S36) (i : Int) (x : S36) (hl : l.length ≤ 4096) : (withB l i x).1.length ≤ 4096 := by
  unfold withB
  split
  · simpa using hl
  · simp
theorem l5With_eq (l : List S36) (i : Int) (a b c d e : Int) (hl : l.length ≤ 1048576) (h0 : 0 ≤ i) (h1 : i < l.length) (k : Nat) (hk : l.length + 40 < k) : spec_l5With.f k l i a b c d e = some (withB l i ⟨a, b, c, d, e⟩) := by
  unfold spec_l5With.f withB
  simp only [Option.bind_some, List.nil_append, List.length_nil]
  rw [if_pos (by omega), if_pos h0, if_pos h1, l5Good_eq _ (by simpa using hl) k (by simp; omega)]
  simp only [Option.bind_some]
  cases goodB (l.set i.toNat ⟨a, b, c, d, e⟩) <;> simp
theorem withLoom_eq (l : List S36) (i : Int) (a b c d e : Int) (hl : l.length ≤ 1048576) (h0 : 0 ≤ i) (h1 : i < l.length) (k : Nat) (hk : l.length + 40 < k) : impl_withLoom.f k l i a b c d e = some (withB l i ⟨a, b, c, d, e⟩) := by
  unfold impl_withLoom.f slices_Clone_impl_Loom_impl_Loom.f withB
  simp only [Option.bind_some, List.nil_append, List.length_nil]
  rw [if_pos (by omega)]
  simp only [Option.bind_some]
  rw [if_pos h0, if_pos h1, AreLooms_eq _ (by simpa using hl) k (by simp; omega)]
  simp only [Option.bind_some]
  cases goodB (l.set i.toNat ⟨a, b, c, d, e⟩) <;> simp
/-- In a valid list: no loom of that id, or one. -/
theorem idx_cases (l : List S36) (id : Int) : idx l id = -1 ∨ ∃ i : Nat, i < l.length ∧ idx l id = i ∧ (rd_T36 l i).f0 = id := by
  rcases idx_spec l id with ⟨e, _⟩ | h
  · exact Or.inl e
  · exact Or.inr h
theorem pick_bad {l : List S36} {id s o : Int} (g : ¬ goodB l = true) : pick l id s o = -1 := by unfold pick; rw [if_neg g]
theorem pick_none {l : List S36} {id s o : Int} (g : goodB l = true) (e : idx l id = -1) : pick l id s o = -1 := by unfold pick; rw [if_pos g, e]; rfl
theorem pick_hit {l : List S36} {id s o : Int} (g : goodB l = true) {i : Nat} (e : idx l id = i) (c : (rd_T36 l i).f4 = s ∨ (rd_T36 l i).f4 = o) : pick l id s o = i := by unfold pick; rw [if_pos g, e, if_neg (by omega), if_pos c]
theorem pick_miss {l : List S36} {id s o : Int} (g : goodB l = true) {i : Nat} (e : idx l id = i) (c : ¬ ((rd_T36 l i).f4 = s ∨ (rd_T36 l i).f4 = o)) : pick l id s o = -1 := by unfold pick; rw [if_pos g, e, if_neg (by omega), if_neg c]
end Go.Proofs.Ytgjngpjeflmlmaa.Pure
