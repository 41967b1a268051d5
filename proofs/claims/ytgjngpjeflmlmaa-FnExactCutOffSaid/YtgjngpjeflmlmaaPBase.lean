/- Plain facts on the printed helpers for lists of looms: copies, comparisons, validity. No program in sight. -/
import Derived.Test.YtgjngpjeflmlmaaGx0
import Derived.Test.YtgjngpjeflmlmaaGx1
import Derived.Test.YtgjngpjeflmlmaaGx10
import Derived.Test.YtgjngpjeflmlmaaGx2
import Derived.Test.YtgjngpjeflmlmaaGx3
import Derived.Test.YtgjngpjeflmlmaaGx4
import Derived.Test.YtgjngpjeflmlmaaGx5
import Derived.Test.YtgjngpjeflmlmaaGx7
import Derived.Test.YtgjngpjeflmlmaaGx8
import Derived.Test.YtgjngpjeflmlmaaGx9
namespace Go.Proofs.Ytgjngpjeflmlmaa.Pure
open Go.RowKit Go.Proofs.Ytgjngpjeflmlmaa.G Go.Proofs.YtgjngpjeflmlmaaW.PrintWords Go.Proofs.YtgjngpjeflmlmaaW.PrintLast
set_option linter.unusedSimpArgs false

theorem wrap_in {x : Int} (h0 : -9223372036854775808 ≤ x) (h1 : x ≤ 9223372036854775807) : wrap64 x = x := by unfold wrap64; omega
/-! ### one step of a law's text -/
theorem bs_ {α β : Type} {x : Option α} {f : α → Option β} {a : α} {r : Option β} (h : x = some a) (k : f a = r) : x.bind f = r := by rw [h]; exact k
theorem it_ {α : Type} {c : Prop} {i : Decidable c} {a b r : α} (h : c) (k : a = r) : (@ite α c i a b) = r := by rw [if_pos h]; exact k
theorem ie_ {α : Type} {c : Prop} {i : Decidable c} {a b r : α} (h : ¬ c) (k : b = r) : (@ite α c i a b) = r := by rw [if_neg h]; exact k
/-! ### lists of Loom: copies, comparisons, marks -/
def toLoom (x : S38) : S36 := ⟨x.f0, x.f1, x.f2, x.f3, x.f4⟩
theorem rdLoom_at (l : List S36) (i : Int) (h : i.toNat < l.length) : rd_T36 l i = l[i.toNat] := by simp [rd_T36, h]
theorem rdLoom0_at (l : List S38) (i : Int) (h : i.toNat < l.length) : rd_T38 l i = l[i.toNat] := by simp [rd_T38, h]
theorem rdLoom_set (l : List S36) (i : Int) (v : S36) (h : i.toNat < l.length) : rd_T36 (l.set i.toNat v) i = v := by rw [rdLoom_at _ _ (by simpa using h)]; simp
theorem toLoomS_l0 (l : List S38) (hl : l.length ≤ 1048576) (d : Nat) : ∀ (k : Nat) (x3 : List S36) (i : Int), 0 ≤ i → i + d = l.length → x3.length = l.length → (∀ j : Nat, (j : Int) < i → x3[j]? = (l.map toLoom)[j]?) → d < k → laws_toLoomS.l0 k l x3 i = some (l.map toLoom) := by
  induction d with
  | zero =>
    intro k x3 i h0 h1 h2 h3 hk
    obtain ⟨k, rfl⟩ : ∃ m, k = m + 1 := ⟨k - 1, by omega⟩
    simp only [laws_toLoomS.l0]
    rw [if_neg (by omega)]
    congr 1
    apply List.ext_getElem?
    intro j
    by_cases hj : j < l.length
    · exact h3 j (by omega)
    · rw [List.getElem?_eq_none (by omega), List.getElem?_eq_none (by simp; omega)]
  | succ d ih =>
    intro k x3 i h0 h1 h2 h3 hk
    obtain ⟨k, rfl⟩ : ∃ m, k = m + 1 := ⟨k - 1, by omega⟩
    simp only [laws_toLoomS.l0, laws_toLoom.f, Option.bind_some]
    rw [if_pos (by omega), if_pos h0, if_pos (by omega), wrap_in (by omega) (by omega)]
    refine ih k _ (i + 1) (by omega) (by omega) (by simpa using h2) (fun j hj => ?_) (by omega)
    rw [List.getElem?_set]
    by_cases e : i.toNat = j
    · subst e
      have hi : i.toNat < l.length := by omega
      rw [if_pos rfl, if_pos (by omega), rdLoom0_at l i hi, List.getElem?_map, List.getElem?_eq_getElem hi]
      rfl
    · rw [if_neg e]
      exact h3 j (by omega)
theorem toLoomS_eq (l : List S38) (hl : l.length ≤ 1048576) (k : Nat) (hk : l.length < k) : laws_toLoomS.f k l = some (l.map toLoom) := by
  unfold laws_toLoomS.f
  rw [if_pos (by omega), if_pos (by omega)]
  exact toLoomS_l0 l hl l.length k _ 0 (by omega) (by omega) (by simp) (fun j hj => by omega) hk
theorem eqLoomS_l0 (l : List S36) (hl : l.length ≤ 1048576) (d : Nat) : ∀ (k : Nat) (i : Int), 0 ≤ i → i + d = l.length → d < k → laws_eqLoomS.l0 k l l i = some true := by
  induction d with
  | zero =>
    intro k i h0 h1 hk
    obtain ⟨k, rfl⟩ : ∃ m, k = m + 1 := ⟨k - 1, by omega⟩
    simp only [laws_eqLoomS.l0]
    rw [if_neg (by omega)]
  | succ d ih =>
    intro k i h0 h1 hk
    obtain ⟨k, rfl⟩ : ∃ m, k = m + 1 := ⟨k - 1, by omega⟩
    simp only [laws_eqLoomS.l0, laws_eqLoom.f, if_true, Option.bind_some]
    rw [if_pos (by omega), if_pos h0, if_pos (by omega), wrap_in (by omega) (by omega)]
    exact ih k (i + 1) (by omega) (by omega) (by omega)
theorem eqLoomS_eq (l : List S36) (hl : l.length ≤ 1048576) (k : Nat) (hk : l.length < k) : laws_eqLoomS.f k l l = some true := by
  unfold laws_eqLoomS.f
  rw [if_pos rfl]
  exact eqLoomS_l0 l hl l.length k 0 (by omega) (by omega) hk
theorem szLoomS_eq (l : List S38) (a : Int) (h0 : 0 ≤ a) (ha : a ≤ 1048576) (hl : l.length ≤ 9223372036854775807) : laws_szLoomS.f l a = some (if a < l.length then -1 else a - l.length) := by
  unfold laws_szLoomS.f
  rw [wrap_in (by omega) (by omega)]
  by_cases h : a < (l.length : Int)
  · rw [if_pos (by omega), if_pos h]
  · rw [if_neg (by omega), if_neg h]

/-! ### validity -/
theorem l1In_eq (a lo hi : Int) : spec_l1In.f a lo hi = some (decide (lo ≤ a) && decide (a ≤ hi)) := impl_in_some a lo hi
set_option maxHeartbeats 1000000 in
theorem l5One_eq (x : S36) (k : Nat) : spec_l5One.f (k + 1) x.f0 x.f1 x.f2 x.f3 x.f4 = some (P_impl_IsLoom x) := by
  rw [← P_impl_IsLoom_eq x]
  simp only [spec_l5One.f, spec_l5One.j0, spec_l5Wide.f, impl_IsLoom.f, impl_IsLoom.j0, impl_isId.f, impl_isWide.f, l1In_eq, impl_in_some, Option.bind_some]
def Asc (l : List S36) : Prop := ∀ j : Nat, j < l.length - 1 → (rd_T36 l j).f0 < (rd_T36 l (j + 1 : Nat)).f0
instance (l : List S36) : Decidable (Asc l) := by unfold Asc; infer_instance
/-- What a valid list is. -/
def goodB (l : List S36) : Bool := decide (l.length ≤ 8) && (l.all P_impl_IsLoom && decide (Asc l))
theorem good_parts {l : List S36} (g : goodB l = true) : l.length ≤ 8 ∧ (∀ j : Nat, j < l.length → P_impl_IsLoom (rd_T36 l j) = true) ∧ Asc l := by
  unfold goodB at g
  simp only [Bool.and_eq_true, decide_eq_true_eq, List.all_eq_true] at g
  refine ⟨g.1, fun j hj => ?_, g.2.2⟩
  rw [rdLoom_at _ _ (by simpa using hj)]
  exact g.2.1 _ (List.getElem_mem _)
theorem all_of {l : List S36} (h : ∀ j : Nat, j < l.length → P_impl_IsLoom (rd_T36 l j) = true) : l.all P_impl_IsLoom = true := by
  rw [List.all_eq_true]
  intro x hx
  obtain ⟨j, hj, e⟩ := List.getElem_of_mem hx
  have := h j hj
  rw [rdLoom_at _ _ (by simpa using hj)] at this
  simpa [e] using this
theorem l5Good_l0 (l : List S36) (hl : l.length ≤ 1048576) (d : Nat) : ∀ (k : Nat) (i : Int), 0 ≤ i → i + d = l.length → (∀ j : Nat, (j : Int) < i → P_impl_IsLoom (rd_T36 l j) = true) → (∀ j : Nat, (j : Int) + 1 < i → (rd_T36 l j).f0 < (rd_T36 l (j + 1 : Nat)).f0) → d + 1 < k → spec_l5Good.l0 k l i = some (goodB l) := by
  induction d with
  | zero =>
    intro k i h0 h1 h3 h4 hk
    obtain ⟨k, rfl⟩ : ∃ q, k = q + 1 := ⟨k - 1, by omega⟩
    simp only [spec_l5Good.l0]
    rw [if_neg (by omega)]
    unfold goodB
    rw [all_of (fun j hj => h3 j (by omega)), decide_eq_true (show Asc l from fun j hj => h4 j (by omega))]
    congr 1
    simp only [Bool.and_true]
    exact decide_eq_decide.mpr (by omega)
  | succ d ih =>
    intro k i h0 h1 h3 h4 hk
    obtain ⟨k, rfl⟩ : ∃ q, k = q + 1 + 1 := ⟨k - 2, by omega⟩
    simp only [spec_l5Good.l0]
    rw [if_pos (by omega), if_pos h0, l5One_eq]
    simp only [Option.bind_some]
    obtain ⟨n, rfl⟩ : ∃ n : Nat, i = n := ⟨i.toNat, by omega⟩
    by_cases c : P_impl_IsLoom (rd_T36 l n) = true
    · rw [if_pos c, wrap_in (x := (n : Int) + 1) (by omega) (by omega)]
      have h3' : ∀ j : Nat, (j : Int) < (n : Int) + 1 → P_impl_IsLoom (rd_T36 l j) = true := fun j hj => by
        by_cases e : j = n
        · subst e; exact c
        · exact h3 j (by omega)
      by_cases c2 : (n : Int) > 0
      · rw [if_pos c2, wrap_in (x := (n : Int) - 1) (by omega) (by omega), if_pos (by omega), if_pos (by omega)]
        obtain ⟨m, rfl⟩ : ∃ m, n = m + 1 := ⟨n - 1, by omega⟩
        rw [show ((m + 1 : Nat) : Int) - 1 = (m : Int) by omega]
        by_cases c3 : (rd_T36 l m).f0 ≥ (rd_T36 l (m + 1 : Nat)).f0
        · rw [if_pos c3]
          congr 1
          symm
          unfold goodB
          rw [decide_eq_false (show ¬ Asc l from fun h => absurd (h m (by omega)) (by omega))]
          simp
        · rw [if_neg c3]
          refine ih (k + 1) _ (by omega) (by omega) h3' (fun j hj => ?_) (by omega)
          by_cases e : j = m
          · subst e; omega
          · exact h4 j (by omega)
      · rw [if_neg c2]
        exact ih (k + 1) _ (by omega) (by omega) h3' (fun j hj => by omega) (by omega)
    · rw [if_neg c]
      congr 1
      symm
      rw [Bool.eq_false_iff]
      intro g
      exact c ((good_parts g).2.1 n (by omega))
theorem l5Good_eq (l : List S36) (hl : l.length ≤ 1048576) (k : Nat) (hk : l.length + 1 < k) : spec_l5Good.f k l = some (goodB l) := by
  unfold spec_l5Good.f
  exact l5Good_l0 l hl l.length k 0 (by omega) (by omega) (fun j hj => by omega) (fun j hj => by omega) hk
theorem asc_l0 (l : List S36) (hl : l.length ≤ 1048576) (d : Nat) : ∀ (k : Nat) (i : Int), 1 ≤ i → l.length ≤ i + d → (∀ j : Nat, (j : Int) + 1 < i → j + 1 < l.length → (rd_T36 l j).f0 < (rd_T36 l (j + 1 : Nat)).f0) → d < k → ascAreLooms.l0 k l i = some (decide (Asc l)) := by
  induction d with
  | zero =>
    intro k i h0 h1 h4 hk
    obtain ⟨k, rfl⟩ : ∃ q, k = q + 1 := ⟨k - 1, by omega⟩
    simp only [ascAreLooms.l0]
    rw [if_neg (by omega), decide_eq_true (show Asc l from fun j hj => h4 j (by omega) (by omega))]
  | succ d ih =>
    intro k i h0 h1 h4 hk
    obtain ⟨k, rfl⟩ : ∃ q, k = q + 1 := ⟨k - 1, by omega⟩
    by_cases hi : i < (l.length : Int)
    · simp only [ascAreLooms.l0, impl_AreLooms_1.f, Option.bind_some]
      rw [if_pos hi]
      obtain ⟨m, rfl⟩ : ∃ m : Nat, i = (m + 1 : Nat) := ⟨i.toNat - 1, by omega⟩
      rw [wrap_in (x := ((m + 1 : Nat) : Int) - 1) (by omega) (by omega), wrap_in (x := ((m + 1 : Nat) : Int) + 1) (by omega) (by omega), show ((m + 1 : Nat) : Int) - 1 = (m : Int) by omega, if_pos (by omega), if_pos (by omega), if_pos (by omega)]
      by_cases c3 : (rd_T36 l m).f0 ≥ (rd_T36 l (m + 1 : Nat)).f0
      · rw [if_pos c3, decide_eq_false (show ¬ Asc l from fun h => absurd (h m (by omega)) (by omega))]
      · rw [if_neg c3]
        refine ih k _ (by omega) (by omega) (fun j hj hj2 => ?_) (by omega)
        by_cases e : j = m
        · subst e; omega
        · exact h4 j (by omega) hj2
    · simp only [ascAreLooms.l0]
      rw [if_neg hi, decide_eq_true (show Asc l from fun j hj => h4 j (by omega) (by omega))]
theorem AreLooms_eq (l : List S36) (hl : l.length ≤ 1048576) (k : Nat) (hk : l.length + 1 < k) : impl_AreLooms.f k l = some (goodB l) := by
  unfold impl_AreLooms.f goodB
  have e1 : impl_areAll_impl_Loom.f l FN25 = some (l.all P_impl_IsLoom) := by unfold impl_areAll_impl_Loom.f; rw [if_pos rfl]
  have e2 : impl_isAscending_impl_Loom.f k l FN27 = some (decide (Asc l)) := by
    unfold impl_isAscending_impl_Loom.f ascAreLooms.f
    rw [if_pos rfl]
    exact asc_l0 l hl l.length k 1 (by omega) (by omega) (fun j hj => by omega) (by omega)
  by_cases c : (l.length : Int) ≤ 8
  · rw [if_pos c, e1, decide_eq_true (show l.length ≤ 8 by omega)]
    simp only [Option.bind_some, Bool.true_and]
    cases l.all P_impl_IsLoom with
    | false => simp
    | true => rw [if_pos rfl, e2]; simp
  · rw [if_neg c, decide_eq_false (show ¬ l.length ≤ 8 by omega)]
    simp
end Go.Proofs.Ytgjngpjeflmlmaa.Pure
