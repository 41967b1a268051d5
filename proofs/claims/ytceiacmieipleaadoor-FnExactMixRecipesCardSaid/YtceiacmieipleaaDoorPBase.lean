/- Plain facts on the printed helpers for lists of ints and for recipes: copies, comparisons, sizes. No program in sight. -/
import Derived.Test.YtceiacmieipleaaDoorGx0
import Derived.Test.YtceiacmieipleaaDoorGx1
import Derived.Test.YtceiacmieipleaaDoorGx11
import Derived.Test.YtceiacmieipleaaDoorGx4
import Derived.Test.YtceiacmieipleaaDoorGx5
import Derived.Test.YtceiacmieipleaaDoorGx9
namespace Go.Proofs.YtceiacmieipleaaDoor.Pure
open Go.RowKit Go.Proofs.YtceiacmieipleaaDoor.G Go.Proofs.YtceiacmieipleaaDoorW.PrintWords Go.Proofs.YtceiacmieipleaaDoorW.PrintLast
set_option linter.unusedSimpArgs false
set_option linter.unusedVariables false

theorem wrap_in {x : Int} (h0 : -9223372036854775808 ≤ x) (h1 : x ≤ 9223372036854775807) : wrap64 x = x := by unfold wrap64; omega
theorem rd_at (l : List Int) (i : Int) (h : i.toNat < l.length) : rd l i = l[i.toNat] := by simp [rd, h]
theorem bs_ {α β : Type} {x : Option α} {f : α → Option β} {a : α} {r : Option β} (h : x = some a) (k : f a = r) : x.bind f = r := by rw [h]; exact k
theorem it_ {α : Type} {c : Prop} {i : Decidable c} {a b r : α} (h : c) (k : a = r) : (@ite α c i a b) = r := by rw [if_pos h]; exact k
theorem ie_ {α : Type} {c : Prop} {i : Decidable c} {a b r : α} (h : ¬ c) (k : b = r) : (@ite α c i a b) = r := by rw [if_neg h]; exact k

def marks (n : Nat) (m : Int) : List Int := (List.range n).map fun (j : Nat) => m + j
theorem marks_length (n : Nat) (m : Int) : (marks n m).length = n := by simp [marks]
theorem l1In_eq (a lo hi : Int) : spec_l1In.f a lo hi = some (decide (lo ≤ a) && decide (a ≤ hi)) := by
  unfold spec_l1In.f
  by_cases h : a ≥ lo
  · rw [if_pos h, decide_eq_true (show lo ≤ a from h)]; rfl
  · rw [if_neg h, decide_eq_false (show ¬ lo ≤ a from h)]; rfl
theorem in_eq (a lo hi : Int) : impl_in.f a lo hi = some (decide (lo ≤ a) && decide (a ≤ hi)) := by
  unfold impl_in.f
  by_cases h : a ≥ lo
  · rw [if_pos h, decide_eq_true (show lo ≤ a from h)]; rfl
  · rw [if_neg h, decide_eq_false (show ¬ lo ≤ a from h)]; rfl
/-! ### rounds that come to an end -/
theorem ev_pos {α : Type} {c : Prop} [Decidable c] {f g : Nat → Option α} {r : α} (h : c) (k : Ev f r) : Ev (fun n => if c then f n else g n) r := Ev.congr (fun n => if_pos h) k
theorem ev_neg {α : Type} {c : Prop} [Decidable c] {f g : Nat → Option α} {r : α} (h : ¬ c) (k : Ev g r) : Ev (fun n => if c then f n else g n) r := Ev.congr (fun n => if_neg h) k
theorem ev_eq {α : Type} {f : Nat → Option α} {r : α} (h : ∀ k, f k = some r) : Ev f r := ⟨0, fun k _ => h k⟩
theorem ev_val {α : Type} {f : Nat → Option α} {r s : α} (h : r = s) (k : Ev f r) : Ev f s := h ▸ k
/-! ### what holds from a place on -/
def allFrom (p : Nat → Bool) : Nat → Nat → Bool
  | 0, _ => true
  | d + 1, i => p i && allFrom p d (i + 1)
theorem allFrom_iff (p : Nat → Bool) : ∀ d i, allFrom p d i = true ↔ ∀ j, i ≤ j → j < i + d → p j = true
  | 0, i => by
    simp only [allFrom, true_iff]
    intro j h1 h2
    omega
  | d + 1, i => by
    simp only [allFrom, Bool.and_eq_true]
    rw [allFrom_iff p d (i + 1)]
    constructor
    · rintro ⟨h1, h2⟩ j a b
      by_cases e : j = i
      · subst e; exact h1
      · exact h2 j (by omega) (by omega)
    · intro h
      exact ⟨h i (by omega) (by omega), fun j a b => h j (by omega) (by omega)⟩
theorem all_get {α : Type} (l : List α) (z : α) (p : α → Bool) : l.all p = true ↔ ∀ j, j < l.length → p (l.getD j z) = true := by
  rw [List.all_eq_true]
  constructor
  · intro h j hj
    have : l.getD j z ∈ l := by
      rw [List.getD_eq_getElem?_getD, List.getElem?_eq_getElem hj]
      exact List.getElem_mem hj
    exact h _ this
  · intro h x hx
    obtain ⟨j, hj, e⟩ := List.getElem_of_mem hx
    have := h j hj
    rw [List.getD_eq_getElem?_getD, List.getElem?_eq_getElem hj, Option.getD_some, e] at this
    exact this
theorem bool_iff {a b : Bool} (h : a = true ↔ b = true) : a = b := by
  cases a <;> cases b <;> simp_all
/-! ### numbers -/
theorem tdiv_nn {a b : Int} (h : 0 ≤ a) : Int.tdiv a b = a / b := Int.tdiv_eq_ediv_of_nonneg h
theorem tmod_nn {a b : Int} (h : 0 ≤ a) : Int.tmod a b = a % b := Int.tmod_eq_emod_of_nonneg h
theorem mul_bound {a b A B : Int} (a0 : 0 ≤ a) (a1 : a ≤ A) (b0 : 0 ≤ b) (b1 : b ≤ B) : 0 ≤ a * b ∧ a * b ≤ A * B :=
  ⟨Int.mul_nonneg a0 b0, Int.mul_le_mul a1 b1 b0 (by omega)⟩
/-! ### lists of DyePart: copies, comparisons, marks -/
def toDyePart (x : S33) : S36 := ⟨x.f0, x.f1⟩
theorem rdDyePart_at (l : List S36) (i : Int) (h : i.toNat < l.length) : rd_T36 l i = l[i.toNat] := by simp [rd_T36, h]
theorem rdDyePart0_at (l : List S33) (i : Int) (h : i.toNat < l.length) : rd_T33 l i = l[i.toNat] := by simp [rd_T33, h]
theorem rdDyePart_set (l : List S36) (i : Int) (v : S36) (h : i.toNat < l.length) : rd_T36 (l.set i.toNat v) i = v := by rw [rdDyePart_at _ _ (by simpa using h)]; simp
theorem toDyePartS_l0 (l : List S33) (hl : l.length ≤ 1048576) (d : Nat) : ∀ (k : Nat) (x3 : List S36) (i : Int), 0 ≤ i → i + d = l.length → x3.length = l.length → (∀ j : Nat, (j : Int) < i → x3[j]? = (l.map toDyePart)[j]?) → d < k → laws_toDyePartS.l0 k l x3 i = some (l.map toDyePart) := by
  induction d with
  | zero =>
    intro k x3 i h0 h1 h2 h3 hk
    obtain ⟨k, rfl⟩ : ∃ m, k = m + 1 := ⟨k - 1, by omega⟩
    simp only [laws_toDyePartS.l0]
    rw [if_neg (by omega)]
    congr 1
    apply List.ext_getElem?
    intro j
    by_cases hj : j < l.length
    · exact h3 j (by omega)
    · rw [List.getElem?_eq_none (by omega), List.getElem?_eq_none (by simp; omega)]
  | succ d ih =>
    intro k x3 i h0 h1 h2 h3 hk
    obtain ⟨k, rfl⟩ : ∃ m, k = m + 1 := ⟨k - 1, by omega⟩
    simp only [laws_toDyePartS.l0, laws_toDyePart.f, Option.bind_some]
    rw [if_pos (by omega), if_pos h0, if_pos (by omega), wrap_in (by omega) (by omega)]
    refine ih k _ (i + 1) (by omega) (by omega) (by simpa using h2) (fun j hj => ?_) (by omega)
    rw [List.getElem?_set]
    by_cases e : i.toNat = j
    · subst e
      have hi : i.toNat < l.length := by omega
      rw [if_pos rfl, if_pos (by omega), rdDyePart0_at l i hi, List.getElem?_map, List.getElem?_eq_getElem hi]
      rfl
    · rw [if_neg e]
      exact h3 j (by omega)
theorem toDyePartS_eq (l : List S33) (hl : l.length ≤ 1048576) (k : Nat) (hk : l.length < k) : laws_toDyePartS.f k l = some (l.map toDyePart) := by
  unfold laws_toDyePartS.f
  rw [if_pos (by omega), if_pos (by omega)]
  exact toDyePartS_l0 l hl l.length k _ 0 (by omega) (by omega) (by simp) (fun j hj => by omega) hk
theorem eqDyePartS_l0 (l : List S36) (hl : l.length ≤ 1048576) (d : Nat) : ∀ (k : Nat) (i : Int), 0 ≤ i → i + d = l.length → d < k → laws_eqDyePartS.l0 k l l i = some true := by
  induction d with
  | zero =>
    intro k i h0 h1 hk
    obtain ⟨k, rfl⟩ : ∃ m, k = m + 1 := ⟨k - 1, by omega⟩
    simp only [laws_eqDyePartS.l0]
    rw [if_neg (by omega)]
  | succ d ih =>
    intro k i h0 h1 hk
    obtain ⟨k, rfl⟩ : ∃ m, k = m + 1 := ⟨k - 1, by omega⟩
    simp only [laws_eqDyePartS.l0, laws_eqDyePart.f, if_true, Option.bind_some]
    rw [if_pos (by omega), if_pos h0, if_pos (by omega), wrap_in (by omega) (by omega)]
    exact ih k (i + 1) (by omega) (by omega) (by omega)
theorem eqDyePartS_eq (l : List S36) (hl : l.length ≤ 1048576) (k : Nat) (hk : l.length < k) : laws_eqDyePartS.f k l l = some true := by
  unfold laws_eqDyePartS.f
  rw [if_pos rfl]
  exact eqDyePartS_l0 l hl l.length k 0 (by omega) (by omega) hk
theorem toR_ev (l : List S33) (hl : l.length ≤ 1048576) : Ev (fun k => laws_toDyePartS.f k l) (l.map toDyePart) := ⟨l.length + 1, fun k hk => toDyePartS_eq l hl k (by omega)⟩
theorem eqR_ev (l : List S36) (hl : l.length ≤ 1048576) : Ev (fun k => laws_eqDyePartS.f k l l) true := ⟨l.length + 1, fun k hk => eqDyePartS_eq l hl k (by omega)⟩
theorem rdR0_mem (l : List S33) (i : Int) (h0 : 0 ≤ i) (h1 : i < l.length) : rd_T33 l i ∈ l := by
  rw [rdDyePart0_at l i (by omega)]
  exact List.getElem_mem _
theorem rdR_mem (l : List S36) (i : Int) (h0 : 0 ≤ i) (h1 : i < l.length) : rd_T36 l i ∈ l := by
  rw [rdDyePart_at l i (by omega)]
  exact List.getElem_mem _
theorem rd_mem (l : List Int) (i : Int) (h0 : 0 ≤ i) (h1 : i < l.length) : rd l i ∈ l := by
  rw [rd_at l i (by omega)]
  exact List.getElem_mem _
theorem szR_l0 (l : List S33) (hl : l.length ≤ 1048576) (hx : ∀ x ∈ l, x.f0.size ≤ 9223372036854775807) (d : Nat) : ∀ (i a : Int), 0 ≤ i → i + d = l.length → 0 ≤ a → a ≤ 1048576 → ∃ r, Ev (fun k => laws_szDyePartS.l0 k l a i) r ∧ r ≤ 1048576 := by
  induction d with
  | zero =>
    intro i a h0 h1 h2 h3
    refine ⟨a, Ev.step (fun k => rfl) ?_, h3⟩
    simp only [laws_szDyePartS.l0]
    exact ev_neg (by omega) (Ev.now _)
  | succ d ih =>
    intro i a h0 h1 h2 h3
    have hm := hx _ (rdR0_mem l i h0 (by omega))
    by_cases c : a - ((rd_T33 l i).f0.size : Int) < 0
    · refine ⟨-1, Ev.step (fun k => rfl) ?_, by omega⟩
      simp only [laws_szDyePartS.l0, laws_szDyePart.f]
      rw [wrap_in (x := a - ((rd_T33 l i).f0.size : Int)) (by omega) (by omega), if_pos c]
      simp only [Option.bind_some]
      exact ev_pos (by omega) (ev_pos h0 (ev_pos (by omega) (Ev.now _)))
    · obtain ⟨r, e1, e2⟩ := ih (i + 1) (a - ((rd_T33 l i).f0.size : Int)) (by omega) (by omega) (by omega) (by omega)
      refine ⟨r, Ev.step (fun k => rfl) ?_, e2⟩
      simp only [laws_szDyePartS.l0, laws_szDyePart.f]
      rw [wrap_in (x := a - ((rd_T33 l i).f0.size : Int)) (by omega) (by omega), if_neg c, wrap_in (x := i + 1) (by omega) (by omega)]
      simp only [Option.bind_some]
      exact ev_pos (by omega) (ev_pos h0 (ev_neg (by omega) e1))
/-- The size of a recipe: either it is too great, or the recipe is short. -/
theorem szR_ev (l : List S33) (hl : l.length ≤ 9223372036854775807) (hx : ∀ x ∈ l, x.f0.size ≤ 9223372036854775807) : ∃ r, Ev (fun k => laws_szDyePartS.f k l 1048576) r ∧ (¬ r < 0 → l.length ≤ 1048576 ∧ r ≤ 1048576) := by
  unfold laws_szDyePartS.f
  rw [wrap_in (x := 1048576 - (l.length : Int)) (by omega) (by omega)]
  by_cases c : 1048576 - (l.length : Int) < 0
  · exact ⟨-1, ev_pos c (Ev.now _), fun h => absurd (by omega) h⟩
  · obtain ⟨r, e1, e2⟩ := szR_l0 l (by omega) hx l.length 0 (1048576 - (l.length : Int)) (by omega) (by omega) (by omega) (by omega)
    exact ⟨r, ev_neg c e1, fun _ => ⟨by omega, e2⟩⟩
end Go.Proofs.YtceiacmieipleaaDoor.Pure
