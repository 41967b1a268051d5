/- Plain facts on strings and lists of strings: sizes, copies, comparisons, a byte that stands in a string. -/
import Derived.Test.YtpifekbndclfhaaGx1
import Derived.Test.YtpifekbndclfhaaGx3
import Derived.Test.YtpifekbndclfhaaGx4
namespace Go.Proofs.Ytpifekbndclfhaa.Pure
open Go.RowKit Go.Proofs.Ytpifekbndclfhaa.G Go.Proofs.YtpifekbndclfhaaW.PrintWords Go.Proofs.YtpifekbndclfhaaW.PrintLast
set_option linter.unusedSimpArgs false
set_option linter.unusedVariables false

theorem wrap_in {x : Int} (h0 : -9223372036854775808 ≤ x) (h1 : x ≤ 9223372036854775807) : wrap64 x = x := by unfold wrap64; omega
/-! ### rounds that come to an end -/
theorem ev_pos {α : Type} {c : Prop} [Decidable c] {f g : Nat → Option α} {r : α} (h : c) (k : Ev f r) : Ev (fun n => if c then f n else g n) r := Ev.congr (fun n => if_pos h) k
theorem ev_neg {α : Type} {c : Prop} [Decidable c] {f g : Nat → Option α} {r : α} (h : ¬ c) (k : Ev g r) : Ev (fun n => if c then f n else g n) r := Ev.congr (fun n => if_neg h) k
theorem ev_eq {α : Type} {f : Nat → Option α} {r : α} (h : ∀ k, f k = some r) : Ev f r := ⟨0, fun k _ => h k⟩
theorem ev_val {α : Type} {f : Nat → Option α} {r s : α} (h : r = s) (k : Ev f r) : Ev f s := h ▸ k
/-! ### what holds from a place on -/
def allFrom (p : Nat → Bool) : Nat → Nat → Bool
  | 0, _ => true
  | d + 1, i => p i && allFrom p d (i + 1)
theorem allFrom_iff (p : Nat → Bool) : ∀ d i, allFrom p d i = true ↔ ∀ j, i ≤ j → j < i + d → p j = true
  | 0, i => by
    simp only [allFrom, true_iff]
    intro j h1 h2
    omega
  | d + 1, i => by
    simp only [allFrom, Bool.and_eq_true]
    rw [allFrom_iff p d (i + 1)]
    constructor
    · rintro ⟨h1, h2⟩ j a b
      by_cases e : j = i
      · subst e; exact h1
      · exact h2 j (by omega) (by omega)
    · intro h
      exact ⟨h i (by omega) (by omega), fun j a b => h j (by omega) (by omega)⟩
theorem all_get {α : Type} (l : List α) (z : α) (p : α → Bool) : l.all p = true ↔ ∀ j, j < l.length → p (l.getD j z) = true := by
  rw [List.all_eq_true]
  constructor
  · intro h j hj
    have : l.getD j z ∈ l := by
      rw [List.getD_eq_getElem?_getD, List.getElem?_eq_getElem hj]
      exact List.getElem_mem hj
    exact h _ this
  · intro h x hx
    obtain ⟨j, hj, e⟩ := List.getElem_of_mem hx
    have := h j hj
    rw [List.getD_eq_getElem?_getD, List.getElem?_eq_getElem hj, Option.getD_some, e] at this
    exact this
theorem bool_iff {a b : Bool} (h : a = true ↔ b = true) : a = b := by
  cases a <;> cases b <;> simp_all
/-! ### numbers -/
theorem tdiv_nn {a b : Int} (h : 0 ≤ a) : Int.tdiv a b = a / b := Int.tdiv_eq_ediv_of_nonneg h
theorem tmod_nn {a b : Int} (h : 0 ≤ a) : Int.tmod a b = a % b := Int.tmod_eq_emod_of_nonneg h
theorem mul_bound {a b A B : Int} (a0 : 0 ≤ a) (a1 : a ≤ A) (b0 : 0 ≤ b) (b1 : b ≤ B) : 0 ≤ a * b ∧ a * b ≤ A * B :=
  ⟨Int.mul_nonneg a0 b0, Int.mul_le_mul a1 b1 b0 (by omega)⟩
/-! ### lists of strings -/
theorem rs_at (l : List ByteArray) (i : Int) (h : i.toNat < l.length) : rdOf ByteArray.empty l i = l[i.toNat] := by simp [rdOf, h]
def sumS (l : List ByteArray) : Nat := (l.map (·.size)).sum
theorem sumS_cons (x : ByteArray) (l : List ByteArray) : sumS (x :: l) = x.size + sumS l := by simp [sumS]
theorem toStringS_l0 (l : List ByteArray) (hl : l.length ≤ 1048576) (d : Nat) : ∀ (k : Nat) (x3 : List ByteArray) (i : Int), 0 ≤ i → i + d = l.length → x3.length = l.length → (∀ j : Nat, (j : Int) < i → x3[j]? = l[j]?) → d < k → laws_toStringS.l0 k l x3 i = some l := by
  induction d with
  | zero =>
    intro k x3 i h0 h1 h2 h3 hk
    obtain ⟨k, rfl⟩ : ∃ m, k = m + 1 := ⟨k - 1, by omega⟩
    simp only [laws_toStringS.l0]
    rw [if_neg (by omega)]
    congr 1
    apply List.ext_getElem?
    intro j
    by_cases hj : j < l.length
    · exact h3 j (by omega)
    · rw [List.getElem?_eq_none (by omega), List.getElem?_eq_none (by omega)]
  | succ d ih =>
    intro k x3 i h0 h1 h2 h3 hk
    obtain ⟨k, rfl⟩ : ∃ m, k = m + 1 := ⟨k - 1, by omega⟩
    simp only [laws_toStringS.l0]
    rw [if_pos (by omega), if_pos h0, if_pos (by omega), wrap_in (by omega) (by omega)]
    refine ih k _ (i + 1) (by omega) (by omega) (by simpa using h2) (fun j hj => ?_) (by omega)
    rw [List.getElem?_set]
    by_cases e : i.toNat = j
    · subst e
      have hi : i.toNat < l.length := by omega
      rw [if_pos rfl, if_pos (by omega), rs_at l i hi, List.getElem?_eq_getElem hi]
    · rw [if_neg e]
      exact h3 j (by omega)
theorem toStringS_ev (l : List ByteArray) (hl : l.length ≤ 1048576) : Ev (fun k => laws_toStringS.f k l) l := ⟨l.length + 1, fun k hk => by
  show laws_toStringS.f k l = some l
  unfold laws_toStringS.f
  rw [if_pos (by omega), if_pos (by omega)]
  exact toStringS_l0 l hl l.length k _ 0 (by omega) (by omega) (by simp) (fun j hj => by omega) (by omega)⟩
theorem eqStringS_l0 (l : List ByteArray) (hl : l.length ≤ 1048576) (d : Nat) : ∀ (k : Nat) (i : Int), 0 ≤ i → i + d = l.length → d < k → laws_eqStringS.l0 k l l i = some true := by
  induction d with
  | zero =>
    intro k i h0 h1 hk
    obtain ⟨k, rfl⟩ : ∃ m, k = m + 1 := ⟨k - 1, by omega⟩
    simp only [laws_eqStringS.l0]
    rw [if_neg (by omega)]
  | succ d ih =>
    intro k i h0 h1 hk
    obtain ⟨k, rfl⟩ : ∃ m, k = m + 1 := ⟨k - 1, by omega⟩
    simp only [laws_eqStringS.l0]
    rw [if_pos (by omega), if_pos h0, if_pos (by omega), if_pos trivial, wrap_in (by omega) (by omega)]
    exact ih k (i + 1) (by omega) (by omega) (by omega)
theorem eqStringS_ev (l : List ByteArray) (hl : l.length ≤ 1048576) : Ev (fun k => laws_eqStringS.f k l l) true := ⟨l.length + 1, fun k hk => by
  show laws_eqStringS.f k l l = some true
  unfold laws_eqStringS.f
  rw [if_pos rfl]
  exact eqStringS_l0 l hl l.length k 0 (by omega) (by omega) (by omega)⟩
theorem szStringS_l0 (l : List ByteArray) (hl : l.length ≤ 1048576) (hs : ∀ x ∈ l, x.size ≤ 9223372036854775807) (d : Nat) : ∀ (m i : Int), 0 ≤ m → m ≤ 1048576 → 0 ≤ i → i + d = l.length →
    ∃ r, Ev (fun k => laws_szStringS.l0 k l m i) r ∧ (¬ r < 0 → (sumS (l.drop i.toNat) : Int) ≤ m) := by
  induction d with
  | zero =>
    intro m i m0 m1 h0 h1
    refine ⟨m, Ev.step (fun k => rfl) ?_, fun _ => ?_⟩
    · simp only [laws_szStringS.l0]
      exact ev_neg (by omega) (Ev.now _)
    · rw [List.drop_eq_nil_of_le (by omega)]
      simpa [sumS] using m0
  | succ d ih =>
    intro m i m0 m1 h0 h1
    have hi : i.toNat < l.length := by omega
    have hx := hs _ (List.getElem_mem hi)
    have e := rs_at l i hi
    have ed : sumS (l.drop i.toNat) = l[i.toNat].size + sumS (l.drop (i + 1).toNat) := by
      rw [List.drop_eq_getElem_cons hi, sumS_cons, show (i + 1).toNat = i.toNat + 1 by omega]
    by_cases c : m - (l[i.toNat].size : Int) < 0
    · refine ⟨-1, Ev.step (fun k => rfl) ?_, fun h => by omega⟩
      simp only [laws_szStringS.l0]
      rw [e, wrap_in (x := m - (l[i.toNat].size : Int)) (by omega) (by omega)]
      exact ev_pos (by omega) (ev_pos h0 (ev_pos c (Ev.now _)))
    · obtain ⟨r, hr, hb⟩ := ih (m - l[i.toNat].size) (i + 1) (by omega) (by omega) (by omega) (by omega)
      refine ⟨r, Ev.step (fun k => rfl) ?_, fun h => by have := hb h; omega⟩
      simp only [laws_szStringS.l0]
      rw [e, wrap_in (x := m - (l[i.toNat].size : Int)) (by omega) (by omega), wrap_in (x := i + 1) (by omega) (by omega)]
      exact ev_pos (by omega) (ev_pos h0 (ev_neg c hr))
theorem szStringS_ev (l : List ByteArray) (hl : l.length ≤ 9223372036854775807) (hs : ∀ x ∈ l, x.size ≤ 9223372036854775807) :
    ∃ r, Ev (fun k => laws_szStringS.f k l 1048576) r ∧ (¬ r < 0 → l.length ≤ 1048576 ∧ sumS l ≤ 1048576) := by
  unfold laws_szStringS.f
  rw [wrap_in (x := 1048576 - (l.length : Int)) (by omega) (by omega)]
  by_cases c : 1048576 - (l.length : Int) < 0
  · exact ⟨-1, ev_pos c (Ev.now _), fun h => by omega⟩
  · obtain ⟨r, hr, hb⟩ := szStringS_l0 l (by omega) hs l.length (1048576 - l.length) 0 (by omega) (by omega) (by omega) (by omega)
    refine ⟨r, ev_neg c hr, fun h => ?_⟩
    have := hb h
    simp only [Int.toNat_zero, List.drop_zero] at this
    omega
/-! ### a byte that stands in a string -/
def stands (c : UInt8) (s : ByteArray) : Bool := s.data.toList.contains c
theorem bt_list (s : ByteArray) (i : Int) (h : i.toNat < s.data.toList.length) : bt s i = ((s.data.toList[i.toNat]).toNat : Int) := by
  have h' : i.toNat < s.size := h
  unfold bt
  rw [dif_pos h']
  rfl
theorem l1Stands_l0 (s : ByteArray) (c : UInt8) (hs : s.size ≤ 9223372036854775807) (d : Nat) : ∀ (i : Int), 0 ≤ i → i + d = s.size →
    Ev (fun k => spec_l1Stands.l0 k s (c.toNat : Int) i) ((s.data.toList.drop i.toNat).contains c) := by
  have hz : s.data.toList.length = s.size := rfl
  induction d with
  | zero =>
    intro i h0 h1
    refine Ev.step (fun k => rfl) ?_
    simp only [spec_l1Stands.l0]
    rw [List.drop_eq_nil_of_le (by omega)]
    exact ev_neg (by omega) (Ev.now _)
  | succ d ih =>
    intro i h0 h1
    have hi : i.toNat < s.data.toList.length := by omega
    refine Ev.step (fun k => rfl) ?_
    simp only [spec_l1Stands.l0]
    rw [List.drop_eq_getElem_cons hi, List.contains_cons, bt_list s i hi, wrap_in (x := i + 1) (by omega) (by omega)]
    refine ev_pos (by omega) (ev_pos h0 ?_)
    by_cases q : s.data.toList[i.toNat] = c
    · refine ev_val ?_ (ev_pos (by rw [q]) (Ev.now true))
      rw [q]
      simp
    · refine ev_val ?_ (ev_neg (fun e => q (UInt8.toNat_inj.mp (by omega))) (ih (i + 1) (by omega) (by omega)))
      rw [show (i + 1).toNat = i.toNat + 1 by omega, show (c == s.data.toList[i.toNat]) = false by simpa [beq_eq_false_iff_ne] using fun e => q e.symm, Bool.false_or]
theorem l1Stands_ev (s : ByteArray) (c : UInt8) (hs : s.size ≤ 9223372036854775807) : Ev (fun k => spec_l1Stands.f k s (c.toNat : Int)) (stands c s) := by
  unfold spec_l1Stands.f
  exact l1Stands_l0 s c hs s.size 0 (by omega) (by omega)
end Go.Proofs.Ytpifekbndclfhaa.Pure
