/- Plain facts on numbers as texts. -/
import Derived.Test.YthcgeejoocpbmaaDoorGx1
namespace Go.Proofs.YthcgeejoocpbmaaDoor.Pure
open Go.RowKit Go.Proofs.YthcgeejoocpbmaaDoor.G Go.Proofs.YthcgeejoocpbmaaDoorW.PrintWords Go.Proofs.YthcgeejoocpbmaaDoorW.PrintLast
set_option linter.unusedSimpArgs false
set_option linter.unusedVariables false

theorem wrap_in {x : Int} (h0 : -9223372036854775808 ≤ x) (h1 : x ≤ 9223372036854775807) : wrap64 x = x := by unfold wrap64; omega
/-! ### rounds that come to an end -/
theorem ev_pos {α : Type} {c : Prop} [Decidable c] {f g : Nat → Option α} {r : α} (h : c) (k : Ev f r) : Ev (fun n => if c then f n else g n) r := Ev.congr (fun n => if_pos h) k
theorem ev_neg {α : Type} {c : Prop} [Decidable c] {f g : Nat → Option α} {r : α} (h : ¬ c) (k : Ev g r) : Ev (fun n => if c then f n else g n) r := Ev.congr (fun n => if_neg h) k
theorem ev_eq {α : Type} {f : Nat → Option α} {r : α} (h : ∀ k, f k = some r) : Ev f r := ⟨0, fun k _ => h k⟩
theorem ev_val {α : Type} {f : Nat → Option α} {r s : α} (h : r = s) (k : Ev f r) : Ev f s := h ▸ k
/-! ### what holds from a place on -/
def allFrom (p : Nat → Bool) : Nat → Nat → Bool
  | 0, _ => true
  | d + 1, i => p i && allFrom p d (i + 1)
theorem allFrom_iff (p : Nat → Bool) : ∀ d i, allFrom p d i = true ↔ ∀ j, i ≤ j → j < i + d → p j = true
  | 0, i => by
    simp only [allFrom, true_iff]
    intro j h1 h2
    omega
  | d + 1, i => by
    simp only [allFrom, Bool.and_eq_true]
    rw [allFrom_iff p d (i + 1)]
    constructor
    · rintro ⟨h1, h2⟩ j a b
      by_cases e : j = i
      · subst e; exact h1
      · exact h2 j (by omega) (by omega)
    · intro h
      exact ⟨h i (by omega) (by omega), fun j a b => h j (by omega) (by omega)⟩
theorem all_get {α : Type} (l : List α) (z : α) (p : α → Bool) : l.all p = true ↔ ∀ j, j < l.length → p (l.getD j z) = true := by
  rw [List.all_eq_true]
  constructor
  · intro h j hj
    have : l.getD j z ∈ l := by
      rw [List.getD_eq_getElem?_getD, List.getElem?_eq_getElem hj]
      exact List.getElem_mem hj
    exact h _ this
  · intro h x hx
    obtain ⟨j, hj, e⟩ := List.getElem_of_mem hx
    have := h j hj
    rw [List.getD_eq_getElem?_getD, List.getElem?_eq_getElem hj, Option.getD_some, e] at this
    exact this
theorem bool_iff {a b : Bool} (h : a = true ↔ b = true) : a = b := by
  cases a <;> cases b <;> simp_all
/-! ### numbers -/
theorem tdiv_nn {a b : Int} (h : 0 ≤ a) : Int.tdiv a b = a / b := Int.tdiv_eq_ediv_of_nonneg h
theorem tmod_nn {a b : Int} (h : 0 ≤ a) : Int.tmod a b = a % b := Int.tmod_eq_emod_of_nonneg h
theorem mul_bound {a b A B : Int} (a0 : 0 ≤ a) (a1 : a ≤ A) (b0 : 0 ≤ b) (b1 : b ≤ B) : 0 ≤ a * b ∧ a * b ≤ A * B :=
  ⟨Int.mul_nonneg a0 b0, Int.mul_le_mul a1 b1 b0 (by omega)⟩
/-! ### a byte that stands in a string -/
def stands (c : UInt8) (s : ByteArray) : Bool := s.data.toList.contains c
theorem bt_list (s : ByteArray) (i : Int) (h : i.toNat < s.data.toList.length) : bt s i = ((s.data.toList[i.toNat]).toNat : Int) := by
  have h' : i.toNat < s.size := h
  unfold bt
  rw [dif_pos h']
  rfl
theorem dig (n : Nat) (h : n < 10) : (⟨#[48, 49, 50, 51, 52, 53, 54, 55, 56, 57]⟩ : ByteArray).extract n (n + 1) = ⟨#[UInt8.ofNat (48 + n)]⟩ := by
  have c : n = 0 ∨ n = 1 ∨ n = 2 ∨ n = 3 ∨ n = 4 ∨ n = 5 ∨ n = 6 ∨ n = 7 ∨ n = 8 ∨ n = 9 := by omega
  rcases c with rfl | rfl | rfl | rfl | rfl | rfl | rfl | rfl | rfl | rfl <;> decide +kernel
theorem one_size (b : UInt8) : (⟨#[b]⟩ : ByteArray).size = 1 := rfl
def numT (l : List UInt8) : ByteArray := ⟨l.toArray⟩
theorem numT_append (a b : List UInt8) : numT (a ++ b) = numT a ++ numT b := by
  unfold numT
  apply ByteArray.ext
  rw [ByteArray.data_append]
  simp
theorem numT_size (a : List UInt8) : (numT a).size = a.length := by
  show a.toArray.size = a.length
  simp
theorem digits_len (n : Nat) : (Lib.decDigits n).length ≤ n + 1 := by
  induction n using Nat.strongRecOn with
  | ind n ih =>
    rw [Lib.decDigits]
    split
    · simp
    · rw [List.length_append, List.length_singleton]
      have := ih (n / 10) (by omega)
      omega
theorem l1Num_ev (n : Nat) (h : n ≤ 1000000) : Ev (fun k => spec_l1Num.f k (n : Int)) (numT (Lib.decDigits n)) := by
  induction n using Nat.strongRecOn with
  | ind n ih =>
    refine Ev.step (fun k => rfl) ?_
    simp only [spec_l1Num.f]
    refine ev_neg (by omega) ?_
    rw [Lib.decDigits]
    by_cases c : n < 10
    · rw [dif_pos c, wrap_in (x := (n : Int) + 1) (by omega) (by omega), show ((n : Int) + 1).toNat = n + 1 by omega, Int.toNat_natCast, dig n c]
      exact ev_pos (by omega) (ev_pos (by omega) (ev_pos (by omega) (ev_pos (by omega) (Ev.now _))))
    · have e1 : Int.tmod (n : Int) 10 = ((n % 10 : Nat) : Int) := by rw [tmod_nn (by omega)]; omega
      have e2 : wrap64 (Int.tdiv (n : Int) 10) = ((n / 10 : Nat) : Int) := by rw [tdiv_nn (by omega), wrap_in (by omega) (by omega)]; omega
      have h2 := digits_len (n / 10)
      rw [dif_neg c]
      refine ev_neg (by omega) ?_
      rw [e1, e2, wrap_in (x := ((n % 10 : Nat) : Int) + 1) (by omega) (by omega), show (((n % 10 : Nat) : Int) + 1).toNat = n % 10 + 1 by omega, Int.toNat_natCast, dig (n % 10) (by omega), numT_append]
      refine Ev.bind (ih (n / 10) (by omega) (by omega)) ?_
      exact ev_pos (by omega) (ev_pos (by omega) (ev_pos (by omega) (ev_pos (by rw [one_size, numT_size]; omega) (Ev.now _))))
theorem l1Num_all (x : Int) (h0 : -1000000 ≤ x) (h1 : x ≤ 1000000) : Ev (fun k => spec_l1Num.f k x) (numT (Lib.itoa x)) := by
  unfold Lib.itoa
  by_cases c : x < 0
  · rw [if_pos c]
    obtain ⟨n, hn⟩ : ∃ n : Nat, -x = n := ⟨x.natAbs, by omega⟩
    have hx : x.natAbs = n := by omega
    have h2 := digits_len n
    refine Ev.step (fun k => rfl) ?_
    simp only [spec_l1Num.f]
    rw [hx, wrap_in (x := -x) (by omega) (by omega), hn, show (45 :: Lib.decDigits n) = [45] ++ Lib.decDigits n from rfl, numT_append]
    exact ev_pos c (Ev.bind (l1Num_ev n (by omega)) (ev_pos (by rw [numT_size]; omega) (Ev.now _)))
  · rw [if_neg c]
    obtain ⟨n, rfl⟩ : ∃ n : Nat, x = n := ⟨x.toNat, by omega⟩
    rw [Int.toNat_natCast]
    exact l1Num_ev n (by omega)
end Go.Proofs.YthcgeejoocpbmaaDoor.Pure
