/- Plain facts on numbers as text. -/
import Derived.Test.YthcgeejoocpbmaaDoorGx4
import Derived.Test.YthcgeejoocpbmaaDoorPBase
namespace Go.Proofs.YthcgeejoocpbmaaDoor.Pure
open Go.RowKit Go.Proofs.YthcgeejoocpbmaaDoor.G Go.Proofs.YthcgeejoocpbmaaDoorW.PrintWords Go.Proofs.YthcgeejoocpbmaaDoorW.PrintLast
set_option linter.unusedSimpArgs false
set_option linter.unusedVariables false

/-! ### a byte that stands in a string -/
def stands (c : UInt8) (s : ByteArray) : Bool := s.data.toList.contains c
theorem bt_list (s : ByteArray) (i : Int) (h : i.toNat < s.data.toList.length) : bt s i = ((s.data.toList[i.toNat]).toNat : Int) := by
  have h' : i.toNat < s.size := h
  unfold bt
  rw [dif_pos h']
  rfl
theorem dig (n : Nat) (h : n < 10) : (⟨#[48, 49, 50, 51, 52, 53, 54, 55, 56, 57]⟩ : ByteArray).extract n (n + 1) = ⟨#[UInt8.ofNat (48 + n)]⟩ := by
  have c : n = 0 ∨ n = 1 ∨ n = 2 ∨ n = 3 ∨ n = 4 ∨ n = 5 ∨ n = 6 ∨ n = 7 ∨ n = 8 ∨ n = 9 := by omega
  rcases c with rfl | rfl | rfl | rfl | rfl | rfl | rfl | rfl | rfl | rfl <;> decide +kernel
theorem one_size (b : UInt8) : (⟨#[b]⟩ : ByteArray).size = 1 := rfl
def numT (l : List UInt8) : ByteArray := ⟨l.toArray⟩
theorem numT_append (a b : List UInt8) : numT (a ++ b) = numT a ++ numT b := by
  unfold numT
  apply ByteArray.ext
  rw [ByteArray.data_append]
  simp
theorem numT_size (a : List UInt8) : (numT a).size = a.length := by
  show a.toArray.size = a.length
  simp
theorem digits_len (n : Nat) : (Lib.decDigits n).length ≤ n + 1 := by
  induction n using Nat.strongRecOn with
  | ind n ih =>
    rw [Lib.decDigits]
    split
    · simp
    · rw [List.length_append, List.length_singleton]
      have := ih (n / 10) (by omega)
      omega
theorem l1Num_ev (n : Nat) (h : n ≤ 1000000) : Ev (fun k => spec_l1Num.f k (n : Int)) (numT (Lib.decDigits n)) := by
  induction n using Nat.strongRecOn with
  | ind n ih =>
    refine Ev.step (fun k => rfl) ?_
    simp only [spec_l1Num.f]
    refine ev_neg (by omega) ?_
    rw [Lib.decDigits]
    by_cases c : n < 10
    · rw [dif_pos c, wrap_in (x := (n : Int) + 1) (by omega) (by omega), show ((n : Int) + 1).toNat = n + 1 by omega, Int.toNat_natCast, dig n c]
      exact ev_pos (by omega) (ev_pos (by omega) (ev_pos (by omega) (ev_pos (by omega) (Ev.now _))))
    · have e1 : Int.tmod (n : Int) 10 = ((n % 10 : Nat) : Int) := by rw [tmod_nn (by omega)]; omega
      have e2 : wrap64 (Int.tdiv (n : Int) 10) = ((n / 10 : Nat) : Int) := by rw [tdiv_nn (by omega), wrap_in (by omega) (by omega)]; omega
      have h2 := digits_len (n / 10)
      rw [dif_neg c]
      refine ev_neg (by omega) ?_
      rw [e1, e2, wrap_in (x := ((n % 10 : Nat) : Int) + 1) (by omega) (by omega), show (((n % 10 : Nat) : Int) + 1).toNat = n % 10 + 1 by omega, Int.toNat_natCast, dig (n % 10) (by omega), numT_append]
      refine Ev.bind (ih (n / 10) (by omega) (by omega)) ?_
      exact ev_pos (by omega) (ev_pos (by omega) (ev_pos (by omega) (ev_pos (by rw [one_size, numT_size]; omega) (Ev.now _))))
theorem l1Num_all (x : Int) (h0 : -1000000 ≤ x) (h1 : x ≤ 1000000) : Ev (fun k => spec_l1Num.f k x) (numT (Lib.itoa x)) := by
  unfold Lib.itoa
  by_cases c : x < 0
  · rw [if_pos c]
    obtain ⟨n, hn⟩ : ∃ n : Nat, -x = n := ⟨x.natAbs, by omega⟩
    have hx : x.natAbs = n := by omega
    have h2 := digits_len n
    refine Ev.step (fun k => rfl) ?_
    simp only [spec_l1Num.f]
    rw [hx, wrap_in (x := -x) (by omega) (by omega), hn, show (45 :: Lib.decDigits n) = [45] ++ Lib.decDigits n from rfl, numT_append]
    exact ev_pos c (Ev.bind (l1Num_ev n (by omega)) (ev_pos (by rw [numT_size]; omega) (Ev.now _)))
  · rw [if_neg c]
    obtain ⟨n, rfl⟩ : ∃ n : Nat, x = n := ⟨x.toNat, by omega⟩
    rw [Int.toNat_natCast]
    exact l1Num_ev n (by omega)
end Go.Proofs.YthcgeejoocpbmaaDoor.Pure
