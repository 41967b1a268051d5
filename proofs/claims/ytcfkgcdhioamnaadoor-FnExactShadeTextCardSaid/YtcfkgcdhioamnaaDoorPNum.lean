/- Plain facts on numbers below a hundred as texts. -/
import Derived.Test.YtcfkgcdhioamnaaDoorGx10
import Derived.Test.YtcfkgcdhioamnaaDoorGx8
import Derived.Test.YtcfkgcdhioamnaaDoorPBase
namespace Go.Proofs.YtcfkgcdhioamnaaDoor.Pure
open Go.RowKit Go.Proofs.YtcfkgcdhioamnaaDoor.G Go.Proofs.YtcfkgcdhioamnaaDoorW.PrintWords Go.Proofs.YtcfkgcdhioamnaaDoorW.PrintLast
set_option linter.unusedSimpArgs false
set_option linter.unusedVariables false

theorem dig (n : Nat) (h : n < 10) : (⟨#[48, 49, 50, 51, 52, 53, 54, 55, 56, 57]⟩ : ByteArray).extract n (n + 1) = ⟨#[UInt8.ofNat (48 + n)]⟩ := by
  have c : n = 0 ∨ n = 1 ∨ n = 2 ∨ n = 3 ∨ n = 4 ∨ n = 5 ∨ n = 6 ∨ n = 7 ∨ n = 8 ∨ n = 9 := by omega
  rcases c with rfl | rfl | rfl | rfl | rfl | rfl | rfl | rfl | rfl | rfl <;> decide +kernel
theorem one_size (b : UInt8) : (⟨#[b]⟩ : ByteArray).size = 1 := rfl
/-- A number's decimal text. -/
def numT (n : Int) : ByteArray := ⟨(Lib.decDigits n.toNat).toArray⟩
theorem numT_small (n : Nat) (h : n < 10) : numT (n : Int) = ⟨#[UInt8.ofNat (48 + n)]⟩ := by
  unfold numT
  rw [Int.toNat_natCast, Lib.decDigits, dif_pos h]
theorem numT_big (n : Nat) (h : ¬ n < 10) (h2 : n < 100) : numT (n : Int) = ⟨#[UInt8.ofNat (48 + n / 10), UInt8.ofNat (48 + n % 10)]⟩ := by
  unfold numT
  rw [Int.toNat_natCast, Lib.decDigits, dif_neg h, Lib.decDigits, dif_pos (by omega)]
  rfl
theorem numT_size (x : Int) (h0 : 0 ≤ x) (h1 : x < 100) : (numT x).size ≤ 2 := by
  obtain ⟨n, rfl⟩ : ∃ n : Nat, x = n := ⟨x.toNat, by omega⟩
  by_cases c : n < 10
  · rw [numT_small n c]; show 1 ≤ 2; omega
  · rw [numT_big n c (by omega)]; exact Nat.le_refl 2
theorem l1Num_one (n : Nat) (h : n < 10) (k : Nat) : spec_l1Num.f (k + 1) (n : Int) = some ⟨#[UInt8.ofNat (48 + n)]⟩ := by
  simp only [spec_l1Num.f]
  rw [if_neg (by omega), if_pos (by omega), if_pos (by omega), wrap_in (x := (n : Int) + 1) (by omega) (by omega), if_pos (by omega), if_pos (by omega), show ((n : Int) + 1).toNat = n + 1 by omega, Int.toNat_natCast, dig n h]
theorem l1Num_ev (x : Int) (h0 : 0 ≤ x) (h1 : x < 100) : Ev (fun k => spec_l1Num.f k x) (numT x) := by
  obtain ⟨n, rfl⟩ : ∃ n : Nat, x = n := ⟨x.toNat, by omega⟩
  by_cases c : n < 10
  · refine ⟨1, fun k hk => ?_⟩
    obtain ⟨k, rfl⟩ : ∃ m, k = m + 1 := ⟨k - 1, by omega⟩
    rw [numT_small n c]
    exact l1Num_one n c k
  · refine ⟨2, fun k hk => ?_⟩
    obtain ⟨k, rfl⟩ : ∃ m, k = m + 1 + 1 := ⟨k - 2, by omega⟩
    rw [numT_big n c (by omega)]
    show spec_l1Num.f (k + 1 + 1) (n : Int) = _
    rw [spec_l1Num.f]
    have e1 : Int.tmod (n : Int) 10 = ((n % 10 : Nat) : Int) := by rw [tmod_nn (by omega)]; omega
    have e2 : wrap64 (Int.tdiv (n : Int) 10) = ((n / 10 : Nat) : Int) := by rw [tdiv_nn (by omega), wrap_in (by omega) (by omega)]; omega
    rw [if_neg (by omega), if_neg (by omega), e1, e2, l1Num_one (n / 10) (by omega) k, Option.bind_some, if_pos (by omega), wrap_in (x := ((n % 10 : Nat) : Int) + 1) (by omega) (by omega), if_pos (by omega), if_pos (by omega), show (((n % 10 : Nat) : Int) + 1).toNat = n % 10 + 1 by omega, Int.toNat_natCast, dig (n % 10) (by omega), one_size, one_size, if_pos (by omega)]
    rfl
theorem decimal_eq (x : Int) (h0 : 0 ≤ x) (h1 : x < 100) : impl_decimal.f x = some (numT x) := by
  unfold impl_decimal.f numT
  rw [if_pos ⟨h0, h1⟩]
end Go.Proofs.YtcfkgcdhioamnaaDoor.Pure
