/- Plain facts on checksums. -/
import Derived.Test.YtehbjmcbpmoonaaDoorGx2
import Derived.Test.YtehbjmcbpmoonaaDoorGx3
import Derived.Test.YtehbjmcbpmoonaaDoorPNum
namespace Go.Proofs.YtehbjmcbpmoonaaDoor.Pure
open Go.RowKit Go.Proofs.YtehbjmcbpmoonaaDoor.G Go.Proofs.YtehbjmcbpmoonaaDoorW.PrintWords Go.Proofs.YtehbjmcbpmoonaaDoorW.PrintLast
set_option linter.unusedSimpArgs false
set_option linter.unusedVariables false

/-! ### a byte that stands in a string -/
def stands (c : UInt8) (s : ByteArray) : Bool := s.data.toList.contains c
theorem bt_list (s : ByteArray) (i : Int) (h : i.toNat < s.data.toList.length) : bt s i = ((s.data.toList[i.toNat]).toNat : Int) := by
  have h' : i.toNat < s.size := h
  unfold bt
  rw [dif_pos h']
  rfl
theorem contains_eq (s : ByteArray) (c : UInt8) : strings_Contains.f s ⟨#[c]⟩ = some (stands c s) := by
  unfold strings_Contains.f stands
  rw [if_pos (show (⟨#[c]⟩ : ByteArray).size = 1 from rfl)]
  rfl
theorem bt_in (s : ByteArray) (i : Int) : 0 ≤ bt s i ∧ bt s i ≤ 255 := by
  unfold bt
  split
  · rename_i h
    have := (s[i.toNat]'h).toNat_lt
    omega
  · omega
theorem sum_both (s : ByteArray) (hs : s.size ≤ 1048576) (d : Nat) : ∀ (h i : Int), 0 ≤ h → h < 999979 → 0 ≤ i → i + d = s.size →
    ∃ r : Int, Ev (fun k => spec_l1Sum.l0 k s h i) r ∧ Ev (fun k => impl_Checksum.l0 k s h (s.size : Int) i) (r, true) ∧ 0 ≤ r ∧ r < 999979 := by
  induction d with
  | zero =>
    intro h i a0 a1 h0 h1
    refine ⟨h, Ev.step (fun k => rfl) ?_, Ev.step (fun k => rfl) ?_, a0, a1⟩
    · simp only [spec_l1Sum.l0]
      exact ev_neg (by omega) (Ev.now _)
    · simp only [impl_Checksum.l0]
      exact ev_neg (by omega) (Ev.now _)
  | succ d ih =>
    intro h i a0 a1 h0 h1
    obtain ⟨b0, b1⟩ := bt_in s i
    obtain ⟨r, r1, r2, r3⟩ := ih ((41 * h + bt s i + 1) % 999979) (i + 1) (by omega) (by omega) (by omega) (by omega)
    refine ⟨r, Ev.step (fun k => rfl) ?_, Ev.step (fun k => rfl) ?_, r3⟩
    · simp only [spec_l1Sum.l0]
      rw [wrap_in (x := 41 * h) (by omega) (by omega), wrap_in (x := bt s i) (by omega) (by omega), wrap_in (x := 41 * h + bt s i) (by omega) (by omega), wrap_in (x := 41 * h + bt s i + 1) (by omega) (by omega), tmod_nn (by omega), wrap_in (x := i + 1) (by omega) (by omega)]
      exact ev_pos (by omega) (ev_pos h0 r1)
    · simp only [impl_Checksum.l0]
      rw [wrap_in (x := 41 * h) (by omega) (by omega), wrap_in (x := bt s i) (by omega) (by omega), wrap_in (x := 41 * h + bt s i) (by omega) (by omega), wrap_in (x := 41 * h + bt s i + 1) (by omega) (by omega), tmod_nn (by omega), wrap_in (x := i + 1) (by omega) (by omega)]
      exact ev_pos (by omega) (ev_pos h0 (ev_pos (by omega) r2))
theorem sign_size : (⟨#[35]⟩ : ByteArray).size = 1 := rfl
theorem itoa_size (x : Int) (h0 : 0 ≤ x) (h1 : x < 999979) : (numT (Lib.itoa x)).size ≤ 999979 := by
  unfold Lib.itoa
  rw [if_neg (by omega), numT_size]
  have := digits_len x.toNat
  omega
def sealT (s : ByteArray) (r : Int) : ByteArray := (s ++ (⟨#[35]⟩ : ByteArray)) ++ numT (Lib.itoa r)
theorem seal_ev (s : ByteArray) (hs : s.size ≤ 1048576) (r : Int) (hr : Ev (fun k => spec_l1Sum.f k s) r) (r0 : 0 ≤ r) (r1 : r < 999979) : Ev (fun k => spec_l1Seal.f k s) (sealT s r) := by
  have := itoa_size r r0 r1
  unfold spec_l1Seal.f
  refine ev_pos (by omega) (Ev.bind hr (Ev.bind (l1Num_all r (by omega) (by omega)) (ev_pos ?_ (Ev.now _))))
  rw [ByteArray.size_append, sign_size]
  omega
end Go.Proofs.YtehbjmcbpmoonaaDoor.Pure
