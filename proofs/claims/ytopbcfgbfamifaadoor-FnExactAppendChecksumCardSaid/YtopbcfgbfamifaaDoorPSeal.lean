/- Plain facts on checksums and seals. -/
import Derived.Test.YtopbcfgbfamifaaDoorGx1
import Derived.Test.YtopbcfgbfamifaaDoorGx2
import Derived.Test.YtopbcfgbfamifaaDoorPNum
namespace Go.Proofs.YtopbcfgbfamifaaDoor.Pure
open Go.RowKit Go.Proofs.YtopbcfgbfamifaaDoor.G Go.Proofs.YtopbcfgbfamifaaDoorW.PrintWords Go.Proofs.YtopbcfgbfamifaaDoorW.PrintLast
set_option linter.unusedSimpArgs false
set_option linter.unusedVariables false

/-! ### a byte that stands in a string -/
def stands (c : UInt8) (s : ByteArray) : Bool := s.data.toList.contains c
theorem bt_list (s : ByteArray) (i : Int) (h : i.toNat < s.data.toList.length) : bt s i = ((s.data.toList[i.toNat]).toNat : Int) := by
  have h' : i.toNat < s.size := h
  unfold bt
  rw [dif_pos h']
  rfl
theorem l1Stands_l0 (s : ByteArray) (c : UInt8) (hs : s.size ≤ 9223372036854775807) (d : Nat) : ∀ (i : Int), 0 ≤ i → i + d = s.size →
    Ev (fun k => spec_l1Stands.l0 k s (c.toNat : Int) i) ((s.data.toList.drop i.toNat).contains c) := by
  have hz : s.data.toList.length = s.size := rfl
  induction d with
  | zero =>
    intro i h0 h1
    refine Ev.step (fun k => rfl) ?_
    simp only [spec_l1Stands.l0]
    rw [List.drop_eq_nil_of_le (by omega)]
    exact ev_neg (by omega) (Ev.now _)
  | succ d ih =>
    intro i h0 h1
    have hi : i.toNat < s.data.toList.length := by omega
    refine Ev.step (fun k => rfl) ?_
    simp only [spec_l1Stands.l0]
    rw [List.drop_eq_getElem_cons hi, List.contains_cons, bt_list s i hi, wrap_in (x := i + 1) (by omega) (by omega)]
    refine ev_pos (by omega) (ev_pos h0 ?_)
    by_cases q : s.data.toList[i.toNat] = c
    · refine ev_val ?_ (ev_pos (by rw [q]) (Ev.now true))
      rw [q]
      simp
    · refine ev_val ?_ (ev_neg (fun e => q (UInt8.toNat_inj.mp (by omega))) (ih (i + 1) (by omega) (by omega)))
      rw [show (i + 1).toNat = i.toNat + 1 by omega, show (c == s.data.toList[i.toNat]) = false by simpa [beq_eq_false_iff_ne] using fun e => q e.symm, Bool.false_or]
theorem l1Stands_ev (s : ByteArray) (c : UInt8) (hs : s.size ≤ 9223372036854775807) : Ev (fun k => spec_l1Stands.f k s (c.toNat : Int)) (stands c s) := by
  unfold spec_l1Stands.f
  exact l1Stands_l0 s c hs s.size 0 (by omega) (by omega)
theorem contains_eq (s : ByteArray) (c : UInt8) : strings_Contains.f s ⟨#[c]⟩ = some (stands c s) := by
  unfold strings_Contains.f stands
  rw [if_pos (show (⟨#[c]⟩ : ByteArray).size = 1 from rfl)]
  rfl
theorem bt_in (s : ByteArray) (i : Int) : 0 ≤ bt s i ∧ bt s i ≤ 255 := by
  unfold bt
  split
  · rename_i h
    have := (s[i.toNat]'h).toNat_lt
    omega
  · omega
theorem sum_both (s : ByteArray) (hs : s.size ≤ 1048576) (d : Nat) : ∀ (h i : Int), 0 ≤ h → h < 999979 → 0 ≤ i → i + d = s.size →
    ∃ r : Int, Ev (fun k => spec_l1Sum.l0 k s h i) r ∧ Ev (fun k => impl_Checksum.l0 k s h (s.size : Int) i) (r, true) ∧ 0 ≤ r ∧ r < 999979 := by
  induction d with
  | zero =>
    intro h i a0 a1 h0 h1
    refine ⟨h, Ev.step (fun k => rfl) ?_, Ev.step (fun k => rfl) ?_, a0, a1⟩
    · simp only [spec_l1Sum.l0]
      exact ev_neg (by omega) (Ev.now _)
    · simp only [impl_Checksum.l0]
      exact ev_neg (by omega) (Ev.now _)
  | succ d ih =>
    intro h i a0 a1 h0 h1
    obtain ⟨b0, b1⟩ := bt_in s i
    obtain ⟨r, r1, r2, r3⟩ := ih ((41 * h + bt s i + 1) % 999979) (i + 1) (by omega) (by omega) (by omega) (by omega)
    refine ⟨r, Ev.step (fun k => rfl) ?_, Ev.step (fun k => rfl) ?_, r3⟩
    · simp only [spec_l1Sum.l0]
      rw [wrap_in (x := 41 * h) (by omega) (by omega), wrap_in (x := bt s i) (by omega) (by omega), wrap_in (x := 41 * h + bt s i) (by omega) (by omega), wrap_in (x := 41 * h + bt s i + 1) (by omega) (by omega), tmod_nn (by omega), wrap_in (x := i + 1) (by omega) (by omega)]
      exact ev_pos (by omega) (ev_pos h0 r1)
    · simp only [impl_Checksum.l0]
      rw [wrap_in (x := 41 * h) (by omega) (by omega), wrap_in (x := bt s i) (by omega) (by omega), wrap_in (x := 41 * h + bt s i) (by omega) (by omega), wrap_in (x := 41 * h + bt s i + 1) (by omega) (by omega), tmod_nn (by omega), wrap_in (x := i + 1) (by omega) (by omega)]
      exact ev_pos (by omega) (ev_pos h0 (ev_pos (by omega) r2))
theorem sign_size : (⟨#[35]⟩ : ByteArray).size = 1 := rfl
theorem itoa_size (x : Int) (h0 : 0 ≤ x) (h1 : x < 999979) : (numT (Lib.itoa x)).size ≤ 999979 := by
  unfold Lib.itoa
  rw [if_neg (by omega), numT_size]
  have := digits_len x.toNat
  omega
def sealT (s : ByteArray) (r : Int) : ByteArray := (s ++ (⟨#[35]⟩ : ByteArray)) ++ numT (Lib.itoa r)
theorem seal_ev (s : ByteArray) (hs : s.size ≤ 1048576) (r : Int) (hr : Ev (fun k => spec_l1Sum.f k s) r) (r0 : 0 ≤ r) (r1 : r < 999979) : Ev (fun k => spec_l1Seal.f k s) (sealT s r) := by
  have := itoa_size r r0 r1
  unfold spec_l1Seal.f
  refine ev_pos (by omega) (Ev.bind hr (Ev.bind (l1Num_all r (by omega) (by omega)) (ev_pos ?_ (Ev.now _))))
  rw [ByteArray.size_append, sign_size]
  omega
theorem AppendChecksum_both (s : ByteArray) (hs : s.size ≤ 1048576) : ∃ r : ByteArray × Bool, Ev (fun k => spec_AppendChecksum.f k s) r ∧ Ev (fun k => impl_AppendChecksum.f k s) r := by
  obtain ⟨r, r1, r2, r3, r4⟩ := sum_both s hs s.size 7 0 (by omega) (by omega) (by omega) (by omega)
  have hz := itoa_size r r3 r4
  have hz0 := itoa_size 0 (by omega) (by omega)
  have h1 : Ev (fun k => spec_l1Stands.f k s 35) (stands 35 s) := l1Stands_ev s 35 (by omega)
  have hseal := seal_ev s hs r r1 r3 r4
  have ok : ∀ x : Int, 0 ≤ x → x < 999979 → (s ++ (⟨#[35]⟩ : ByteArray)).size + (numT (Lib.itoa x)).size ≤ 9223372036854775807 := by
    intro x x0 x1
    have := itoa_size x x0 x1
    rw [ByteArray.size_append, sign_size]
    omega
  unfold spec_AppendChecksum.f impl_AppendChecksum.f impl_Checksum.f
  simp only [contains_eq, Option.bind_some]
  by_cases c : (s.size : Int) > 4000
  · refine ⟨((⟨#[]⟩ : ByteArray), false), ev_pos c (Ev.now _), Ev.bind (ev_pos c (Ev.now _)) (ev_pos (by omega) ?_)⟩
    rw [decimal_eq 0 (by omega) (by omega)]
    simp only [Option.bind_some]
    exact ev_pos (ok 0 (by omega) (by omega)) (ev_neg (by simp) (Ev.now _))
  · have h2 : Ev (fun k => if (s.size : Int) > 4000 then some ((0 : Int), false) else impl_Checksum.l0 k s 7 (s.size : Int) 0) (r, true) := ev_neg c r2
    cases hst : stands 35 s with
    | true =>
      refine ⟨((⟨#[]⟩ : ByteArray), false), ev_neg c (Ev.bind (ev_val hst h1) (ev_pos rfl (Ev.now _))), Ev.bind h2 (ev_pos (by omega) ?_)⟩
      dsimp only
      rw [decimal_eq r (by omega) (by omega)]
      simp only [Option.bind_some]
      exact ev_pos (ok r r3 r4) (ev_pos (by trivial) (ev_pos (by trivial) (Ev.now _)))
    | false =>
      by_cases q : ((sealT s r).size : Int) > 4000
      · refine ⟨((⟨#[]⟩ : ByteArray), false), ev_neg c (Ev.bind (ev_val hst h1) (ev_neg (by simp) (Ev.bind hseal (ev_pos q (Ev.now _))))), Ev.bind h2 (ev_pos (by omega) ?_)⟩
        dsimp only
        rw [decimal_eq r (by omega) (by omega)]
        simp only [Option.bind_some]
        exact ev_pos (ok r r3 r4) (ev_pos (by trivial) (ev_neg (by simp) (ev_pos q (Ev.now _))))
      · refine ⟨(sealT s r, true), ev_neg c (Ev.bind (ev_val hst h1) (ev_neg (by simp) (Ev.bind hseal (ev_neg q (Ev.bind hseal (Ev.now _)))))), Ev.bind h2 (ev_pos (by omega) ?_)⟩
        dsimp only
        rw [decimal_eq r (by omega) (by omega)]
        simp only [Option.bind_some]
        exact ev_pos (ok r r3 r4) (ev_pos (by trivial) (ev_neg (by simp) (ev_neg q (Ev.now _))))
end Go.Proofs.YtopbcfgbfamifaaDoor.Pure
