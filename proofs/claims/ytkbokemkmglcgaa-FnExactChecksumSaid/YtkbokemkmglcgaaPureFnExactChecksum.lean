/- For any string the program's Checksum agrees with the reference's. No further condition. -/
import Derived.Test.YtkbokemkmglcgaaPFnExactChecksumx1
namespace Go.Proofs.Ytkbokemkmglcgaa.Pure
open Go.RowKit Go.Proofs.Ytkbokemkmglcgaa.PFnExactChecksum Go.Proofs.YtkbokemkmglcgaaW.PrintWords Go.Proofs.YtkbokemkmglcgaaW.PrintLast

/-- From a place on, both loops come to one sum. -/
theorem sums (s : ByteArray) (hn : s.size ≤ 1048576) (d : Nat) : ∀ (k : Nat) (h i : Int), 0 ≤ i → i + d = (s.size : Int) → d < k →
    ∃ r, spec_l1Sum.l0 k s h i = some r ∧ impl_Checksum.l0 k s h (s.size : Int) i = some (r, true) := by
  induction d with
  | zero =>
    intro k h i h0 h1 hd
    obtain ⟨k, rfl⟩ : ∃ m, k = m + 1 := ⟨k - 1, by omega⟩
    refine ⟨h, ?_, ?_⟩
    · simp only [spec_l1Sum.l0]; rw [if_neg (by omega)]
    · simp only [impl_Checksum.l0]; rw [if_neg (by omega)]
  | succ d ih =>
    intro k h i h0 h1 hd
    obtain ⟨k, rfl⟩ : ∃ m, k = m + 1 := ⟨k - 1, by omega⟩
    have hlt : i < (s.size : Int) := by omega
    have hw : wrap64 (i + 1) = i + 1 := by unfold wrap64; omega
    simp only [spec_l1Sum.l0, impl_Checksum.l0]
    rw [if_pos hlt, if_pos h0, if_pos hlt, if_pos h0, if_pos hlt, hw]
    exact ih k _ (i + 1) (by omega) (by omega) (by omega)

theorem FnExactChecksum : laws_FnExactChecksum.Pure := by
  intro a0 hs
  refine ⟨a0.size + 1, ?_⟩
  unfold laws_FnExactChecksum.f
  by_cases h : (a0.size : Int) > 1048576
  · rw [if_pos h]
  · rw [if_neg h]
    unfold spec_Checksum.f impl_Checksum.f spec_l1Sum.f
    by_cases h2 : (a0.size : Int) > 4000
    · simp [if_pos h2]
    · obtain ⟨r, h1, h2'⟩ := sums a0 (by omega) a0.size (a0.size + 1) 7 0 (by omega) (by omega) (by omega)
      rw [if_neg h2, if_neg h2, h1, h2']
      simp

end Go.Proofs.Ytkbokemkmglcgaa.Pure
