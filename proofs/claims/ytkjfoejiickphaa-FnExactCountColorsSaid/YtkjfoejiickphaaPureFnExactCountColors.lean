/- For every chart-like argument the program's CountColors answers as the reference's, in memory of its own. -/
import Derived.Test.YtkjfoejiickphaaGx12
import Derived.Test.YtkjfoejiickphaaPBase
namespace Go.Proofs.Ytkjfoejiickphaa.Pure
open Go.RowKit Go.Proofs.Ytkjfoejiickphaa.G Go.Proofs.YtkjfoejiickphaaW.PrintWords Go.Proofs.YtkjfoejiickphaaW.PrintLast

def cnt (out xs : List Int) : List Int := xs.foldl (fun o c => o.set c.toNat (wrap64 (rd o c + 1))) out
theorem cnt_length : ∀ (xs out : List Int), (cnt out xs).length = out.length
  | [], _ => rfl
  | x :: xs, out => by
    have := cnt_length xs (out.set x.toNat (wrap64 (rd out x + 1)))
    simpa [cnt] using this
theorem drop_at (l : List Int) (n : Nat) (h : n < l.length) : l.drop n = rd l n :: l.drop (n + 1) := by
  rw [List.drop_eq_getElem_cons h, rd_at _ _ (by simpa using h)]
  simp
theorem rd_mem (l : List Int) (n : Nat) (h : n < l.length) : rd l n ∈ l := by
  rw [rd_at _ _ (by simpa using h)]
  exact List.getElem_mem _
theorem spec_cnt (w h : Int) (l : List Int) (hl : l.length ≤ 1048576) (hx : ∀ x ∈ l, 0 ≤ x ∧ x ≤ 5) (d : Nat) : ∀ (k : Nat) (out : List Int) (i : Int), out.length = 6 → 0 ≤ i → i + d = l.length → d < k → spec_CountColors.l0 k out i w h l = some (cnt out (l.drop i.toNat), true) := by
  induction d with
  | zero =>
    intro k out i ho h0 h1 hk
    obtain ⟨k, rfl⟩ : ∃ q, k = q + 1 := ⟨k - 1, by omega⟩
    simp only [spec_CountColors.l0]
    rw [if_neg (by omega), List.drop_eq_nil_of_le (by omega)]
    rfl
  | succ d ih =>
    intro k out i ho h0 h1 hk
    obtain ⟨k, rfl⟩ : ∃ q, k = q + 1 := ⟨k - 1, by omega⟩
    obtain ⟨n, rfl⟩ : ∃ n : Nat, i = n := ⟨i.toNat, by omega⟩
    have hb := hx _ (rd_mem l n (by omega))
    simp only [spec_CountColors.l0, Int.toNat_natCast]
    rw [if_pos (by omega), if_pos h0, if_pos (by omega), if_pos (by omega), wrap_in (x := (n : Int) + 1) (by omega) (by omega), ih k _ ((n : Int) + 1) (by simpa using ho) (by omega) (by omega) (by omega), show ((n : Int) + 1).toNat = n + 1 by omega, drop_at l n (by omega)]
    rfl
theorem impl_cnt (l : List Int) (hl : l.length ≤ 1048576) (hx : ∀ x ∈ l, 0 ≤ x ∧ x ≤ 5) (d : Nat) : ∀ (k : Nat) (out : List Int) (i : Int), out.length = 6 → 0 ≤ i → i + d = l.length → d < k → impl_Chart_colors.l0 k out l (l.length : Int) i = some (cnt out (l.drop i.toNat)) := by
  induction d with
  | zero =>
    intro k out i ho h0 h1 hk
    obtain ⟨k, rfl⟩ : ∃ q, k = q + 1 := ⟨k - 1, by omega⟩
    simp only [impl_Chart_colors.l0]
    rw [if_neg (by omega), List.drop_eq_nil_of_le (by omega)]
    rfl
  | succ d ih =>
    intro k out i ho h0 h1 hk
    obtain ⟨k, rfl⟩ : ∃ q, k = q + 1 := ⟨k - 1, by omega⟩
    obtain ⟨n, rfl⟩ : ∃ n : Nat, i = n := ⟨i.toNat, by omega⟩
    have hb := hx _ (rd_mem l n (by omega))
    simp only [impl_Chart_colors.l0, Int.toNat_natCast]
    rw [if_pos (by omega), if_pos h0, if_pos (by omega), if_pos (by omega), if_pos (by omega), wrap_in (x := (n : Int) + 1) (by omega) (by omega), ih k _ ((n : Int) + 1) (by simpa using ho) (by omega) (by omega) (by omega), show ((n : Int) + 1).toNat = n + 1 by omega, drop_at l n (by omega)]
    rfl
theorem CountColors_both (w h : Int) (l : List Int) (hl : l.length ≤ 1048576) : ∃ r : List Int × Bool, r.1.length ≤ 4096 ∧ ∀ k, l.length < k → spec_CountColors.f k w h l = some r ∧ impl_CountColors.f k w h l = some r := by
  cases g : goodB w h l with
  | false =>
    refine ⟨([], false), by simp, fun k hk => ⟨?_, ?_⟩⟩
    · unfold spec_CountColors.f; rw [l2Good_eq w h l hl k hk, g]; rfl
    · unfold impl_CountColors.f; rw [IsChart_eq, g]; rfl
  | true =>
    obtain ⟨w1, w2, h1, h2, e, e64, hx⟩ := good_parts g
    refine ⟨(cnt (List.replicate 6 0) l, true), by rw [cnt_length]; simp, fun k hk => ⟨?_, ?_⟩⟩
    · unfold spec_CountColors.f; rw [l2Good_eq w h l hl k hk, g]
      simp only [Option.bind_some, if_true]
      rw [if_pos (by omega), spec_cnt w h l hl hx l.length k _ 0 (by simp) (by omega) (by omega) hk]; rfl
    · unfold impl_CountColors.f impl_Chart_colors.f; rw [IsChart_eq, g]
      simp only [Option.bind_some, if_true]
      rw [if_pos (by omega), impl_cnt l hl hx l.length k _ 0 (by simp) (by omega) (by omega) hk]; rfl
theorem FnExactCountColors (w h : Int) (l : List Int) (_ : (-9223372036854775808 ≤ w ∧ w ≤ 9223372036854775807)) (_ : (-9223372036854775808 ≤ h ∧ h ≤ 9223372036854775807))
    (hl : l.length ≤ 9223372036854775807 ∧ ∀ y ∈ l, (-9223372036854775808 ≤ y ∧ y ≤ 9223372036854775807)) : ∃ k, laws_FnExactCountColors.f k w h l = some true := by
  unfold laws_FnExactCountColors.f
  rw [szChart_eq w h l 1048576 (by omega) (by omega) hl.1]
  simp only [Option.bind_some]
  by_cases hs : (1048576 : Int) < l.length
  · refine ⟨0, ?_⟩
    rw [if_pos hs, if_pos (by omega)]
  · rw [if_neg hs]
    simp only [if_neg (show ¬ ((1048576 : Int) - (l.length : Int) < 0) by omega)]
    obtain ⟨⟨r1, r2⟩, hrl, hr⟩ := CountColors_both w h l (by omega)
    dsimp only at hrl
    obtain ⟨B, hB⟩ : ∃ B, 3000000 ≤ B := ⟨_, Nat.le_refl _⟩
    refine ⟨B + 1 + 1 + 1, ?_⟩
    repeat (first
      | rfl
      | refine bs_ (toChart_eq w h l (by omega) _ (by omega)) ?_
      | refine bs_ ((hr _ (by omega)).1) ?_
      | refine bs_ ((hr _ (by omega)).2) ?_
      | refine bs_ (eqIntS_eq r1 (by omega) _ (by omega)) ?_
      | refine bs_ (eqChart_eq w h l (by omega) _ (by omega)) ?_
      | refine bs_ (markChart_eq w h l 1 (by omega) (by omega) (by omega) _ (by omega)) ?_
      | refine bs_ (markIntS_eq r1 1 (by omega) (by omega) (by omega) _ (by omega)) ?_
      | refine bs_ (heldIntS_eq r1.length 1 (by omega) (by omega) (by omega) _ (by omega)) ?_
      | refine it_ rfl ?_
      | (refine ie_ ?hc ?_; (case hc => first | omega | (dsimp only; omega) | (simp; done)))
      | rw [laws_FnExactCountColors.j0]
      | rw [laws_FnExactCountColors.j1]
      | rw [laws_FnExactCountColors.j2])
end Go.Proofs.Ytkjfoejiickphaa.Pure
