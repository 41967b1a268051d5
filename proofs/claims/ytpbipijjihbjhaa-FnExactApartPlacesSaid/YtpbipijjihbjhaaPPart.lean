/- Plain facts on parts of a chart: the reference's loops come to the program's list. -/
import Derived.Test.YtpbipijjihbjhaaGx3
import Derived.Test.YtpbipijjihbjhaaGx7
import Derived.Test.YtpbipijjihbjhaaGx8
import Derived.Test.YtpbipijjihbjhaaPPlace
namespace Go.Proofs.Ytpbipijjihbjhaa.Pure
open Go.RowKit Go.Proofs.Ytpbipijjihbjhaa.G Go.Proofs.YtpbipijjihbjhaaW.PrintWords Go.Proofs.YtpbipijjihbjhaaW.PrintLast
set_option linter.unusedSimpArgs false
set_option linter.unusedVariables false


theorem l2Part_row {w h : Int} {l : List Int} (g : goodB w h l = true) (a b ht wd i : Int) (p q : Int) (res : Int × Int × List Int) (ha : 0 ≤ a) (hb : 0 ≤ b) (hi : 0 ≤ i) (hi2 : i < ht) (h1 : a + ht ≤ h) (h2 : b + wd ≤ w) (d : Nat) :
    ∀ (j : Int) (acc : List Int), 0 ≤ j → j + d = wd → acc.length + d ≤ 100000 →
    (∃ k, spec_l2Part.l0 k a b ht wd (wrap64 (a + i + 1)) w h l p q (acc ++ (List.range d).map fun (c : Nat) => partG w l a b i (j + c)) = some res) → ∃ k, spec_l2Part.l1 k a b ht wd (a + i) (b + j) w h l p q acc = some res := by
  obtain ⟨w1, w2, e1, e2, e, _, _⟩ := good_parts g
  induction d with
  | zero =>
    intro j acc j0 j1 hl ⟨k, hk⟩
    refine ⟨k + 1, ?_⟩
    simp only [spec_l2Part.l1]
    rw [wrap_in (by omega) (by omega), if_neg (by omega)]
    simpa using hk
  | succ d ih =>
    intro j acc j0 j1 hl ⟨k, hk⟩
    have ee : acc ++ (List.range (d + 1)).map (fun (c : Nat) => partG w l a b i (j + c)) = (acc ++ [partG w l a b i j]) ++ (List.range d).map fun (c : Nat) => partG w l a b i (j + 1 + c) := by
      rw [List.range_succ_eq_map]
      simp only [List.map_cons, List.map_map, List.append_assoc, List.singleton_append, Int.natCast_zero, Int.add_zero]
      congr 2
      apply List.map_congr_left
      intro c _
      simp only [Function.comp]
      congr 1
      omega
    rw [ee] at hk
    obtain ⟨k2, hk2⟩ := ih (j + 1) (acc ++ [partG w l a b i j]) (by omega) (by omega) (by simp; omega) ⟨k, hk⟩
    refine ⟨k2 + 1, ?_⟩
    simp only [spec_l2Part.l1]
    rw [wrap_in (by omega) (by omega), if_pos (by omega), l2At_eq g (by omega) (by omega) (by omega) (by omega), Option.bind_some, if_pos (by omega), wrap_in (by omega) (by omega), show b + j + 1 = b + (j + 1) by omega]
    exact hk2
theorem l2Part_rows {w h : Int} {l : List Int} (g : goodB w h l = true) (a b ht wd : Int) (p q : Int) (ha : 0 ≤ a) (hb : 0 ≤ b) (hw : 0 ≤ wd) (h1 : a + ht ≤ h) (h2 : b + wd ≤ w) (d : Nat) :
    ∀ (i : Int) (acc : List Int), 0 ≤ i → i + d = ht → acc.length + d * 64 ≤ 90000 →
    ∃ k, spec_l2Part.l0 k a b ht wd (a + i) w h l p q acc = some (p, q, acc ++ (List.range d).flatMap fun (r : Nat) => (List.range wd.toNat).map fun (c : Nat) => partG w l a b (i + r) c) := by
  obtain ⟨w1, w2, e1, e2, e, _, _⟩ := good_parts g
  induction d with
  | zero =>
    intro i acc i0 i1 hl
    refine ⟨1, ?_⟩
    simp only [spec_l2Part.l0]
    rw [wrap_in (by omega) (by omega), if_neg (by omega)]
    simp
  | succ d ih =>
    intro i acc i0 i1 hl
    obtain ⟨k, hk⟩ := ih (i + 1) (acc ++ (List.range wd.toNat).map fun (c : Nat) => partG w l a b i c) (by omega) (by omega) (by simp; omega)
    obtain ⟨k2, hk2⟩ := l2Part_row g a b ht wd i p q (p, q, acc ++ (List.range (d + 1)).flatMap fun (r : Nat) => (List.range wd.toNat).map fun (c : Nat) => partG w l a b (i + r) c) ha hb i0 (by omega) h1 h2 wd.toNat 0 acc (by omega) (by omega) (by omega) ⟨k, by
      rw [wrap_in (by omega) (by omega), show a + i + 1 = a + (i + 1) by omega]
      simp only [Int.zero_add]
      rw [hk, List.range_succ_eq_map]
      simp only [List.flatMap_cons, List.flatMap_map, List.append_assoc, Int.natCast_zero, Int.add_zero]
      congr 5
      congr 1
      funext r
      apply List.map_congr_left
      intro c _
      congr 1
      simp only [Nat.succ_eq_add_one]
      omega⟩
    refine ⟨k2 + 1, ?_⟩
    simp only [spec_l2Part.l0]
    rw [wrap_in (by omega) (by omega), if_pos (by omega)]
    rw [Int.add_zero] at hk2
    exact hk2
theorem l2Part_eq {w h : Int} {l : List Int} (g : goodB w h l = true) (a b ht wd : Int) (hp : PartIn w h l a b ht wd) : ∃ K, ∀ k, K ≤ k → spec_l2Part.f k w h l a b ht wd = some (wd, ht, chartL (partG w l a b) wd ht) := by
  obtain ⟨p1, p2, p3, p4, p5, p6, p7, p8, p9⟩ := hp
  obtain ⟨K, hK⟩ := l2Part_rows g a b ht wd wd ht p1 p2 (by omega) p5 p6 ht.toNat 0 [] (by omega) (by omega) (by simp; omega)
  refine ⟨K, fun k hk => ?_⟩
  refine at_rounds (g := fun k => spec_l2Part.f k w h l a b ht wd) (fun k => spec_l2Part.mono w h l a b ht wd k) hk ?_
  show spec_l2Part.f K w h l a b ht wd = _
  unfold spec_l2Part.f chartL
  rw [Int.add_zero] at hK
  rw [hK]
  simp
theorem part_eq {w h : Int} {l : List Int} (a b ht wd : Int) (hp : PartIn w h l a b ht wd) : impl_Chart_part.f w h l a b ht wd = some (wd, ht, chartL (partG w l a b) wd ht) := by
  unfold impl_Chart_part.f
  rw [if_pos hp]
theorem chartL_length (g : Int → Int → Int) (w h : Int) : (chartL g w h).length = h.toNat * w.toNat := by
  simp [chartL, List.length_flatMap, List.map_const']
theorem chartL_small (g : Int → Int → Int) (w h : Int) (hw : w ≤ 64) (hh : h ≤ 64) : (chartL g w h).length ≤ 4096 := by
  rw [chartL_length]
  have := Nat.mul_le_mul (show h.toNat ≤ 64 by omega) (show w.toNat ≤ 64 by omega)
  omega
end Go.Proofs.Ytpbipijjihbjhaa.Pure
