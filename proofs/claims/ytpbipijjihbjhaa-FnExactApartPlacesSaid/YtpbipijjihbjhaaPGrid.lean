/- Plain facts on grids: loops that build them, what they hold at a place, when two are alike. -/
import Derived.Test.YtpbipijjihbjhaaGx2
import Derived.Test.YtpbipijjihbjhaaGx7
import Derived.Test.YtpbipijjihbjhaaPPlace
namespace Go.Proofs.Ytpbipijjihbjhaa.Pure
open Go.RowKit Go.Proofs.Ytpbipijjihbjhaa.G Go.Proofs.YtpbipijjihbjhaaW.PrintWords Go.Proofs.YtpbipijjihbjhaaW.PrintLast
set_option linter.unusedSimpArgs false
set_option linter.unusedVariables false

theorem ev_pos {α : Type} {c : Prop} [Decidable c] {f g : Nat → Option α} {r : α} (h : c) (k : Ev f r) : Ev (fun n => if c then f n else g n) r := Ev.congr (fun n => if_pos h) k
theorem ev_neg {α : Type} {c : Prop} [Decidable c] {f g : Nat → Option α} {r : α} (h : ¬ c) (k : Ev g r) : Ev (fun n => if c then f n else g n) r := Ev.congr (fun n => if_neg h) k
theorem ev_eq {α : Type} {f : Nat → Option α} {r : α} (h : ∀ k, f k = some r) : Ev f r := ⟨0, fun k _ => h k⟩
/-- Sizes of a chart. -/
def Dim (w h : Int) (l : List Int) : Prop := 1 ≤ w ∧ w ≤ 8 ∧ 1 ≤ h ∧ h ≤ 8 ∧ (l.length : Int) = w * h
theorem good_dim {w h : Int} {l : List Int} (g : goodB w h l = true) : Dim w h l := by
  obtain ⟨w1, w2, e1, e2, e, _, _⟩ := good_parts g
  exact ⟨w1, w2, e1, e2, e⟩
theorem l2At_d {w h : Int} {l : List Int} (g : Dim w h l) {r c : Int} (r0 : 0 ≤ r) (r1 : r < h) (c0 : 0 ≤ c) (c1 : c < w) : spec_l2At.f w h l r c = some (rd l (r * w + c)) := by
  obtain ⟨w1, w2, h1, h2, e⟩ := g
  obtain ⟨k1, k2, k3⟩ := idx_ok ⟨w1, w2⟩ ⟨h1, h2⟩ r0 r1 c0 c1
  unfold spec_l2At.f
  rw [k1, if_pos k2, if_pos (by omega)]
theorem build_rows {R : Type} (L0 : Nat → Int → List Int → Option R) (L1 : Nat → Int → Int → List Int → Option R) (g : Int → Int → Int) (w h : Int) (fin : List Int → R) (hw0 : 0 ≤ w) (hw : w ≤ 64) (hh0 : 0 ≤ h) (hh : h ≤ 64)
    (s0 : ∀ k r acc, 0 ≤ r → r < h → L0 (k + 1) r acc = L1 k r 0 acc)
    (e0 : ∀ k acc, L0 (k + 1) h acc = some (fin acc))
    (s1 : ∀ k r c acc, 0 ≤ r → r < h → 0 ≤ c → c < w → acc.length ≤ 100000 → L1 (k + 1) r c acc = L1 k r (c + 1) (acc ++ [g r c]))
    (e1 : ∀ k r acc, 0 ≤ r → r < h → L1 (k + 1) r w acc = L0 k (r + 1) acc) : Ev (fun k => L0 k 0 []) (fin (chartL g w h)) := by
  have inner : ∀ (d : Nat) (r c : Int) (acc : List Int) (res : R), 0 ≤ r → r < h → 0 ≤ c → c + d = w → acc.length + d ≤ 100000 → Ev (fun k => L0 k (r + 1) (acc ++ (List.range d).map fun (j : Nat) => g r (c + j))) res → Ev (fun k => L1 k r c acc) res := by
    intro d
    induction d with
    | zero =>
      intro r c acc res a b c0 cd hl hk
      obtain rfl : c = w := by omega
      refine Ev.step (fun k => ?_) hk
      rw [e1 _ r acc a b]
      simp
    | succ d ih =>
      intro r c acc res a b c0 cd hl hk
      refine Ev.step (fun k => s1 k r c acc a b c0 (by omega) (by omega)) (ih r (c + 1) (acc ++ [g r c]) res a b (by omega) (by omega) (by simp; omega) ?_)
      refine Ev.congr (fun k => ?_) hk
      congr 1
      rw [List.range_succ_eq_map]
      simp only [List.map_cons, List.map_map, List.append_assoc, List.singleton_append, Int.natCast_zero, Int.add_zero]
      congr 2
      apply List.map_congr_left
      intro q _
      simp only [Function.comp]
      congr 1
      omega
  have outer : ∀ (d : Nat) (r : Int) (acc : List Int), 0 ≤ r → r + d = h → acc.length + d * 64 ≤ 90000 → Ev (fun k => L0 k r acc) (fin (acc ++ (List.range d).flatMap fun (i : Nat) => (List.range w.toNat).map fun (c : Nat) => g (r + i) c)) := by
    intro d
    induction d with
    | zero =>
      intro r acc a b hl
      obtain rfl : r = h := by omega
      refine Ev.step (fun k => e0 k acc) ?_
      simpa using Ev.now (fin acc)
    | succ d ih =>
      intro r acc a b hl
      refine Ev.step (fun k => s0 k r acc a (by omega)) (inner w.toNat r 0 acc _ a (by omega) (by omega) (by omega) (by omega) ?_)
      have := ih (r + 1) (acc ++ (List.range w.toNat).map fun (c : Nat) => g r c) (by omega) (by omega) (by simp; omega)
      simp only [Int.zero_add]
      have e : (acc ++ (List.range w.toNat).map fun (c : Nat) => g r c) ++ ((List.range d).flatMap fun (i : Nat) => (List.range w.toNat).map fun (c : Nat) => g (r + 1 + i) c) = acc ++ (List.range (d + 1)).flatMap fun (i : Nat) => (List.range w.toNat).map fun (c : Nat) => g (r + i) c := by
        rw [List.range_succ_eq_map]
        simp only [List.flatMap_cons, List.flatMap_map, List.append_assoc, Int.natCast_zero, Int.add_zero]
        congr 3
        funext i
        apply List.map_congr_left
        intro c _
        congr 1
        simp only [Nat.succ_eq_add_one]
        omega
      rw [e] at this
      exact this
  have := outer h.toNat 0 [] (by omega) (by omega) (by simp; omega)
  simpa [chartL] using this
theorem chartL_dim {w h : Int} (g : Int → Int → Int) (a : 1 ≤ w ∧ w ≤ 8) (b : 1 ≤ h ∧ h ≤ 8) : Dim w h (chartL g w h) := by
  refine ⟨a.1, a.2, b.1, b.2, ?_⟩
  simp only [chartL, List.length_flatMap, List.length_map, List.length_range, List.map_const', List.sum_replicate_nat]
  rw [Int.natCast_mul, Int.toNat_of_nonneg (by omega), Int.toNat_of_nonneg (by omega), Int.mul_comm]
theorem rows_at (g : Int → Int → Int) (w : Nat) (h : Nat) (r c : Nat) (hr : r < h) (hc : c < w) : ((List.range h).flatMap fun (r : Nat) => (List.range w).map fun (c : Nat) => g r c)[r * w + c]? = some (g r c) := by
  induction h with
  | zero => omega
  | succ h ih =>
    have hlen : ((List.range h).flatMap fun (r : Nat) => (List.range w).map fun (c : Nat) => g r c).length = h * w := by simp [List.length_flatMap, List.map_const']
    rw [List.range_succ, List.flatMap_append]
    by_cases e : r < h
    · have : r * w + c < h * w := by
        have := Nat.mul_le_mul_right w (show r + 1 ≤ h by omega)
        rw [Nat.add_mul] at this
        omega
      rw [List.getElem?_append_left (by omega)]
      exact ih e
    · obtain rfl : r = h := by omega
      rw [List.getElem?_append_right (by omega), hlen, show r * w + c - r * w = c by omega]
      simp [hc]
theorem rd_chartL (g : Int → Int → Int) {w h r c : Int} (r0 : 0 ≤ r) (r1 : r < h) (c0 : 0 ≤ c) (c1 : c < w) : rd (chartL g w h) (r * w + c) = g r c := by
  have := rows_at g w.toNat h.toNat r.toNat c.toNat (by omega) (by omega)
  have e : (r * w + c).toNat = r.toNat * w.toNat + c.toNat := by
    obtain ⟨r', rfl⟩ : ∃ q : Nat, r = q := ⟨r.toNat, by omega⟩
    obtain ⟨w', rfl⟩ : ∃ q : Nat, w = q := ⟨w.toNat, by omega⟩
    obtain ⟨c', rfl⟩ : ∃ q : Nat, c = q := ⟨c.toNat, by omega⟩
    rw [← Int.natCast_mul]
    simp only [Int.toNat_natCast]
    omega
  unfold rd chartL
  rw [List.getD_eq_getElem?_getD, e, this]
  simp only [Option.getD_some]
  rw [Int.toNat_of_nonneg r0, Int.toNat_of_nonneg c0]
theorem rd_some (l : List Int) (n : Nat) (h : n < l.length) : l[n]? = some (rd l n) := by
  simp [rd, h]
/-- Two grids that hold the same at each place are one. -/
theorem chart_ext {w h : Int} {l : List Int} (g : Dim w h l) (F : Int → Int → Int) (hF : ∀ r c, 0 ≤ r → r < h → 0 ≤ c → c < w → rd l (r * w + c) = F r c) : l = chartL F w h := by
  obtain ⟨w1, w2, h1, h2, e⟩ := g
  obtain ⟨_, _, _, _, e2⟩ := chartL_dim F ⟨w1, w2⟩ ⟨h1, h2⟩
  apply List.ext_getElem?
  intro n
  by_cases hn : n < l.length
  · have hm : (n : Int) / w * w + (n : Int) % w = n := by rw [Int.mul_comm]; exact Int.mul_ediv_add_emod n w
    have hp := Int.emod_nonneg (n : Int) (show w ≠ 0 by omega)
    have hq := Int.emod_lt_of_pos (n : Int) (show 0 < w by omega)
    have hr0 : 0 ≤ (n : Int) / w := Int.ediv_nonneg (by omega) (by omega)
    have hr1 : (n : Int) / w < h := by
      apply Int.ediv_lt_of_lt_mul (by omega)
      rw [Int.mul_comm]
      omega
    rw [rd_some l n hn, rd_some _ n (by omega), ← hm, hF _ _ hr0 hr1 hp hq, rd_chartL F hr0 hr1 hp hq]
  · rw [List.getElem?_eq_none (by omega), List.getElem?_eq_none (by omega)]
theorem idx_inj {w r c r' c' : Int} (w1 : 1 ≤ w) (w2 : w ≤ 8) (c0 : 0 ≤ c) (c1 : c < w) (d0 : 0 ≤ c') (d1 : c' < w) : r * w + c = r' * w + c' ↔ r = r' ∧ c = c' := by
  have e : w = 1 ∨ w = 2 ∨ w = 3 ∨ w = 4 ∨ w = 5 ∨ w = 6 ∨ w = 7 ∨ w = 8 := by omega
  rcases e with rfl | rfl | rfl | rfl | rfl | rfl | rfl | rfl <;> omega
theorem rd_set (l : List Int) (n m : Int) (v : Int) (n0 : 0 ≤ n) (n1 : n < l.length) (m0 : 0 ≤ m) : rd (l.set n.toNat v) m = if n = m then v else rd l m := by
  unfold rd
  rw [List.getD_eq_getElem?_getD, List.getElem?_set, List.getD_eq_getElem?_getD]
  by_cases e : n = m
  · subst e
    rw [if_pos rfl, if_pos rfl, if_pos (by omega)]
    rfl
  · rw [if_neg (by omega), if_neg e]
end Go.Proofs.Ytpbipijjihbjhaa.Pure
