/- A chart as text. -/
import Derived.Test.YthbjgejcifchnaaDoorGx2
import Derived.Test.YthbjgejcifchnaaDoorPBase
import Derived.Lib.Join
namespace Go.Proofs.YthbjgejcifchnaaDoor.Pure
open Go.RowKit Go.Proofs.YthbjgejcifchnaaDoor.G Go.Proofs.YthbjgejcifchnaaDoorW.PrintWords Go.Proofs.YthbjgejcifchnaaDoorW.PrintLast
set_option linter.unusedSimpArgs false
set_option linter.unusedVariables false

/-! ### a chart as text: letter by letter, and row by row -/
/-- The text of the first letters: a slash ahead of each row but the first. -/
def TL (w : Nat) (b : Nat → UInt8) : Nat → List UInt8
  | 0 => []
  | i + 1 => TL w b i ++ (if 0 < i ∧ i % w = 0 then [47] else []) ++ [b i]
/-- The first letters of a row. -/
def seg (w : Nat) (b : Nat → UInt8) (r c : Nat) : List UInt8 := (List.range c).map fun j => b (r * w + j)
theorem seg_succ (w : Nat) (b : Nat → UInt8) (r c : Nat) : seg w b r (c + 1) = seg w b r c ++ [b (r * w + c)] := by
  unfold seg
  rw [List.range_succ, List.map_append]
  rfl
theorem TL_seg (w : Nat) (b : Nat → UInt8) (hw : 0 < w) (r : Nat) (c : Nat) (hc : c ≤ w) : TL w b (r * w + c) = if c = 0 then TL w b (r * w) else TL w b (r * w) ++ (if 0 < r then [47] else []) ++ seg w b r c := by
  induction c with
  | zero => rfl
  | succ c ih =>
    rw [if_neg (by omega), seg_succ]
    show TL w b (r * w + c) ++ (if 0 < r * w + c ∧ (r * w + c) % w = 0 then [47] else []) ++ [b (r * w + c)] = _
    rw [ih (by omega)]
    have hm : (r * w + c) % w = c := by rw [Nat.mul_comm, Nat.mul_add_mod, Nat.mod_eq_of_lt (by omega)]
    rw [hm]
    by_cases c0 : c = 0
    · subst c0
      rw [if_pos rfl]
      have hr : 0 < r * w ↔ 0 < r := by
        constructor
        · intro h
          rcases Nat.eq_zero_or_pos r with z | z
          · rw [z] at h; simp at h
          · exact z
        · intro h
          exact Nat.mul_pos h hw
      simp [seg, hr]
    · rw [if_neg c0, if_neg (show ¬ (0 < r * w + c ∧ c = 0) from fun h => c0 h.2)]
      simp [List.append_assoc]
theorem joinTail_snoc (sep : List UInt8) (r : List (List UInt8)) (y : List UInt8) : Lib.joinTail sep (r ++ [y]) = Lib.joinTail sep r ++ (sep ++ y) := by
  simp [Lib.joinTail]
theorem join_rows (w : Nat) (b : Nat → UInt8) (hw : 0 < w) (h : Nat) : Lib.join ((List.range (h + 1)).map fun r => seg w b r w) [47] = TL w b ((h + 1) * w) := by
  induction h with
  | zero =>
    have e := TL_seg w b hw 0 w (Nat.le_refl _)
    rw [if_neg (by omega)] at e
    simp only [Nat.zero_mul, Nat.zero_add, Nat.lt_irrefl, if_false] at e
    show Lib.join [seg w b 0 w] [47] = _
    rw [Lib.join_one, show (0 + 1) * w = w by omega, e]
    simp [TL]
  | succ h ih =>
    have e := TL_seg w b hw (h + 1) w (Nat.le_refl _)
    rw [if_neg (by omega), if_pos (by omega)] at e
    rw [show (h + 1 + 1) * w = (h + 1) * w + w by rw [Nat.add_mul (h + 1), Nat.one_mul], e, ← ih, List.range_succ, List.map_append]
    have e2 : (List.range (h + 1)).map (fun r => seg w b r w) = seg w b 0 w :: (List.range h).map (fun r => seg w b (r + 1) w) := by
      rw [List.range_succ_eq_map, List.map_cons, List.map_map]
      rfl
    rw [e2, List.cons_append, Lib.join_cons, Lib.join_cons]
    show _ ++ Lib.joinTail [47] (_ ++ [seg w b (h + 1) w]) = _
    rw [joinTail_snoc]
    simp [List.append_assoc]
theorem TL_length (w : Nat) (b : Nat → UInt8) (i : Nat) : (TL w b i).length ≤ 2 * i := by
  induction i with
  | zero => exact Nat.le_refl 0
  | succ i ih =>
    show (TL w b i ++ _ ++ _).length ≤ _
    rw [List.length_append, List.length_append, List.length_singleton]
    have : (if 0 < i ∧ i % w = 0 then [47] else ([] : List UInt8)).length ≤ 1 := by split <;> simp
    omega
def bI (l : List Int) (j : Nat) : Int := (97 + rd l (j : Int)) % 256
def bB (l : List Int) (j : Nat) : UInt8 := UInt8.ofNat (bI l j).toNat
def TB (w : Nat) (l : List Int) (i : Nat) : ByteArray := ⟨(TL w (bB l) i).toArray⟩
theorem slash_size : (⟨#[47]⟩ : ByteArray).size = 1 := rfl
theorem TB_size (w : Nat) (l : List Int) (i : Nat) : (TB w l i).size ≤ 2 * i := by
  have := TL_length w (bB l) i
  show (TL w (bB l) i).toArray.size ≤ _
  simpa using this
theorem TB_zero (w : Nat) (l : List Int) : TB w l 0 = ⟨#[]⟩ := rfl
theorem TB_plain (w : Nat) (l : List Int) (i : Nat) (h : ¬ (0 < i ∧ i % w = 0)) : TB w l (i + 1) = TB w l i ++ strOfNums [bI l i] := by
  apply ByteArray.ext
  rw [ByteArray.data_append]
  show (TL w (bB l) i ++ (if 0 < i ∧ i % w = 0 then [47] else []) ++ [bB l i]).toArray = (TL w (bB l) i).toArray ++ [bB l i].toArray
  rw [if_neg h]
  simp
theorem TB_slash (w : Nat) (l : List Int) (i : Nat) (h : 0 < i ∧ i % w = 0) : TB w l (i + 1) = (TB w l i ++ ⟨#[47]⟩) ++ strOfNums [bI l i] := by
  apply ByteArray.ext
  rw [ByteArray.data_append, ByteArray.data_append]
  show (TL w (bB l) i ++ (if 0 < i ∧ i % w = 0 then [47] else []) ++ [bB l i]).toArray = (TL w (bB l) i).toArray ++ [47].toArray ++ [bB l i].toArray
  rw [if_pos h]
  simp
theorem rd_in {l : List Int} (hx : ∀ x ∈ l, 0 ≤ x ∧ x ≤ 5) (i : Nat) (h : i < l.length) : 0 ≤ rd l (i : Int) ∧ rd l (i : Int) ≤ 5 := by
  rw [rd_at l (i : Int) (by simpa using h)]
  exact hx _ (List.getElem_mem _)
theorem one_nums (x : Int) : (strOfNums [x]).size = 1 := rfl
theorem spec_loop (w : Nat) (h : Int) (l : List Int) (hw : 1 ≤ w) (hw2 : w ≤ 8) (hl : l.length ≤ 64) (hx : ∀ x ∈ l, 0 ≤ x ∧ x ≤ 5) (d : Nat) : ∀ i : Nat, i + d = l.length →
    Ev (fun k => spec_l2Text.l0 k (TB w l i) (i : Int) (w : Int) h l) (TB w l l.length) := by
  induction d with
  | zero =>
    intro i hi
    obtain rfl : i = l.length := by omega
    refine Ev.step (fun k => rfl) ?_
    simp only [spec_l2Text.l0]
    exact ev_neg (by omega) (Ev.now _)
  | succ d ih =>
    intro i hi
    have hr := rd_in hx i (by omega)
    have hz := TB_size w l i
    have hb : wrap64 (97 + rd l (i : Int)) % 256 = bI l i := by rw [wrap_in (by omega) (by omega)]; rfl
    have hn := ih (i + 1) (by omega)
    have hm : Int.tmod (i : Int) (w : Int) = ((i % w : Nat) : Int) := by rw [tmod_nn (by omega)]; omega
    refine Ev.step (fun k => rfl) ?_
    simp only [spec_l2Text.l0, Option.bind_some]
    rw [hb, hm, wrap_in (x := (i : Int) + 1) (by omega) (by omega)]
    refine ev_pos (by omega) ?_
    by_cases i0 : (i : Int) > 0
    · refine ev_pos i0 (ev_neg (by omega) ?_)
      by_cases im : i % w = 0
      · rw [TB_slash w l i ⟨by omega, im⟩] at hn
        exact ev_pos (by omega) (ev_pos (by omega) (ev_pos (by omega) (ev_pos (by rw [ByteArray.size_append, slash_size, one_nums]; omega) hn)))
      · rw [TB_plain w l i (fun c => im c.2)] at hn
        exact ev_neg (by omega) (ev_pos (by omega) (ev_pos (by rw [one_nums]; omega) hn))
    · rw [TB_plain w l i (fun c => by omega)] at hn
      exact ev_neg i0 (ev_pos (by omega) (ev_pos (by rw [one_nums]; omega) hn))
end Go.Proofs.YthbjgejcifchnaaDoor.Pure
