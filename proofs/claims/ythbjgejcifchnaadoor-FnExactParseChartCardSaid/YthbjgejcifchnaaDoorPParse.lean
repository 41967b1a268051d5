/- Program and reference on a chart's text. -/
import Derived.Test.YthbjgejcifchnaaDoorGx1
import Derived.Test.YthbjgejcifchnaaDoorGx2
import Derived.Test.YthbjgejcifchnaaDoorGx3
import Derived.Test.YthbjgejcifchnaaDoorGx4
import Derived.Test.YthbjgejcifchnaaDoorGx6
import Derived.Test.YthbjgejcifchnaaDoorPRows
namespace Go.Proofs.YthbjgejcifchnaaDoor.Pure
open Go.RowKit Go.Proofs.YthbjgejcifchnaaDoor.G Go.Proofs.YthbjgejcifchnaaDoorW.PrintWords Go.Proofs.YthbjgejcifchnaaDoorW.PrintLast
set_option linter.unusedSimpArgs false
set_option linter.unusedVariables false

abbrev badC : Int × Int × List Int × Bool := (0, 0, ([] : List Int), false)
theorem bt_num (s : ByteArray) (i : Int) (h : i.toNat < s.data.toList.length) : wrap64 (wrap64 (bt s i) - 97) = num s.data.toList[i.toNat] := by
  have hx := (s.data.toList[i.toNat]).toNat_lt
  rw [bt_list s i h, wrap_in (x := ((s.data.toList[i.toNat]).toNat : Int)) (by omega) (by omega), wrap_in (by omega) (by omega)]
  rfl
theorem knots_cons (x : UInt8) (l : List UInt8) : knots (x :: l) = if x = 47 then knots l else num x :: knots l := by
  unfold knots
  by_cases q : x = 47
  · rw [if_pos q, List.filter_cons, if_neg (by simp [q])]
  · rw [if_neg q, List.filter_cons, if_pos (by simpa using q), List.map_cons]
/-! ### the reference -/
theorem spec_end (s : ByteArray) (W : Nat) (H : Int) (K : List Int) (hK : K.length ≤ 1048576) :
    Ev (fun k => (spec_l2Good.f k (W : Int) H K).bind fun t142 => (if t142 = true then ((spec_l2Text.f k (W : Int) H K).bind fun t143 => (if t143.toList = s.toList then (some ((W : Int), H, K, true)) else (some (0, 0, ([] : List Int), false)))) else (some (0, 0, ([] : List Int), false))))
      (if goodB (W : Int) H K = true ∧ TL W (bB K) K.length = s.data.toList then ((W : Int), H, K, true) else badC) := by
  have e1 : Ev (fun k => spec_l2Good.f k (W : Int) H K) (goodB (W : Int) H K) := ⟨K.length + 1, fun k hk => l2Good_eq (W : Int) H K hK k (by omega)⟩
  cases g : goodB (W : Int) H K with
  | false => exact Ev.bind (ev_val g e1) (ev_neg (by simp) (ev_val (by simp) (Ev.now _)))
  | true =>
    obtain ⟨w1, w2, h1, h2, hlen, hl2, hx⟩ := good_parts g
    have hs : Ev (fun k => spec_l2Text.f k (W : Int) H K) (TB W K K.length) := spec_loop W H K (by omega) (by omega) hl2 hx K.length 0 (by omega)
    refine Ev.bind (ev_val g e1) (ev_pos rfl (Ev.bind hs ?_))
    have ht : (TB W K K.length).toList = TL W (bB K) K.length := by rw [Lib.toList_data]; rfl
    by_cases q : TL W (bB K) K.length = s.data.toList
    · exact ev_pos (by rw [ht, Lib.toList_data, q]) (ev_val (by rw [if_pos ⟨rfl, q⟩]) (Ev.now _))
    · exact ev_neg (by rw [ht, Lib.toList_data]; exact q) (ev_val (by rw [if_neg (fun c => q c.2)]) (Ev.now _))
theorem spec_l0 (s : ByteArray) (W : Nat) (H : Int) (hs : s.size ≤ 72) (K : List Int) (hK : K.length ≤ 1048576) (d : Nat) : ∀ (i : Int) (acc : List Int), 0 ≤ i → i + d = s.size → (acc.length : Int) ≤ i → acc ++ knots (s.data.toList.drop i.toNat) = K →
    Ev (fun k => spec_ParseChart.l0 k s i (W : Int) H acc) (if goodB (W : Int) H K = true ∧ TL W (bB K) K.length = s.data.toList then ((W : Int), H, K, true) else badC) := by
  have hz : s.data.toList.length = s.size := rfl
  induction d with
  | zero =>
    intro i acc h0 h1 h2 h3
    rw [List.drop_eq_nil_of_le (by omega), show knots [] = [] from rfl, List.append_nil] at h3
    subst h3
    refine Ev.step (fun k => rfl) ?_
    simp only [spec_ParseChart.l0]
    exact ev_neg (by omega) (spec_end s W H acc hK)
  | succ d ih =>
    intro i acc h0 h1 h2 h3
    have hi : i.toNat < s.data.toList.length := by omega
    rw [List.drop_eq_getElem_cons hi, knots_cons] at h3
    have hb := bt_list s i hi
    have hn := bt_num s i hi
    refine Ev.step (fun k => rfl) ?_
    simp only [spec_ParseChart.l0]
    rw [hn, hb, wrap_in (x := i + 1) (by omega) (by omega)]
    refine ev_pos (by omega) (ev_pos h0 ?_)
    by_cases q : s.data.toList[i.toNat] = 47
    · rw [if_pos q, show i.toNat + 1 = (i + 1).toNat by omega] at h3
      exact ev_pos (by rw [q]; rfl) (ih (i + 1) acc (by omega) (by omega) (by omega) h3)
    · rw [if_neg q, show i.toNat + 1 = (i + 1).toNat by omega] at h3
      refine ev_neg (fun e => q (UInt8.toNat_inj.mp ?_)) (ev_pos (by omega) (ih (i + 1) _ (by omega) (by omega) (by rw [List.length_append, List.length_singleton]; omega) (by rw [← h3, List.append_assoc]; rfl)))
      show _ = 47
      omega
/-! ### the program -/
theorem impl_l1 (row : ByteArray) (rows : List ByteArray) (n W H i : Int) (hz : row.size ≤ 4000) (i0 : 0 ≤ i) (i1 : i ≤ 5000) (r : Int × Int × List Int × Bool) (d : Nat) : ∀ (j : Int) (acc : List Int), 0 ≤ j → j + d = row.size → acc.length + d ≤ 100000000 →
    Ev (fun k => impl_ParseChart.l0 k rows n (i + 1) W H (acc ++ (row.data.toList.drop j.toNat).map num)) r →
    Ev (fun k => impl_ParseChart.l1 k row rows n i (row.size : Int) j W H acc) r := by
  have hy : row.data.toList.length = row.size := rfl
  induction d with
  | zero =>
    intro j acc h0 h1 h2 h3
    rw [List.drop_eq_nil_of_le (by omega), List.map_nil, List.append_nil] at h3
    refine Ev.step (fun k => rfl) ?_
    simp only [impl_ParseChart.l1]
    rw [wrap_in (x := i + 1) (by omega) (by omega)]
    exact ev_neg (by omega) h3
  | succ d ih =>
    intro j acc h0 h1 h2 h3
    have hi : j.toNat < row.data.toList.length := by omega
    have hn := bt_num row j hi
    rw [List.drop_eq_getElem_cons hi, List.map_cons] at h3
    have h := ih (j + 1) (acc ++ [num row.data.toList[j.toNat]]) (by omega) (by omega) (by rw [List.length_append, List.length_singleton]; omega) (by
      rw [show (j + 1).toNat = j.toNat + 1 by omega, List.append_assoc]
      exact h3)
    refine Ev.step (fun k => rfl) ?_
    simp only [impl_ParseChart.l1]
    rw [hn, wrap_in (x := j + 1) (by omega) (by omega)]
    exact ev_pos (by omega) (ev_pos h0 (ev_pos (by omega) (ev_pos (by omega) h)))
def flat (rs : List ByteArray) : List Int := (rs.map fun x => x.data.toList.map num).flatten
theorem flat_cons (x : ByteArray) (rs : List ByteArray) : flat (x :: rs) = x.data.toList.map num ++ flat rs := rfl
theorem impl_l0 (rows : List ByteArray) (W H : Int) (hl : rows.length ≤ 4001) (hs : ∀ x ∈ rows, x.size ≤ 4000) (d : Nat) : ∀ (i : Int) (acc : List Int), 0 ≤ i → i + d = rows.length → (acc.length : Int) ≤ i * 4000 →
    Ev (fun k => impl_ParseChart.l0 k rows (rows.length : Int) i W H acc) (if (∀ x ∈ rows.drop i.toNat, (x.size : Int) = W) ∧ goodB W H (acc ++ flat (rows.drop i.toNat)) = true then (W, H, acc ++ flat (rows.drop i.toNat), true) else badC) := by
  induction d with
  | zero =>
    intro i acc h0 h1 h2
    rw [List.drop_eq_nil_of_le (by omega), show flat [] = [] from rfl, List.append_nil]
    refine Ev.step (fun k => rfl) ?_
    simp only [impl_ParseChart.l0]
    rw [IsChart_eq]
    refine ev_neg (by omega) (Ev.bind (Ev.now _) ?_)
    cases g : goodB W H acc with
    | false => exact ev_neg (by simp) (ev_val (by simp) (Ev.now _))
    | true => exact ev_pos rfl (ev_val (by rw [if_pos ⟨(fun x hx => by cases hx), rfl⟩]) (Ev.now _))
  | succ d ih =>
    intro i acc h0 h1 h2
    have hi : i.toNat < rows.length := by omega
    have hx := hs _ (List.getElem_mem hi)
    have hr : rdOf ByteArray.empty rows i = rows[i.toNat] := by simp [rdOf, hi]
    have hlen : rows[i.toNat].data.toList.length = rows[i.toNat].size := rfl
    rw [List.drop_eq_getElem_cons hi, flat_cons]
    refine Ev.step (fun k => rfl) ?_
    simp only [impl_ParseChart.l0]
    rw [hr]
    refine ev_pos (by omega) (ev_pos h0 (ev_pos (by omega) ?_))
    by_cases q : (rows[i.toNat].size : Int) = W
    · refine ev_pos q (impl_l1 _ rows _ W H i hx h0 (by omega) _ rows[i.toNat].size 0 acc (by omega) (by omega) (by omega) ?_)
      have h := ih (i + 1) (acc ++ rows[i.toNat].data.toList.map num) (by omega) (by omega) (by rw [List.length_append, List.length_map]; omega)
      rw [Int.toNat_zero, List.drop_zero]
      refine ev_val ?_ h
      rw [show (i + 1).toNat = i.toNat + 1 by omega, List.append_assoc]
      have e : (∀ x ∈ rows[i.toNat] :: rows.drop (i.toNat + 1), (x.size : Int) = W) ↔ (∀ x ∈ rows.drop (i.toNat + 1), (x.size : Int) = W) :=
        ⟨fun f x hx => f x (List.mem_cons_of_mem _ hx), fun f x hx => by
          rcases List.mem_cons.mp hx with rfl | hx
          · exact q
          · exact f x hx⟩
      simp only [e]
    · refine ev_neg q (ev_val ?_ (Ev.now _))
      rw [if_neg (fun c => q (c.1 _ List.mem_cons_self))]
theorem ParseChart_both (s : ByteArray) (hs : s.size ≤ 1048576) : ∃ r : Int × Int × List Int × Bool, Ev (fun k => spec_ParseChart.f k s) r ∧ Ev (fun k => impl_ParseChart.f k s) r ∧ r.2.2.1.length ≤ 1048576 := by
  have hz : s.data.toList.length = s.size := rfl
  unfold spec_ParseChart.f impl_ParseChart.f
  by_cases q : (s.size : Int) > 4000
  · exact ⟨badC, ev_pos (by omega) (Ev.now _), ev_pos q (Ev.now _), by simp⟩
  have hp := pieces_len 47 s
  have hP : (pieces 47 s).length = (SP 47 [] s.data.toList).length := by unfold pieces; rw [List.length_map]
  have hSL := SP_len 47 s.data.toList []
  have hF := filter_len 47 s.data.toList
  have hkl : (knots s.data.toList).length = (s.data.toList.filter (· != 47)).length := by unfold knots; rw [List.length_map]
  have hrow : ∀ x ∈ pieces 47 s, x.size ≤ 4000 := by
    intro x hx
    obtain ⟨l, hl1, hl2⟩ := List.mem_map.mp hx
    have h1 : x.size = l.length := by rw [← hl2]; rfl
    have h2 : l.length ≤ (SP 47 [] s.data.toList).flatten.length := (List.sublist_flatten_of_mem hl1).length_le
    rw [SP_flat, List.nil_append] at h2
    omega
  have hflat : flat (pieces 47 s) = knots s.data.toList := by
    unfold flat pieces knots
    rw [List.map_map, show ((fun x : ByteArray => x.data.toList.map num) ∘ toB) = fun l : List UInt8 => l.map num from rfl, ← List.map_flatten, SP_flat]
    rfl
  obtain ⟨W, hW⟩ : ∃ W : Nat, (rdOf ByteArray.empty (pieces 47 s) 0).size = W := ⟨_, rfl⟩
  have hi := impl_l0 (pieces 47 s) (W : Int) ((pieces 47 s).length : Int) (by omega) hrow (pieces 47 s).length 0 [] (by omega) (by omega) (by simp)
  rw [Int.toNat_zero, List.drop_zero, List.nil_append, hflat] at hi
  have hsplit : Ev (fun k => strings_Split.f k s ⟨#[47]⟩) (pieces 47 s) := split_ev s 47 (by omega)
  have hsp : Ev (fun k => spec_l1Split.f k s 47) (pieces 47 s) := spec_split s 47 hs
  have hI : Ev (fun k => if (s.size : Int) > 4000 then (some (0, 0, ([] : List Int), false)) else ((strings_Split.f k s (⟨#[47]⟩ : ByteArray)).bind fun t168 => (if 0 < (t168.length : Int) then (impl_ParseChart.l0 k t168 (t168.length : Int) 0 ((rdOf ByteArray.empty t168 0).size : Int) (t168.length : Int) ([] : List Int)) else (none))))
      (if (∀ x ∈ pieces 47 s, (x.size : Int) = W) ∧ goodB W ((pieces 47 s).length : Int) (knots s.data.toList) = true then (W, ((pieces 47 s).length : Int), knots s.data.toList, true) else badC) := by
    refine ev_neg q (Ev.bind hsplit (ev_pos (by omega) ?_))
    rw [hW]
    exact hi
  by_cases q2 : (s.size : Int) > 72
  · refine ⟨badC, ev_pos q2 (Ev.now _), ev_val ?_ hI, by simp⟩
    rw [if_neg]
    rintro ⟨_, g⟩
    obtain ⟨w1, w2, h1, h2, hlen, hl2, hx⟩ := good_parts g
    omega
  · have hS := spec_l0 s W ((pieces 47 s).length : Int) (by omega) (knots s.data.toList) (by omega) s.size 0 [] (by omega) (by omega) (by simp) (by simp)
    refine ⟨_, ev_neg q2 (Ev.bind hsp (ev_pos (by omega) ?_)), hI, ?_⟩
    · rw [hW]
      refine ev_val ?_ hS
      by_cases g : goodB (W : Int) ((pieces 47 s).length : Int) (knots s.data.toList) = true
      · have e := rows_iff s.data.toList W (by rw [← hP]; exact g)
        have e2 : (∀ x ∈ pieces 47 s, (x.size : Int) = W) ↔ (∀ x ∈ SP 47 [] s.data.toList, x.length = W) := by
          constructor
          · intro f x hx
            have := f (toB x) (List.mem_map.mpr ⟨x, hx, rfl⟩)
            exact Int.natCast_inj.mp this
          · intro f x hx
            obtain ⟨l, hl1, hl2⟩ := List.mem_map.mp hx
            have h1 : x.size = l.length := by rw [← hl2]; rfl
            rw [h1, f l hl1]
        have e3 : (goodB (W : Int) ((pieces 47 s).length : Int) (knots s.data.toList) = true ∧ TL W (bB (knots s.data.toList)) (knots s.data.toList).length = s.data.toList) ↔ ((∀ x ∈ pieces 47 s, (x.size : Int) = W) ∧ goodB (W : Int) ((pieces 47 s).length : Int) (knots s.data.toList) = true) := by
          rw [e2, e]
          exact And.comm
        simp only [e3]
      · rw [if_neg (fun c => g c.1), if_neg (fun c => g c.2)]
    · split
      · dsimp only
        omega
      · simp
end Go.Proofs.YthbjgejcifchnaaDoor.Pure
