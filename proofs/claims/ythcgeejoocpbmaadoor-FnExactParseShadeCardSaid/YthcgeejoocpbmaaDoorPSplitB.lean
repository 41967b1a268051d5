/- The library's split gives the same pieces. -/
import Derived.Test.YthcgeejoocpbmaaDoorGx10
import Derived.Test.YthcgeejoocpbmaaDoorGx11
import Derived.Test.YthcgeejoocpbmaaDoorPSplit
namespace Go.Proofs.YthcgeejoocpbmaaDoor.Pure
open Go.RowKit Go.Proofs.YthcgeejoocpbmaaDoor.G Go.Proofs.YthcgeejoocpbmaaDoorW.PrintWords Go.Proofs.YthcgeejoocpbmaaDoorW.PrintLast
set_option linter.unusedSimpArgs false
set_option linter.unusedVariables false

theorem genSplit_l0 (c : UInt8) (d : Nat) : ∀ (s : ByteArray) (a : List ByteArray) (i : Int), s.size ≤ 2097152 → 0 ≤ i → s.data.toList.count c = d → (a.length : Int) = i + d + 1 → i + d ≤ 2097152 →
    Ev (fun k => strings_genSplit.l0 k s ⟨#[c]⟩ 0 (i + d) a i) (a.take i.toNat ++ pieces c s) := by
  induction d with
  | zero =>
    intro s a i hs h0 hc ha hb
    have hi : i.toNat < a.length := by omega
    refine Ev.step (fun k => rfl) ?_
    simp only [strings_genSplit.l0]
    rw [wrap_in (x := i + 1) (by omega) (by omega)]
    refine ev_neg (by omega) (ev_pos h0 (ev_pos (by omega) (ev_pos (by omega) (ev_pos (by omega) (ev_val ?_ (Ev.now _))))))
    unfold pieces
    rw [SP_miss c _ _ hc, show (i + 1).toNat = i.toNat + 1 by omega, take_set a i.toNat s hi, List.map_cons, List.map_nil, List.nil_append, of_toB]
  | succ d ih =>
    intro s a i hs h0 hc ha hb
    have hz : s.data.toList.length = s.size := rfl
    have hi : i.toNat < a.length := by omega
    obtain ⟨m, hm, hl⟩ := count_pos_index c s.data.toList (by omega)
    have hcount := count_hit c _ m hm
    have e2 : (s.extract (m + 1) s.size).data.toList = s.data.toList.drop (m + 1) := ext_end s (m + 1)
    have hr := ih (s.extract (m + 1) s.size) (a.set i.toNat (s.extract 0 m)) (i + 1) (by rw [ByteArray.size_extract]; omega) (by omega) (by rw [e2]; omega) (by rw [List.length_set]; omega) (by omega)
    have z : (⟨#[c]⟩ : ByteArray).size = 1 := rfl
    refine Ev.step (fun k => rfl) ?_
    simp only [strings_genSplit.l0]
    rw [index_eq, hm, z]
    refine ev_pos (by omega) (Ev.bind (Ev.now _) ?_)
    rw [wrap_in (x := (m : Int) + 0) (by omega) (by omega), wrap_in (x := (m : Int) + ((1 : Nat) : Int)) (by omega) (by omega), wrap_in (x := i + 1) (by omega) (by omega), show ((m : Int) + ((1 : Nat) : Int)).toNat = m + 1 by omega, show ((m : Int) + 0).toNat = m by omega]
    refine ev_neg (by omega) (ev_pos (by omega) (ev_pos (by omega) (ev_pos h0 (ev_pos (by omega) (ev_pos (by omega) (ev_pos (by omega) ?_))))))
    rw [show i + ((d + 1 : Nat) : Int) = i + 1 + (d : Int) by omega]
    refine ev_val ?_ hr
    unfold pieces
    rw [e2, SP_hit c s.data.toList [] m hm, show (i + 1).toNat = i.toNat + 1 by omega, take_set a i.toNat _ hi, List.map_cons, List.append_assoc]
    have e3 : toB ([] ++ s.data.toList.take m) = s.extract 0 m := by
      rw [List.nil_append, show s.data.toList.take m = (s.extract 0 m).data.toList by rw [ext_list]; simp]
      exact of_toB _
    rw [e3, List.singleton_append]
theorem genSplit_j0 (s : ByteArray) (c : UInt8) (n : Nat) (hn : s.data.toList.count c = n) (hle : n ≤ s.size) (hs : s.size ≤ 2097151) : Ev (fun k => strings_genSplit.j0 k s ⟨#[c]⟩ 0 ((n : Int) + 1)) (pieces c s) := by
  have h := genSplit_l0 c n s (List.replicate (n + 1) (⟨#[]⟩ : ByteArray)) 0 (by omega) (by omega) hn (by rw [List.length_replicate]; omega) (by omega)
  rw [Int.toNat_zero, List.take_zero, List.nil_append] at h
  have hmn : mn ((n : Int) + 1) (wrap64 ((s.size : Int) + 1)) = (n : Int) + 1 := by
    rw [wrap_in (x := (s.size : Int) + 1) (by omega) (by omega)]
    unfold mn
    omega
  have e1 : ((n : Int) + 1).toNat = n + 1 := by omega
  have e2 : wrap64 ((n : Int) + 1 - 1) = 0 + (n : Int) := by rw [wrap_in (by omega) (by omega)]; omega
  refine Ev.step (fun k => rfl) ?_
  simp only [strings_genSplit.j0]
  rw [hmn, e1, e2]
  exact ev_pos (by omega) (ev_pos (by omega) h)
theorem count_eq (s : ByteArray) (c : UInt8) : strings_Count.f s ⟨#[c]⟩ = some ((s.data.toList.count c : Nat) : Int) := by
  unfold strings_Count.f
  rw [if_pos (show (⟨#[c]⟩ : ByteArray).size = 1 from rfl)]
  rfl
theorem one_ne (c : UInt8) : ¬ ((⟨#[c]⟩ : ByteArray).toList = ([] : List UInt8)) := by
  rw [Lib.toList_data]
  simp
theorem genSplit_f (s : ByteArray) (c : UInt8) (n : Nat) (hn : s.data.toList.count c = n) (hle : n ≤ s.size) (hs : s.size ≤ 2097151) : Ev (fun k => strings_genSplit.f k s ⟨#[c]⟩ 0 (-1)) (pieces c s) := by
  have h := genSplit_j0 s c n hn hle hs
  have hC := count_eq s c
  rw [hn] at hC
  have e1 : wrap64 ((n : Int) + 1) = (n : Int) + 1 := wrap_in (by omega) (by omega)
  unfold strings_genSplit.f
  rw [hC]
  refine ev_neg (by omega) (ev_neg (one_ne c) (ev_pos (by omega) (Ev.bind (Ev.now _) ?_)))
  rw [e1]
  exact h
theorem split_ev (s : ByteArray) (c : UInt8) (hs : s.size ≤ 2097151) : Ev (fun k => strings_Split.f k s ⟨#[c]⟩) (pieces c s) := by
  have hle : s.data.toList.count c ≤ s.size := List.count_le_length
  unfold strings_Split.f
  exact Ev.bind (genSplit_f s c _ rfl hle hs) (Ev.now _)
theorem pieces_len (c : UInt8) (s : ByteArray) : (pieces c s).length ≤ s.size + 1 := by
  have hz : s.data.toList.length = s.size := rfl
  have hle : s.data.toList.count c ≤ s.data.toList.length := List.count_le_length
  unfold pieces
  rw [List.length_map, SP_len]
  omega
end Go.Proofs.YthcgeejoocpbmaaDoor.Pure
