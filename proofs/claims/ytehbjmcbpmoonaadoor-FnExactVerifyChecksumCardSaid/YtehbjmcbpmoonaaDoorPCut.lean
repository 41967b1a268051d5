/- Plain facts on the text ahead of a sign. -/
import Derived.Test.YtehbjmcbpmoonaaDoorGx1
import Derived.Test.YtehbjmcbpmoonaaDoorGx2
import Derived.Test.YtehbjmcbpmoonaaDoorPSum
namespace Go.Proofs.YtehbjmcbpmoonaaDoor.Pure
open Go.RowKit Go.Proofs.YtehbjmcbpmoonaaDoor.G Go.Proofs.YtehbjmcbpmoonaaDoorW.PrintWords Go.Proofs.YtehbjmcbpmoonaaDoorW.PrintLast
set_option linter.unusedSimpArgs false
set_option linter.unusedVariables false

/-- Where the byte stands first, from a place on. -/
def ix (s : ByteArray) (c : UInt8) (i : Int) : Int := Lib.indexByte (s.data.toList.drop i.toNat) c
theorem ix_end (s : ByteArray) (c : UInt8) (i : Int) (h : s.size ≤ i.toNat) : ix s c i = -1 := by
  unfold ix
  rw [List.drop_eq_nil_of_le (by exact h)]
  rfl
theorem ix_ge (s : ByteArray) (c : UInt8) (i : Int) : -1 ≤ ix s c i := Lib.indexByte_ge _ _
theorem ix_step (s : ByteArray) (c : UInt8) (i : Int) (h0 : 0 ≤ i) (h : i.toNat < s.data.toList.length) :
    (s.data.toList[i.toNat] = c → ix s c i = 0) ∧ (s.data.toList[i.toNat] ≠ c → ix s c i = if ix s c (i + 1) = -1 then -1 else ix s c (i + 1) + 1) := by
  have e : s.data.toList.drop i.toNat = s.data.toList[i.toNat] :: s.data.toList.drop (i + 1).toNat := by
    rw [List.drop_eq_getElem_cons h, show (i + 1).toNat = i.toNat + 1 by omega]
  refine ⟨fun hc => ?_, fun hc => ?_⟩
  · unfold ix
    rw [e, Lib.indexByte, if_pos (by rw [hc]; simp)]
  · unfold ix
    rw [e, Lib.indexByte, if_neg (by simpa using hc)]
    by_cases q : Lib.indexByte (s.data.toList.drop (i + 1).toNat) c = -1
    · rw [if_pos q, if_pos (by rw [q]; rfl)]
    · rw [if_neg q, if_neg (by simpa using q)]
/-- What stands ahead of the first such byte. -/
def headT (s : ByteArray) (c : UInt8) (i : Int) : ByteArray := if 0 ≤ ix s c i then s.extract 0 (i + ix s c i).toNat else s
theorem extract_all (s : ByteArray) : s.extract 0 s.size = s := by
  apply ByteArray.ext
  rw [ByteArray.data_extract]
  show s.data.extract 0 s.data.size = s.data
  simp
theorem split_tail (s : ByteArray) (c : UInt8) (hs : s.size ≤ 1048576) (d : Nat) : ∀ (out : List ByteArray) (fr i : Int), 0 ≤ fr → fr ≤ i → i + d = s.size → (out.length : Int) ≤ i + 1 →
    ∃ r, Ev (fun k => spec_l1Split.l0 k s (c.toNat : Int) out fr i) (out ++ r) := by
  have hz : s.data.toList.length = s.size := rfl
  induction d with
  | zero =>
    intro out fr i f0 f1 h1 ho
    refine ⟨[s.extract fr.toNat s.size], Ev.step (fun k => rfl) ?_⟩
    simp only [spec_l1Split.l0]
    exact ev_neg (by omega) (ev_pos f0 (ev_pos (by omega) (ev_pos (by omega) (Ev.now _))))
  | succ d ih =>
    intro out fr i f0 f1 h1 ho
    have hi : i.toNat < s.data.toList.length := by omega
    by_cases q : s.data.toList[i.toNat] = c
    · obtain ⟨r, hr⟩ := ih (out ++ [s.extract fr.toNat i.toNat]) (i + 1) (i + 1) (by omega) (by omega) (by omega) (by rw [List.length_append, List.length_singleton]; omega)
      refine ⟨s.extract fr.toNat i.toNat :: r, Ev.step (fun k => rfl) ?_⟩
      simp only [spec_l1Split.l0]
      rw [bt_list s i hi, wrap_in (x := i + 1) (by omega) (by omega)]
      refine ev_pos (by omega) (ev_pos (by omega) (ev_pos (by rw [q]) (ev_pos f0 (ev_pos f1 (ev_pos (by omega) (ev_pos (by omega) (ev_val ?_ hr)))))))
      simp
    · obtain ⟨r, hr⟩ := ih out fr (i + 1) f0 (by omega) (by omega) (by omega)
      refine ⟨r, Ev.step (fun k => rfl) ?_⟩
      simp only [spec_l1Split.l0]
      rw [bt_list s i hi, wrap_in (x := i + 1) (by omega) (by omega)]
      exact ev_pos (by omega) (ev_pos (by omega) (ev_neg (fun e => q (UInt8.toNat_inj.mp (by omega))) hr))
theorem split_head (s : ByteArray) (c : UInt8) (hs : s.size ≤ 1048576) (d : Nat) : ∀ (i : Int), 0 ≤ i → i + d = s.size →
    ∃ r, Ev (fun k => spec_l1Split.l0 k s (c.toNat : Int) [] 0 i) (headT s c i :: r) := by
  have hz : s.data.toList.length = s.size := rfl
  induction d with
  | zero =>
    intro i h0 h1
    have hx := ix_end s c i (by omega)
    refine ⟨[], Ev.step (fun k => rfl) ?_⟩
    simp only [spec_l1Split.l0]
    refine ev_neg (by omega) (ev_pos (by omega) (ev_pos (by omega) (ev_pos (by simp) (ev_val ?_ (Ev.now _)))))
    unfold headT
    rw [hx, if_neg (by omega), Int.toNat_zero, extract_all]
    rfl
  | succ d ih =>
    intro i h0 h1
    have hi : i.toNat < s.data.toList.length := by omega
    obtain ⟨x1, x2⟩ := ix_step s c i h0 hi
    by_cases q : s.data.toList[i.toNat] = c
    · obtain ⟨r, hr⟩ := split_tail s c hs d [s.extract 0 i.toNat] (i + 1) (i + 1) (by omega) (by omega) (by omega) (by rw [List.length_singleton]; omega)
      refine ⟨r, Ev.step (fun k => rfl) ?_⟩
      simp only [spec_l1Split.l0]
      rw [bt_list s i hi, wrap_in (x := i + 1) (by omega) (by omega)]
      refine ev_pos (by omega) (ev_pos (by omega) (ev_pos (by rw [q]) (ev_pos (by omega) (ev_pos (by omega) (ev_pos (by omega) (ev_pos (by simp) (ev_val ?_ hr)))))))
      unfold headT
      rw [x1 q, if_pos (by omega), Int.add_zero]
      rfl
    · obtain ⟨r, hr⟩ := ih (i + 1) (by omega) (by omega)
      have e : headT s c (i + 1) = headT s c i := by
        have hg := ix_ge s c (i + 1)
        unfold headT
        rw [x2 q]
        by_cases z : ix s c (i + 1) = -1
        · rw [if_pos z, z]; rfl
        · rw [if_neg z, if_pos (by omega), if_pos (by omega), show i + (ix s c (i + 1) + 1) = i + 1 + ix s c (i + 1) by omega]
      refine ⟨r, Ev.step (fun k => rfl) ?_⟩
      simp only [spec_l1Split.l0]
      rw [bt_list s i hi, wrap_in (x := i + 1) (by omega) (by omega), ← e]
      exact ev_pos (by omega) (ev_pos (by omega) (ev_neg (fun e => q (UInt8.toNat_inj.mp (by omega))) hr))
theorem ix_lt (s : ByteArray) (c : UInt8) (h : 0 ≤ ix s c 0) : ix s c 0 < s.size := by
  obtain ⟨o, ho⟩ : ∃ o : Nat, ix s c 0 = o := ⟨(ix s c 0).toNat, by omega⟩
  have h1 := (Lib.indexByte_some (show Lib.indexByte s.data.toList c = (o : Int) from ho)).1
  have h2 := (List.getElem?_eq_some_iff.1 h1).1
  have hz : s.data.toList.length = s.size := rfl
  omega
theorem no_sign (s : ByteArray) (c : UInt8) : stands c (headT s c 0) = false := by
  unfold headT stands
  by_cases h : 0 ≤ ix s c 0
  · rw [if_pos h]
    obtain ⟨o, ho⟩ : ∃ o : Nat, ix s c 0 = o := ⟨(ix s c 0).toNat, by omega⟩
    have h1 := (Lib.indexByte_some (show Lib.indexByte s.data.toList c = (o : Int) from ho)).2
    rw [ho, show ((0 : Int) + (o : Int)).toNat = o by omega, ByteArray.data_extract, Array.toList_extract]
    rw [Bool.eq_false_iff]
    intro hc
    rw [List.contains_iff_mem] at hc
    simp only [List.extract_eq_take_drop, List.drop_zero, Nat.sub_zero] at hc
    obtain ⟨k, hk, e⟩ := List.getElem_of_mem hc
    have hk2 : k < o := by rw [List.length_take] at hk; omega
    refine h1 k hk2 ?_
    rw [← e, List.getElem_take]
    exact List.getElem?_eq_getElem _
  · rw [if_neg h]
    have h2 := ix_ge s c 0
    have h1 := Lib.indexByte_none (show Lib.indexByte s.data.toList c = -1 from (by show ix s c 0 = -1; omega))
    rw [Bool.eq_false_iff]
    intro hc
    rw [List.contains_iff_mem] at hc
    obtain ⟨k, hk, e⟩ := List.getElem_of_mem hc
    exact h1 k (by rw [← e]; exact List.getElem?_eq_getElem hk)
theorem headT_size (s : ByteArray) (c : UInt8) : (headT s c 0).size ≤ s.size := by
  unfold headT
  split
  · rw [ByteArray.size_extract]; omega
  · exact Nat.le_refl _
theorem cut_eq (s : ByteArray) (hs : s.size ≤ 1048576) : ∃ b x, strings_Cut.f s ⟨#[35]⟩ = some (headT s 35 0, b, x) := by
  have hI : stringslite_Index.f s ⟨#[35]⟩ = some (ix s 35 0) := by
    unfold stringslite_Index.f
    rw [if_pos (show (⟨#[35]⟩ : ByteArray).size = 1 from rfl)]
    rfl
  have z : (⟨#[35]⟩ : ByteArray).size = 1 := rfl
  unfold strings_Cut.f stringslite_Cut.f
  rw [hI]
  simp only [Option.bind_some]
  by_cases h : ix s 35 0 ≥ 0
  · have hl := ix_lt s 35 h
    rw [if_pos h, if_pos h, if_pos (by omega), z, wrap_in (x := ix s 35 0 + ((1 : Nat) : Int)) (by omega) (by omega), if_pos (by omega), if_pos (by omega)]
    refine ⟨s.extract (ix s 35 0 + ((1 : Nat) : Int)).toNat s.size, true, ?_⟩
    unfold headT
    rw [if_pos h, Int.zero_add]
    rfl
  · rw [if_neg h]
    refine ⟨⟨#[]⟩, false, ?_⟩
    unfold headT
    rw [if_neg h]
    rfl
end Go.Proofs.YtehbjmcbpmoonaaDoor.Pure
