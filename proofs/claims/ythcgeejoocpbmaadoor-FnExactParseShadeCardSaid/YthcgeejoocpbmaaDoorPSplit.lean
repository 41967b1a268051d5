/- The pieces of a text: the reference's split. -/
import Derived.Test.YthcgeejoocpbmaaDoorGx10
import Derived.Test.YthcgeejoocpbmaaDoorGx6
import Derived.Test.YthcgeejoocpbmaaDoorPNum
import Derived.Lib.SplitLaws
import Derived.Lib.IndexAny
namespace Go.Proofs.YthcgeejoocpbmaaDoor.Pure
open Go.RowKit Go.Proofs.YthcgeejoocpbmaaDoor.G Go.Proofs.YthcgeejoocpbmaaDoorW.PrintWords Go.Proofs.YthcgeejoocpbmaaDoorW.PrintLast
set_option linter.unusedSimpArgs false
set_option linter.unusedVariables false

/-- The pieces between the bytes c, the first with what stands ahead of it. -/
def SP (c : UInt8) : List UInt8 → List UInt8 → List (List UInt8)
  | acc, [] => [acc]
  | acc, x :: l => if x = c then acc :: SP c [] l else SP c (acc ++ [x]) l
def toB (l : List UInt8) : ByteArray := ⟨l.toArray⟩
theorem toB_list (l : List UInt8) : (toB l).data.toList = l := rfl
theorem of_toB (s : ByteArray) : toB s.data.toList = s := rfl
theorem ext_list (s : ByteArray) (a b : Nat) : (s.extract a b).data.toList = (s.data.toList.drop a).take (b - a) := by
  rw [ByteArray.data_extract, Array.toList_extract, List.extract_eq_take_drop]
theorem ext_none (s : ByteArray) (a : Nat) : (s.extract a a).data.toList = [] := by
  rw [ext_list, Nat.sub_self, List.take_zero]
theorem ext_snoc (s : ByteArray) (a b : Nat) (h : a ≤ b) (hb : b < s.data.toList.length) : (s.extract a (b + 1)).data.toList = (s.extract a b).data.toList ++ [s.data.toList[b]] := by
  rw [ext_list, ext_list, show b + 1 - a = (b - a) + 1 by omega, List.take_succ_eq_append_getElem (by rw [List.length_drop]; omega), List.getElem_drop]
  congr 3
  omega
theorem ext_end (s : ByteArray) (a : Nat) : (s.extract a s.size).data.toList = s.data.toList.drop a := by
  rw [ext_list]
  exact List.take_of_length_le (by rw [List.length_drop]; exact Nat.le_refl _)
theorem SP_ne (c : UInt8) : ∀ (l acc : List UInt8), SP c acc l ≠ []
  | [], acc, h => by simp [SP] at h
  | x :: l, acc, h => by
    unfold SP at h
    split at h
    · cases h
    · exact SP_ne c l _ h
theorem SP_len (c : UInt8) : ∀ (l acc : List UInt8), (SP c acc l).length = l.count c + 1
  | [], acc => rfl
  | x :: l, acc => by
    unfold SP
    split
    · rename_i h
      subst h
      rw [List.length_cons, SP_len, List.count_cons_self]
    · rename_i h
      rw [SP_len, List.count_cons_of_ne h]
theorem SP_hit (c : UInt8) : ∀ (l acc : List UInt8) (m : Nat), Lib.indexByte l c = (m : Int) → SP c acc l = (acc ++ l.take m) :: SP c [] (l.drop (m + 1))
  | [], acc, m, h => by simp [Lib.indexByte] at h
  | x :: l, acc, m, h => by
    by_cases q : x = c
    · rw [Lib.indexByte, if_pos (by rw [q]; simp)] at h
      obtain rfl : m = 0 := by omega
      rw [SP, if_pos q]
      simp
    · rw [Lib.indexByte, if_neg (by simpa using q)] at h
      by_cases z : Lib.indexByte l c = -1
      · rw [if_pos (by rw [z]; rfl)] at h; omega
      · rw [if_neg (by simpa using z)] at h
        have hg := Lib.indexByte_ge l c
        obtain ⟨o, ho⟩ : ∃ o : Nat, Lib.indexByte l c = o := ⟨(Lib.indexByte l c).toNat, by omega⟩
        obtain rfl : m = o + 1 := by omega
        rw [SP, if_neg q, SP_hit c l (acc ++ [x]) o ho]
        simp
theorem SP_miss (c : UInt8) : ∀ (l acc : List UInt8), l.count c = 0 → SP c acc l = [acc ++ l]
  | [], acc, h => by simp [SP]
  | x :: l, acc, h => by
    rw [List.count_cons] at h
    have q : x ≠ c := by
      intro e
      rw [if_pos (by rw [e]; simp)] at h
      omega
    rw [SP, if_neg q, SP_miss c l (acc ++ [x]) (by omega)]
    simp
theorem count_pos_index (c : UInt8) (l : List UInt8) (h : 0 < l.count c) : ∃ m : Nat, Lib.indexByte l c = (m : Int) ∧ m < l.length := by
  have hg := Lib.indexByte_ge l c
  by_cases z : Lib.indexByte l c = -1
  · exfalso
    have h1 := Lib.indexByte_none z
    obtain ⟨k, hk, e⟩ := List.getElem_of_mem (List.count_pos_iff.mp h)
    exact h1 k (by rw [← e]; exact List.getElem?_eq_getElem hk)
  · obtain ⟨o, ho⟩ : ∃ o : Nat, Lib.indexByte l c = o := ⟨(Lib.indexByte l c).toNat, by omega⟩
    exact ⟨o, ho, (List.getElem?_eq_some_iff.1 (Lib.indexByte_some ho).1).1⟩
theorem count_index_none (c : UInt8) (l : List UInt8) (h : Lib.indexByte l c < 0) : l.count c = 0 := by
  by_cases q : 0 < l.count c
  · obtain ⟨m, h1, h2⟩ := count_pos_index c l q
    omega
  · omega
theorem count_hit (c : UInt8) (l : List UInt8) (m : Nat) (h : Lib.indexByte l c = (m : Int)) : l.count c = (l.drop (m + 1)).count c + 1 := by
  have h1 := SP_len c l []
  rw [SP_hit c l [] m h, List.length_cons, SP_len] at h1
  omega
theorem spec_split_l0 (s : ByteArray) (c : UInt8) (hs : s.size ≤ 2097152) (d : Nat) : ∀ (out : List ByteArray) (fr i : Int), 0 ≤ fr → fr ≤ i → i + d = s.size → (out.length : Int) ≤ i →
    Ev (fun k => spec_l1Split.l0 k s (c.toNat : Int) out fr i) (out ++ (SP c (s.extract fr.toNat i.toNat).data.toList (s.data.toList.drop i.toNat)).map toB) := by
  have hz : s.data.toList.length = s.size := rfl
  induction d with
  | zero =>
    intro out fr i f0 f1 h1 ho
    refine Ev.step (fun k => rfl) ?_
    simp only [spec_l1Split.l0]
    refine ev_neg (by omega) (ev_pos f0 (ev_pos (by omega) (ev_pos (by omega) (ev_val ?_ (Ev.now _)))))
    rw [List.drop_eq_nil_of_le (by omega), show i.toNat = s.size by omega, SP, List.map_cons, List.map_nil, of_toB]
  | succ d ih =>
    intro out fr i f0 f1 h1 ho
    have hi : i.toNat < s.data.toList.length := by omega
    rw [List.drop_eq_getElem_cons hi, SP]
    by_cases q : s.data.toList[i.toNat] = c
    · have hr := ih (out ++ [s.extract fr.toNat i.toNat]) (i + 1) (i + 1) (by omega) (by omega) (by omega) (by rw [List.length_append, List.length_singleton]; omega)
      rw [ext_none, show (i + 1).toNat = i.toNat + 1 by omega] at hr
      rw [if_pos q]
      refine Ev.step (fun k => rfl) ?_
      simp only [spec_l1Split.l0]
      rw [bt_list s i hi, wrap_in (x := i + 1) (by omega) (by omega)]
      refine ev_pos (by omega) (ev_pos (by omega) (ev_pos (by rw [q]) (ev_pos f0 (ev_pos f1 (ev_pos (by omega) (ev_pos (by omega) (ev_val ?_ hr)))))))
      rw [List.map_cons, of_toB, List.append_assoc]
      rfl
    · have hr := ih out fr (i + 1) f0 (by omega) (by omega) (by omega)
      rw [show (i + 1).toNat = i.toNat + 1 by omega, ext_snoc s _ _ (by omega) hi] at hr
      rw [if_neg q]
      refine Ev.step (fun k => rfl) ?_
      simp only [spec_l1Split.l0]
      rw [bt_list s i hi, wrap_in (x := i + 1) (by omega) (by omega)]
      exact ev_pos (by omega) (ev_pos (by omega) (ev_neg (fun e => q (UInt8.toNat_inj.mp (by omega))) hr))
/-- The pieces of a text. -/
def pieces (c : UInt8) (s : ByteArray) : List ByteArray := (SP c [] s.data.toList).map toB
theorem spec_split (s : ByteArray) (c : UInt8) (hs : s.size ≤ 2097152) : Ev (fun k => spec_l1Split.f k s (c.toNat : Int)) (pieces c s) := by
  have h := spec_split_l0 s c hs s.size [] 0 0 (by omega) (by omega) (by omega) (by simp)
  rw [Int.toNat_zero, ext_none] at h
  exact h
/-! ### the program's pieces -/
theorem take_set {α : Type} : ∀ (a : List α) (n : Nat) (x : α), n < a.length → (a.set n x).take (n + 1) = a.take n ++ [x]
  | [], n, x, h => by simp at h
  | y :: a, 0, x, h => by simp
  | y :: a, n + 1, x, h => by
    have := take_set a n x (by simpa using h)
    simp [this]
theorem index_eq (s : ByteArray) (c : UInt8) : strings_Index.f s ⟨#[c]⟩ = some (Lib.indexByte s.data.toList c) := by
  unfold strings_Index.f stringslite_Index.f
  rw [if_pos (show (⟨#[c]⟩ : ByteArray).size = 1 from rfl)]
  rfl
end Go.Proofs.YthcgeejoocpbmaaDoor.Pure
