/- A shade's text: its pieces, and what both readers make of it. -/
import Derived.Test.YthcgeejoocpbmaaDoorGx1
import Derived.Test.YthcgeejoocpbmaaDoorPRead
import Derived.Test.YthcgeejoocpbmaaDoorPSplitB
import Derived.Lib.Replace
import Derived.Lib.SplitLaws
namespace Go.Proofs.YthcgeejoocpbmaaDoor.Pure
open Go.RowKit Go.Proofs.YthcgeejoocpbmaaDoor.G Go.Proofs.YthcgeejoocpbmaaDoorW.PrintWords Go.Proofs.YthcgeejoocpbmaaDoorW.PrintLast
set_option linter.unusedSimpArgs false
set_option linter.unusedVariables false

/-! ### commas taken out -/
theorem replK_miss (c : UInt8) (b : UInt8) (h : b ≠ c) (l : List UInt8) : ∀ k, Lib.replaceK [c] [] k (b :: l) = b :: Lib.replaceK [c] [] k l
  | 0 => rfl
  | k + 1 => by
    have hp : ([c] : List UInt8).isPrefixOf (b :: l) = false := by
      simp only [List.isPrefixOf, Bool.and_true]
      exact beq_eq_false_iff_ne.mpr (fun e => h e.symm)
    have hix : Lib.index (b :: l) [c] = if Lib.index l [c] == -1 then -1 else Lib.index l [c] + 1 := by rw [Lib.index, hp]; simp
    have hge := Lib.index_ge l [c]
    rw [Lib.replaceK, Lib.replaceK, hix]
    by_cases m : Lib.index l [c] = -1
    · rw [m]; rfl
    · have e1 : (Lib.index l [c] == -1) = false := beq_eq_false_iff_ne.mpr m
      obtain ⟨i, hi⟩ : ∃ i : Nat, Lib.index l [c] = i := ⟨(Lib.index l [c]).toNat, by omega⟩
      rw [e1, hi]
      have e2 : (((i : Int) + 1) == -1) = false := beq_eq_false_iff_ne.mpr (by omega)
      simp only [Bool.false_eq_true, if_false, e2]
      rw [show ((i : Int) + 1).toNat = i + 1 by omega, show ((i : Int)).toNat = i by omega]
      simp [Nat.add_right_comm]
theorem replK_eq (c : UInt8) : ∀ l : List UInt8, Lib.replaceK [c] [] (l.count c) l = l.filter (fun x => x != c)
  | [] => rfl
  | b :: l => by
    by_cases h : b = c
    · subst h
      rw [List.count_cons_self, Lib.replaceK]
      have hix : Lib.index (b :: l) [b] = 0 := by rw [Lib.index]; simp [List.isPrefixOf]
      rw [hix, if_neg (by decide), List.filter_cons_of_neg (by simp)]
      simpa using replK_eq b l
    · rw [List.count_cons_of_ne h, replK_miss c b h, List.filter_cons_of_pos (by simpa using h), replK_eq c l]
theorem replaceAll_eq (c : UInt8) (l : List UInt8) : Lib.replaceAll l [c] [] = l.filter (fun x => x != c) := by
  unfold Lib.replaceAll Lib.replace Lib.replaceNum
  rw [if_neg (by simp), if_pos (Or.inl (by decide)), Lib.count_one]
  exact replK_eq c l
/-! ### pieces -/
theorem SP_word (c : UInt8) : ∀ (l acc r : List UInt8), (∀ x ∈ l, x ≠ c) → SP c acc (l ++ c :: r) = (acc ++ l) :: SP c [] r
  | [], acc, r, _ => by rw [List.nil_append, SP, if_pos rfl, List.append_nil]
  | x :: l, acc, r, h => by
    rw [List.cons_append, SP, if_neg (h x List.mem_cons_self), SP_word c l (acc ++ [x]) r (fun y hy => h y (List.mem_cons_of_mem _ hy)), List.append_assoc]
    rfl
theorem SP_last (c : UInt8) : ∀ (l acc : List UInt8), (∀ x ∈ l, x ≠ c) → SP c acc l = [acc ++ l]
  | [], acc, _ => by rw [SP, List.append_nil]
  | x :: l, acc, h => by
    rw [SP, if_neg (h x List.mem_cons_self), SP_last c l (acc ++ [x]) (fun y hy => h y (List.mem_cons_of_mem _ hy)), List.append_assoc]
    rfl
theorem SP_mem_len (c : UInt8) : ∀ (l acc : List UInt8) (x : List UInt8), x ∈ SP c acc l → x.length ≤ acc.length + l.length
  | [], acc, x, h => by
    rw [SP] at h
    rw [List.mem_singleton.1 h]
    simp
  | y :: l, acc, x, h => by
    rw [SP] at h
    split at h
    · rcases List.mem_cons.1 h with rfl | h
      · simp
      · have := SP_mem_len c l [] x h
        simp only [List.length_nil, List.length_cons] at this ⊢
        omega
    · have := SP_mem_len c l (acc ++ [y]) x h
      simp only [List.length_append, List.length_cons, List.length_nil] at this ⊢
      omega
theorem len_size (s : ByteArray) : s.data.toList.length = s.size := by
  show s.data.toList.length = s.data.size
  exact Array.length_toList
theorem toB_size (l : List UInt8) : (toB l).size = l.length := by
  show l.toArray.size = l.length
  simp
theorem piece_size (c : UInt8) (s : ByteArray) (i : Int) : (rdOf ByteArray.empty (pieces c s) i).size ≤ s.size := by
  unfold rdOf
  rw [List.getD_eq_getElem?_getD]
  cases h : (pieces c s)[i.toNat]? with
  | none => exact Nat.zero_le _
  | some x =>
    rw [Option.getD_some]
    have hm := List.mem_of_getElem? h
    unfold pieces at hm
    obtain ⟨y, hy, rfl⟩ := List.mem_map.1 hm
    have := SP_mem_len c _ _ _ hy
    rw [len_size, List.length_nil, Nat.zero_add] at this
    rw [toB_size]
    exact this
/-! ### a shade's text -/
def textL (a : Int) (n : List UInt8) (b c d : Int) : List UInt8 := Lib.itoa a ++ 32 :: (n ++ 32 :: ([97, 116] ++ 32 :: ((Lib.itoa b ++ [44]) ++ 32 :: ([100, 101, 112, 116, 104] ++ 32 :: ((Lib.itoa c ++ [44]) ++ 32 :: ([102, 97, 115, 116] ++ 32 :: Lib.itoa d))))))
def textB (a : Int) (n : ByteArray) (b c d : Int) : ByteArray := ((((((numT (Lib.itoa a) ++ (⟨#[32]⟩ : ByteArray)) ++ n) ++ (⟨#[32, 97, 116, 32]⟩ : ByteArray)) ++ numT (Lib.itoa b)) ++ (⟨#[44, 32, 100, 101, 112, 116, 104, 32]⟩ : ByteArray)) ++ numT (Lib.itoa c)) ++ (⟨#[44, 32, 102, 97, 115, 116, 32]⟩ : ByteArray) ++ numT (Lib.itoa d)
theorem textB_list (a : Int) (n : ByteArray) (b c d : Int) : (textB a n b c d).data.toList = textL a n.data.toList b c d := by
  unfold textB textL numT
  simp only [ByteArray.data_append, Array.toList_append, List.append_assoc, List.cons_append, List.nil_append]
theorem itoa_digits (x : Int) (h : 0 ≤ x) : ∀ y ∈ Lib.itoa x, 48 ≤ y.toNat ∧ y.toNat ≤ 57 := by
  unfold Lib.itoa
  rw [if_neg (by omega)]
  exact dval_digits _ _ _ (dval_dec _)
theorem itoa_len (x : Int) (h : 0 ≤ x) (h1 : x < 100) : 1 ≤ (Lib.itoa x).length ∧ (Lib.itoa x).length ≤ 2 := by
  unfold Lib.itoa
  rw [if_neg (by omega)]
  exact ⟨dec_ne _, dec_len 1 _ (by omega)⟩
theorem word_letters (n : ByteArray) (h : wordB n = true) : (∀ y ∈ n.data.toList, 97 ≤ y.toNat ∧ y.toNat ≤ 122) ∧ n.size ≤ 10 := by
  rw [wordB_eq, Bool.and_eq_true, Bool.and_eq_true, allFrom_iff] at h
  obtain ⟨h1, h2, h3⟩ := h
  refine ⟨fun y hy => ?_, by have := of_decide_eq_true h3; omega⟩
  obtain ⟨j, hj, rfl⟩ := List.getElem_of_mem hy
  have hs : j < n.size := by rw [← len_size]; exact hj
  have := h1 j (Nat.zero_le _) (by omega)
  unfold letterAt at this
  rw [bt_list n (j : Int) (by rw [Int.toNat_natCast]; exact hj)] at this
  simp only [Bool.and_eq_true, decide_eq_true_eq, Int.toNat_natCast] at this
  omega
structure Good (a : Int) (n : ByteArray) (b c d : Int) : Prop where
  a0 : 1 ≤ a
  a1 : a ≤ 99
  b0 : 0 ≤ b
  b1 : b ≤ 23
  c0 : 0 ≤ c
  c1 : c ≤ 9
  d0 : 1 ≤ d
  d1 : d ≤ 8
  w : wordB n = true
theorem good_of {a : Int} {n : ByteArray} {b c d : Int} (h : shadeB a n b c d = true) : Good a n b c d := by
  obtain ⟨p1, p2, p3, p4, p5, p6, p7, p8, _⟩ := shade_parts h
  unfold shadeB at h
  simp only [Bool.and_eq_true] at h
  exact ⟨p1, p2, p3, p4, p5, p6, p7, p8, h.2.1⟩
theorem free_num {x : Int} (h : 0 ≤ x) (c : UInt8) (hc : c.toNat < 48) : ∀ y ∈ Lib.itoa x, y ≠ c := by
  intro y hy e
  have := itoa_digits x h y hy
  rw [e] at this
  omega
theorem free_name {n : ByteArray} (h : wordB n = true) (c : UInt8) (hc : c.toNat < 97) : ∀ y ∈ n.data.toList, y ≠ c := by
  intro y hy e
  have := (word_letters n h).1 y hy
  rw [e] at this
  omega
theorem free_snoc {l : List UInt8} (h : ∀ y ∈ l, y ≠ 32) : ∀ y ∈ l ++ [44], y ≠ 32 := by
  intro y hy
  rcases List.mem_append.1 hy with hy | hy
  · exact h y hy
  · rw [List.mem_singleton.1 hy]; decide
/-- The text's pieces between blanks. -/
theorem text_pieces {a : Int} {n : ByteArray} {b c d : Int} (g : Good a n b c d) : SP 32 [] (textL a n.data.toList b c d) = [Lib.itoa a, n.data.toList, [97, 116], Lib.itoa b ++ [44], [100, 101, 112, 116, 104], Lib.itoa c ++ [44], [102, 97, 115, 116], Lib.itoa d] := by
  have f1 := free_num (x := a) (by have := g.a0; omega) 32 (by decide)
  have f2 := free_num (x := b) g.b0 32 (by decide)
  have f3 := free_num (x := c) g.c0 32 (by decide)
  have f4 := free_num (x := d) (by have := g.d0; omega) 32 (by decide)
  have f5 := free_name g.w 32 (by decide)
  unfold textL
  rw [SP_word 32 _ _ _ f1, SP_word 32 _ _ _ f5, SP_word 32 _ _ _ (by decide), SP_word 32 _ _ _ (free_snoc f2), SP_word 32 _ _ _ (by decide), SP_word 32 _ _ _ (free_snoc f3), SP_word 32 _ _ _ (by decide), SP_last 32 _ _ f4]
  simp only [List.nil_append]
theorem filter_free (l : List UInt8) (c : UInt8) (h : ∀ y ∈ l, y ≠ c) : l.filter (fun x => x != c) = l := List.filter_eq_self.mpr (fun y hy => by simpa using h y hy)
/-- .. and of the text without its commas. -/
theorem text_pieces2 {a : Int} {n : ByteArray} {b c d : Int} (g : Good a n b c d) : SP 32 [] ((textL a n.data.toList b c d).filter (fun x => x != 44)) = [Lib.itoa a, n.data.toList, [97, 116], Lib.itoa b, [100, 101, 112, 116, 104], Lib.itoa c, [102, 97, 115, 116], Lib.itoa d] := by
  have f1 := free_num (x := a) (by have := g.a0; omega) 32 (by decide)
  have f2 := free_num (x := b) g.b0 32 (by decide)
  have f3 := free_num (x := c) g.c0 32 (by decide)
  have f4 := free_num (x := d) (by have := g.d0; omega) 32 (by decide)
  have f5 := free_name g.w 32 (by decide)
  have e1 := filter_free _ 44 (free_num (x := a) (by have := g.a0; omega) 44 (by decide))
  have e2 := filter_free _ 44 (free_num (x := b) g.b0 44 (by decide))
  have e3 := filter_free _ 44 (free_num (x := c) g.c0 44 (by decide))
  have e4 := filter_free _ 44 (free_num (x := d) (by have := g.d0; omega) 44 (by decide))
  have e5 := filter_free _ 44 (free_name g.w 44 (by decide))
  have e : (textL a n.data.toList b c d).filter (fun x => x != 44) = Lib.itoa a ++ 32 :: (n.data.toList ++ 32 :: ([97, 116] ++ 32 :: (Lib.itoa b ++ 32 :: ([100, 101, 112, 116, 104] ++ 32 :: (Lib.itoa c ++ 32 :: ([102, 97, 115, 116] ++ 32 :: Lib.itoa d)))))) := by
    unfold textL
    simp only [List.filter_append, List.filter_cons, List.filter_nil, e1, e2, e3, e4, e5, List.append_nil]
    simp only [show ((32 : UInt8) != 44) = true from rfl, show ((44 : UInt8) != 44) = false from rfl, show ((97 : UInt8) != 44) = true from rfl, show ((116 : UInt8) != 44) = true from rfl, show ((100 : UInt8) != 44) = true from rfl, show ((101 : UInt8) != 44) = true from rfl, show ((112 : UInt8) != 44) = true from rfl, show ((104 : UInt8) != 44) = true from rfl, show ((102 : UInt8) != 44) = true from rfl, show ((115 : UInt8) != 44) = true from rfl, if_true, if_false, Bool.false_eq_true, List.append_nil]
  rw [e, SP_word 32 _ _ _ f1, SP_word 32 _ _ _ f5, SP_word 32 _ _ _ (by decide), SP_word 32 _ _ _ f2, SP_word 32 _ _ _ (by decide), SP_word 32 _ _ _ f3, SP_word 32 _ _ _ (by decide), SP_last 32 _ _ f4]
  simp only [List.nil_append]
theorem parse_itoa (v : Int) (h0 : -999999 ≤ v) (h1 : v ≤ 999999) : parseB (Lib.itoa v) = (v, true) := by
  unfold parseB
  rw [atoi_itoa v h0 h1]
  dsimp only
  rw [if_pos ⟨h0, h1⟩, if_pos rfl]
theorem textB_size {a : Int} {n : ByteArray} {b c d : Int} (g : Good a n b c d) : (textB a n b c d).size ≤ 50 := by
  have h1 := (itoa_len a (by have := g.a0; omega) (by have := g.a1; omega)).2
  have h2 := (itoa_len b g.b0 (by have := g.b1; omega)).2
  have h3 := (itoa_len c g.c0 (by have := g.c1; omega)).2
  have h4 := (itoa_len d (by have := g.d0; omega) (by have := g.d1; omega)).2
  have h5 := (word_letters n g.w).2
  unfold textB
  simp only [ByteArray.size_append, numT_size, show (⟨#[32]⟩ : ByteArray).size = 1 from rfl, show (⟨#[32, 97, 116, 32]⟩ : ByteArray).size = 4 from rfl, show (⟨#[44, 32, 100, 101, 112, 116, 104, 32]⟩ : ByteArray).size = 8 from rfl, show (⟨#[44, 32, 102, 97, 115, 116, 32]⟩ : ByteArray).size = 7 from rfl]
  omega
/-! ### what both come to -/
abbrev Res := Int × ByteArray × Int × Int × Int × Bool
def Z : Res := (0, ⟨#[]⟩, 0, 0, 0, false)
def chk (s : ByteArray) (a : Int) (n : ByteArray) (b c d : Int) : Res := if shadeB a n b c d = true then (if (textB a n b c d).toList = s.toList then (a, n, b, c, d, true) else Z) else Z
def cutL (w : ByteArray) : ByteArray := w.extract 0 (((w.size : Int) - 1) : Int).toNat
def specV (s : ByteArray) : Res :=
  if 50 < s.size then Z else if (pieces 32 s).length = 8 then (if (rdOf ByteArray.empty (pieces 32 s) 3).size < 2 then Z else if (rdOf ByteArray.empty (pieces 32 s) 5).size < 2 then Z else
    chk s (parseB (rdOf ByteArray.empty (pieces 32 s) 0).data.toList).1 (rdOf ByteArray.empty (pieces 32 s) 1) (parseB (cutL (rdOf ByteArray.empty (pieces 32 s) 3)).data.toList).1 (parseB (cutL (rdOf ByteArray.empty (pieces 32 s) 5)).data.toList).1 (parseB (rdOf ByteArray.empty (pieces 32 s) 7).data.toList).1) else Z
def bare (s : ByteArray) : ByteArray := numT (s.data.toList.filter (fun x => x != 44))
def implV (s : ByteArray) : Res :=
  if (pieces 32 (bare s)).length = 8 then (if (parseB (rdOf ByteArray.empty (pieces 32 (bare s)) 0).data.toList).2 = true ∧ (parseB (rdOf ByteArray.empty (pieces 32 (bare s)) 3).data.toList).2 = true ∧ (parseB (rdOf ByteArray.empty (pieces 32 (bare s)) 5).data.toList).2 = true ∧ (parseB (rdOf ByteArray.empty (pieces 32 (bare s)) 7).data.toList).2 = true then
    chk s (parseB (rdOf ByteArray.empty (pieces 32 (bare s)) 0).data.toList).1 (rdOf ByteArray.empty (pieces 32 (bare s)) 1) (parseB (rdOf ByteArray.empty (pieces 32 (bare s)) 3).data.toList).1 (parseB (rdOf ByteArray.empty (pieces 32 (bare s)) 5).data.toList).1 (parseB (rdOf ByteArray.empty (pieces 32 (bare s)) 7).data.toList).1 else Z) else Z
theorem bytes_ext {s t : ByteArray} (h : s.toList = t.toList) : s = t := by
  rw [Lib.toList_data, Lib.toList_data] at h
  apply ByteArray.ext
  exact Array.toList_inj.mp h
theorem chk_good {s : ByteArray} {a : Int} {n : ByteArray} {b c d : Int} (h : shadeB a n b c d = true) (e : (textB a n b c d).toList = s.toList) : chk s a n b c d = (a, n, b, c, d, true) := by
  unfold chk
  rw [if_pos h, if_pos e]
theorem chk_none {s : ByteArray} (h : ¬ ∃ a n b c d, shadeB a n b c d = true ∧ (textB a n b c d).toList = s.toList) (a : Int) (n : ByteArray) (b c d : Int) : chk s a n b c d = Z := by
  unfold chk
  by_cases c1 : shadeB a n b c d = true
  · by_cases c2 : (textB a n b c d).toList = s.toList
    · exact absurd ⟨a, n, b, c, d, c1, c2⟩ h
    · rw [if_pos c1, if_neg c2]
  · rw [if_neg c1]
theorem cut_snoc (l : List UInt8) : cutL (toB (l ++ [44])) = toB l := by
  unfold cutL
  apply ByteArray.ext
  apply Array.toList_inj.mp
  rw [ext_list]
  have e : ((((toB (l ++ [44])).size : Int) - 1)).toNat = l.length := by
    have : (toB (l ++ [44])).size = l.length + 1 := by rw [toB_size, List.length_append]; rfl
    omega
  rw [e]
  show ((l ++ [44]).drop 0).take (l.length - 0) = l
  simp
theorem specV_good {s : ByteArray} {a : Int} {n : ByteArray} {b c d : Int} (h : shadeB a n b c d = true) (e : (textB a n b c d).toList = s.toList) : specV s = (a, n, b, c, d, true) := by
  have g := good_of h
  obtain rfl := bytes_ext e
  have hp : pieces 32 (textB a n b c d) = [toB (Lib.itoa a), n, toB [97, 116], toB (Lib.itoa b ++ [44]), toB [100, 101, 112, 116, 104], toB (Lib.itoa c ++ [44]), toB [102, 97, 115, 116], toB (Lib.itoa d)] := by
    unfold pieces
    rw [textB_list, text_pieces g]
    rfl
  have hz := textB_size g
  have h2 := (itoa_len b g.b0 (by have := g.b1; omega)).1
  have h3 := (itoa_len c g.c0 (by have := g.c1; omega)).1
  have h8 : (pieces 32 (textB a n b c d)).length = 8 := by rw [hp]; rfl
  unfold specV
  rw [if_neg (by omega), if_pos h8, hp]
  have w0 : rdOf ByteArray.empty [toB (Lib.itoa a), n, toB [97, 116], toB (Lib.itoa b ++ [44]), toB [100, 101, 112, 116, 104], toB (Lib.itoa c ++ [44]), toB [102, 97, 115, 116], toB (Lib.itoa d)] 0 = toB (Lib.itoa a) := rfl
  have w1 : rdOf ByteArray.empty [toB (Lib.itoa a), n, toB [97, 116], toB (Lib.itoa b ++ [44]), toB [100, 101, 112, 116, 104], toB (Lib.itoa c ++ [44]), toB [102, 97, 115, 116], toB (Lib.itoa d)] 1 = n := rfl
  have w3 : rdOf ByteArray.empty [toB (Lib.itoa a), n, toB [97, 116], toB (Lib.itoa b ++ [44]), toB [100, 101, 112, 116, 104], toB (Lib.itoa c ++ [44]), toB [102, 97, 115, 116], toB (Lib.itoa d)] 3 = toB (Lib.itoa b ++ [44]) := rfl
  have w5 : rdOf ByteArray.empty [toB (Lib.itoa a), n, toB [97, 116], toB (Lib.itoa b ++ [44]), toB [100, 101, 112, 116, 104], toB (Lib.itoa c ++ [44]), toB [102, 97, 115, 116], toB (Lib.itoa d)] 5 = toB (Lib.itoa c ++ [44]) := rfl
  have w7 : rdOf ByteArray.empty [toB (Lib.itoa a), n, toB [97, 116], toB (Lib.itoa b ++ [44]), toB [100, 101, 112, 116, 104], toB (Lib.itoa c ++ [44]), toB [102, 97, 115, 116], toB (Lib.itoa d)] 7 = toB (Lib.itoa d) := rfl
  rw [w0, w1, w3, w5, w7, cut_snoc, cut_snoc, toB_list, toB_list, toB_list, toB_list]
  have z3 : ¬ (toB (Lib.itoa b ++ [44])).size < 2 := by
    have : (toB (Lib.itoa b ++ [44])).size = (Lib.itoa b).length + 1 := by rw [toB_size, List.length_append]; rfl
    omega
  have z5 : ¬ (toB (Lib.itoa c ++ [44])).size < 2 := by
    have : (toB (Lib.itoa c ++ [44])).size = (Lib.itoa c).length + 1 := by rw [toB_size, List.length_append]; rfl
    omega
  obtain ⟨a0, a1, b0, b1, c0, c1, d0, d1, _⟩ := g
  rw [if_neg z3, if_neg z5, parse_itoa a (by omega) (by omega), parse_itoa b (by omega) (by omega), parse_itoa c (by omega) (by omega), parse_itoa d (by omega) (by omega)]
  exact chk_good h rfl
theorem implV_good {s : ByteArray} {a : Int} {n : ByteArray} {b c d : Int} (h : shadeB a n b c d = true) (e : (textB a n b c d).toList = s.toList) : implV s = (a, n, b, c, d, true) := by
  have g := good_of h
  obtain rfl := bytes_ext e
  have hp : pieces 32 (bare (textB a n b c d)) = [toB (Lib.itoa a), n, toB [97, 116], toB (Lib.itoa b), toB [100, 101, 112, 116, 104], toB (Lib.itoa c), toB [102, 97, 115, 116], toB (Lib.itoa d)] := by
    unfold pieces bare
    rw [show (numT ((textB a n b c d).data.toList.filter (fun x => x != 44))).data.toList = (textB a n b c d).data.toList.filter (fun x => x != 44) from rfl, textB_list, text_pieces2 g]
    rfl
  have h8 : (pieces 32 (bare (textB a n b c d))).length = 8 := by rw [hp]; rfl
  unfold implV
  rw [if_pos h8, hp]
  have w0 : rdOf ByteArray.empty [toB (Lib.itoa a), n, toB [97, 116], toB (Lib.itoa b), toB [100, 101, 112, 116, 104], toB (Lib.itoa c), toB [102, 97, 115, 116], toB (Lib.itoa d)] 0 = toB (Lib.itoa a) := rfl
  have w1 : rdOf ByteArray.empty [toB (Lib.itoa a), n, toB [97, 116], toB (Lib.itoa b), toB [100, 101, 112, 116, 104], toB (Lib.itoa c), toB [102, 97, 115, 116], toB (Lib.itoa d)] 1 = n := rfl
  have w3 : rdOf ByteArray.empty [toB (Lib.itoa a), n, toB [97, 116], toB (Lib.itoa b), toB [100, 101, 112, 116, 104], toB (Lib.itoa c), toB [102, 97, 115, 116], toB (Lib.itoa d)] 3 = toB (Lib.itoa b) := rfl
  have w5 : rdOf ByteArray.empty [toB (Lib.itoa a), n, toB [97, 116], toB (Lib.itoa b), toB [100, 101, 112, 116, 104], toB (Lib.itoa c), toB [102, 97, 115, 116], toB (Lib.itoa d)] 5 = toB (Lib.itoa c) := rfl
  have w7 : rdOf ByteArray.empty [toB (Lib.itoa a), n, toB [97, 116], toB (Lib.itoa b), toB [100, 101, 112, 116, 104], toB (Lib.itoa c), toB [102, 97, 115, 116], toB (Lib.itoa d)] 7 = toB (Lib.itoa d) := rfl
  obtain ⟨a0, a1, b0, b1, c0, c1, d0, d1, _⟩ := g
  rw [w0, w1, w3, w5, w7, toB_list, toB_list, toB_list, toB_list, parse_itoa a (by omega) (by omega), parse_itoa b (by omega) (by omega), parse_itoa c (by omega) (by omega), parse_itoa d (by omega) (by omega), if_pos ⟨rfl, rfl, rfl, rfl⟩]
  exact chk_good h rfl
theorem both_same (s : ByteArray) : specV s = implV s := by
  by_cases h : ∃ a n b c d, shadeB a n b c d = true ∧ (textB a n b c d).toList = s.toList
  · obtain ⟨a, n, b, c, d, h1, h2⟩ := h
    rw [specV_good h1 h2, implV_good h1 h2]
  · have hc := chk_none h
    have e1 : specV s = Z := by
      unfold specV
      simp only [hc]
      repeat' split
      all_goals rfl
    have e2 : implV s = Z := by
      unfold implV
      simp only [hc]
      repeat' split
      all_goals rfl
    rw [e1, e2]
end Go.Proofs.YthcgeejoocpbmaaDoor.Pure
