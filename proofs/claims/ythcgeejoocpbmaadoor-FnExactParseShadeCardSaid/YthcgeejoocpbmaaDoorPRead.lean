/- The reference's reading of a number is strconv.Atoi's, checked by writing it again. -/
import Derived.Test.YthcgeejoocpbmaaDoorGx1
import Derived.Test.YthcgeejoocpbmaaDoorGx3
import Derived.Test.YthcgeejoocpbmaaDoorGx5
import Derived.Test.YthcgeejoocpbmaaDoorPNum
import Derived.Lib.AtoiErrMem
namespace Go.Proofs.YthcgeejoocpbmaaDoor.Pure
open Go.RowKit Go.Proofs.YthcgeejoocpbmaaDoor.G Go.Proofs.YthcgeejoocpbmaaDoorW.PrintWords Go.Proofs.YthcgeejoocpbmaaDoorW.PrintLast
set_option linter.unusedSimpArgs false
set_option linter.unusedVariables false

def dval : Nat → List UInt8 → Option Nat
  | acc, [] => some acc
  | acc, c :: r => if 48 ≤ c.toNat ∧ c.toNat ≤ 57 then dval (acc * 10 + (c.toNat - 48)) r else none
theorem dval_snoc : ∀ (l : List UInt8) (acc : Nat) (c : UInt8), dval acc (l ++ [c]) = (dval acc l).bind fun m => if 48 ≤ c.toNat ∧ c.toNat ≤ 57 then some (m * 10 + (c.toNat - 48)) else none
  | [], acc, c => by
    simp only [List.nil_append, dval, Option.bind_some]
  | x :: l, acc, c => by
    rw [List.cons_append, dval, dval]
    by_cases q : 48 ≤ x.toNat ∧ x.toNat ≤ 57
    · rw [if_pos q, if_pos q, dval_snoc l]
    · rw [if_neg q, if_neg q]
      rfl
theorem digit_nat (n : Nat) (h : n < 10) : (UInt8.ofNat (48 + n)).toNat = 48 + n := by
  rw [UInt8.toNat_ofNat']
  omega
theorem dval_dec (n : Nat) : dval 0 (Lib.decDigits n) = some n := by
  induction n using Nat.strongRecOn with
  | ind n ih =>
    rw [Lib.decDigits]
    by_cases c : n < 10
    · rw [dif_pos c, dval, digit_nat n c, if_pos (by omega), dval]
      congr 1
      omega
    · rw [dif_neg c, dval_snoc, ih (n / 10) (by omega), Option.bind_some, digit_nat (n % 10) (by omega), if_pos (by omega)]
      congr 1
      omega
theorem dec_len (k : Nat) : ∀ n : Nat, n < 10 ^ (k + 1) → (Lib.decDigits n).length ≤ k + 1 := by
  induction k with
  | zero =>
    intro n h
    rw [Lib.decDigits, dif_pos (by simpa using h)]
    exact Nat.le_refl _
  | succ k ih =>
    intro n h
    rw [Lib.decDigits]
    by_cases c : n < 10
    · rw [dif_pos c]
      simp
    · rw [dif_neg c, List.length_append, List.length_singleton]
      have := ih (n / 10) (by rw [Nat.pow_succ] at h; exact Nat.div_lt_of_lt_mul (by rw [Nat.mul_comm]; exact h))
      omega
theorem dec_ne (n : Nat) : 1 ≤ (Lib.decDigits n).length := by
  rw [Lib.decDigits]
  split
  · simp
  · rw [List.length_append, List.length_singleton]
    omega
theorem dval_digits : ∀ (l : List UInt8) (acc m : Nat), dval acc l = some m → ∀ c ∈ l, 48 ≤ c.toNat ∧ c.toNat ≤ 57
  | [], _, _, _, c, hc => by cases hc
  | x :: l, acc, m, h, c, hc => by
    rw [dval] at h
    by_cases q : 48 ≤ x.toNat ∧ x.toNat ≤ 57
    · rw [if_pos q] at h
      rcases List.mem_cons.mp hc with rfl | hc
      · exact q
      · exact dval_digits l _ m h c hc
    · rw [if_neg q] at h
      cases h
theorem dval_le : ∀ (l : List UInt8) (acc m : Nat), dval acc l = some m → acc ≤ m
  | [], acc, m, h => by
    rw [dval] at h
    injection h with h
    omega
  | x :: l, acc, m, h => by
    rw [dval] at h
    split at h
    · have := dval_le l _ m h
      omega
    · cases h
theorem dval_lt : ∀ (l : List UInt8) (acc m : Nat), dval acc l = some m → m + 1 ≤ (acc + 1) * 10 ^ l.length
  | [], acc, m, h => by
    rw [dval] at h
    injection h with h
    simp
    omega
  | x :: l, acc, m, h => by
    rw [dval] at h
    split at h
    · have h1 := dval_lt l _ m h
      have h2 : (acc * 10 + (x.toNat - 48) + 1) * 10 ^ l.length ≤ ((acc + 1) * 10) * 10 ^ l.length := Nat.mul_le_mul_right _ (by omega)
      rw [List.length_cons, Nat.pow_succ, Nat.mul_comm (10 ^ l.length) 10, ← Nat.mul_assoc]
      omega
    · cases h
theorem parse_dval : ∀ (l : List UInt8) (acc m : Nat), dval acc l = some m → m ≤ 1000000 → Lib.parseUint10 acc l = .ok m
  | [], acc, m, h, _ => by
    rw [dval] at h
    injection h with h
    rw [Lib.parseUint10, h]
  | x :: l, acc, m, h, hm => by
    rw [dval] at h
    split at h
    · rename_i q
      have h1 := dval_le l _ m h
      rw [Lib.parseUint10, if_pos q, if_neg (by omega), if_neg (by omega)]
      exact parse_dval l _ m h hm
    · cases h
theorem atoi_itoa (v : Int) (h0 : -999999 ≤ v) (h1 : v ≤ 999999) : Lib.atoiAll (Lib.itoa v) = .ok v := by
  obtain ⟨n, hn⟩ : ∃ n : Nat, v.natAbs = n := ⟨_, rfl⟩
  have hd := dval_dec n
  have hlen := dec_ne n
  have hp : Lib.parseMag (Lib.decDigits n) = .ok n := by
    unfold Lib.parseMag
    rw [if_neg (by intro e; rw [e] at hlen; simp at hlen)]
    exact parse_dval _ 0 n hd (by omega)
  unfold Lib.itoa
  by_cases c : v < 0
  · rw [if_pos c, hn, Lib.atoiAll]
    simp only [show (45 : UInt8).toNat = 45 from rfl, or_true, if_true, hp, not_true_eq_false, false_and, if_false, true_and]
    rw [if_neg (by omega)]
    congr 1
    omega
  · rw [if_neg c, show v.toNat = n by omega]
    cases hl : Lib.decDigits n with
    | nil => rw [hl] at hlen; simp at hlen
    | cons x r =>
      have hx := dval_digits _ _ _ hd x (by rw [hl]; exact List.mem_cons_self)
      rw [hl] at hp
      rw [Lib.atoiAll, if_neg (by omega), hp]
      dsimp only
      rw [if_neg (by omega), if_neg (by omega), if_neg (by omega)]
      congr 1
      omega
/-- What is behind the sign. -/
def magT (l : List UInt8) : List UInt8 := if 1 < l.length ∧ l.headD 0 = 45 then l.drop 1 else l
/-- What the reference reads. -/
def readV (l : List UInt8) (t : List UInt8) : Int × Bool :=
  if 1 ≤ t.length ∧ t.length ≤ 6 then
    match dval 0 t with
    | none => (0, false)
    | some n => if t.length < l.length then (if Lib.itoa (-(n : Int)) = l then (-(n : Int), true) else (0, false)) else (if Lib.itoa (n : Int) = l then ((n : Int), true) else (0, false))
  else (0, false)
theorem read_same (l : List UInt8) : readV l (magT l) = parseB l := by
  by_cases hv : ∃ v : Int, -999999 ≤ v ∧ v ≤ 999999 ∧ Lib.itoa v = l
  · obtain ⟨v, h0, h1, rfl⟩ := hv
    obtain ⟨n, hn⟩ : ∃ n : Nat, v.natAbs = n := ⟨_, rfl⟩
    have hd := dval_dec n
    have hl1 := dec_ne n
    have hl2 := dec_len 5 n (by omega)
    have hP : parseB (Lib.itoa v) = (v, true) := by
      unfold parseB
      rw [atoi_itoa v h0 h1]
      dsimp only
      rw [if_pos ⟨h0, h1⟩, if_pos rfl]
    rw [hP]
    by_cases c : v < 0
    · have e : Lib.itoa v = 45 :: Lib.decDigits n := by unfold Lib.itoa; rw [if_pos c, hn]
      have em : magT (Lib.itoa v) = Lib.decDigits n := by
        unfold magT
        rw [e, if_pos ⟨by rw [List.length_cons]; omega, rfl⟩]
        rfl
      rw [em]
      unfold readV
      rw [if_pos ⟨hl1, by omega⟩, hd]
      dsimp only
      rw [show -(n : Int) = v by omega, if_pos (by rw [e, List.length_cons]; omega), if_pos rfl]
    · have e : Lib.itoa v = Lib.decDigits n := by unfold Lib.itoa; rw [if_neg c, show v.toNat = n by omega]
      have em : magT (Lib.itoa v) = Lib.decDigits n := by
        unfold magT
        rw [e, if_neg]
        rintro ⟨_, h⟩
        cases hl : Lib.decDigits n with
        | nil => rw [hl] at hl1; simp at hl1
        | cons x r =>
          have hx := dval_digits _ _ _ hd x (by rw [hl]; exact List.mem_cons_self)
          rw [hl] at h
          have h2 : x.toNat = 45 := by rw [show x = 45 from h]; rfl
          omega
      rw [em]
      unfold readV
      rw [if_pos ⟨hl1, by omega⟩, hd]
      dsimp only
      rw [if_neg (by rw [e]; omega), show (n : Int) = v by omega, if_pos rfl]
  · have hP : parseB l = (0, false) := by
      unfold parseB
      split
      · split
        · rename_i v _ c
          rw [if_neg (fun e => hv ⟨v, c.1, c.2, e⟩)]
        · rfl
      · rfl
    rw [hP]
    unfold readV
    split
    · rename_i hlen
      cases hd : dval 0 (magT l) with
      | none => rfl
      | some n =>
        have hlt := dval_lt _ _ _ hd
        have hpow : 10 ^ (magT l).length ≤ 10 ^ 6 := Nat.pow_le_pow_right (by omega) hlen.2
        have h6 : (10 : Nat) ^ 6 = 1000000 := rfl
        dsimp only
        rw [if_neg (fun e => hv ⟨-(n : Int), by omega, by omega, e⟩), if_neg (fun e => hv ⟨(n : Int), by omega, by omega, e⟩)]
        split <;> rfl
    · rfl
/-! ### the reference's loop -/
theorem read_l0 (s t : ByteArray) (hs : s.size ≤ 1048576) (ht : t.size ≤ 6) (d : Nat) : ∀ (i acc : Nat), i + d = t.size → acc + 1 ≤ 10 ^ i →
    Ev (fun k => spec_l1Read.l0 k s t (acc : Int) (i : Int)) (match dval acc (t.data.toList.drop i) with
      | none => (0, false)
      | some n => if t.data.toList.length < s.data.toList.length then (if Lib.itoa (-(n : Int)) = s.data.toList then (-(n : Int), true) else (0, false)) else (if Lib.itoa (n : Int) = s.data.toList then ((n : Int), true) else (0, false))) := by
  have hz : t.data.toList.length = t.size := rfl
  have hz2 : s.data.toList.length = s.size := rfl
  have hpow : ∀ i : Nat, i ≤ 6 → 10 ^ i ≤ 1000000 := fun i hi => (show 10 ^ i ≤ 10 ^ 6 from Nat.pow_le_pow_right (by omega) hi)
  have hT : ∀ x : Int, (numT (Lib.itoa x)).toList = Lib.itoa x := fun x => by rw [Lib.toList_data]; rfl
  induction d with
  | zero =>
    intro i acc hi ha
    have hp := hpow i (by omega)
    rw [List.drop_eq_nil_of_le (by omega), dval]
    dsimp only
    refine Ev.step (fun k => rfl) ?_
    simp only [spec_l1Read.l0]
    refine ev_neg (by omega) ?_
    rw [wrap_in (x := -(acc : Int)) (by omega) (by omega), hz, hz2]
    by_cases c : t.size < s.size
    · rw [if_pos c]
      refine ev_pos (by omega) (Ev.bind (l1Num_all (-(acc : Int)) (by omega) (by omega)) ?_)
      rw [hT, Lib.toList_data]
      by_cases q : Lib.itoa (-(acc : Int)) = s.data.toList
      · simp only [if_pos q]
        exact Ev.now _
      · simp only [if_neg q]
        exact Ev.now _
    · rw [if_neg c]
      refine ev_neg (by omega) (Ev.bind (l1Num_all (acc : Int) (by omega) (by omega)) ?_)
      rw [hT, Lib.toList_data]
      by_cases q : Lib.itoa (acc : Int) = s.data.toList
      · simp only [if_pos q]
        exact Ev.now _
      · simp only [if_neg q]
        exact Ev.now _
  | succ d ih =>
    intro i acc hi ha
    have hp := hpow i (by omega)
    have hil : (i : Int).toNat < t.data.toList.length := by omega
    have hil2 : i < t.data.toList.length := by omega
    have hb := bt_list t (i : Int) hil
    simp only [Int.toNat_natCast] at hb
    rw [List.drop_eq_getElem_cons hil2, dval]
    have hx := (t.data.toList[i]).toNat_lt
    refine Ev.step (fun k => rfl) ?_
    simp only [spec_l1Read.l0]
    rw [hb]
    refine ev_pos (by omega) (ev_pos (by omega) ?_)
    by_cases c1 : ((t.data.toList[i]).toNat : Int) < 48
    · rw [if_neg (by omega)]
      exact ev_pos c1 (Ev.now _)
    · refine ev_neg c1 ?_
      by_cases c2 : ((t.data.toList[i]).toNat : Int) > 57
      · rw [if_neg (by omega)]
        exact ev_pos c2 (Ev.now _)
      · rw [if_pos (by omega)]
        have h := ih (i + 1) (acc * 10 + ((t.data.toList[i]).toNat - 48)) (by omega) (by rw [Nat.pow_succ]; omega)
        refine ev_neg c2 ?_
        rw [wrap_in (x := 10 * (acc : Int)) (by omega) (by omega), wrap_in (x := 10 * (acc : Int) + (((t.data.toList[i]).toNat : Int) - 48) % 256) (by omega) (by omega), wrap_in (x := (i : Int) + 1) (by omega) (by omega),
          show 10 * (acc : Int) + (((t.data.toList[i]).toNat : Int) - 48) % 256 = ((acc * 10 + ((t.data.toList[i]).toNat - 48) : Nat) : Int) by omega]
        exact h
theorem in_spec (a lo hi : Int) : spec_l1In.f a lo hi = some (decide (lo ≤ a) && decide (a ≤ hi)) := by
  unfold spec_l1In.f
  by_cases h : a ≥ lo
  · rw [if_pos h, decide_eq_true (show lo ≤ a from h)]; rfl
  · rw [if_neg h, decide_eq_false (show ¬ lo ≤ a from h)]; rfl
theorem read_j1 (s t : ByteArray) (hs : s.size ≤ 1048576) : Ev (fun k => spec_l1Read.j1 k s t) (readV s.data.toList t.data.toList) := by
  have hz : t.data.toList.length = t.size := rfl
  refine Ev.step (fun k => rfl) ?_
  simp only [spec_l1Read.j1]
  rw [in_spec]
  unfold readV
  rw [hz]
  by_cases c : 1 ≤ t.size ∧ t.size ≤ 6
  · rw [if_pos c, decide_eq_true (show (1 : Int) ≤ (t.size : Int) by omega), decide_eq_true (show (t.size : Int) ≤ 6 by omega)]
    have h := read_l0 s t hs c.2 t.size 0 0 (by omega) (by simp)
    rw [List.drop_zero, hz] at h
    exact Ev.bind (Ev.now _) (ev_pos rfl h)
  · rw [if_neg c]
    refine Ev.bind (Ev.now _) (ev_neg ?_ (Ev.now _))
    intro e
    rw [Bool.and_eq_true] at e
    have e1 := of_decide_eq_true e.1
    have e2 := of_decide_eq_true e.2
    exact c ⟨by omega, by omega⟩
theorem headD_get (l : List UInt8) (h : 0 < l.length) : l.headD 0 = l[0] := by
  cases l with
  | nil => simp at h
  | cons x r => rfl
theorem read_ev (s : ByteArray) (hs : s.size ≤ 1048576) : Ev (fun k => spec_l1Read.f k s) (parseB s.data.toList) := by
  have hz : s.data.toList.length = s.size := rfl
  rw [← read_same]
  unfold spec_l1Read.f
  by_cases c : (s.size : Int) > 1
  · have hb := bt_list s 0 (by rw [Int.toNat_zero]; omega)
    simp only [Int.toNat_zero] at hb
    have hh : s.data.toList.headD 0 = s.data.toList[0]'(by omega) := headD_get _ (by omega)
    refine ev_pos c (ev_pos (by omega) (Ev.step (fun k => rfl) ?_))
    simp only [spec_l1Read.j0]
    by_cases q : s.data.toList[0]'(by omega) = 45
    · have e : (bt s 0 == 45) = true := by rw [hb, q]; rfl
      have em : magT s.data.toList = (s.extract 1 s.size).data.toList := by
        unfold magT
        rw [if_pos ⟨by omega, by rw [hh]; exact q⟩, ByteArray.data_extract, Array.toList_extract, List.extract_eq_take_drop]
        exact (List.take_of_length_le (by rw [List.length_drop]; exact Nat.le_refl _)).symm
      rw [e, em]
      exact ev_pos rfl (ev_pos (by omega) (read_j1 s _ hs))
    · have e : (bt s 0 == 45) = false := by
        rw [hb]
        apply beq_eq_false_iff_ne.mpr
        intro e2
        exact q (UInt8.toNat_inj.mp (by show _ = 45; omega))
      have em : magT s.data.toList = s.data.toList := by
        unfold magT
        rw [if_neg (fun h => q (by rw [← hh]; exact h.2))]
      rw [e, em]
      exact ev_neg (by simp) (read_j1 s s hs)
  · have em : magT s.data.toList = s.data.toList := by
      unfold magT
      rw [if_neg (fun h => c (by omega))]
    rw [em]
    refine ev_neg c (Ev.step (fun k => rfl) ?_)
    simp only [spec_l1Read.j0]
    exact ev_neg (by simp) (read_j1 s s hs)
end Go.Proofs.YthcgeejoocpbmaaDoor.Pure
