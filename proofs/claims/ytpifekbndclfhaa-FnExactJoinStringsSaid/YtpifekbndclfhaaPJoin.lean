/- Plain facts on joining. -/
import Derived.Test.YtpifekbndclfhaaGx2
import Derived.Test.YtpifekbndclfhaaGx3
import Derived.Test.YtpifekbndclfhaaGx4
import Derived.Test.YtpifekbndclfhaaPBase
namespace Go.Proofs.Ytpifekbndclfhaa.Pure
open Go.RowKit Go.Proofs.Ytpifekbndclfhaa.G Go.Proofs.YtpifekbndclfhaaW.PrintWords Go.Proofs.YtpifekbndclfhaaW.PrintLast
set_option linter.unusedSimpArgs false
set_option linter.unusedVariables false

theorem mk_list (s : ByteArray) : (⟨s.data.toList.toArray⟩ : ByteArray) = s := rfl
theorem append_list (a b : ByteArray) : (a ++ b).data.toList = a.data.toList ++ b.data.toList := by
  rw [ByteArray.data_append, Array.toList_append]
theorem contains_eq (s : ByteArray) (c : UInt8) : strings_Contains.f s ⟨#[c]⟩ = some (stands c s) := by
  unfold strings_Contains.f stands
  rw [if_pos (show (⟨#[c]⟩ : ByteArray).size = 1 from rfl)]
  rfl
abbrev bad : ByteArray × Bool := ((⟨#[]⟩ : ByteArray), false)
abbrev LL (l : List ByteArray) : List (List UInt8) := l.map (·.data.toList)
/-- The strings behind the first, joined to what there is. -/
def F (c : UInt8) (out : ByteArray) (r : List ByteArray) : ByteArray × Bool :=
  if (r.any (stands c) || decide (4000 < out.size + r.length + sumS r)) = true then bad else ((⟨(out.data.toList ++ Lib.joinTail [c] (LL r)).toArray⟩ : ByteArray), true)
theorem F_nil (c : UInt8) (out : ByteArray) (h : out.size ≤ 4000) : F c out [] = (out, true) := by
  unfold F
  rw [if_neg (by simp [sumS]; omega)]
  simp [Lib.joinTail]
theorem F_cons (c : UInt8) (out s : ByteArray) (r : List ByteArray) :
    F c out (s :: r) = if stands c s = true then bad else if 4000 < out.size + 1 + s.size then bad else F c ((out ++ ⟨#[c]⟩) ++ s) r := by
  have e1 : ((out ++ (⟨#[c]⟩ : ByteArray)) ++ s).size = out.size + 1 + s.size := by rw [ByteArray.size_append, ByteArray.size_append]; rfl
  unfold F
  rw [e1, List.any_cons, sumS_cons, List.length_cons]
  cases stands c s with
  | true => simp
  | false =>
    rw [Bool.false_or, if_neg (show ¬ (false = true) by simp)]
    by_cases q : 4000 < out.size + 1 + s.size
    · rw [if_pos q, if_pos (by simp; right; omega)]
    · rw [if_neg q, show out.size + (r.length + 1) + (s.size + sumS r) = out.size + 1 + s.size + r.length + sumS r by omega]
      rw [append_list, append_list]
      simp [Lib.joinTail, List.append_assoc]
theorem spec_loop (l : List ByteArray) (c : UInt8) (hl : l.length ≤ 1048576) (hs : ∀ x ∈ l, x.size ≤ 1048576) (d : Nat) : ∀ (out : ByteArray) (i : Int), 0 < i → i + d = l.length → out.size ≤ 4000 →
    Ev (fun k => spec_JoinStrings.l0 k l ⟨#[c]⟩ out i) (F c out (l.drop i.toNat)) := by
  induction d with
  | zero =>
    intro out i h0 h1 ho
    refine Ev.step (fun k => rfl) ?_
    simp only [spec_JoinStrings.l0]
    rw [List.drop_eq_nil_of_le (by omega), F_nil c out ho]
    exact ev_neg (by omega) (Ev.now _)
  | succ d ih =>
    intro out i h0 h1 ho
    have hi : i.toNat < l.length := by omega
    have hx := hs _ (List.getElem_mem hi)
    have e1 : (out ++ (⟨#[c]⟩ : ByteArray)).size = out.size + 1 := by rw [ByteArray.size_append]; rfl
    have e2 : ((out ++ (⟨#[c]⟩ : ByteArray)) ++ l[i.toNat]).size = out.size + 1 + l[i.toNat].size := by rw [ByteArray.size_append, e1]
    have z : (⟨#[c]⟩ : ByteArray).size = 1 := rfl
    have hb : bt ⟨#[c]⟩ 0 = (c.toNat : Int) := rfl
    refine Ev.step (fun k => rfl) ?_
    simp only [spec_JoinStrings.l0]
    rw [rs_at l i hi, List.drop_eq_getElem_cons hi, F_cons, hb, wrap_in (x := i + 1) (by omega) (by omega), e2, e1, z, show i.toNat + 1 = (i + 1).toNat by omega]
    refine ev_pos (by omega) (ev_pos (by omega) (ev_pos (by omega) (Ev.bind (l1Stands_ev _ c (by omega)) ?_)))
    cases stands c l[i.toNat] with
    | true => exact ev_pos rfl (Ev.now _)
    | false =>
      rw [if_neg (by simp)]
      refine ev_neg (by simp) (ev_pos h0 (ev_pos (by omega) (ev_pos (by omega) ?_)))
      by_cases q : 4000 < out.size + 1 + l[i.toNat].size
      · rw [if_pos q]
        exact ev_pos (by omega) (Ev.now _)
      · rw [if_neg q]
        exact ev_neg (by omega) (ih _ (i + 1) (by omega) (by omega) (by rw [e2]; omega))
theorem spec_ev (x : ByteArray) (r : List ByteArray) (c : UInt8) (hl : (x :: r).length ≤ 1048576) (hs : ∀ y ∈ x :: r, y.size ≤ 1048576) :
    Ev (fun k => spec_JoinStrings.f k (x :: r) ⟨#[c]⟩) (if ((x :: r).any (stands c) || decide (4000 < r.length + sumS (x :: r))) = true then bad else ((⟨(x.data.toList ++ Lib.joinTail [c] (LL r)).toArray⟩ : ByteArray), true)) := by
  have z : (⟨#[c]⟩ : ByteArray).size = 1 := rfl
  have hx := hs x List.mem_cons_self
  have he : ((⟨#[]⟩ : ByteArray) ++ x) = x := by
    apply ByteArray.ext
    rw [ByteArray.data_append]
    simp
  have hb : bt ⟨#[c]⟩ 0 = (c.toNat : Int) := rfl
  have hr0 : rdOf ByteArray.empty (x :: r) 0 = x := rfl
  have hl' : (x :: r).length = r.length + 1 := rfl
  unfold spec_JoinStrings.f
  refine ev_pos (by rw [z]; rfl) ?_
  refine Ev.step (fun k => rfl) ?_
  simp only [spec_JoinStrings.j0]
  refine ev_neg (by simp; omega) ?_
  refine Ev.step (fun k => rfl) ?_
  simp only [spec_JoinStrings.l0]
  rw [hr0, hb, he, z, wrap_in (x := (0 : Int) + 1) (by omega) (by omega)]
  refine ev_pos (by omega) (ev_pos (by omega) (ev_pos (by omega) (Ev.bind (l1Stands_ev _ c (by omega)) ?_)))
  rw [List.any_cons, sumS_cons]
  cases stands c x with
  | true => exact ev_pos rfl (ev_val (by simp) (Ev.now _))
  | false =>
    have z0 : (⟨#[]⟩ : ByteArray).size = 0 := rfl
    refine ev_neg (by simp) (ev_neg (by omega) (ev_pos (by rw [z0]; omega) ?_))
    rw [Bool.false_or]
    by_cases q : 4000 < x.size
    · refine ev_pos (by omega) (ev_val ?_ (Ev.now _))
      rw [if_pos (by simp; right; omega)]
    · refine ev_neg (by omega) ?_
      have h := spec_loop (x :: r) c hl hs r.length x 1 (by omega) (by omega) (by omega)
      refine ev_val ?_ h
      show F c x r = _
      unfold F
      rw [show x.size + r.length + sumS r = r.length + (x.size + sumS r) by omega]
theorem join_ok (x : ByteArray) (r : List ByteArray) (c : UInt8) (hl : (x :: r).length ≤ 1048576) (hs : sumS (x :: r) ≤ 1048576) :
    strings_Join.f (x :: r) ⟨#[c]⟩ = some (⟨(x.data.toList ++ Lib.joinTail [c] (LL r)).toArray⟩ : ByteArray) := by
  have e : Lib.join ((x :: r).map (·.data.toList)) (⟨#[c]⟩ : ByteArray).data.toList = x.data.toList ++ Lib.joinTail [c] (LL r) := by
    rw [List.map_cons, Lib.join_cons]
  have hj : ∀ r : List ByteArray, (Lib.joinTail [c] (LL r)).length = r.length + sumS r := by
    intro r
    induction r with
    | nil => rfl
    | cons y r ih =>
      have h2 : Lib.joinTail [c] (LL (y :: r)) = ([c] ++ y.data.toList) ++ Lib.joinTail [c] (LL r) := by simp [Lib.joinTail]
      have h3 : y.data.toList.length = y.size := rfl
      rw [h2, List.length_append, List.length_append, ih, sumS_cons, h3, List.length_cons]
      simp
      omega
  unfold strings_Join.f
  rw [e, if_pos]
  refine ⟨by omega, ?_⟩
  have h3 : x.data.toList.length = x.size := rfl
  rw [List.length_append, hj, h3]
  rw [sumS_cons] at hs
  rw [List.length_cons] at hl
  omega
theorem impl_loop (l : List ByteArray) (c : UInt8) (j : ByteArray) (hj : strings_Join.f l ⟨#[c]⟩ = some j) (hl : l.length ≤ 1048576) (hs : ∀ x ∈ l, x.size ≤ 1048576) (d : Nat) : ∀ (m i : Int), 0 ≤ i → i + d = l.length → 0 ≤ m → m ≤ 1048576 → (d = 0 → m ≤ 4000) →
    Ev (fun k => impl_JoinStrings.l0 k l ⟨#[c]⟩ m l (l.length : Int) i) (if ((l.drop i.toNat).any (stands c) || decide (4000 < m + (sumS (l.drop i.toNat) : Int))) = true then bad else (j, true)) := by
  induction d with
  | zero =>
    intro m i h0 h1 m0 m1 hm
    refine Ev.step (fun k => rfl) ?_
    simp only [impl_JoinStrings.l0]
    rw [List.drop_eq_nil_of_le (by omega), hj]
    refine ev_neg (by omega) (ev_val ?_ (Ev.now _))
    have := hm rfl
    rw [if_neg (by simp [sumS]; omega)]
  | succ d ih =>
    intro m i h0 h1 m0 m1 hm
    have hi : i.toNat < l.length := by omega
    have hx := hs _ (List.getElem_mem hi)
    refine Ev.step (fun k => rfl) ?_
    simp only [impl_JoinStrings.l0]
    rw [rs_at l i hi, List.drop_eq_getElem_cons hi, contains_eq, wrap_in (x := i + 1) (by omega) (by omega), wrap_in (x := m + (l[i.toNat].size : Int)) (by omega) (by omega), show i.toNat + 1 = (i + 1).toNat by omega, List.any_cons, sumS_cons]
    refine ev_pos (by omega) (ev_pos h0 (ev_pos (by omega) ?_))
    simp only [Option.bind_some]
    cases stands c l[i.toNat] with
    | true => exact ev_pos rfl (ev_val (by simp) (Ev.now _))
    | false =>
      refine ev_neg (by simp) ?_
      rw [Bool.false_or]
      by_cases q : 4000 < m + (l[i.toNat].size : Int)
      · refine ev_pos q (ev_val ?_ (Ev.now _))
        rw [if_pos (by simp; right; omega)]
      · refine ev_neg q (ev_val ?_ (ih (m + l[i.toNat].size) (i + 1) (by omega) (by omega) (by omega) (by omega) (fun _ => by omega)))
        rw [show m + (l[i.toNat].size : Int) + (sumS (l.drop (i + 1).toNat) : Int) = m + ((l[i.toNat].size + sumS (l.drop (i + 1).toNat) : Nat) : Int) by omega]
theorem impl_ev (x : ByteArray) (r : List ByteArray) (c : UInt8) (hl : (x :: r).length ≤ 1048576) (hs : ∀ y ∈ x :: r, y.size ≤ 1048576) (ht : sumS (x :: r) ≤ 1048576) :
    Ev (fun k => impl_JoinStrings.f k (x :: r) ⟨#[c]⟩) (if ((x :: r).any (stands c) || decide (4000 < r.length + sumS (x :: r))) = true then bad else ((⟨(x.data.toList ++ Lib.joinTail [c] (LL r)).toArray⟩ : ByteArray), true)) := by
  have hl' : (x :: r).length = r.length + 1 := rfl
  have z : (⟨#[c]⟩ : ByteArray).size = 1 := rfl
  unfold impl_JoinStrings.f
  refine ev_neg (by omega) ?_
  refine Ev.step (fun k => rfl) ?_
  simp only [impl_JoinStrings.j0]
  refine ev_neg (by simp [z]) ?_
  rw [wrap_in (x := ((x :: r).length : Int) - 1) (by omega) (by omega)]
  have h := impl_loop (x :: r) c _ (join_ok x r c hl ht) hl hs (r.length + 1) (((x :: r).length : Int) - 1) 0 (by omega) (by omega) (by omega) (by omega) (by omega)
  refine ev_val ?_ h
  rw [Int.toNat_zero, List.drop_zero, show decide (4000 < ((x :: r).length : Int) - 1 + (sumS (x :: r) : Int)) = decide (4000 < r.length + sumS (x :: r)) by apply decide_eq_decide.mpr; omega]
theorem le_sumS : ∀ (l : List ByteArray) (y : ByteArray), y ∈ l → y.size ≤ sumS l
  | x :: l, y, h => by
    rw [sumS_cons]
    rcases List.mem_cons.mp h with rfl | h
    · omega
    · have := le_sumS l y h
      omega
theorem JoinStrings_both (l : List ByteArray) (a : ByteArray) (hl : l.length ≤ 1048576) (ht : sumS l ≤ 1048576) : ∃ r : ByteArray × Bool, Ev (fun k => spec_JoinStrings.f k l a) r ∧ Ev (fun k => impl_JoinStrings.f k l a) r := by
  by_cases ha : a.size = 1
  · obtain ⟨c, rfl⟩ := Lib.one_byte a ha
    cases l with
    | nil =>
      refine ⟨bad, ?_, ?_⟩
      · unfold spec_JoinStrings.f
        refine ev_pos (by omega) (Ev.step (fun k => rfl) ?_)
        simp only [spec_JoinStrings.j0]
        exact ev_pos (by simp) (Ev.now _)
      · unfold impl_JoinStrings.f
        refine ev_pos (by simp) (Ev.step (fun k => rfl) ?_)
        simp only [impl_JoinStrings.j0]
        exact ev_pos trivial (Ev.now _)
    | cons x r =>
      have hs : ∀ y ∈ x :: r, y.size ≤ 1048576 := fun y hy => Nat.le_trans (le_sumS _ y hy) ht
      exact ⟨_, spec_ev x r c hl hs, impl_ev x r c hl hs ht⟩
  · refine ⟨bad, ?_, ?_⟩
    · unfold spec_JoinStrings.f
      refine ev_neg (by omega) (Ev.step (fun k => rfl) ?_)
      simp only [spec_JoinStrings.j0]
      exact ev_pos trivial (Ev.now _)
    · unfold impl_JoinStrings.f
      by_cases h0 : (l.length : Int) = 0
      · refine ev_pos h0 (Ev.step (fun k => rfl) ?_)
        simp only [impl_JoinStrings.j0]
        exact ev_pos trivial (Ev.now _)
      · refine ev_neg h0 (Ev.step (fun k => rfl) ?_)
        simp only [impl_JoinStrings.j0]
        exact ev_pos (by simp; omega) (Ev.now _)
end Go.Proofs.Ytpifekbndclfhaa.Pure
