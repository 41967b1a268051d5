/- Plain facts on recipes and baths: what a valid one is, in program and reference. -/
import Derived.Test.YtceiacmieipleaaDoorGx0
import Derived.Test.YtceiacmieipleaaDoorGx2
import Derived.Test.YtceiacmieipleaaDoorGx3
import Derived.Test.YtceiacmieipleaaDoorGx5
import Derived.Test.YtceiacmieipleaaDoorGx6
import Derived.Test.YtceiacmieipleaaDoorPBase
namespace Go.Proofs.YtceiacmieipleaaDoor.Pure
open Go.RowKit Go.Proofs.YtceiacmieipleaaDoor.G Go.Proofs.YtceiacmieipleaaDoorW.PrintWords Go.Proofs.YtceiacmieipleaaDoorW.PrintLast
set_option linter.unusedSimpArgs false
set_option linter.unusedVariables false

/-! ### words -/
theorem letters_eq (b : UInt8) : letters.contains b = (decide (97 ≤ b.toNat) && decide (b.toNat ≤ 122)) := by
  have h : ∀ n : Fin 256, letters.contains (UInt8.ofNat n.val) = (decide (97 ≤ n.val) && decide (n.val ≤ 122)) := by decide +kernel
  have h2 := h ⟨b.toNat, b.toNat_lt⟩
  simpa using h2
theorem bt_getD (s : ByteArray) (j : Nat) (h : j < s.size) : bt s (j : Int) = ((s.data.toList.getD j 0).toNat : Int) := by
  have h2 : (j : Int).toNat < s.size := by simpa using h
  rw [← bt_at s j h2]
  have h3 : j < s.data.toList.length := by simpa using h
  rw [List.getD_eq_getElem?_getD, List.getElem?_eq_getElem h3]
  rfl
def letterAt (s : ByteArray) (j : Nat) : Bool := decide (97 ≤ bt s (j : Int)) && decide (bt s (j : Int) ≤ 122)
theorem wordB_eq (s : ByteArray) : wordB s = (allFrom (letterAt s) s.size 0 && (decide (1 ≤ (s.size : Int)) && decide ((s.size : Int) ≤ 10))) := by
  unfold wordB
  have hl : s.data.toList.length = s.size := by simp
  apply bool_iff
  simp only [Bool.and_eq_true, decide_eq_true_eq]
  rw [all_get _ 0, allFrom_iff, hl]
  constructor
  · rintro ⟨h1, h2, h3⟩
    refine ⟨fun j _ hj => ?_, by omega, by omega⟩
    have := h3 j (by omega)
    rw [letters_eq] at this
    simp only [Bool.and_eq_true, decide_eq_true_eq] at this
    unfold letterAt
    rw [bt_getD s j (by omega)]
    simp only [Bool.and_eq_true, decide_eq_true_eq]
    omega
  · rintro ⟨h1, h2, h3⟩
    refine ⟨by omega, by omega, fun j hj => ?_⟩
    have := h1 j (by omega) (by omega)
    unfold letterAt at this
    rw [bt_getD s j (by omega)] at this
    simp only [Bool.and_eq_true, decide_eq_true_eq] at this
    rw [letters_eq]
    simp only [Bool.and_eq_true, decide_eq_true_eq]
    omega
theorem l2Word_ev (s : ByteArray) (hs : s.size ≤ 9223372036854775807) : Ev (fun k => spec_l2Word.f k s) (wordB s) := by
  rw [wordB_eq]
  have loop : ∀ (d i : Nat), i + d = s.size → Ev (fun k => spec_l2Word.l0 k s (i : Int)) (allFrom (letterAt s) d i && (decide (1 ≤ (s.size : Int)) && decide ((s.size : Int) ≤ 10))) := by
    intro d
    induction d with
    | zero =>
      intro i hi
      refine Ev.step (fun k => rfl) ?_
      simp only [spec_l2Word.l0, l1In_eq, Option.bind_some, allFrom, Bool.true_and]
      exact ev_neg (by omega) (Ev.now _)
    | succ d ih =>
      intro i hi
      refine Ev.step (fun k => rfl) ?_
      simp only [spec_l2Word.l0]
      refine ev_pos (by omega) (ev_pos (by omega) ?_)
      rw [wrap_in (x := (i : Int) + 1) (by omega) (by omega)]
      by_cases c1 : bt s (i : Int) < 97
      · refine ev_pos c1 (ev_val ?_ (Ev.now false))
        simp only [allFrom, letterAt]
        rw [decide_eq_false (show ¬ 97 ≤ bt s (i : Int) by omega)]
        rfl
      · by_cases c2 : bt s (i : Int) > 122
        · refine ev_neg c1 (ev_pos c2 (ev_val ?_ (Ev.now false)))
          simp only [allFrom, letterAt]
          rw [decide_eq_false (show ¬ bt s (i : Int) ≤ 122 by omega)]
          simp
        · refine ev_neg c1 (ev_neg c2 ?_)
          have := ih (i + 1) (by omega)
          simp only [allFrom, letterAt]
          rw [decide_eq_true (show 97 ≤ bt s (i : Int) by omega), decide_eq_true (show bt s (i : Int) ≤ 122 by omega)]
          simpa [letterAt] using this
  exact loop s.size 0 (by omega)
/-! ### recipes -/
def partB (x : S36) : Bool := wordB x.f0 && (decide (1 ≤ x.f1) && decide (x.f1 ≤ 1000))
theorem P_eq (x : S36) : P_impl_IsRecipe_1 x = partB x := by
  have h := P_impl_IsRecipe_1_eq x
  unfold impl_IsRecipe_1.f impl_isWord.f at h
  simp only [Option.bind_some, in_eq] at h
  unfold partB
  cases hw : wordB x.f0 with
  | true => simp only [hw, if_true, Option.some.injEq] at h; rw [← h]; rfl
  | false => simp [hw] at h; rw [h]; rfl
def ltAt (l : List S36) (j : Nat) : Bool := Op.bytesLess ((rd_T36 l ((j : Int) - 1)).f0.toList) ((rd_T36 l (j : Int)).f0.toList)
def okAt (l : List S36) (j : Nat) : Bool := partB (rd_T36 l (j : Int)) && (decide (j = 0) || ltAt l j)
/-- What a valid recipe is. -/
def recB (l : List S36) : Bool := allFrom (okAt l) l.length 0 && (decide (1 ≤ (l.length : Int)) && decide ((l.length : Int) ≤ 6))
theorem l7Good_ev (l : List S36) (hl : l.length ≤ 1048576) (hx : ∀ x ∈ l, x.f0.size ≤ 9223372036854775807) : Ev (fun k => spec_l7Good.f k l) (recB l) := by
  have loop : ∀ (d i : Nat), i + d = l.length → Ev (fun k => spec_l7Good.l0 k l (i : Int)) (allFrom (okAt l) d i && (decide (1 ≤ (l.length : Int)) && decide ((l.length : Int) ≤ 6))) := by
    intro d
    induction d with
    | zero =>
      intro i hi
      refine Ev.step (fun k => rfl) ?_
      simp only [spec_l7Good.l0, l1In_eq, Option.bind_some, allFrom, Bool.true_and]
      exact ev_neg (by omega) (Ev.now _)
    | succ d ih =>
      intro i hi
      have hw := l2Word_ev (rd_T36 l (i : Int)).f0 (hx _ (rdR_mem l i (by omega) (by omega)))
      have ih' := ih (i + 1) (by omega)
      refine Ev.step (fun k => rfl) ?_
      simp only [spec_l7Good.l0]
      refine ev_pos (by omega) (ev_pos (by omega) (Ev.bind hw ?_))
      rw [wrap_in (x := (i : Int) + 1) (by omega) (by omega), wrap_in (x := (i : Int) - 1) (by omega) (by omega)]
      simp only [l1In_eq, Option.bind_some]
      cases w : wordB (rd_T36 l (i : Int)).f0 with
      | false =>
        refine ev_neg (by simp) (ev_val ?_ (Ev.now false))
        simp [allFrom, okAt, partB, w]
      | true =>
        refine ev_pos (by trivial) ?_
        cases q : (decide (1 ≤ (rd_T36 l (i : Int)).f1) && decide ((rd_T36 l (i : Int)).f1 ≤ 1000)) with
        | false =>
          refine ev_neg (by simp) (ev_val ?_ (Ev.now false))
          simp only [allFrom, okAt, partB, w, q]
          rfl
        | true =>
          refine ev_pos (by trivial) ?_
          by_cases z : (i : Int) > 0
          · refine ev_pos z (ev_pos (by omega) (ev_pos (by omega) ?_))
            cases t : Op.bytesLess ((rd_T36 l ((i : Int) - 1)).f0.toList) ((rd_T36 l (i : Int)).f0.toList) with
            | true =>
              refine ev_pos (by trivial) ?_
              simp only [allFrom, okAt, partB, ltAt, w, q, t, Bool.or_true, Bool.true_and]
              exact ih'
            | false =>
              refine ev_neg (by simp) (ev_val ?_ (Ev.now false))
              simp only [allFrom, okAt, partB, ltAt, w, q, t, decide_eq_false (show ¬ i = 0 by omega)]
              rfl
          · refine ev_neg z ?_
            simp only [allFrom, okAt, partB, w, q, decide_eq_true (show i = 0 by omega), Bool.true_or, Bool.true_and]
            exact ih'
  exact loop l.length 0 (by omega)
theorem IsRecipe_ev (l : List S36) (hl : l.length ≤ 1048576) : Ev (fun k => impl_IsRecipe.f k l) (recB l) := by
  have loop : ∀ (d i : Nat), 1 ≤ i → (i + d = l.length ∨ (d = 0 ∧ l.length ≤ i)) → i ≤ 1048577 → Ev (fun k => impl_IsRecipe.l0 k l (i : Int)) (allFrom (ltAt l) d i) := by
    intro d
    induction d with
    | zero =>
      intro i h1 hi hb
      refine Ev.step (fun k => rfl) ?_
      simp only [impl_IsRecipe.l0, allFrom]
      exact ev_neg (by omega) (Ev.now _)
    | succ d ih =>
      intro i h1 hi hb
      refine Ev.step (fun k => rfl) ?_
      simp only [impl_IsRecipe.l0]
      rw [wrap_in (x := (i : Int) + 1) (by omega) (by omega), wrap_in (x := (i : Int) - 1) (by omega) (by omega)]
      refine ev_pos (by omega) (ev_pos (by omega) (ev_pos (by omega) (ev_pos (by omega) ?_)))
      cases t : Op.bytesLess ((rd_T36 l ((i : Int) - 1)).f0.toList) ((rd_T36 l (i : Int)).f0.toList) with
      | true =>
        refine ev_pos (by trivial) ?_
        simp only [allFrom, ltAt, t, Bool.true_and]
        exact ih (i + 1) (by omega) (by omega) (by omega)
      | false =>
        refine ev_neg (by simp) (ev_val ?_ (Ev.now false))
        simp only [allFrom, ltAt, t]
        rfl
  unfold impl_IsRecipe.f impl_areAll_impl_DyePart.f
  simp only [in_eq, Option.bind_some, if_true]
  have stop : ∀ b, b = true → Ev (fun k => impl_IsRecipe.j0 k l b) false := fun b hb => Ev.step (fun k => by simp only [impl_IsRecipe.j0]; rw [if_pos hb]) (Ev.now false)
  by_cases c : 1 ≤ l.length ∧ l.length ≤ 6
  · refine ev_pos (by simp; omega) ?_
    cases ha : l.all P_impl_IsRecipe_1 with
    | false =>
      refine ev_val ?_ (stop _ (by simp))
      symm
      rw [Bool.eq_false_iff]
      intro h
      unfold recB at h
      simp only [Bool.and_eq_true, allFrom_iff] at h
      have : l.all P_impl_IsRecipe_1 = true := by
        rw [all_get l z36]
        intro j hj
        have := h.1 j (by omega) (by omega)
        unfold okAt at this
        simp only [Bool.and_eq_true] at this
        rw [P_eq]
        exact this.1
      rw [ha] at this
      cases this
    | true =>
      refine ev_val ?_ (Ev.step (fun k => by simp only [impl_IsRecipe.j0]; rw [if_neg (by simp)]; rfl) (loop (l.length - 1) 1 (by omega) (by omega) (by omega)))
      unfold recB
      apply bool_iff
      simp only [Bool.and_eq_true, allFrom_iff, decide_eq_true_eq]
      rw [all_get l z36] at ha
      constructor
      · intro h
        refine ⟨fun j _ hj => ?_, by omega, by omega⟩
        unfold okAt
        have := ha j (by omega)
        rw [P_eq] at this
        simp only [Bool.and_eq_true, Bool.or_eq_true, decide_eq_true_eq]
        refine ⟨this, ?_⟩
        by_cases z : j = 0
        · exact Or.inl z
        · exact Or.inr (h j (by omega) (by omega))
      · rintro ⟨h, _⟩ j h1 h2
        have := h j (by omega) (by omega)
        unfold okAt at this
        simp only [Bool.and_eq_true, Bool.or_eq_true, decide_eq_true_eq] at this
        rcases this.2 with z | z
        · omega
        · exact z
  · refine ev_neg (by simp; omega) (ev_val ?_ (stop _ rfl))
    unfold recB
    symm
    rw [Bool.eq_false_iff]
    intro h
    simp only [Bool.and_eq_true, decide_eq_true_eq] at h
    omega
theorem rec_parts {l : List S36} (h : recB l = true) : 1 ≤ l.length ∧ l.length ≤ 6 ∧ (∀ i : Int, 0 ≤ i → i < l.length → 1 ≤ (rd_T36 l i).f1 ∧ (rd_T36 l i).f1 ≤ 1000) ∧ (∀ i : Nat, 1 ≤ i → i < l.length → ltAt l i = true) := by
  unfold recB at h
  simp only [Bool.and_eq_true, allFrom_iff, decide_eq_true_eq] at h
  obtain ⟨h1, h2, h3⟩ := h
  refine ⟨by omega, by omega, fun i i0 i1 => ?_, fun i i0 i1 => ?_⟩
  · have := h1 i.toNat (by omega) (by omega)
    unfold okAt partB at this
    rw [Int.toNat_of_nonneg i0] at this
    simp only [Bool.and_eq_true, decide_eq_true_eq] at this
    exact this.1.2
  · have := h1 i (by omega) (by omega)
    unfold okAt at this
    simp only [Bool.and_eq_true, Bool.or_eq_true, decide_eq_true_eq] at this
    rcases this.2 with z | z
    · omega
    · exact z
end Go.Proofs.YtceiacmieipleaaDoor.Pure
