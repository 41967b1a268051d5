/- Plain facts on the validity of shade cards. -/
import Derived.Test.YtggikmajopmchaaDoorGx0
import Derived.Test.YtggikmajopmchaaDoorGx12
import Derived.Test.YtggikmajopmchaaDoorGx13
import Derived.Test.YtggikmajopmchaaDoorGx14
import Derived.Test.YtggikmajopmchaaDoorGx2
import Derived.Test.YtggikmajopmchaaDoorGx9
import Derived.Test.YtggikmajopmchaaDoorPBase
namespace Go.Proofs.YtggikmajopmchaaDoor.Pure
open Go.RowKit Go.Proofs.YtggikmajopmchaaDoor.G Go.Proofs.YtggikmajopmchaaDoorW.PrintWords Go.Proofs.YtggikmajopmchaaDoorW.PrintLast
set_option linter.unusedSimpArgs false
set_option linter.unusedVariables false

def oneB (x : S42) : Bool := shadeB x.f0 x.f1 x.f2 x.f3 x.f4
def upB (l : List S42) (i : Int) : Bool := decide ((rd_T42 l (i - 1)).f0 < (rd_T42 l i).f0)
def okB (l : List S42) (j : Nat) : Bool := oneB (rd_T42 l j) && ((decide (j = 0) || upB l j) && !dupAt l j)
def cardB (l : List S42) : Bool := allFrom (okB l) l.length 0 && decide (l.length ≤ 10)
theorem P_one (x : S42) : P_impl_IsShade x = oneB x := by
  unfold P_impl_IsShade
  rw [IsShade_eq]
  rfl
/-! ### the reference -/
theorem good_l1 (l : List S42) (i : Int) (h0 : 0 ≤ i) (h1 : i < l.length) (hl : l.length ≤ 1048576) (R : Bool) (hR : Ev (fun k => spec_l3Good.l0 k l (i + 1)) R) (e : Nat) : ∀ j : Int, 0 ≤ j → j + e = i →
    Ev (fun k => spec_l3Good.l1 k l i j) (if ((l.take i.toNat).drop j.toNat).any (fun t => t.f1.toList == (rd_T42 l i).f1.toList) = true then false else R) := by
  induction e with
  | zero =>
    intro j j0 j1
    refine Ev.step (fun k => rfl) ?_
    simp only [spec_l3Good.l1]
    rw [List.drop_eq_nil_of_le (by rw [List.length_take]; omega), wrap_in (x := i + 1) (by omega) (by omega)]
    exact ev_neg (by omega) hR
  | succ e ih =>
    intro j j0 j1
    have hj : j.toNat < (l.take i.toNat).length := by rw [List.length_take]; omega
    have hh := ih (j + 1) (by omega) (by omega)
    have hr : rd_T42 l j = (l.take i.toNat)[j.toNat] := by rw [rdShade_at l j (by omega), List.getElem_take]
    refine Ev.step (fun k => rfl) ?_
    simp only [spec_l3Good.l1]
    rw [List.drop_eq_getElem_cons hj, List.any_cons, ← hr, wrap_in (x := j + 1) (by omega) (by omega)]
    refine ev_pos (by omega) (ev_pos j0 (ev_pos (by omega) (ev_pos h0 (ev_pos h1 ?_))))
    by_cases q : (rd_T42 l j).f1.toList = (rd_T42 l i).f1.toList
    · exact ev_pos q (ev_val (by rw [q]; simp) (Ev.now _))
    · refine ev_neg q (ev_val ?_ hh)
      rw [show ((rd_T42 l j).f1.toList == (rd_T42 l i).f1.toList) = false by simpa using q, Bool.false_or, show (j + 1).toNat = j.toNat + 1 by omega]
theorem good_l0 (l : List S42) (hl : l.length ≤ 1048576) (hx : ∀ x ∈ l, x.f1.size ≤ 9223372036854775807) (M : Nat) (hM : (M = l.length ∧ l.length ≤ 10) ∨ (M = 11 ∧ 10 < l.length)) (d : Nat) : ∀ i : Nat, i + d = M →
    Ev (fun k => spec_l3Good.l0 k l (i : Int)) (allFrom (okB l) d i && decide (l.length ≤ 10)) := by
  have he : ∀ i : Int, Ev (fun k => spec_l3Good.j1 k l i false) (decide (l.length ≤ 10)) := by
    intro i
    refine Ev.step (fun k => rfl) ?_
    simp only [spec_l3Good.j1]
    exact ev_neg (by simp) (ev_val (by apply decide_eq_decide.mpr; omega) (Ev.now _))
  induction d with
  | zero =>
    intro i hi
    refine Ev.step (fun k => rfl) ?_
    simp only [spec_l3Good.l0]
    rw [show allFrom (okB l) 0 i = true from rfl, Bool.true_and]
    rcases hM with ⟨h1, h2⟩ | ⟨h1, h2⟩
    · exact ev_neg (by omega) (he _)
    · by_cases c : (i : Int) < l.length
      · refine ev_pos c ?_
        rw [show decide ((i : Int) ≤ 10) = false from decide_eq_false (by omega)]
        exact he _
      · exact ev_neg c (he _)
  | succ d ih =>
    intro i hi
    have hil : (i : Int) < l.length := by omega
    have hR := ih (i + 1) (by omega)
    have hm := hx _ (rdS_mem l (i : Int) (by omega) hil)
    have hone := l3One_ev (rd_T42 l (i : Int)).f0 (rd_T42 l (i : Int)).f1 (rd_T42 l (i : Int)).f2 (rd_T42 l (i : Int)).f3 (rd_T42 l (i : Int)).f4 hm
    have h1 := good_l1 l (i : Int) (by omega) hil hl _ hR i 0 (by omega) (by omega)
    rw [Int.toNat_zero, List.drop_zero] at h1
    have hj2 : ∀ b : Bool, Ev (fun k => spec_l3Good.j2 k l (i : Int) b) (!b && ((!dupAt l i) && (allFrom (okB l) d (i + 1) && decide (l.length ≤ 10)))) := by
      intro b
      refine Ev.step (fun k => rfl) ?_
      simp only [spec_l3Good.j2]
      cases b with
      | true => exact ev_pos rfl (Ev.now _)
      | false =>
        refine ev_neg (by simp) (ev_val ?_ h1)
        show (if dupAt l (i : Int) = true then false else _) = _
        cases dupAt l (i : Int) <;> rfl
    have hall : allFrom (okB l) (d + 1) i = (okB l i && allFrom (okB l) d (i + 1)) := rfl
    refine Ev.step (fun k => rfl) ?_
    simp only [spec_l3Good.l0]
    rw [hall, show decide ((i : Int) ≤ 10) = true from decide_eq_true (by omega)]
    generalize allFrom (okB l) d (i + 1) = RR at hR h1 hj2 ⊢
    refine ev_pos hil (Ev.step (fun k => rfl) ?_)
    simp only [spec_l3Good.j1]
    rw [wrap_in (x := (i : Int) - 1) (by omega) (by omega)]
    refine ev_pos trivial (ev_pos (by omega) (ev_pos hil (Ev.bind hone ?_)))
    unfold okB oneB
    cases shadeB (rd_T42 l (i : Int)).f0 (rd_T42 l (i : Int)).f1 (rd_T42 l (i : Int)).f2 (rd_T42 l (i : Int)).f3 (rd_T42 l (i : Int)).f4 with
    | false => exact ev_neg (by simp) (ev_val (by simp) (hj2 true))
    | true =>
      refine ev_pos rfl ?_
      by_cases z : i = 0
      · refine ev_neg (by omega) (ev_val ?_ (hj2 false))
        rw [decide_eq_true z]
        simp [Bool.and_assoc]
      · refine ev_pos (by omega) (ev_pos (by omega) (ev_pos (by omega) (ev_val ?_ (hj2 _))))
        rw [decide_eq_false z]
        unfold upB
        rw [show decide ((rd_T42 l ((i : Int) - 1)).f0 ≥ (rd_T42 l (i : Int)).f0) = !decide ((rd_T42 l ((i : Int) - 1)).f0 < (rd_T42 l (i : Int)).f0) by rw [← decide_not]; apply decide_eq_decide.mpr; omega]
        simp [Bool.and_assoc]
theorem good_ev (l : List S42) (hl : l.length ≤ 1048576) (hx : ∀ x ∈ l, x.f1.size ≤ 9223372036854775807) : Ev (fun k => spec_l3Good.f k l) (cardB l) := by
  unfold spec_l3Good.f cardB
  by_cases c : l.length ≤ 10
  · exact good_l0 l hl hx l.length (Or.inl ⟨rfl, c⟩) l.length 0 (by omega)
  · have h := good_l0 l hl hx 11 (Or.inr ⟨rfl, by omega⟩) 11 0 (by omega)
    rw [decide_eq_false c, Bool.and_false] at h ⊢
    exact h
/-! ### the program -/
theorem asc_l0 (l : List S42) (hl : l.length ≤ 1048576) (d : Nat) : ∀ i : Nat, 1 ≤ i → i + d = l.length →
    Ev (fun k => ascShade.l0 k l (i : Int)) (allFrom (fun j => upB l j) d i) := by
  induction d with
  | zero =>
    intro i h1 hi
    refine Ev.step (fun k => rfl) ?_
    simp only [ascShade.l0]
    exact ev_neg (by omega) (Ev.now _)
  | succ d ih =>
    intro i h1 hi
    have hR := ih (i + 1) (by omega) (by omega)
    have hall : allFrom (fun j => upB l j) (d + 1) i = (upB l i && allFrom (fun j => upB l j) d (i + 1)) := rfl
    refine Ev.step (fun k => rfl) ?_
    simp only [ascShade.l0, impl_IsShadeCard_1.f]
    rw [hall, wrap_in (x := (i : Int) - 1) (by omega) (by omega), wrap_in (x := (i : Int) + 1) (by omega) (by omega)]
    refine ev_pos (by omega) (ev_pos (by omega) (ev_pos (by omega) (Ev.bind (Ev.now _) (ev_pos (by omega) (Ev.bind (Ev.now _) ?_)))))
    by_cases q : (rd_T42 l ((i : Int) - 1)).f0 ≥ (rd_T42 l (i : Int)).f0
    · refine ev_pos q (ev_val ?_ (Ev.now _))
      unfold upB
      rw [decide_eq_false (by omega), Bool.false_and]
    · refine ev_neg q (ev_val ?_ hR)
      unfold upB
      rw [decide_eq_true (by omega), Bool.true_and]
theorem asc_ev (l : List S42) (hl : l.length ≤ 1048576) : Ev (fun k => ascShade.f k l) (allFrom (fun j => upB l j) (l.length - 1) 1) := by
  unfold ascShade.f
  by_cases c : l.length = 0
  · rw [c]
    refine Ev.step (fun k => rfl) ?_
    simp only [ascShade.l0]
    exact ev_neg (by omega) (Ev.now _)
  · exact asc_l0 l hl (l.length - 1) 1 (by omega) (by omega)
theorem card_parts (l : List S42) (hl : l.length ≤ 10) : cardB l = (l.all P_impl_IsShade && (allFrom (fun j => upB l j) (l.length - 1) 1 && namesB l)) := by
  apply bool_iff
  unfold cardB
  rw [decide_eq_true hl, Bool.and_true, Bool.and_eq_true, Bool.and_eq_true, allFrom_iff, allFrom_iff, List.all_eq_true]
  constructor
  · intro h
    have h' : ∀ j : Nat, j < l.length → oneB (rd_T42 l j) = true ∧ (j = 0 ∨ upB l j = true) ∧ dupAt l j = false := by
      intro j hj
      have := h j (by omega) (by omega)
      unfold okB at this
      simpa using this
    refine ⟨fun x hx => ?_, fun j h1 h2 => ?_, namesB_yes l (fun j hj => (h' j (by omega)).2.2)⟩
    · obtain ⟨j, hj, e⟩ := List.getElem_of_mem hx
      have := (h' j hj).1
      rw [rdShade_at l (j : Int) (by omega)] at this
      rw [P_one, ← e]
      simpa using this
    · rcases (h' j (by omega)).2.1 with z | z
      · omega
      · exact z
  · rintro ⟨h1, h2, h3⟩ j _ hj
    have hj' : j < l.length := by omega
    have a1 : oneB (rd_T42 l (j : Int)) = true := by rw [← P_one]; exact h1 _ (rdS_mem l (j : Int) (by omega) (by omega))
    have a3 : dupAt l (j : Int) = false := by
      cases e : dupAt l (j : Int) with
      | false => rfl
      | true =>
        rw [namesB_no l (j : Int) (by omega) (by omega) e] at h3
        cases h3
    unfold okB
    rw [a1, a3]
    by_cases z : j = 0
    · simp [z]
    · rw [h2 j (by omega) (by omega)]
      simp
theorem impl_card_ev (l : List S42) (hl : l.length ≤ 1048576) : Ev (fun k => impl_IsShadeCard.f k l) (cardB l) := by
  unfold impl_IsShadeCard.f
  by_cases c : l.length > 10
  · refine ev_pos c (ev_val ?_ (Ev.now _))
    unfold cardB
    rw [decide_eq_false (by omega), Bool.and_false]
  · refine ev_neg c ?_
    have ha : ∀ tok : Tok, tok.n = FN40.n → impl_areAll_impl_Shade.f l tok = some (l.all P_impl_IsShade) := by
      intro tok e
      unfold impl_areAll_impl_Shade.f
      rw [if_pos e]
    have hs : Ev (fun k => impl_isAscending_impl_Shade.f k l FN42) (allFrom (fun j => upB l j) (l.length - 1) 1) := by
      unfold impl_isAscending_impl_Shade.f
      exact ev_pos rfl (asc_ev l hl)
    rw [ha _ rfl, card_parts l (by omega)]
    refine Ev.bind (Ev.now _) ?_
    cases l.all P_impl_IsShade with
    | false => exact ev_neg (by simp) (Ev.now _)
    | true =>
      refine ev_pos rfl (Ev.bind hs ?_)
      cases allFrom (fun j => upB l j) (l.length - 1) 1 with
      | false => exact ev_neg (by simp) (Ev.now _)
      | true => exact ev_pos rfl (ev_val (by simp) (Ev.now _))
end Go.Proofs.YtggikmajopmchaaDoor.Pure
