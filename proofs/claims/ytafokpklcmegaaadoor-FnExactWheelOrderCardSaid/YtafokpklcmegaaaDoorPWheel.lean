/- The order around the wheel: the reference's three loops give the one sorted permutation. -/
import Derived.Test.YtafokpklcmegaaaDoorGs0
import Derived.Test.YtafokpklcmegaaaDoorGs1
import Derived.Test.YtafokpklcmegaaaDoorGx1
import Derived.Test.YtafokpklcmegaaaDoorGx16
import Derived.Test.YtafokpklcmegaaaDoorGx2
import Derived.Test.YtafokpklcmegaaaDoorGy0
import Derived.Test.YtafokpklcmegaaaDoorPCard
import Derived.Test.YtafokpklcmegaaaDoorPMark
namespace Go.Proofs.YtafokpklcmegaaaDoor.Pure
open Go.RowKit Go.Proofs.YtafokpklcmegaaaDoor.G Go.Proofs.YtafokpklcmegaaaDoorW.PrintWords Go.Proofs.YtafokpklcmegaaaDoorW.PrintLast
set_option linter.unusedSimpArgs false
set_option linter.unusedVariables false

theorem filter_split {α : Type} (p q : α → Bool) (l : List α) (hd : ∀ x ∈ l, p x = true → q x = false) : (l.filter p ++ l.filter q).Perm (l.filter (fun x => p x || q x)) := by
  induction l with
  | nil => exact List.Perm.nil
  | cons x l ih =>
    have ih := ih (fun y hy => hd y (List.mem_cons_of_mem _ hy))
    have hx := hd x List.mem_cons_self
    cases hp : p x with
    | true =>
      have hq := hx hp
      rw [List.filter_cons_of_pos hp, List.filter_cons_of_neg (by simp [hq]), List.filter_cons_of_pos (by simp [hp])]
      exact ih.cons x
    | false =>
      cases hq : q x with
      | true =>
        rw [List.filter_cons_of_neg (by simp [hp]), List.filter_cons_of_pos hq, List.filter_cons_of_pos (by simp [hq])]
        exact List.perm_middle.trans (ih.cons x)
      | false =>
        rw [List.filter_cons_of_neg (by simp [hp]), List.filter_cons_of_neg (by simp [hq]), List.filter_cons_of_neg (by simp [hp, hq])]
        exact ih
/-- A list parted by a number of its elements. -/
theorem parts_perm {α : Type} (g : α → Int) (l : List α) : ∀ n : Nat, ((List.range n).flatMap fun (m : Nat) => l.filter fun x => decide (g x = m)).Perm (l.filter fun x => decide (0 ≤ g x) && decide (g x < n))
  | 0 => by
    rw [show (l.filter fun x => decide (0 ≤ g x) && decide (g x < (0 : Nat))) = [] from List.filter_eq_nil_iff.mpr (fun x _ => by simp only [Bool.and_eq_true, decide_eq_true_eq]; omega)]
    exact List.Perm.nil
  | n + 1 => by
    rw [List.range_succ, List.flatMap_append, List.flatMap_singleton]
    refine ((parts_perm g l n).append_right _).trans ?_
    refine (filter_split _ _ l (fun x _ h => ?_)).trans ?_
    · simp at h ⊢; omega
    · rw [show (fun x => (decide (0 ≤ g x) && decide (g x < (n : Nat))) || decide (g x = n)) = fun x => decide (0 ≤ g x) && decide (g x < ((n + 1 : Nat) : Int)) from funext fun x => by
        apply Bool.eq_iff_iff.mpr; simp only [Bool.or_eq_true, Bool.and_eq_true, decide_eq_true_eq]; omega]
theorem parts_all {α : Type} (g : α → Int) (l : List α) (n : Nat) (h : ∀ x ∈ l, 0 ≤ g x ∧ g x < n) : ((List.range n).flatMap fun (m : Nat) => l.filter fun x => decide (g x = m)).Perm l := by
  have := parts_perm g l n
  rwa [List.filter_eq_self.mpr (fun x hx => by simp [h x hx])] at this
theorem flatMap_perm {α β : Type} (f g : β → List α) (l : List β) (h : ∀ b ∈ l, (f b).Perm (g b)) : (l.flatMap f).Perm (l.flatMap g) := by
  induction l with
  | nil => exact List.Perm.nil
  | cons b l ih =>
    rw [List.flatMap_cons, List.flatMap_cons]
    exact (h b List.mem_cons_self).append (ih (fun c hc => h c (List.mem_cons_of_mem _ hc)))

theorem asc_inj {α : Type} (i : α → Int) (l : List α) (h : l.Pairwise (fun x y => i x < i y)) : ∀ x ∈ l, ∀ y ∈ l, i x = i y → x = y := by
  induction l with
  | nil => intro x hx; cases hx
  | cons a l ih =>
    obtain ⟨h1, h2⟩ := List.pairwise_cons.mp h
    intro x hx y hy e
    rcases List.mem_cons.mp hx with e1 | hx'
    · rcases List.mem_cons.mp hy with e2 | hy'
      · rw [e1, e2]
      · have := h1 y hy'; rw [e1] at e; omega
    · rcases List.mem_cons.mp hy with e2 | hy'
      · have := h1 x hx'; rw [e2] at e; omega
      · exact ih h2 x hx' y hy' e
def wheelL {α : Type} (g d : α → Int) (l : List α) : List α := (List.range 24).flatMap fun (n : Nat) => (List.range 10).flatMap fun (m : Nat) => l.filter fun x => decide (g x = n) && decide (d x = m)
/-- What comes later is not less: by the turn, the depth, the number. -/
def leW {α : Type} (g d i : α → Int) (x y : α) : Prop := ¬ (g y < g x ∨ (g y = g x ∧ (d y < d x ∨ (d y = d x ∧ i y < i x))))
theorem sorted_wheel {α : Type} (g d i : α → Int) (l s : List α) (hg : ∀ x ∈ l, 0 ≤ g x ∧ g x < 24) (hd : ∀ x ∈ l, 0 ≤ d x ∧ d x < 10) (hi : l.Pairwise (fun x y => i x < i y)) (hp : s.Perm l) (hs : s.Pairwise (leW g d i)) : s = wheelL g d l := by
  refine List.Perm.eq_of_pairwise (le := leW g d i) ?_ hs ?_ (hp.trans ?_)
  · intro a b ha hb h1 h2
    have ha' := hp.mem_iff.mp ha
    have hb' : b ∈ l := by
      unfold wheelL at hb
      obtain ⟨n, _, hb⟩ := List.mem_flatMap.mp hb
      obtain ⟨m, _, hb⟩ := List.mem_flatMap.mp hb
      exact (List.mem_filter.mp hb).1
    refine asc_inj i l hi a ha' b hb' ?_
    unfold leW at h1 h2
    omega
  · unfold wheelL
    rw [List.pairwise_flatMap]
    refine ⟨fun n hn => ?_, ?_⟩
    · rw [List.pairwise_flatMap]
      refine ⟨fun m hm => ?_, ?_⟩
      · rw [List.pairwise_filter]
        refine hi.imp ?_
        intro a b h p q
        simp only [Bool.and_eq_true, decide_eq_true_eq] at p q
        unfold leW
        omega
      · refine List.Pairwise.imp ?_ (List.pairwise_lt_range (n := 10))
        intro a b h x hx y hy
        have p := (List.mem_filter.mp hx).2
        have q := (List.mem_filter.mp hy).2
        simp only [Bool.and_eq_true, decide_eq_true_eq] at p q
        unfold leW
        omega
    · refine List.Pairwise.imp ?_ (List.pairwise_lt_range (n := 24))
      intro a b h x hx y hy
      obtain ⟨m, _, hx⟩ := List.mem_flatMap.mp hx
      obtain ⟨m', _, hy⟩ := List.mem_flatMap.mp hy
      have p := (List.mem_filter.mp hx).2
      have q := (List.mem_filter.mp hy).2
      simp only [Bool.and_eq_true, decide_eq_true_eq] at p q
      unfold leW
      omega
  · unfold wheelL
    refine List.Perm.symm ((flatMap_perm _ (fun (n : Nat) => l.filter fun x => decide (g x = n)) _ fun n hn => ?_).trans (parts_all g l 24 hg))
    refine List.Perm.trans (List.Perm.of_eq ?_) (parts_all d (l.filter fun x => decide (g x = n)) 10 (fun x hx => hd x (List.mem_filter.mp hx).1))
    congr 1
    funext m
    rw [List.filter_filter]
    congr 1
    funext x
    rw [Bool.and_comm]
def okS (b c : Int) : Prop := 0 ≤ b ∧ b ≤ 23 ∧ 0 ≤ c ∧ c ≤ 9
theorem step_spec (a : Int) : spec_l3Step.f a = some (stepB a) := by
  unfold spec_l3Step.f
  rw [l1In_eq]
  rfl
theorem card_ok (l : List S48) (h : cardB l = true) : ∀ x ∈ l, okS x.f2 x.f3 := by
  intro x hx
  have hl : l.length ≤ 10 := by
    unfold cardB at h
    rw [Bool.and_eq_true] at h
    exact of_decide_eq_true h.2
  rw [card_parts l hl, Bool.and_eq_true, List.all_eq_true] at h
  have h1 := h.1 x hx
  rw [P_one] at h1
  obtain ⟨_, _, p1, p2, p3, p4, _⟩ := shade_parts h1
  exact ⟨p1, p2, p3, p4⟩
def turnI (fr : Int) (x : S48) : Int := turnV fr x.f2
theorem turn_in {fr z : Int} (f0 : 0 ≤ fr) (f1 : fr ≤ 23) (z0 : 0 ≤ z) (z1 : z ≤ 23) : turnV fr z = (z - fr + 24) % 24 := by
  unfold turnV
  rw [wrap_in (x := z - fr) (by omega) (by omega), wrap_in (by omega) (by omega), tmod_nn (by omega)]
theorem turn_iff {fr z : Int} {n : Nat} (f0 : 0 ≤ fr) (f1 : fr ≤ 23) (z0 : 0 ≤ z) (z1 : z ≤ 23) (hn : n < 24) : z = Int.tmod (wrap64 (fr + n)) 24 ↔ turnV fr z = n := by
  rw [turn_in f0 f1 z0 z1, wrap_in (by omega) (by omega), tmod_nn (by omega)]
  omega
/-- The shades of one turn and one depth. -/
def cellL (fr : Int) (l : List S48) (n m : Nat) : List S48 := l.filter fun x => decide (turnI fr x = n) && decide (x.f3 = m)
theorem cellL_len (fr : Int) (l : List S48) (n m : Nat) : (cellL fr l n m).length ≤ l.length := List.length_filter_le _ _
theorem spec_l2 (l : List S48) (fr : Int) (f0 : 0 ≤ fr) (f1 : fr ≤ 23) (hl : l.length ≤ 10) (hok : ∀ x ∈ l, okS x.f2 x.f3) (n m : Nat) (hn : n < 24) (hm : m < 10) (R : List Int × Bool) (d : Nat) : ∀ (i : Nat) (acc : List S48), i + d = l.length → acc.length ≤ 100 * n + 10 * m + i →
    Ev (fun k => spec_WheelOrder.l1 k l fr ((acc ++ (l.drop i).filter fun x => decide (turnI fr x = n) && decide (x.f3 = m)).map (·.f0)) n ((m : Int) + 1)) R →
    Ev (fun k => spec_WheelOrder.l2 k l fr (acc.map (·.f0)) n m i) R := by
  induction d with
  | zero =>
    intro i acc hi ha hR
    rw [List.drop_eq_nil_of_le (by omega), List.filter_nil, List.append_nil] at hR
    refine Ev.step (fun k => rfl) ?_
    simp only [spec_WheelOrder.l2]
    rw [wrap_in (x := (m : Int) + 1) (by omega) (by omega)]
    exact ev_neg (by omega) hR
  | succ d ih =>
    intro i acc hi ha hR
    have hil : i < l.length := by omega
    have hm' := hok _ (rdS_mem l (i : Int) (by omega) (by omega))
    have hx : rd_T48 l (i : Int) = l[i] := by rw [rdShade_at l (i : Int) (by omega)]; simp
    obtain ⟨p0, p1, p2, p3⟩ := hm'
    have hiff := turn_iff f0 f1 p0 p1 hn
    rw [List.drop_eq_getElem_cons hil, ← hx] at hR
    refine Ev.step (fun k => rfl) ?_
    simp only [spec_WheelOrder.l2]
    rw [wrap_in (x := (i : Int) + 1) (by omega) (by omega)]
    refine ev_pos (by omega) (ev_pos (by omega) ?_)
    by_cases c1 : turnV fr (rd_T48 l (i : Int)).f2 = n
    · refine ev_pos (hiff.mpr c1) ?_
      by_cases c2 : (rd_T48 l (i : Int)).f3 = m
      · refine ev_pos c2 (ev_pos (by rw [List.length_map]; omega) ?_)
        rw [List.filter_cons_of_pos (by simp [turnI, c1, c2])] at hR
        have := ih (i + 1) (acc ++ [rd_T48 l (i : Int)]) (by omega) (by rw [List.length_append, List.length_singleton]; omega) (by rw [List.append_assoc]; exact hR)
        rw [List.map_append] at this
        exact this
      · refine ev_neg c2 ?_
        rw [List.filter_cons_of_neg (by simp [turnI, c2])] at hR
        exact ih (i + 1) acc (by omega) (by omega) hR
    · refine ev_neg (fun h => c1 (hiff.mp h)) ?_
      rw [List.filter_cons_of_neg (by simp [turnI, c1])] at hR
      exact ih (i + 1) acc (by omega) (by omega) hR
theorem spec_l1 (l : List S48) (fr : Int) (f0 : 0 ≤ fr) (f1 : fr ≤ 23) (hl : l.length ≤ 10) (hok : ∀ x ∈ l, okS x.f2 x.f3) (n : Nat) (hn : n < 24) (R : List Int × Bool) (d : Nat) : ∀ (m : Nat) (acc : List S48), m + d = 10 → acc.length ≤ 100 * n + 10 * m →
    Ev (fun k => spec_WheelOrder.l0 k l fr ((acc ++ (List.range' m d).flatMap fun m => cellL fr l n m).map (·.f0)) ((n : Int) + 1)) R →
    Ev (fun k => spec_WheelOrder.l1 k l fr (acc.map (·.f0)) n m) R := by
  induction d with
  | zero =>
    intro m acc hm ha hR
    rw [List.range'_zero, List.flatMap_nil, List.append_nil] at hR
    refine Ev.step (fun k => rfl) ?_
    simp only [spec_WheelOrder.l1]
    rw [wrap_in (x := (n : Int) + 1) (by omega) (by omega)]
    exact ev_neg (by omega) hR
  | succ d ih =>
    intro m acc hm ha hR
    rw [List.range'_succ, List.flatMap_cons, ← List.append_assoc] at hR
    refine Ev.step (fun k => rfl) ?_
    simp only [spec_WheelOrder.l1]
    refine ev_pos (by omega) ?_
    have hc := cellL_len fr l n m
    have := spec_l2 l fr f0 f1 hl hok n m hn (by omega) R l.length 0 acc (by omega) (by omega)
    refine this ?_
    rw [List.drop_zero]
    have h2 := ih (m + 1) (acc ++ cellL fr l n m) (by omega) (by rw [List.length_append]; omega) hR
    exact h2
theorem spec_l0 (l : List S48) (fr : Int) (f0 : 0 ≤ fr) (f1 : fr ≤ 23) (hl : l.length ≤ 10) (hok : ∀ x ∈ l, okS x.f2 x.f3) (d : Nat) : ∀ (n : Nat) (acc : List S48), n + d = 24 → acc.length ≤ 100 * n →
    Ev (fun k => spec_WheelOrder.l0 k l fr (acc.map (·.f0)) n) ((acc ++ (List.range' n d).flatMap fun n => (List.range' 0 10).flatMap fun m => cellL fr l n m).map (·.f0), true) := by
  induction d with
  | zero =>
    intro n acc hn ha
    rw [List.range'_zero, List.flatMap_nil, List.append_nil]
    refine Ev.step (fun k => rfl) ?_
    simp only [spec_WheelOrder.l0]
    exact ev_neg (by omega) (Ev.now _)
  | succ d ih =>
    intro n acc hn ha
    rw [show List.range' n (d + 1) = n :: List.range' (n + 1) d from List.range'_succ, List.flatMap_cons, ← List.append_assoc]
    refine Ev.step (fun k => rfl) ?_
    simp only [spec_WheelOrder.l0]
    refine ev_pos (by omega) ?_
    have hb : ((List.range' 0 10).flatMap fun m => cellL fr l n m).length ≤ 100 := by
      have h1 := fun m => cellL_len fr l n m
      have e : List.range' 0 10 = [0, 1, 2, 3, 4, 5, 6, 7, 8, 9] := by decide
      rw [e]
      simp only [List.flatMap_cons, List.flatMap_nil, List.length_append, List.length_nil]
      have h0 := h1 0; have h1' := h1 1; have h2 := h1 2; have h3 := h1 3; have h4 := h1 4; have h5 := h1 5; have h6 := h1 6; have h7 := h1 7; have h8 := h1 8; have h9 := h1 9
      omega
    have h2 := ih (n + 1) (acc ++ (List.range' 0 10).flatMap fun m => cellL fr l n m) (by omega) (by rw [List.length_append]; omega)
    exact spec_l1 l fr f0 f1 hl hok n (by omega) _ 10 0 acc (by omega) (by omega) h2
theorem card_asc (l : List S48) (h : cardB l = true) : l.length ≤ 10 ∧ l.Pairwise (fun x y => x.f0 < y.f0) := by
  have hl : l.length ≤ 10 := by
    unfold cardB at h
    rw [Bool.and_eq_true] at h
    exact of_decide_eq_true h.2
  refine ⟨hl, ?_⟩
  rw [card_parts l hl, Bool.and_eq_true, Bool.and_eq_true] at h
  have hu := (allFrom_iff _ _ _).mp h.2.1
  rw [List.pairwise_iff_getElem]
  have step : ∀ j : Nat, (hj : j + 1 < l.length) → (l[j]'(by omega)).f0 < l[j + 1].f0 := by
    intro j hj
    have := hu (j + 1) (by omega) (by omega)
    unfold upB at this
    have := of_decide_eq_true this
    rw [rdShade_at l _ (by omega), rdShade_at l _ (by omega)] at this
    have e1 : (((j + 1 : Nat) : Int) - 1).toNat = j := by omega
    have e2 : ((j + 1 : Nat) : Int).toNat = j + 1 := by omega
    simp only [e1, e2] at this
    exact this
  intro i j hi hj hij
  obtain ⟨d, rfl⟩ : ∃ d, j = i + 1 + d := ⟨j - i - 1, by omega⟩
  induction d with
  | zero => exact step i hj
  | succ d ih =>
    have h1 := ih (by omega) (by omega)
    have h2 := step (i + 1 + d) (by omega)
    exact Int.lt_trans h1 h2
theorem sortL_eq (l : List S48) (fr : Int) (f0 : 0 ≤ fr) (f1 : fr ≤ 23) (hc : cardB l = true) : sortL fr l = wheelL (turnI fr) (·.f3) l := by
  obtain ⟨hl, ha⟩ := card_asc l hc
  have hok := card_ok l hc
  obtain ⟨⟨h1, _, h3⟩, h4⟩ := sortL_both fr l
  refine sorted_wheel (turnI fr) (·.f3) (·.f0) l (sortL fr l) ?_ ?_ ha ?_ ?_
  · intro x hx
    obtain ⟨p0, p1, p2, p3⟩ := hok x hx
    unfold turnI
    rw [turn_in f0 f1 p0 p1]
    omega
  · intro x hx
    obtain ⟨p0, p1, p2, p3⟩ := hok x hx
    exact ⟨p2, by omega⟩
  · have e1 : (sortL fr l).toArray.extract 0 l.toArray.size = (sortL fr l).toArray := by rw [← h1]; exact Array.extract_size
    rw [e1, Array.extract_size] at h3
    exact h3
  · rw [List.pairwise_iff_getElem]
    intro i j hi hj hij
    have hs := sortL_len fr l
    have := h4 i j (Nat.zero_le _) hij (by simpa using (show j < l.length by omega))
    rw [getElem!_pos _ i (by simpa using hi), getElem!_pos _ j (by simpa using hj), ltW] at this
    simp only [List.getElem_toArray, decide_eq_false_iff_not] at this
    exact this
theorem impl_l0 (ys : List S48) (n : Int) (hn : n = ys.length) (hl : ys.length ≤ 10) (d : Nat) : ∀ (i : Nat) (acc : List S48), i + d = ys.length → acc.length = i →
    Ev (fun k => impl_WheelOrder.l0 k (acc.map (·.f0)) ys n i) ((acc ++ ys.drop i).map (·.f0), true) := by
  subst hn
  induction d with
  | zero =>
    intro i acc hi ha
    rw [List.drop_eq_nil_of_le (by omega), List.append_nil]
    refine Ev.step (fun k => rfl) ?_
    simp only [impl_WheelOrder.l0]
    exact ev_neg (by omega) (Ev.now _)
  | succ d ih =>
    intro i acc hi ha
    have hil : i < ys.length := by omega
    have hx : rd_T48 ys (i : Int) = ys[i] := by rw [rdShade_at ys (i : Int) (by omega)]; simp
    have := ih (i + 1) (acc ++ [rd_T48 ys (i : Int)]) (by omega) (by rw [List.length_append, List.length_singleton]; omega)
    rw [List.map_append] at this
    refine Ev.step (fun k => rfl) ?_
    simp only [impl_WheelOrder.l0]
    rw [wrap_in (x := (i : Int) + 1) (by omega) (by omega), List.drop_eq_getElem_cons hil, ← hx]
    refine ev_pos (by omega) (ev_pos (by omega) (ev_pos (by omega) (ev_pos (by rw [List.length_map]; omega) ?_)))
    rw [List.append_assoc] at this
    exact this
theorem WheelOrder_both (l : List S48) (fr : Int) (hl : l.length ≤ 1048576) (hx : ∀ x ∈ l, x.f1.size ≤ 9223372036854775807) : ∃ r : List Int × Bool, Ev (fun k => spec_WheelOrder.f k l fr) r ∧ Ev (fun k => impl_WheelOrder.f k l fr) r ∧ r.1.length ≤ 1048576 := by
  have hS := good_ev l hl hx
  have hI := impl_card_ev l hl
  have hjT : Ev (fun k => spec_WheelOrder.j0 k l fr [] true) ([], false) := by
    refine Ev.step (fun k => rfl) ?_
    simp only [spec_WheelOrder.j0]
    exact ev_pos trivial (Ev.now _)
  have hiT : Ev (fun k => impl_WheelOrder.j0 k l fr true) ([], false) := by
    refine Ev.step (fun k => rfl) ?_
    simp only [impl_WheelOrder.j0]
    exact ev_pos trivial (Ev.now _)
  unfold spec_WheelOrder.f impl_WheelOrder.f
  cases hc : cardB l with
  | false => exact ⟨([], false), Ev.bind (Ev.now _) (Ev.bind (ev_val hc hS) (ev_neg (by simp) hjT)), Ev.bind (ev_val hc hI) (ev_neg (by simp) hiT), by simp⟩
  | true =>
    have hS' := ev_val hc hS
    have hI' := ev_val hc hI
    have hst : impl_isStep.f fr = some (stepB fr) := isStep_B fr
    rw [step_spec, hst]
    cases hs : stepB fr with
    | false => exact ⟨([], false), Ev.bind (Ev.now _) (Ev.bind hS' (ev_pos rfl (Ev.bind (Ev.now _) hjT))), Ev.bind hI' (ev_pos rfl (Ev.bind (Ev.now _) hiT)), by simp⟩
    | true =>
      have hs2 := hs
      unfold stepB at hs2
      simp only [Bool.and_eq_true, decide_eq_true_eq] at hs2
      obtain ⟨f0, f1⟩ := hs2
      obtain ⟨hl10, _⟩ := card_asc l hc
      have hok := card_ok l hc
      have h1 := spec_l0 l fr f0 f1 hl10 hok 24 0 [] (by omega) (by simp)
      have e : ([] ++ (List.range' 0 24).flatMap fun n => (List.range' 0 10).flatMap fun m => cellL fr l n m : List S48) = sortL fr l := by
        rw [sortL_eq l fr f0 f1 hc, List.nil_append]
        unfold wheelL
        rw [List.range_eq_range', List.range_eq_range']
        rfl
      rw [e] at h1
      have hlen := sortL_len fr l
      have h2 := impl_l0 (sortL fr l) (l.length : Int) (by rw [hlen]) (by omega) l.length 0 [] (by omega) rfl
      rw [List.nil_append, List.drop_zero] at h2
      refine ⟨((sortL fr l).map (·.f0), true), Ev.bind (Ev.now _) (Ev.bind hS' (ev_pos rfl (Ev.bind (Ev.now _) ?_))), Ev.bind hI' (ev_pos rfl (Ev.bind (Ev.now _) ?_)), by simp; omega⟩
      · refine Ev.step (fun k => rfl) ?_
        simp only [spec_WheelOrder.j0]
        exact ev_neg (by simp) h1
      · refine Ev.step (fun k => rfl) ?_
        simp only [impl_WheelOrder.j0]
        have hcl : slices_Clone_impl_Shade_impl_Shade.f l = some l := by
          unfold slices_Clone_impl_Shade_impl_Shade.f
          rw [Option.bind_some, if_pos (by simp; omega), List.nil_append]
        rw [hcl]
        exact ev_neg (by simp) (Ev.bind (Ev.now _) (ev_pos (by omega) h2))
end Go.Proofs.YtafokpklcmegaaaDoor.Pure
