/- Plain facts on the triples that are evenly spread. -/
import Derived.Test.YtggikmajopmchaaDoorGs0
import Derived.Test.YtggikmajopmchaaDoorGs1
import Derived.Test.YtggikmajopmchaaDoorGx10
import Derived.Test.YtggikmajopmchaaDoorGx11
import Derived.Test.YtggikmajopmchaaDoorPCard
import Derived.Test.YtggikmajopmchaaDoorPGap
namespace Go.Proofs.YtggikmajopmchaaDoor.Pure
open Go.RowKit Go.Proofs.YtggikmajopmchaaDoor.G Go.Proofs.YtggikmajopmchaaDoorW.PrintWords Go.Proofs.YtggikmajopmchaaDoorW.PrintLast
set_option linter.unusedSimpArgs false
set_option linter.unusedVariables false

theorem card_at {l : List S42} (h : cardB l = true) : l.length ≤ 10 ∧ ∀ i : Nat, i < l.length → 0 ≤ (rd_T42 l (i : Int)).f2 ∧ (rd_T42 l (i : Int)).f2 ≤ 23 := by
  unfold cardB at h
  rw [Bool.and_eq_true, decide_eq_true_eq, allFrom_iff] at h
  refine ⟨h.2, fun i hi => ?_⟩
  have := h.1 i (Nat.zero_le _) (by omega)
  unfold okB at this
  rw [Bool.and_eq_true] at this
  have hs := shade_parts this.1
  exact ⟨hs.2.2.1, hs.2.2.2.1⟩
/-- Whether two places on the wheel lie a third of it apart, give or take n. -/
def triB (n a b : Int) : Bool := decide (8 - n ≤ gapW a b) && decide (gapW a b ≤ 8 + n)
theorem tri_impl (x0 : Int) (x1 : ByteArray) (x2 x3 x4 y0 : Int) (y1 : ByteArray) (y2 y3 y4 n : Int) (n0 : 0 ≤ n) (n1 : n ≤ 4) : impl_TriadsOf_1.f x0 x1 x2 x3 x4 y0 y1 y2 y3 y4 n = some (triB n x2 y2) := by
  unfold impl_TriadsOf_1.f triB
  rw [gap_some]
  simp only [Option.bind_some]
  rw [in_eq, wrap_in (x := 8 - n) (by omega) (by omega), wrap_in (x := 8 + n) (by omega) (by omega)]
theorem gap_spec (a b : Int) (h0 : 0 ≤ a) (h1 : a ≤ 23) (h2 : 0 ≤ b) (h3 : b ≤ 23) : spec_l3Gap.f a b = some (gapW a b) ∧ 0 ≤ gapW a b ∧ gapW a b ≤ 24 := by
  obtain ⟨r, e1, e2, e3, e4⟩ := gap_eq a b h0 h1 h2 h3
  rw [gap_some] at e2
  obtain rfl := Option.some.inj e2
  exact ⟨e1, e3, e4⟩
theorem ap_spec (n a b : Int) (n0 : 0 ≤ n) (n1 : n ≤ 4) (g0 : 0 ≤ gapW a b) (g1 : gapW a b ≤ 24) : ∃ q, spec_l3Apart.f (gapW a b) 8 = some q ∧ (q ≤ n ↔ triB n a b = true) := by
  unfold spec_l3Apart.f spec_l1Most.f triB
  rw [wrap_in (x := gapW a b - 8) (by omega) (by omega), wrap_in (x := 8 - gapW a b) (by omega) (by omega)]
  by_cases c : gapW a b - 8 > 8 - gapW a b
  · refine ⟨gapW a b - 8, by rw [if_pos c]; rfl, ?_⟩
    rw [Bool.and_eq_true, decide_eq_true_eq, decide_eq_true_eq]
    omega
  · refine ⟨8 - gapW a b, by rw [if_neg c]; rfl, ?_⟩
    rw [Bool.and_eq_true, decide_eq_true_eq, decide_eq_true_eq]
    omega
theorem rd_drop (l : List S42) (p q : Nat) : rd_T42 (l.drop p) (q : Int) = rd_T42 l ((p + q : Nat) : Int) := by
  unfold rd_T42
  rw [Int.toNat_natCast, Int.toNat_natCast, List.getD_eq_getElem?_getD, List.getD_eq_getElem?_getD, List.getElem?_drop]
theorem totalL_snoc (r : List Int) : ∀ l : List (List Int), totalL (l ++ [r]) = totalL l + r.length
  | [] => by
    rw [List.nil_append, totalL_cons, totalL_nil]
    omega
  | x :: l => by
    rw [List.cons_append, totalL_cons, totalL_cons, totalL_snoc r l]
    omega
def FinT (r : List (List Int) × Bool) : Prop := r.1.length ≤ 1000 ∧ totalL r.1 ≤ 3000
def GoodT (out : List (List Int)) (c : Nat) : Prop := out.length ≤ c ∧ totalL out = 3 * (out.length : Int)
def iL1 (l : List S42) (n : Int) (i p : Nat) (out : List (List Int)) (k : Nat) : Option (List (List Int) × Bool) :=
  impl_TriadsOf.l1 k l out (i : Int) l (l.length : Int) (i : Int) (l.drop (i + 1)) ((l.drop (i + 1)).length : Int) (p : Int) n (rd_T42 l (i : Int)).f0 (rd_T42 l (i : Int)).f1 (rd_T42 l (i : Int)).f2 (rd_T42 l (i : Int)).f3 (rd_T42 l (i : Int)).f4
def iL2 (l : List S42) (n : Int) (i p q : Nat) (out : List (List Int)) (k : Nat) : Option (List (List Int) × Bool) :=
  impl_TriadsOf.l2 k l out (i : Int) l (l.length : Int) (i : Int) (l.drop (i + 1)) ((l.drop (i + 1)).length : Int) (p : Int) (l.drop (i + p + 2)) ((l.drop (i + p + 2)).length : Int) (q : Int) n (rd_T42 l (i : Int)).f0 (rd_T42 l (i : Int)).f1 (rd_T42 l (i : Int)).f2 (rd_T42 l (i : Int)).f3 (rd_T42 l (i : Int)).f4
    (rd_T42 l ((i + 1 + p : Nat) : Int)).f0 (rd_T42 l ((i + 1 + p : Nat) : Int)).f1 (rd_T42 l ((i + 1 + p : Nat) : Int)).f2 (rd_T42 l ((i + 1 + p : Nat) : Int)).f3 (rd_T42 l ((i + 1 + p : Nat) : Int)).f4
theorem tri_l2 (l : List S42) (hc : cardB l = true) (n : Int) (n0 : 0 ≤ n) (n1 : n ≤ 4) (i p : Nat) (hp : i + 1 + p < l.length)
    (next : ∀ out : List (List Int), GoodT out (100 * i + 10 * (p + 1)) → ∃ r, Ev (fun k => spec_TriadsOf.l1 k l n out (i : Int) ((i + 1 + (p + 1) : Nat) : Int)) r ∧ Ev (iL1 l n i (p + 1) out) r ∧ FinT r) (d : Nat) :
    ∀ (q : Nat) (out : List (List Int)), i + p + 2 + q + d = l.length → GoodT out (100 * i + 10 * p + q) → ∃ r, Ev (fun k => spec_TriadsOf.l2 k l n out (i : Int) ((i + 1 + p : Nat) : Int) ((i + p + 2 + q : Nat) : Int)) r ∧ Ev (iL2 l n i p q out) r ∧ FinT r := by
  obtain ⟨h10, hw⟩ := card_at hc
  have hd2 : (l.drop (i + p + 2)).length = l.length - (i + p + 2) := List.length_drop
  induction d with
  | zero =>
    intro q out hq ho
    obtain ⟨r, e1, e2, e3⟩ := next out ⟨by have := ho.1; omega, ho.2⟩
    refine ⟨r, Ev.step (fun k => rfl) ?_, ?_, e3⟩
    · simp only [spec_TriadsOf.l2]
      rw [show wrap64 (((i + 1 + p : Nat) : Int) + 1) = ((i + 1 + (p + 1) : Nat) : Int) by rw [wrap_in (by omega) (by omega)]; omega]
      exact ev_neg (by omega) e1
    · unfold iL1 at e2
      unfold iL2
      refine Ev.step (fun k => rfl) ?_
      simp only [impl_TriadsOf.l2]
      rw [show wrap64 ((p : Int) + 1) = ((p + 1 : Nat) : Int) by rw [wrap_in (by omega) (by omega)]; omega]
      exact ev_neg (by omega) e2
  | succ d ih =>
    intro q out hq ho
    have w9 : wrap64 (((i + p + 2 + q : Nat) : Int) + 1) = ((i + p + 2 + (q + 1) : Nat) : Int) := by rw [wrap_in (by omega) (by omega)]; omega
    have wq : wrap64 ((q : Int) + 1) = ((q + 1 : Nat) : Int) := by rw [wrap_in (by omega) (by omega)]; omega
    have ba := hw i (by omega)
    have bb := hw (i + 1 + p) (by omega)
    have bc := hw (i + p + 2 + q) (by omega)
    have g1 := gap_spec _ _ ba.1 ba.2 bb.1 bb.2
    have g2 := gap_spec _ _ bb.1 bb.2 bc.1 bc.2
    have g3 := gap_spec _ _ ba.1 ba.2 bc.1 bc.2
    obtain ⟨q1, a1, t1⟩ := ap_spec n _ _ n0 n1 g1.2.1 g1.2.2
    obtain ⟨q2, a2, t2⟩ := ap_spec n _ _ n0 n1 g2.2.1 g2.2.2
    obtain ⟨q3, a3, t3⟩ := ap_spec n _ _ n0 n1 g3.2.1 g3.2.2
    have same := ih (q + 1) out (by omega) ⟨by have := ho.1; omega, ho.2⟩
    have more := ih (q + 1) (out ++ [([(rd_T42 l (i : Int)).f0, (rd_T42 l ((i + 1 + p : Nat) : Int)).f0, (rd_T42 l ((i + p + 2 + q : Nat) : Int)).f0] : List Int)]) (by omega) ⟨by have := ho.1; rw [List.length_append, List.length_singleton]; omega, by
      rw [totalL_snoc, List.length_append, List.length_singleton, ho.2]
      simp only [List.length_cons, List.length_nil]
      omega⟩
    have S : ∀ r, Ev (fun k => if q1 ≤ n then (if q2 ≤ n then (if q3 ≤ n then spec_TriadsOf.l2 k l n (out ++ [([(rd_T42 l (i : Int)).f0, (rd_T42 l ((i + 1 + p : Nat) : Int)).f0, (rd_T42 l ((i + p + 2 + q : Nat) : Int)).f0] : List Int)]) (i : Int) ((i + 1 + p : Nat) : Int) ((i + p + 2 + (q + 1) : Nat) : Int) else spec_TriadsOf.l2 k l n out (i : Int) ((i + 1 + p : Nat) : Int) ((i + p + 2 + (q + 1) : Nat) : Int)) else spec_TriadsOf.l2 k l n out (i : Int) ((i + 1 + p : Nat) : Int) ((i + p + 2 + (q + 1) : Nat) : Int)) else spec_TriadsOf.l2 k l n out (i : Int) ((i + 1 + p : Nat) : Int) ((i + p + 2 + (q + 1) : Nat) : Int)) r →
        Ev (fun k => spec_TriadsOf.l2 k l n out (i : Int) ((i + 1 + p : Nat) : Int) ((i + p + 2 + q : Nat) : Int)) r := by
      intro r hr
      refine Ev.step (fun k => rfl) ?_
      simp only [spec_TriadsOf.l2]
      rw [g1.1, g2.1, g3.1]
      simp only [Option.bind_some]
      rw [a1, a2, a3, w9]
      simp only [Option.bind_some]
      refine ev_pos (by omega) (ev_pos (by omega) (ev_pos (by omega) (ev_pos (by omega) (ev_pos (by omega) (ev_pos (by omega) ?_)))))
      refine Ev.congr (fun k => ?_) hr
      rw [if_pos (show out.length < 5864062014805 by have := ho.1; omega)]
    have I : ∀ r, Ev (fun k => if triB n (rd_T42 l (i : Int)).f2 (rd_T42 l ((i + 1 + p : Nat) : Int)).f2 = true then (if triB n (rd_T42 l (i : Int)).f2 (rd_T42 l ((i + p + 2 + q : Nat) : Int)).f2 = true then (if triB n (rd_T42 l ((i + 1 + p : Nat) : Int)).f2 (rd_T42 l ((i + p + 2 + q : Nat) : Int)).f2 = true then iL2 l n i p (q + 1) (out ++ [([(rd_T42 l (i : Int)).f0, (rd_T42 l ((i + 1 + p : Nat) : Int)).f0, (rd_T42 l ((i + p + 2 + q : Nat) : Int)).f0] : List Int)]) k else iL2 l n i p (q + 1) out k) else iL2 l n i p (q + 1) out k) else iL2 l n i p (q + 1) out k) r → Ev (iL2 l n i p q out) r := by
      intro r hr
      unfold iL2 at hr ⊢
      refine Ev.step (fun k => rfl) ?_
      simp only [impl_TriadsOf.l2]
      rw [tri_impl _ _ _ _ _ _ _ _ _ _ n n0 n1, tri_impl _ _ _ _ _ _ _ _ _ _ n n0 n1, tri_impl _ _ _ _ _ _ _ _ _ _ n n0 n1, rd_drop, wq]
      simp only [Option.bind_some]
      refine ev_pos (by omega) (ev_pos (by omega) (ev_pos (by omega) ?_))
      refine Ev.congr (fun k => ?_) hr
      rw [if_pos (show out.length < 5864062014805 by have := ho.1; omega)]
    by_cases c1 : triB n (rd_T42 l (i : Int)).f2 (rd_T42 l ((i + 1 + p : Nat) : Int)).f2 = true
    · by_cases c2 : triB n (rd_T42 l ((i + 1 + p : Nat) : Int)).f2 (rd_T42 l ((i + p + 2 + q : Nat) : Int)).f2 = true
      · by_cases c3 : triB n (rd_T42 l (i : Int)).f2 (rd_T42 l ((i + p + 2 + q : Nat) : Int)).f2 = true
        · obtain ⟨r, e1, e2, e3⟩ := more
          exact ⟨r, S r (ev_pos (t1.mpr c1) (ev_pos (t2.mpr c2) (ev_pos (t3.mpr c3) e1))), I r (ev_pos c1 (ev_pos c3 (ev_pos c2 e2))), e3⟩
        · obtain ⟨r, e1, e2, e3⟩ := same
          exact ⟨r, S r (ev_pos (t1.mpr c1) (ev_pos (t2.mpr c2) (ev_neg (fun h => c3 (t3.mp h)) e1))), I r (ev_pos c1 (ev_neg c3 e2)), e3⟩
      · obtain ⟨r, e1, e2, e3⟩ := same
        by_cases c3 : triB n (rd_T42 l (i : Int)).f2 (rd_T42 l ((i + p + 2 + q : Nat) : Int)).f2 = true
        · exact ⟨r, S r (ev_pos (t1.mpr c1) (ev_neg (fun h => c2 (t2.mp h)) e1)), I r (ev_pos c1 (ev_pos c3 (ev_neg c2 e2))), e3⟩
        · exact ⟨r, S r (ev_pos (t1.mpr c1) (ev_neg (fun h => c2 (t2.mp h)) e1)), I r (ev_pos c1 (ev_neg c3 e2)), e3⟩
    · obtain ⟨r, e1, e2, e3⟩ := same
      exact ⟨r, S r (ev_neg (fun h => c1 (t1.mp h)) e1), I r (ev_neg c1 e2), e3⟩
theorem tri_l1 (l : List S42) (hc : cardB l = true) (n : Int) (n0 : 0 ≤ n) (n1 : n ≤ 4) (i : Nat) (hi : i < l.length)
    (next : ∀ out : List (List Int), GoodT out (100 * (i + 1)) → ∃ r, Ev (fun k => spec_TriadsOf.l0 k l n out ((i + 1 : Nat) : Int)) r ∧ Ev (fun k => impl_TriadsOf.l0 k l out l (l.length : Int) ((i + 1 : Nat) : Int) n) r ∧ FinT r) (d : Nat) :
    ∀ (p : Nat) (out : List (List Int)), i + 1 + p + d = l.length → GoodT out (100 * i + 10 * p) → ∃ r, Ev (fun k => spec_TriadsOf.l1 k l n out (i : Int) ((i + 1 + p : Nat) : Int)) r ∧ Ev (iL1 l n i p out) r ∧ FinT r := by
  obtain ⟨h10, hw⟩ := card_at hc
  have hd1 : (l.drop (i + 1)).length = l.length - (i + 1) := List.length_drop
  induction d with
  | zero =>
    intro p out hp ho
    obtain ⟨r, e1, e2, e3⟩ := next out ⟨by have := ho.1; omega, ho.2⟩
    refine ⟨r, Ev.step (fun k => rfl) ?_, ?_, e3⟩
    · simp only [spec_TriadsOf.l1]
      rw [show wrap64 ((i : Int) + 1) = ((i + 1 : Nat) : Int) by rw [wrap_in (by omega) (by omega)]; omega]
      exact ev_neg (by omega) e1
    · unfold iL1
      refine Ev.step (fun k => rfl) ?_
      simp only [impl_TriadsOf.l1]
      rw [show wrap64 ((i : Int) + 1) = ((i + 1 : Nat) : Int) by rw [wrap_in (by omega) (by omega)]; omega]
      exact ev_neg (by omega) e2
  | succ d ih =>
    intro p out hp ho
    obtain ⟨r, e1, e2, e3⟩ := tri_l2 l hc n n0 n1 i p (by omega) (fun o g => ih (p + 1) o (by omega) g) (l.length - (i + p + 2)) 0 out (by omega) ⟨by have := ho.1; omega, ho.2⟩
    refine ⟨r, Ev.step (fun k => rfl) ?_, ?_, e3⟩
    · simp only [spec_TriadsOf.l1]
      rw [show wrap64 (((i + 1 + p : Nat) : Int) + 1) = ((i + p + 2 + 0 : Nat) : Int) by rw [wrap_in (by omega) (by omega)]; omega]
      exact ev_pos (by omega) e1
    · unfold iL2 at e2
      unfold iL1
      refine Ev.step (fun k => rfl) ?_
      simp only [impl_TriadsOf.l1, Option.bind_some]
      rw [wrap_in (x := (i : Int) + (p : Int)) (by omega) (by omega), show wrap64 ((i : Int) + (p : Int) + 2) = ((i + p + 2 : Nat) : Int) by rw [wrap_in (by omega) (by omega)]; omega, Int.toNat_natCast, rd_drop]
      exact ev_pos (by omega) (ev_pos (by omega) (ev_pos (by omega) (ev_pos (by omega) (ev_pos (by omega) e2))))
theorem tri_l0 (l : List S42) (hc : cardB l = true) (n : Int) (n0 : 0 ≤ n) (n1 : n ≤ 4) (d : Nat) :
    ∀ (i : Nat) (out : List (List Int)), i + d = l.length → GoodT out (100 * i) → ∃ r, Ev (fun k => spec_TriadsOf.l0 k l n out (i : Int)) r ∧ Ev (fun k => impl_TriadsOf.l0 k l out l (l.length : Int) (i : Int) n) r ∧ FinT r := by
  obtain ⟨h10, hw⟩ := card_at hc
  induction d with
  | zero =>
    intro i out hi ho
    have hl := ho.1
    have ht := ho.2
    refine ⟨(out, true), Ev.step (fun k => rfl) ?_, Ev.step (fun k => rfl) ?_, ⟨by show out.length ≤ 1000; omega, by show totalL out ≤ 3000; omega⟩⟩
    · simp only [spec_TriadsOf.l0]
      exact ev_neg (by omega) (Ev.now _)
    · simp only [impl_TriadsOf.l0]
      exact ev_neg (by omega) (Ev.now _)
  | succ d ih =>
    intro i out hi ho
    obtain ⟨r, e1, e2, e3⟩ := tri_l1 l hc n n0 n1 i (by omega) (fun o g => ih (i + 1) o (by omega) g) (l.length - (i + 1)) 0 out (by omega) ⟨by have := ho.1; omega, ho.2⟩
    refine ⟨r, Ev.step (fun k => rfl) ?_, Ev.step (fun k => rfl) ?_, e3⟩
    · simp only [spec_TriadsOf.l0]
      rw [show wrap64 ((i : Int) + 1) = ((i + 1 + 0 : Nat) : Int) by rw [wrap_in (by omega) (by omega)]; omega]
      exact ev_pos (by omega) e1
    · unfold iL1 at e2
      simp only [impl_TriadsOf.l0, Option.bind_some]
      rw [show wrap64 ((i : Int) + 1) = ((i + 1 : Nat) : Int) by rw [wrap_in (by omega) (by omega)]; omega, Int.toNat_natCast]
      exact ev_pos (by omega) (ev_pos (by omega) (ev_pos (by omega) (ev_pos (by omega) (ev_pos (by omega) e2))))
theorem Triads_both (l : List S42) (hl : l.length ≤ 1048576) (hx : ∀ x ∈ l, x.f1.size ≤ 9223372036854775807) (n : Int) :
    ∃ r, Ev (fun k => spec_TriadsOf.f k l n) r ∧ Ev (fun k => impl_TriadsOf.f k l n) r ∧ FinT r := by
  have g1 := good_ev l hl hx
  have i1 := impl_card_ev l hl
  have nil : FinT (([] : List (List Int)), false) := ⟨by simp, by show totalL [] ≤ 3000; rw [totalL_nil]; omega⟩
  have jS : Ev (fun k => spec_TriadsOf.j0 k l n [] true) (([] : List (List Int)), false) := by
    refine Ev.step (fun k => rfl) ?_
    simp only [spec_TriadsOf.j0]
    exact ev_pos trivial (Ev.now _)
  have jI : Ev (fun k => impl_TriadsOf.j0 k l true n) (([] : List (List Int)), false) := by
    refine Ev.step (fun k => rfl) ?_
    simp only [impl_TriadsOf.j0]
    exact ev_pos trivial (Ev.now _)
  unfold spec_TriadsOf.f impl_TriadsOf.f
  simp only [Option.bind_some]
  cases cg : cardB l with
  | false =>
    rw [cg] at g1 i1
    exact ⟨_, Ev.bind g1 (ev_neg (by simp) jS), Ev.bind i1 (ev_neg (by simp) jI), nil⟩
  | true =>
    rw [cg] at g1 i1
    have inE := ev_eq (fun _ : Nat => in_eq n 0 4)
    have l1E := ev_eq (fun _ : Nat => l1In_eq n 0 4)
    cases cs : (decide (0 ≤ n) && decide (n ≤ 4)) with
    | false =>
      rw [cs] at inE l1E
      exact ⟨_, Ev.bind g1 (ev_pos rfl (Ev.bind l1E jS)), Ev.bind i1 (ev_pos rfl (Ev.bind inE jI)), nil⟩
    | true =>
      rw [cs] at inE l1E
      rw [Bool.and_eq_true, decide_eq_true_eq, decide_eq_true_eq] at cs
      obtain ⟨r, e1, e2, e3⟩ := tri_l0 l cg n cs.1 cs.2 l.length 0 [] (by omega) ⟨by simp, by rw [totalL_nil]; simp⟩
      refine ⟨r, Ev.bind g1 (ev_pos rfl (Ev.bind l1E ?_)), Ev.bind i1 (ev_pos rfl (Ev.bind inE ?_)), e3⟩
      · refine Ev.step (fun k => rfl) ?_
        simp only [spec_TriadsOf.j0]
        exact ev_neg (by simp) e1
      · refine Ev.step (fun k => rfl) ?_
        simp only [impl_TriadsOf.j0]
        exact ev_neg (by simp) e2
end Go.Proofs.YtggikmajopmchaaDoor.Pure
