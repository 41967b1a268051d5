/- For every list of dye parts, every bath and every int the program's DepthLeft answers as the reference's. -/
import Derived.Test.YtcloildodfpgfaaDoorGx15
import Derived.Test.YtcloildodfpgfaaDoorGx16
import Derived.Test.YtcloildodfpgfaaDoorGx17
import Derived.Test.YtcloildodfpgfaaDoorPNeeds
namespace Go.Proofs.YtcloildodfpgfaaDoor.Pure
open Go.RowKit Go.Proofs.YtcloildodfpgfaaDoor.G Go.Proofs.YtcloildodfpgfaaDoorW.PrintWords Go.Proofs.YtcloildodfpgfaaDoorW.PrintLast
set_option linter.unusedSimpArgs false
set_option linter.unusedVariables false

theorem DepthLeft_both (l : List S64) (hl : l.length ≤ 1048576) (hx : ∀ x ∈ l, x.f0.size ≤ 9223372036854775807) (a b c : Int) (s : List Int) (hs : s.length ≤ 1048576) (y : Int) : ∃ r : Int × Bool, Ev (fun k => spec_DepthLeft.f k l a b c s y) r ∧ Ev (fun k => impl_DepthLeft.f k l a b c s y) r := by
  unfold spec_DepthLeft.f impl_DepthLeft.f
  simp only [l1In_eq, in_eq, Option.bind_some]
  have stop1 : ∀ b', b' = true → Ev (fun k => spec_DepthLeft.j0 k l y b' a b c s) (0, false) := fun b' hb => Ev.step (fun k => by simp only [spec_DepthLeft.j0]; rw [if_pos hb]) (Ev.now _)
  have stop2 : ∀ b', b' = true → Ev (fun k => impl_DepthLeft.j0 k l y b' a b c s) (0, false) := fun b' hb => Ev.step (fun k => by simp only [impl_DepthLeft.j0]; rw [if_pos hb]) (Ev.now _)
  cases h : bathB l a b c s with
  | false => exact ⟨(0, false), Ev.bind (ev_val h (l7Bath_ev l hl hx a b c s hs)) (ev_neg (by simp) (stop1 _ rfl)), Ev.bind (ev_val h (IsBath_ev l hl a b c s)) (ev_neg (by simp) (stop2 _ rfl))⟩
  | true =>
    cases g : (decide (1 ≤ y) && decide (y ≤ 50000)) with
    | false => exact ⟨(0, false), Ev.bind (ev_val h (l7Bath_ev l hl hx a b c s hs)) (ev_pos (by trivial) (stop1 _ rfl)), Ev.bind (ev_val h (IsBath_ev l hl a b c s)) (ev_pos (by trivial) (stop2 _ rfl))⟩
    | true =>
      simp only [Bool.and_eq_true, decide_eq_true_eq] at g
      obtain ⟨y1, y2⟩ := g
      obtain ⟨hr, a1, a2, b1, b2, c1, c2, hsl, hsr⟩ := bath_parts h
      obtain ⟨r1, r2, r3, _⟩ := rec_parts hr
      have loop : ∀ (d i : Nat) (acc : Int), i + d = l.length → 0 ≤ acc → acc ≤ 100 → ∃ r, Ev (fun k => spec_DepthLeft.l0 k l y acc (i : Int) a b c s) (r, true) ∧ Ev (fun k => impl_DepthLeft.l0 k y acc l (l.length : Int) (i : Int) a b c s) (r, true) := by
        intro d
        induction d with
        | zero =>
          intro i acc hi h0 h1
          refine ⟨acc, Ev.step (fun k => rfl) ?_, Ev.step (fun k => rfl) ?_⟩
          · simp only [spec_DepthLeft.l0]
            exact ev_neg (by omega) (Ev.now _)
          · simp only [impl_DepthLeft.l0]
            exact ev_neg (by omega) (Ev.now _)
        | succ d ih =>
          intro i acc hi h0 h1
          obtain ⟨p1, p2⟩ := r3 (i : Int) (by omega) (by omega)
          obtain ⟨s1, s2⟩ := hsr (i : Int) (by omega) (by omega)
          obtain ⟨q1, q2⟩ := prod_in p1 p2 (by omega) y2
          have q3 : 1 ≤ (rd_T64 l (i : Int)).f1 * y := Int.mul_pos (by omega) (by omega)
          have t0 : 0 ≤ 100000 * rd s (i : Int) / ((rd_T64 l (i : Int)).f1 * y) := Int.ediv_nonneg (by omega) (by omega)
          have t1 : 100000 * rd s (i : Int) / ((rd_T64 l (i : Int)).f1 * y) ≤ 100000 * rd s (i : Int) := Int.ediv_le_self _ (by omega)
          have hS : ∀ q, 0 ≤ q → spec_l1Least.f acc q = some (mn acc q) := by
            intro q _
            unfold spec_l1Least.f mn
            by_cases z : acc < q
            · rw [if_pos z]; congr 1; omega
            · rw [if_neg z]; congr 1; omega
          obtain ⟨r, e1, e2⟩ := ih (i + 1) (mn acc (100000 * rd s (i : Int) / ((rd_T64 l (i : Int)).f1 * y))) (by omega) (by unfold mn; omega) (by unfold mn; omega)
          refine ⟨r, Ev.step (fun k => rfl) ?_, Ev.step (fun k => rfl) ?_⟩
          · simp only [spec_DepthLeft.l0]
            rw [wrap_in (x := (rd_T64 l (i : Int)).f1 * y) (by omega) (by omega), wrap_in (x := 100000 * rd s (i : Int)) (by omega) (by omega), tdiv_nn (by omega), wrap_in (x := 100000 * rd s (i : Int) / ((rd_T64 l (i : Int)).f1 * y)) (by omega) (by omega), wrap_in (x := (i : Int) + 1) (by omega) (by omega), hS _ t0]
            simp only [Option.bind_some]
            exact ev_pos (by omega) (ev_pos (by omega) (ev_pos (by omega) (ev_neg (by omega) e1)))
          · simp only [impl_DepthLeft.l0]
            rw [wrap_in (x := (rd_T64 l (i : Int)).f1 * y) (by omega) (by omega), wrap_in (x := 100 * rd s (i : Int)) (by omega) (by omega), wrap_in (x := 100 * rd s (i : Int) * 1000) (by omega) (by omega), tdiv_nn (by omega), show 100 * rd s (i : Int) * 1000 = 100000 * rd s (i : Int) by omega, wrap_in (x := 100000 * rd s (i : Int) / ((rd_T64 l (i : Int)).f1 * y)) (by omega) (by omega), wrap_in (x := (i : Int) + 1) (by omega) (by omega)]
            exact ev_pos (by omega) (ev_pos (by omega) (ev_pos (by omega) (ev_pos (by omega) (ev_neg (by omega) e2))))
      obtain ⟨r, e1, e2⟩ := loop l.length 0 100 (by omega) (by omega) (by omega)
      exact ⟨(r, true), Ev.bind (ev_val h (l7Bath_ev l hl hx a b c s hs)) (ev_pos (by trivial) (Ev.step (fun k => by simp only [spec_DepthLeft.j0]; rw [if_neg (by simp)]; rfl) e1)), Ev.bind (ev_val h (IsBath_ev l hl a b c s)) (ev_pos (by trivial) (Ev.step (fun k => by simp only [impl_DepthLeft.j0]; rw [if_neg (by simp)]; rfl) e2))⟩
theorem FnExactDepthLeft (l : List S62) (a b c : Int) (s : List Int) (y : Int) (hl : l.length ≤ 9223372036854775807 ∧ ∀ y ∈ l, (y.f0.size ≤ 9223372036854775807 ∧ (-9223372036854775808 ≤ y.f1 ∧ y.f1 ≤ 9223372036854775807))) (_ : (-9223372036854775808 ≤ a ∧ a ≤ 9223372036854775807)) (_ : (-9223372036854775808 ≤ b ∧ b ≤ 9223372036854775807)) (_ : (-9223372036854775808 ≤ c ∧ c ≤ 9223372036854775807)) (hs : s.length ≤ 9223372036854775807 ∧ ∀ y ∈ s, (-9223372036854775808 ≤ y ∧ y ≤ 9223372036854775807)) (_ : (-9223372036854775808 ≤ y ∧ y ≤ 9223372036854775807)) : ∃ k, laws_FnExactDepthLeft.f k l a b c s y = some true := by
  refine Ev.rounds (g := fun k => laws_FnExactDepthLeft.f k l a b c s y) ?_
  unfold laws_FnExactDepthLeft.f
  obtain ⟨r, hz, hr⟩ := szR_ev l hl.1 (fun x hx => (hl.2 x hx).1)
  refine Ev.bind hz ?_
  by_cases c1 : r < 0
  · exact ev_pos c1 (Ev.now _)
  obtain ⟨h1, h2⟩ := hr c1
  refine ev_neg c1 ?_
  obtain ⟨q, hq, hr2⟩ := szBath_eq a b c s hs.1 r (by omega) h2
  simp only [hq, Option.bind_some]
  by_cases c2 : q < 0
  · exact ev_pos c2 (Ev.now _)
  have h3 := hr2 c2
  refine ev_neg c2 ?_
  have hm : (l.map toDyePart).length ≤ 1048576 := by simpa using h1
  have hx : ∀ x ∈ l.map toDyePart, x.f0.size ≤ 9223372036854775807 := by
    intro x hx
    obtain ⟨y, hy, rfl⟩ := List.mem_map.1 hx
    exact (hl.2 y hy).1
  have hT := toR_ev l h1
  have hQ := eqR_ev (l.map toDyePart) hm
  have hB := toBath_ev a b c s h3
  have hE := eqBath_ev a b c s h3
  obtain ⟨⟨v1, v2⟩, hS, hI⟩ := DepthLeft_both (l.map toDyePart) hm hx a b c s h3 y
  repeat (first
    | exact Ev.now _
    | refine Ev.bind (hT) ?_
    | refine Ev.bind (hQ) ?_
    | refine Ev.bind (hB) ?_
    | refine Ev.bind (hE) ?_
    | refine Ev.bind (hS) ?_
    | refine Ev.bind (hI) ?_
    | (refine ev_neg ?hc ?_; (case hc => first | omega | (dsimp only; omega) | (simp; done)))
    | (refine ev_pos ?hc ?_; (case hc => first | exact rfl | omega | (dsimp only; omega) | (simp; done)))
    | (refine Ev.step (fun k => rfl) ?_; simp only [laws_FnExactDepthLeft.j0]))
end Go.Proofs.YtcloildodfpgfaaDoor.Pure
