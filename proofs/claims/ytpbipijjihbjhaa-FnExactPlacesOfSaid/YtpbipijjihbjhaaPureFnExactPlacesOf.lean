/- The places of a motif are told as the statement says: at all arguments, with no premise. -/
import Derived.Test.YtpbipijjihbjhaaGx1
import Derived.Test.YtpbipijjihbjhaaGx10
import Derived.Test.YtpbipijjihbjhaaGx11
import Derived.Test.YtpbipijjihbjhaaGx12
import Derived.Test.YtpbipijjihbjhaaGx13
import Derived.Test.YtpbipijjihbjhaaGx14
import Derived.Test.YtpbipijjihbjhaaGx5
import Derived.Test.YtpbipijjihbjhaaPPlaces
namespace Go.Proofs.Ytpbipijjihbjhaa.Pure
open Go.RowKit Go.Proofs.Ytpbipijjihbjhaa.G Go.Proofs.YtpbipijjihbjhaaW.PrintWords Go.Proofs.YtpbipijjihbjhaaW.PrintLast
set_option linter.unusedSimpArgs false
set_option linter.unusedVariables false

theorem toC_ev (w h : Int) (l : List Int) (hl : l.length ≤ 1048576) : Ev (fun k => laws_toChart.f k w h l) (w, h, l) := ⟨l.length + 1, fun k hk => toChart_eq w h l hl k (by omega)⟩
theorem eqC_ev (w h : Int) (l : List Int) (hl : l.length ≤ 1048576) : Ev (fun k => laws_eqChart.f k w h l w h l) true := ⟨l.length + 1, fun k hk => eqChart_eq w h l hl k (by omega)⟩
theorem markC_ev (w h : Int) (l : List Int) (m : Int) (hl : l.length ≤ 1048576) (h0 : 0 ≤ m) (h1 : m ≤ 100000000) : Ev (fun k => laws_markChart.f k w h l m) (m + l.length, marks l.length m) := ⟨l.length + 1, fun k hk => markChart_eq w h l m hl h0 h1 k (by omega)⟩
theorem l2Good_ev (w h : Int) (l : List Int) (hl : l.length ≤ 1048576) : Ev (fun k => spec_l2Good.f k w h l) (goodB w h l) := ⟨l.length + 1, fun k hk => l2Good_eq w h l hl k (by omega)⟩
theorem rdA_at (l : List S44) (i : Nat) (h : i < l.length) : rd_T44 l (i : Int) = l[i] := by simp [rd_T44, h]
theorem eqA_l0 (l : List S44) (hl : l.length ≤ 1048576) (d : Nat) : ∀ i : Nat, i + d = l.length → Ev (fun k => laws_eqIntA2S.l0 k l l (i : Int)) true := by
  induction d with
  | zero =>
    intro i hi
    refine Ev.step (fun k => rfl) ?_
    simp only [laws_eqIntA2S.l0]
    exact ev_neg (by omega) (Ev.now _)
  | succ d ih =>
    intro i hi
    refine Ev.step (fun k => rfl) ?_
    simp only [laws_eqIntA2S.l0, laws_eqIntA2.f]
    rw [wrap_in (x := (i : Int) + 1) (by omega) (by omega)]
    simp only [if_true, Option.bind_some]
    exact ev_pos (by omega) (ev_pos (by omega) (ev_pos (by omega) (ih (i + 1) (by omega))))
theorem eqA_ev (l : List S44) (hl : l.length ≤ 1048576) : Ev (fun k => laws_eqIntA2S.f k l l) true := by
  unfold laws_eqIntA2S.f
  exact ev_pos rfl (eqA_l0 l hl l.length 0 (by omega))
/-- A row of places that bears the marks from m on. -/
def Marked (m : Int) (l : List S44) : Prop := ∀ j : Nat, j < l.length → (rd_T44 l (j : Int)).f0 = m + 2 * (j : Int) ∧ (rd_T44 l (j : Int)).f1 = m + 2 * (j : Int) + 1
theorem rdA_same (l : List S44) (i : Nat) (v : S44) (h : i < l.length) : rd_T44 (l.set i v) (i : Int) = v := by
  rw [rdA_at _ _ (by simpa using h)]
  simp
theorem rdA_other (l : List S44) (i j : Nat) (v : S44) (h : i ≠ j) : rd_T44 (l.set i v) (j : Int) = rd_T44 l (j : Int) := by
  simp [rd_T44, List.getD_eq_getElem?_getD, List.getElem?_set_ne h]
theorem markA_ev (l : List S44) (hl : l.length ≤ 1048576) (m : Int) (h0 : 0 ≤ m) (h1 : m ≤ 100000000) : ∃ l', Ev (fun k => laws_markIntA2S.f k l m) (m + 2 * l.length, l') ∧ l'.length = l.length ∧ Marked m l' := by
  have loop : ∀ (d : Nat) (i : Nat) (x : List S44), x.length = l.length → i + d = l.length → (∀ j : Nat, j < i → (rd_T44 x (j : Int)).f0 = m + 2 * (j : Int) ∧ (rd_T44 x (j : Int)).f1 = m + 2 * (j : Int) + 1) →
      ∃ l', Ev (fun k => laws_markIntA2S.l0 k x (m + 2 * i) (i : Int)) (m + 2 * l.length, l') ∧ l'.length = l.length ∧ Marked m l' := by
    intro d
    induction d with
    | zero =>
      intro i x hx hi hm
      refine ⟨x, Ev.step (fun k => rfl) ?_, hx, fun j hj => hm j (by omega)⟩
      simp only [laws_markIntA2S.l0]
      refine ev_neg (by omega) ?_
      have e : m + 2 * (i : Int) = m + 2 * (l.length : Int) := by omega
      rw [e]
      exact Ev.now _
    | succ d ih =>
      intro i x hx hi hm
      have hs : ((x.set i (⟨m + 2 * i, (rd_T44 x (i : Int)).f1⟩ : S44)).set i (⟨(rd_T44 (x.set i (⟨m + 2 * i, (rd_T44 x (i : Int)).f1⟩ : S44)) (i : Int)).f0, m + 2 * i + 1⟩ : S44)) = x.set i (⟨m + 2 * i, m + 2 * i + 1⟩ : S44) := by
        rw [rdA_same x i _ (by omega), List.set_set]
      obtain ⟨l', hl', h2, h3⟩ := ih (i + 1) (x.set i (⟨m + 2 * i, m + 2 * i + 1⟩ : S44)) (by simpa using hx) (by omega) (fun j hj => by
        by_cases c : i = j
        · subst c
          rw [rdA_same x i _ (by omega)]
          exact ⟨rfl, rfl⟩
        · rw [rdA_other x i j _ c]
          exact hm j (by omega))
      refine ⟨l', Ev.step (fun k => rfl) ?_, h2, h3⟩
      simp only [laws_markIntA2S.l0, Option.bind_some, Int.toNat_natCast]
      rw [wrap_in (x := m + 2 * (i : Int) + 1) (by omega) (by omega), wrap_in (x := m + 2 * (i : Int) + 1 + 1) (by omega) (by omega), wrap_in (x := (i : Int) + 1) (by omega) (by omega)]
      refine ev_pos (by omega) (ev_pos (by omega) ?_)
      have e : m + 2 * ((i + 1 : Nat) : Int) = m + 2 * (i : Int) + 1 + 1 := by omega
      rw [hs]
      rw [e] at hl'
      exact hl'
  obtain ⟨l', h, h2, h3⟩ := loop l.length 0 l rfl (by omega) (fun j hj => absurd hj (by omega))
  refine ⟨l', ?_, h2, h3⟩
  simpa [laws_markIntA2S.f] using h
theorem heldA_ev (l : List S44) (hl : l.length ≤ 1048576) (m : Int) (h0 : 0 ≤ m) (h1 : m ≤ 100000000) (hm : Marked m l) : Ev (fun k => laws_heldIntA2S.f k l m) (m + 2 * l.length) := by
  have loop : ∀ (d : Nat) (i : Nat), i + d = l.length → Ev (fun k => laws_heldIntA2S.l0 k l (m + 2 * i) (i : Int)) (m + 2 * l.length) := by
    intro d
    induction d with
    | zero =>
      intro i hi
      refine Ev.step (fun k => rfl) ?_
      simp only [laws_heldIntA2S.l0]
      refine ev_neg (by omega) ?_
      have e : m + 2 * (i : Int) = m + 2 * (l.length : Int) := by omega
      rw [e]
      exact Ev.now _
    | succ d ih =>
      intro i hi
      obtain ⟨ht, hf⟩ := hm i (by omega)
      refine Ev.step (fun k => rfl) ?_
      simp only [laws_heldIntA2S.l0]
      rw [wrap_in (x := m + 2 * (i : Int) + 1) (by omega) (by omega), wrap_in (x := m + 2 * (i : Int) + 1 + 1) (by omega) (by omega), wrap_in (x := (i : Int) + 1) (by omega) (by omega)]
      refine ev_pos (by omega) (ev_pos (by omega) (ev_pos ht (ev_pos hf ?_)))
      have e : m + 2 * ((i + 1 : Nat) : Int) = m + 2 * (i : Int) + 1 + 1 := by omega
      have k := ih (i + 1) (by omega)
      rw [e] at k
      exact k
  have h := loop l.length 0 (by omega)
  simpa [laws_heldIntA2S.f] using h
theorem PlacesOf_both (w h mw mh : Int) (l ml : List Int) (hl : l.length ≤ 1048576) (hm : ml.length ≤ 1048576) :
    ∃ r : List S44 × Bool, Ev (fun k => spec_PlacesOf.f k w h l mw mh ml) r ∧ Ev (fun k => impl_PlacesOf.f k w h l mw mh ml) r ∧ r.1.length ≤ 100 := by
  have g1 := l2Good_ev w h l hl
  have g2 := l2Good_ev mw mh ml hm
  have i1 := ev_eq (fun _ : Nat => IsChart_eq w h l)
  have i2 := ev_eq (fun _ : Nat => IsChart_eq mw mh ml)
  unfold spec_PlacesOf.f impl_PlacesOf.f
  cases cg : goodB w h l with
  | false =>
    rw [cg] at g1 i1
    exact ⟨([], false), Ev.bind g1 (ev_neg (by simp) (Ev.now _)), Ev.bind i1 (ev_neg (by simp) (Ev.now _)), by simp⟩
  | true =>
    rw [cg] at g1 i1
    cases cm : goodB mw mh ml with
    | false =>
      rw [cm] at g2 i2
      exact ⟨([], false), Ev.bind g1 (ev_pos rfl (Ev.bind g2 (ev_neg (by simp) (Ev.now _)))), Ev.bind i1 (ev_pos rfl (Ev.bind i2 (ev_neg (by simp) (Ev.now _)))), by simp⟩
    | true =>
      rw [cm] at g2 i2
      obtain ⟨res, e1, e2, e3⟩ := places_both cg cm
      exact ⟨(res, true), Ev.bind g1 (ev_pos rfl (Ev.bind g2 (ev_pos rfl (Ev.bind e1 (Ev.now _))))), Ev.bind i1 (ev_pos rfl (Ev.bind i2 (ev_pos rfl (Ev.bind e2 (Ev.now _))))), e3⟩
theorem FnExactPlacesOf (w h : Int) (l : List Int) (mw mh : Int) (ml : List Int) (_ : (-9223372036854775808 ≤ w ∧ w ≤ 9223372036854775807)) (_ : (-9223372036854775808 ≤ h ∧ h ≤ 9223372036854775807)) (hl : l.length ≤ 9223372036854775807 ∧ ∀ y ∈ l, (-9223372036854775808 ≤ y ∧ y ≤ 9223372036854775807))
    (_ : (-9223372036854775808 ≤ mw ∧ mw ≤ 9223372036854775807)) (_ : (-9223372036854775808 ≤ mh ∧ mh ≤ 9223372036854775807)) (hm : ml.length ≤ 9223372036854775807 ∧ ∀ y ∈ ml, (-9223372036854775808 ≤ y ∧ y ≤ 9223372036854775807)) : ∃ k, laws_FnExactPlacesOf.f k w h l mw mh ml = some true := by
  refine Ev.rounds (g := fun k => laws_FnExactPlacesOf.f k w h l mw mh ml) ?_
  unfold laws_FnExactPlacesOf.f
  rw [szChart_eq w h l 1048576 (by omega) (by omega) hl.1]
  simp only [Option.bind_some]
  by_cases c1 : (1048576 : Int) < l.length
  · rw [if_pos c1]
    exact ev_pos (by omega) (Ev.now _)
  rw [if_neg c1, szChart_eq mw mh ml (1048576 - (l.length : Int)) (by omega) (by omega) hm.1]
  refine ev_neg (by omega) ?_
  simp only [Option.bind_some]
  by_cases c2 : 1048576 - (l.length : Int) < ml.length
  · rw [if_pos c2]
    exact ev_pos (by omega) (Ev.now _)
  rw [if_neg c2]
  refine ev_neg (by omega) ?_
  have n0 : l.length ≤ 1048576 := by omega
  have n1 : ml.length ≤ 1048576 := by omega
  have T0 := toC_ev w h l n0
  have T1 := toC_ev mw mh ml n1
  have Q0 := eqC_ev w h l n0
  have Q1 := eqC_ev mw mh ml n1
  obtain ⟨⟨o, ok⟩, hS, hI, hol⟩ := PlacesOf_both w h mw mh l ml n0 n1
  dsimp only at hol
  have hE := eqA_ev o (by omega)
  have hM0 := markC_ev w h l 1 n0 (by omega) (by omega)
  have hM1 := markC_ev mw mh ml (1 + l.length) n1 (by omega) (by omega)
  obtain ⟨o2, hMo, e2, hmk⟩ := markA_ev o (by omega) 1 (by omega) (by omega)
  have hH := heldA_ev o2 (by omega) 1 (by omega) (by omega) hmk
  rw [e2] at hH
  refine Ev.bind T0 (Ev.bind T1 (Ev.bind hS (Ev.bind T0 (Ev.bind T1 (Ev.bind hI (Ev.bind hE (ev_pos rfl ?_)))))))
  refine Ev.step (fun k => rfl) ?_
  simp only [laws_FnExactPlacesOf.j0]
  refine ev_neg (by simp) (Ev.bind T0 (Ev.bind Q0 (ev_pos rfl (Ev.bind T1 (Ev.bind Q1 (ev_pos rfl (Ev.bind hM0 (Ev.bind hM1 (ev_neg (by dsimp only; omega) (Ev.bind hE (ev_pos rfl ?_)))))))))))
  refine Ev.step (fun k => rfl) ?_
  simp only [laws_FnExactPlacesOf.j1]
  refine ev_neg (by simp) (Ev.bind hMo (Ev.bind hH (ev_neg (by omega) (ev_pos rfl (Ev.bind T0 (Ev.bind T1 (Ev.bind hI (Ev.bind hE (ev_pos rfl ?_)))))))))
  refine Ev.step (fun k => rfl) ?_
  simp only [laws_FnExactPlacesOf.j2]
  exact ev_neg (by simp) (Ev.bind hH (ev_neg (by omega) (ev_pos rfl (Ev.now _))))
end Go.Proofs.Ytpbipijjihbjhaa.Pure
