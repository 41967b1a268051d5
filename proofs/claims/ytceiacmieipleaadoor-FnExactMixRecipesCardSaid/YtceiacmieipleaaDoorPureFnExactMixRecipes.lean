/- The mixing of two recipes answers as its statement says: at all arguments, with no premise. -/
import Derived.Test.YtceiacmieipleaaDoorGx12
import Derived.Test.YtceiacmieipleaaDoorGx13
import Derived.Test.YtceiacmieipleaaDoorGx14
import Derived.Test.YtceiacmieipleaaDoorGx5
import Derived.Test.YtceiacmieipleaaDoorPMix
import Derived.Test.YtceiacmieipleaaDoorPMark
namespace Go.Proofs.YtceiacmieipleaaDoor.Pure
open Go.RowKit Go.Proofs.YtceiacmieipleaaDoor.G Go.Proofs.YtceiacmieipleaaDoorW.PrintWords Go.Proofs.YtceiacmieipleaaDoorW.PrintLast
set_option linter.unusedSimpArgs false
set_option linter.unusedVariables false

/-- A row of parts that bears the marks from m on. -/
def Marked (m : Int) (l : List S36) : Prop := ∀ j : Nat, j < l.length → Ev (fun k => laws_markText.f k (m + 2 * (j : Int))) (rd_T36 l (j : Int)).f0 ∧ (rd_T36 l (j : Int)).f1 = m + 2 * (j : Int) + 1
theorem rd_same (l : List S36) (i : Nat) (v : S36) (h : i < l.length) : rd_T36 (l.set i v) (i : Int) = v := by
  have := rdDyePart_set l (i : Int) v (by simpa using h)
  simpa using this
theorem rd_other (l : List S36) (i j : Nat) (v : S36) (h : i ≠ j) : rd_T36 (l.set i v) (j : Int) = rd_T36 l (j : Int) := by
  simp [rd_T36, List.getD_eq_getElem?_getD, List.getElem?_set_ne h]
theorem markH_ev (l : List S36) (hl : l.length ≤ 1048576) (m : Int) (h0 : 0 ≤ m) (h1 : m ≤ 100000000) : ∃ l', Ev (fun k => laws_markDyePartS.f k l m) (m + 2 * l.length, l') ∧ l'.length = l.length ∧ Marked m l' := by
  have loop : ∀ (d : Nat) (i : Nat) (x : List S36), x.length = l.length → i + d = l.length → (∀ j : Nat, j < i → Ev (fun k => laws_markText.f k (m + 2 * (j : Int))) (rd_T36 x (j : Int)).f0 ∧ (rd_T36 x (j : Int)).f1 = m + 2 * (j : Int) + 1) →
      ∃ l', Ev (fun k => laws_markDyePartS.l0 k x (m + 2 * i) (i : Int)) (m + 2 * l.length, l') ∧ l'.length = l.length ∧ Marked m l' := by
    intro d
    induction d with
    | zero =>
      intro i x hx hi hm
      refine ⟨x, Ev.step (fun k => rfl) ?_, hx, fun j hj => hm j (by omega)⟩
      simp only [laws_markDyePartS.l0]
      refine ev_neg (by omega) (ev_val ?_ (Ev.now _))
      rw [show i = l.length by omega]
    | succ d ih =>
      intro i x hx hi hm
      obtain ⟨t, ht⟩ := markText_ev (m + 2 * i) (by omega) (by omega)
      have hs : ((x.set i (⟨t, (rd_T36 x (i : Int)).f1⟩ : S36)).set i (⟨(rd_T36 (x.set i (⟨t, (rd_T36 x (i : Int)).f1⟩ : S36)) (i : Int)).f0, m + 2 * i + 1⟩ : S36)) = x.set i (⟨t, m + 2 * i + 1⟩ : S36) := by
        rw [rd_same x i _ (by omega), List.set_set]
      obtain ⟨l', hl', h2, h3⟩ := ih (i + 1) (x.set i (⟨t, m + 2 * i + 1⟩ : S36)) (by simpa using hx) (by omega) (fun j hj => by
        by_cases c : i = j
        · subst c
          rw [rd_same x i _ (by omega)]
          exact ⟨ht, rfl⟩
        · rw [rd_other x i j _ c]
          exact hm j (by omega))
      refine ⟨l', Ev.step (fun k => rfl) ?_, h2, h3⟩
      simp only [laws_markDyePartS.l0, Option.bind_some, Int.toNat_natCast]
      rw [wrap_in (x := m + 2 * (i : Int) + 1) (by omega) (by omega), wrap_in (x := m + 2 * (i : Int) + 1 + 1) (by omega) (by omega), wrap_in (x := (i : Int) + 1) (by omega) (by omega)]
      refine ev_pos (by omega) (Ev.bind ht (ev_pos (by omega) ?_))
      have e : m + 2 * ((i + 1 : Nat) : Int) = m + 2 * (i : Int) + 1 + 1 := by omega
      rw [hs]
      rw [e] at hl'
      exact hl'
  obtain ⟨l', h, h2, h3⟩ := loop l.length 0 l rfl (by omega) (fun j hj => absurd hj (by omega))
  refine ⟨l', ?_, h2, h3⟩
  simpa [laws_markDyePartS.f] using h
theorem heldH_ev (l : List S36) (hl : l.length ≤ 1048576) (m : Int) (h0 : 0 ≤ m) (h1 : m ≤ 100000000) (hm : Marked m l) : Ev (fun k => laws_heldDyePartS.f k l m) (m + 2 * l.length) := by
  have loop : ∀ (d : Nat) (i : Nat), i + d = l.length → Ev (fun k => laws_heldDyePartS.l0 k l (m + 2 * i) (i : Int)) (m + 2 * l.length) := by
    intro d
    induction d with
    | zero =>
      intro i hi
      refine Ev.step (fun k => rfl) ?_
      simp only [laws_heldDyePartS.l0]
      refine ev_neg (by omega) (ev_val ?_ (Ev.now _))
      rw [show i = l.length by omega]
    | succ d ih =>
      intro i hi
      obtain ⟨ht, hf⟩ := hm i (by omega)
      refine Ev.step (fun k => rfl) ?_
      simp only [laws_heldDyePartS.l0]
      rw [wrap_in (x := m + 2 * (i : Int) + 1) (by omega) (by omega), wrap_in (x := m + 2 * (i : Int) + 1 + 1) (by omega) (by omega), wrap_in (x := (i : Int) + 1) (by omega) (by omega)]
      refine ev_pos (by omega) (ev_pos (by omega) (Ev.bind ht (ev_pos rfl (ev_pos hf ?_))))
      have e : m + 2 * ((i + 1 : Nat) : Int) = m + 2 * (i : Int) + 1 + 1 := by omega
      have k := ih (i + 1) (by omega)
      rw [e] at k
      exact k
  have h := loop l.length 0 (by omega)
  simpa [laws_heldDyePartS.f] using h
theorem szR2_ev (l : List S33) (hl : l.length ≤ 9223372036854775807) (hx : ∀ x ∈ l, x.f0.size ≤ 9223372036854775807) (a : Int) (a0 : 0 ≤ a) (a1 : a ≤ 1048576) : ∃ r, Ev (fun k => laws_szDyePartS.f k l a) r ∧ (¬ r < 0 → l.length ≤ 1048576 ∧ r ≤ 1048576) := by
  unfold laws_szDyePartS.f
  rw [wrap_in (x := a - (l.length : Int)) (by omega) (by omega)]
  by_cases c : a - (l.length : Int) < 0
  · exact ⟨-1, ev_pos c (Ev.now _), fun h => absurd (by omega) h⟩
  · obtain ⟨r, e1, e2⟩ := szR_l0 l (by omega) hx l.length 0 (a - (l.length : Int)) (by omega) (by omega) (by omega) (by omega)
    exact ⟨r, ev_neg c e1, fun _ => ⟨by omega, e2⟩⟩
theorem FnExactMixRecipes (l0 : List S33) (l1 : List S33) (s : Int) (h0 : l0.length ≤ 9223372036854775807 ∧ ∀ y ∈ l0, (y.f0.size ≤ 9223372036854775807 ∧ (-9223372036854775808 ≤ y.f1 ∧ y.f1 ≤ 9223372036854775807))) (h1 : l1.length ≤ 9223372036854775807 ∧ ∀ y ∈ l1, (y.f0.size ≤ 9223372036854775807 ∧ (-9223372036854775808 ≤ y.f1 ∧ y.f1 ≤ 9223372036854775807))) (_ : (-9223372036854775808 ≤ s ∧ s ≤ 9223372036854775807)) : ∃ k, laws_FnExactMixRecipes.f k l0 l1 s = some true := by
  refine Ev.rounds (g := fun k => laws_FnExactMixRecipes.f k l0 l1 s) ?_
  unfold laws_FnExactMixRecipes.f
  obtain ⟨r, hz, hr⟩ := szR_ev l0 h0.1 (fun x hx => (h0.2 x hx).1)
  refine Ev.bind hz ?_
  by_cases c1 : r < 0
  · exact ev_pos c1 (Ev.now _)
  obtain ⟨n0, r1⟩ := hr c1
  refine ev_neg c1 ?_
  obtain ⟨q, hq, hq2⟩ := szR2_ev l1 h1.1 (fun x hx => (h1.2 x hx).1) r (by omega) r1
  refine Ev.bind hq ?_
  by_cases c2 : q < 0
  · exact ev_pos c2 (Ev.now _)
  obtain ⟨n1, _⟩ := hq2 c2
  refine ev_neg c2 ?_
  have m0 : (l0.map toDyePart).length ≤ 1048576 := by simpa using n0
  have m1 : (l1.map toDyePart).length ≤ 1048576 := by simpa using n1
  have sz : ∀ (l : List S33), (∀ y ∈ l, (y.f0.size ≤ 9223372036854775807 ∧ (-9223372036854775808 ≤ y.f1 ∧ y.f1 ≤ 9223372036854775807))) → ∀ x ∈ l.map toDyePart, x.f0.size ≤ 9223372036854775807 := by
    intro l hl x hx
    obtain ⟨y, hy, rfl⟩ := List.mem_map.1 hx
    exact (hl y hy).1
  have T0 := toR_ev l0 n0
  have T1 := toR_ev l1 n1
  have Q0 := eqR_ev (l0.map toDyePart) m0
  have Q1 := eqR_ev (l1.map toDyePart) m1
  obtain ⟨⟨o, ok⟩, hS, hI, hol⟩ := Mix_both (l0.map toDyePart) (l1.map toDyePart) m0 m1 (sz l0 h0.2) (sz l1 h1.2) s
  dsimp only at hol
  have hE := eqR_ev o hol
  obtain ⟨x0, hM0⟩ := markR_ev (l0.map toDyePart) m0 1 (by omega) (by omega)
  obtain ⟨x1, hM1⟩ := markR_ev (l1.map toDyePart) m1 (1 + 2 * (l0.map toDyePart).length) (by omega) (by omega)
  obtain ⟨o2, hMo, e2, hmk⟩ := markH_ev o hol 1 (by omega) (by omega)
  have hH := heldH_ev o2 (by omega) 1 (by omega) (by omega) hmk
  rw [e2] at hH
  refine Ev.bind T0 (Ev.bind T1 (Ev.bind hS (Ev.bind T0 (Ev.bind T1 (Ev.bind hI (Ev.bind hE (ev_pos rfl ?_)))))))
  refine Ev.step (fun k => rfl) ?_
  simp only [laws_FnExactMixRecipes.j0]
  refine ev_neg (by simp) (Ev.bind T0 (Ev.bind Q0 (ev_pos rfl (Ev.bind T1 (Ev.bind Q1 (ev_pos rfl (Ev.bind hM0 (Ev.bind hM1 (ev_neg (by dsimp only; omega) (Ev.bind hE (ev_pos rfl ?_)))))))))))
  refine Ev.step (fun k => rfl) ?_
  simp only [laws_FnExactMixRecipes.j1]
  refine ev_neg (by simp) (Ev.bind hMo (Ev.bind hH (ev_neg (by omega) (ev_pos rfl (Ev.bind T0 (Ev.bind T1 (Ev.bind hI (Ev.bind hE (ev_pos rfl ?_)))))))))
  refine Ev.step (fun k => rfl) ?_
  simp only [laws_FnExactMixRecipes.j2]
  exact ev_neg (by simp) (Ev.bind hH (ev_neg (by omega) (ev_pos rfl (Ev.now _))))
end Go.Proofs.YtceiacmieipleaaDoor.Pure
