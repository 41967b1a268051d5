/- What a law's arguments are opened by: for each type, what a value that reads as data holds. -/
import Derived.Test.YtggikmajopmchaaDoorGx0
import Derived.Deep.Slices
import Derived.Deep.Fields
import Derived.ChangeSame
import Derived.ProofKit
import Derived.OpenShut
namespace Go.Proofs.YtggikmajopmchaaDoor.R
open Go.ChangeShapes Go.WideShapes Go.Deep Go.RowKit Go.Proofs.YtggikmajopmchaaDoor.G Go.Proofs.YtggikmajopmchaaDoorW.PrintWords
set_option linter.unusedVariables false
/-- Whatever reads as data of type t is a value of this kind, and what is known of it. -/
def Opens (P : Program) (t : TypeId) {α : Type} (d : Kd α) (wf : α → Prop) : Prop :=
  ∀ {H : Type} (enc : TypeId × Value → H) (W : World) (base : Nat) (spare : Nat → Bool) (held : Bool) (fuel : Nat) (cs : List Value) (x : DataW H × List MemPlace), DataW.trod enc P W base spare held fuel t cs = some x → ∃ a : α, d.K W a cs ∧ wf a
theorem Opens.i64 {P : Program} {t : TypeId} (ht : P.underlying t = some (.int .i64)) : Opens P t (Kd.int .i64) (fun x => (-9223372036854775808 ≤ x ∧ x ≤ 9223372036854775807)) := by
  intro H enc W base spare held fuel cs x h
  obtain ⟨n, rfl, _, wf⟩ := DataW.trod_int ht h
  exact ⟨n, rfl, bounds_i64 wf⟩
theorem Opens.str {P : Program} {t : TypeId} (ht : P.underlying t = some .string) : Opens P t Kd.string (fun x => x.size ≤ 9223372036854775807) := by
  intro H enc W base spare held fuel cs x h
  obtain ⟨s, rfl, _, hs⟩ := DataW.trod_string ht h
  exact ⟨s, rfl, hs⟩
theorem list_of {α : Type} {Q : Nat → α → Prop} (n : Nat) (h : ∀ i, i < n → ∃ p, Q i p) : ∃ l : List α, l.length = n ∧ ∀ i p, l[i]? = some p → Q i p := by
  induction n with
  | zero => exact ⟨[], rfl, fun i p hp => by simp at hp⟩
  | succ n ih =>
    obtain ⟨l, hl, hq⟩ := ih (fun i hi => h i (by omega))
    obtain ⟨p, hp⟩ := h n (by omega)
    refine ⟨l ++ [p], by simp [hl], fun i q hi => ?_⟩
    by_cases e : i < n
    · rw [List.getElem?_append_left (by omega)] at hi
      exact hq i q hi
    · rw [List.getElem?_append_right (by omega)] at hi
      have e2 : i = n := by
        by_cases e3 : i = n
        · exact e3
        · rw [List.getElem?_eq_none (by simp; omega)] at hi; cases hi
      subst e2
      rw [hl, Nat.sub_self] at hi
      simp at hi
      subst hi
      exact hp
theorem Opens.slice {P : Program} {t e : TypeId} {α : Type} {d : Kd α} {wf : α → Prop} (ht : P.underlying t = some (.slice e)) (hC : P.cellsOf e = d.sz) (h0 : Opens P e d wf) :
    Opens P t (Kd.slice e d) (fun l => l.length ≤ 9223372036854775807 ∧ ∀ y ∈ l, wf y) := by
  intro H enc W base spare held fuel cs x h
  rcases open_slice ht h with ⟨rfl, _⟩ | ⟨a, len, cap, m, n, D, Pl, rfl, hb, hl, hm, hmm, hx, hi⟩
  · exact ⟨[], ⟨none, 0, rfl, Nat.le_refl _, Kd.C_nil _ _⟩, by simp, fun y hy => by cases hy⟩
  · have hlm : len ≤ m := by rw [hmm]; split <;> omega
    have hmax : cap ≤ 9223372036854775807 := hm
    obtain ⟨l, hll, hq⟩ := list_of (Q := fun i p => ∃ c, c.length = d.sz ∧ d.K W p c ∧ (∀ j u, c[j]? = some u → W.cell? (a.add (i * d.sz + j)) = some u) ∧ wf p) len (fun i hlt => by
      obtain ⟨cs', hc, ht'⟩ := hi i (by omega)
      obtain ⟨_, hcl, hat⟩ := World.cells?_some hc
      obtain ⟨p, hK, hw⟩ := h0 enc W base spare held _ _ _ ht'
      rw [hC] at hcl hat
      refine ⟨p, cs', hcl, hK, fun j u hj => ?_, hw⟩
      have hjl : j < d.sz := by
        by_cases e : j < d.sz
        · exact e
        · rw [List.getElem?_eq_none (by omega)] at hj; cases hj
      rw [← Go.Deep.add_add, hat j hjl, hj])
    refine ⟨l, ⟨some a, cap, by rw [hll], by omega, rfl, by omega, fun _ => ⟨a, rfl, fun j p hj => ?_⟩⟩, by omega, fun y hy => ?_⟩
    · obtain ⟨c, hc1, hc2, hc3, _⟩ := hq j p hj
      exact ⟨c, hc1, hc2, hc3⟩
    · obtain ⟨j, hj, e⟩ := List.getElem_of_mem hy
      obtain ⟨_, _, _, _, hw⟩ := hq j y (by rw [List.getElem?_eq_getElem hj, e])
      exact hw

def wfS38 (x : S38) : Prop := (-9223372036854775808 ≤ x.f0 ∧ x.f0 ≤ 9223372036854775807) ∧ x.f1.size ≤ 9223372036854775807 ∧ (-9223372036854775808 ≤ x.f2 ∧ x.f2 ≤ 9223372036854775807) ∧ (-9223372036854775808 ≤ x.f3 ∧ x.f3 ≤ 9223372036854775807) ∧ (-9223372036854775808 ≤ x.f4 ∧ x.f4 ≤ 9223372036854775807)
set_option maxRecDepth 100000 in
theorem opens38 : Opens Tryd.prog 38 k38 wfS38 := by
  intro H enc W base spare held fuel cs x h
  obtain ⟨ys, n, hn, hx, hlen, hyl, hf⟩ := DataW.trod_struct Tryd.underlying38 h
  have hc : Tryd.prog.cellsOf 38 = 5 := by kernel_rfl
  rw [hc] at hlen
  match cs, hlen with
  | [c0, c1, c2, c3, c4], _ =>
  match ys, hyl with
  | [y0, y1, y2, y3, y4], _ =>
    have g0 := hf 0 _ rfl
    have k0_ : Tryd.prog.cellsOf 3 = 1 := by kernel_rfl
    simp [k0_] at g0
    obtain ⟨a0, K0, w0⟩ := (Opens.i64 Tryd.underlying3) enc W base spare held _ _ _ g0
    obtain rfl := List.head_eq_of_cons_eq K0
    have g1 := hf 1 _ rfl
    have k1_ : Tryd.prog.cellsOf 9 = 1 := by kernel_rfl
    simp [k1_] at g1
    obtain ⟨a1, K1, w1⟩ := (Opens.str Tryd.underlying9) enc W base spare held _ _ _ g1
    obtain rfl := List.head_eq_of_cons_eq K1
    have g2 := hf 2 _ rfl
    have k2_ : Tryd.prog.cellsOf 3 = 1 := by kernel_rfl
    simp [k2_] at g2
    obtain ⟨a2, K2, w2⟩ := (Opens.i64 Tryd.underlying3) enc W base spare held _ _ _ g2
    obtain rfl := List.head_eq_of_cons_eq K2
    have g3 := hf 3 _ rfl
    have k3_ : Tryd.prog.cellsOf 3 = 1 := by kernel_rfl
    simp [k3_] at g3
    obtain ⟨a3, K3, w3⟩ := (Opens.i64 Tryd.underlying3) enc W base spare held _ _ _ g3
    obtain rfl := List.head_eq_of_cons_eq K3
    have g4 := hf 4 _ rfl
    have k4_ : Tryd.prog.cellsOf 3 = 1 := by kernel_rfl
    simp [k4_] at g4
    obtain ⟨a4, K4, w4⟩ := (Opens.i64 Tryd.underlying3) enc W base spare held _ _ _ g4
    obtain rfl := List.head_eq_of_cons_eq K4
    exact ⟨⟨a0, a1, a2, a3, a4⟩, k38_mk W ⟨a0, a1, a2, a3, a4⟩ , ⟨w0, w1, w2, w3, w4⟩⟩
end Go.Proofs.YtggikmajopmchaaDoor.R
