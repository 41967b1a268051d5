/- Plain facts on the marks that a law lays into a recipe. -/
import Derived.Test.YtceiacmieipleaaDoorGx0
import Derived.Test.YtceiacmieipleaaDoorGx12
import Derived.Test.YtceiacmieipleaaDoorPBase
namespace Go.Proofs.YtceiacmieipleaaDoor.Pure
open Go.RowKit Go.Proofs.YtceiacmieipleaaDoor.G Go.Proofs.YtceiacmieipleaaDoorW.PrintWords Go.Proofs.YtceiacmieipleaaDoorW.PrintLast
set_option linter.unusedSimpArgs false
set_option linter.unusedVariables false

theorem markText_ev (m : Int) (h0 : 0 ≤ m) (h1 : m ≤ 1000000000) : ∃ t, Ev (fun k => laws_markText.f k m) t := by
  have one : ∀ x : Int, (strOfNums [x]).size = 1 := fun x => by simp [strOfNums, ByteArray.size]
  have loop : ∀ (d : Nat) (x : Int) (s : ByteArray), 0 ≤ x → x ≤ d → x ≤ 1000000000 → s.size + d ≤ 2000000000 → ∃ t, Ev (fun k => laws_markText.l0 k x s) t := by
    intro d
    induction d with
    | zero =>
      intro x s hx hd hb hs
      refine ⟨(⟨#[109]⟩ : ByteArray) ++ s, Ev.step (fun k => rfl) ?_⟩
      simp only [laws_markText.l0]
      exact ev_neg (by omega) (ev_pos (by omega) (Ev.now _))
    | succ d ih =>
      intro x s hx hd hb hs
      by_cases c : x > 0
      · obtain ⟨t, ht⟩ := ih (x / 10) (strOfNums [wrap64 (48 + Int.tmod x 10) % 256] ++ s) (by omega) (by omega) (by omega) (by rw [ByteArray.size_append, one]; omega)
        refine ⟨t, Ev.step (fun k => rfl) ?_⟩
        simp only [laws_markText.l0, Option.bind_some]
        rw [tdiv_nn hx, wrap_in (x := x / 10) (by omega) (by omega)]
        exact ev_pos c (ev_pos (by rw [one]; omega) ht)
      · refine ⟨(⟨#[109]⟩ : ByteArray) ++ s, Ev.step (fun k => rfl) ?_⟩
        simp only [laws_markText.l0]
        exact ev_neg c (ev_pos (by omega) (Ev.now _))
  unfold laws_markText.f
  by_cases c : m ≤ 0
  · exact ⟨_, ev_pos c (Ev.now _)⟩
  · obtain ⟨t, ht⟩ := loop m.toNat m ⟨#[]⟩ h0 (by omega) h1 (by show (0 : Nat) + _ ≤ _; omega)
    exact ⟨t, ev_neg c ht⟩
theorem markR_ev (l : List S36) (hl : l.length ≤ 1048576) (m : Int) (h0 : 0 ≤ m) (h1 : m ≤ 100000000) : ∃ l', Ev (fun k => laws_markDyePartS.f k l m) (m + 2 * l.length, l') := by
  have loop : ∀ (d : Nat) (i : Nat) (x : List S36), x.length = l.length → i + d = l.length → ∃ l', Ev (fun k => laws_markDyePartS.l0 k x (m + 2 * i) (i : Int)) (m + 2 * l.length, l') := by
    intro d
    induction d with
    | zero =>
      intro i x hx hi
      refine ⟨x, Ev.step (fun k => rfl) ?_⟩
      simp only [laws_markDyePartS.l0]
      refine ev_neg (by omega) (ev_val ?_ (Ev.now _))
      rw [show i = l.length by omega]
    | succ d ih =>
      intro i x hx hi
      obtain ⟨t, ht⟩ := markText_ev (m + 2 * i) (by omega) (by omega)
      obtain ⟨l', hl'⟩ := ih (i + 1) ((x.set (i : Int).toNat (⟨t, (rd_T36 x (i : Int)).f1⟩ : S36)).set (i : Int).toNat (⟨(rd_T36 (x.set (i : Int).toNat (⟨t, (rd_T36 x (i : Int)).f1⟩ : S36)) (i : Int)).f0, m + 2 * i + 1⟩ : S36)) (by simpa using hx) (by omega)
      refine ⟨l', Ev.step (fun k => rfl) ?_⟩
      simp only [laws_markDyePartS.l0, Option.bind_some]
      rw [wrap_in (x := m + 2 * (i : Int) + 1) (by omega) (by omega), wrap_in (x := m + 2 * (i : Int) + 1 + 1) (by omega) (by omega), wrap_in (x := (i : Int) + 1) (by omega) (by omega)]
      refine ev_pos (by omega) (Ev.bind ht (ev_pos (by omega) ?_))
      have e : m + 2 * ((i + 1 : Nat) : Int) = m + 2 * (i : Int) + 1 + 1 := by omega
      rw [e] at hl'
      exact hl'
  obtain ⟨l', h⟩ := loop l.length 0 l rfl (by omega)
  refine ⟨l', ?_⟩
  simpa [laws_markDyePartS.f] using h
end Go.Proofs.YtceiacmieipleaaDoor.Pure
