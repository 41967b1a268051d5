/- For every recipe and bath the program's DyeYarn answers as the reference's. -/
import Derived.Test.YtcdinmemjkeolaaDoorGx17
import Derived.Test.YtcdinmemjkeolaaDoorGx6
import Derived.Test.YtcdinmemjkeolaaDoorGx7
import Derived.Test.YtcdinmemjkeolaaDoorPDye
import Derived.Test.YtcdinmemjkeolaaDoorPMark
namespace Go.Proofs.YtcdinmemjkeolaaDoor.Pure
open Go.RowKit Go.Proofs.YtcdinmemjkeolaaDoor.G Go.Proofs.YtcdinmemjkeolaaDoorW.PrintWords Go.Proofs.YtcdinmemjkeolaaDoorW.PrintLast
set_option linter.unusedSimpArgs false
set_option linter.unusedVariables false

theorem markBath_ev (a b c : Int) (s : List Int) (hs : s.length ≤ 1048576) (m : Int) (h0 : 0 ≤ m) (h1 : m ≤ 100000000) : Ev (fun k => laws_markBath.f k a b c s m) (m + s.length, marks s.length m) := by
  unfold laws_markBath.f
  exact Ev.bind (markIntS_ev s hs m h0 h1) (Ev.now _)
theorem heldBath_ev (a b c : Int) (n : Nat) (hn : n ≤ 1048576) : Ev (fun k => laws_heldBath.f k a b c (marks n 1) 1) (1 + (n : Int)) := by
  unfold laws_heldBath.f
  exact Ev.bind (heldIntS_ev n hn 1 (by omega) (by omega)) (ev_neg (by omega) (Ev.now _))
theorem FnExactDyeYarn (l : List S43) (a b c : Int) (s : List Int) (hl : l.length ≤ 9223372036854775807 ∧ ∀ y ∈ l, (y.f0.size ≤ 9223372036854775807 ∧ (-9223372036854775808 ≤ y.f1 ∧ y.f1 ≤ 9223372036854775807))) (_ : (-9223372036854775808 ≤ a ∧ a ≤ 9223372036854775807)) (_ : (-9223372036854775808 ≤ b ∧ b ≤ 9223372036854775807)) (_ : (-9223372036854775808 ≤ c ∧ c ≤ 9223372036854775807)) (hs : s.length ≤ 9223372036854775807 ∧ ∀ y ∈ s, (-9223372036854775808 ≤ y ∧ y ≤ 9223372036854775807))  : ∃ k, laws_FnExactDyeYarn.f k l a b c s = some true := by
  refine Ev.rounds (g := fun k => laws_FnExactDyeYarn.f k l a b c s) ?_
  unfold laws_FnExactDyeYarn.f
  obtain ⟨r, hz, hr⟩ := szR_ev l hl.1 (fun x hx => (hl.2 x hx).1)
  refine Ev.bind hz ?_
  by_cases c1 : r < 0
  · exact ev_pos c1 (Ev.now _)
  obtain ⟨h1, h2⟩ := hr c1
  refine ev_neg c1 ?_
  obtain ⟨q, hq, hr2⟩ := szBath_eq a b c s hs.1 r (by omega) h2
  rw [hq]
  refine Ev.bind (Ev.now _) ?_
  by_cases c2 : q < 0
  · exact ev_pos c2 (Ev.now _)
  have h3 := hr2 c2
  refine ev_neg c2 ?_
  have hm : (l.map toDyePart).length ≤ 1048576 := by simpa using h1
  have hx : ∀ x ∈ l.map toDyePart, x.f0.size ≤ 9223372036854775807 := by
    intro x hx
    obtain ⟨y, hy, rfl⟩ := List.mem_map.1 hx
    exact (hl.2 y hy).1
  have hT := toR_ev l h1
  have hQ := eqR_ev (l.map toDyePart) hm
  have hB := toBath_ev a b c s h3
  have hE := eqBath_ev a b c s h3
  obtain ⟨⟨ra, rb, rc, rs, ok⟩, hS, hI, hrl⟩ := DyeYarn_both (l.map toDyePart) hm hx a b c s h3
  dsimp only at hrl
  have hER := eqBath_ev ra rb rc rs hrl
  obtain ⟨l', hMR⟩ := markR_ev (l.map toDyePart) hm 1 (by omega) (by omega)
  have hMB := markBath_ev a b c s h3 (1 + 2 * (l.map toDyePart).length) (by omega) (by omega)
  have hMB2 := markBath_ev ra rb rc rs hrl 1 (by omega) (by omega)
  have hHB := heldBath_ev ra rb rc rs.length hrl
  refine Ev.bind hT (Ev.bind hB (Ev.bind hS (Ev.bind hT (Ev.bind hB (Ev.bind hI (Ev.bind hER (ev_pos rfl ?_)))))))
  refine Ev.step (fun k => rfl) ?_
  simp only [laws_FnExactDyeYarn.j0]
  refine ev_neg (by simp) (Ev.bind hT (Ev.bind hQ (ev_pos rfl (Ev.bind hB (Ev.bind hE (ev_pos rfl (Ev.bind hMR (Ev.bind hMB (ev_neg (by dsimp only; omega) (Ev.bind hER (ev_pos rfl ?_)))))))))))
  refine Ev.step (fun k => rfl) ?_
  simp only [laws_FnExactDyeYarn.j1]
  refine ev_neg (by simp) (Ev.bind hMB2 (Ev.bind hHB (ev_neg (by omega) (ev_pos rfl (Ev.bind hT (Ev.bind hB (Ev.bind hI (Ev.bind hER (ev_pos rfl ?_)))))))))
  refine Ev.step (fun k => rfl) ?_
  simp only [laws_FnExactDyeYarn.j2]
  exact ev_neg (by simp) (Ev.bind hHB (ev_neg (by omega) (ev_pos rfl (Ev.now _))))
end Go.Proofs.YtcdinmemjkeolaaDoor.Pure
