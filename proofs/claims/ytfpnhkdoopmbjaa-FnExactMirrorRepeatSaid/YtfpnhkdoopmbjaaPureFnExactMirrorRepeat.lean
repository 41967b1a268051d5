/- For every chart-like motif and every int the program's MirrorRepeat answers as the reference's, in memory of its own. -/
import Derived.Test.YtfpnhkdoopmbjaaGx10
import Derived.Test.YtfpnhkdoopmbjaaGx15
import Derived.Test.YtfpnhkdoopmbjaaGx2
import Derived.Test.YtfpnhkdoopmbjaaGx25
import Derived.Test.YtfpnhkdoopmbjaaGx26
import Derived.Test.YtfpnhkdoopmbjaaGx27
import Derived.Test.YtfpnhkdoopmbjaaPTile
import Derived.Test.YtfpnhkdoopmbjaaPMirror
namespace Go.Proofs.Ytfpnhkdoopmbjaa.Pure
open Go.RowKit Go.Proofs.Ytfpnhkdoopmbjaa.G Go.Proofs.YtfpnhkdoopmbjaaW.PrintWords Go.Proofs.YtfpnhkdoopmbjaaW.PrintLast
set_option linter.unusedSimpArgs false
set_option linter.unusedVariables false

theorem chartL_small2 (g : Int → Int → Int) (w h : Int) (hw : w ≤ 64) (hh : h ≤ 64) : (chartL g w h).length ≤ 4096 := by
  have e : (chartL g w h).length = h.toNat * w.toNat := by simp [chartL, List.length_flatMap, List.map_const']
  rw [e]
  have := Nat.mul_le_mul (show h.toNat ≤ 64 by omega) (show w.toNat ≤ 64 by omega)
  omega
def MirInv (w h : Int) (l : List Int) (W : Int) (k : Int) (X : List Int) : Prop := Dim W h X ∧ ∀ a b, 0 ≤ a → a < h → 0 ≤ b → b < W → b < k * w → rd X (a * W + b) = mirRepG w h l a b
theorem mir_loop {w h : Int} {l : List Int} (g : Dim w h l) (a1 : Int) (p1 : 1 ≤ a1) (p2 : a1 ≤ 8) (W1 : a1 * w ≤ 8) (X : List Int) (hX : Dim (a1 * w) h X) :
    Ev (fun k => spec_MirrorRepeat.l0 k a1 0 w h l (a1 * w) h X) (a1 * w, h, chartL (mirRepG w h l) (a1 * w) h, true) := by
  have g' := g
  obtain ⟨w1, w2, h1, h2, e⟩ := g'
  have gM := chartL_dim (mirrG w l) ⟨w1, w2⟩ ⟨h1, h2⟩
  have outer : ∀ (d : Nat) (k : Int) (X : List Int), 0 ≤ k → k + d = a1 → MirInv w h l (a1 * w) k X →
      Ev (fun n => spec_MirrorRepeat.l0 n a1 k w h l (a1 * w) h X) (a1 * w, h, chartL (mirRepG w h l) (a1 * w) h, true) := by
    intro d
    induction d with
    | zero =>
      intro k X k0 kd hI
      obtain rfl : k = a1 := by omega
      have e := chart_ext hI.1 (mirRepG w h l) (fun a b c1 c2 c3 c4 => hI.2 a b c1 c2 c3 c4 c4)
      rw [← e]
      refine Ev.step (fun n => ?_) (Ev.now _)
      simp only [spec_MirrorRepeat.l0]
      rw [if_neg (by omega)]
    | succ d ih =>
      intro k X k0 kd hI
      have m3 : 0 ≤ k * w := Int.mul_nonneg k0 (by omega)
      have m4 : k * w + w ≤ a1 * w := mul_to (by omega) (by omega)
      have next : ∀ l', Dim w h l' → (∀ a b, 0 ≤ a → a < h → k * w ≤ b → b < k * w + w → rd l' (a * w + (b - k * w)) = mirRepG w h l a b) → ∃ X', Ev (fun n => spec_l2Put.f n (a1 * w) h X w h l' 0 (k * w)) (a1 * w, h, X') ∧ MirInv w h l (a1 * w) (k + 1) X' := by
        intro l' gl hl'
        obtain ⟨X', n1, n2⟩ := l2Put_eq hI.1 gl 0 (k * w) (by omega) m3 (by omega) m4
        refine ⟨X', n1, held_dim hI.1 n2, fun a b c1 c2 c3 c4 c5 => ?_⟩
        rw [n2.2 a b c1 c2 c3 c4]
        rw [mul_next] at c5
        by_cases z : 0 ≤ a ∧ a < 0 + h ∧ k * w ≤ b ∧ b < k * w + w
        · rw [if_pos z, show a - 0 = a by omega]
          exact hl' a b c1 c2 z.2.2.1 z.2.2.2
        · rw [if_neg z]
          exact hI.2 a b c1 c2 c3 c4 (by omega)
      refine Ev.step (fun n => rfl) ?_
      simp only [spec_MirrorRepeat.l0]
      rw [wrap_in (x := k * w) (by omega) (by omega), wrap_in (x := k + 1) (by omega) (by omega)]
      refine ev_pos (by omega) ?_
      by_cases q : Int.tmod k 2 = 1
      · obtain ⟨X', n1, n2⟩ := next _ gM (fun a b c1 c2 c3 c4 => by
          unfold mirRepG
          rw [tdiv_at m3 (by omega) c3 c4, if_pos (by rwa [Int.tmod_eq_emod_of_nonneg k0] at q), tmod_at m3 (by omega) c3 c4])
        exact ev_pos q (Ev.bind (l4Mirror_eq g) (Ev.bind n1 (ih (k + 1) X' (by omega) (by omega) n2)))
      · obtain ⟨X', n1, n2⟩ := next _ g (fun a b c1 c2 c3 c4 => by
          unfold mirRepG
          rw [tdiv_at m3 (by omega) c3 c4, if_neg (by rwa [Int.tmod_eq_emod_of_nonneg k0] at q), tmod_at m3 (by omega) c3 c4])
        exact ev_neg q (Ev.bind n1 (ih (k + 1) X' (by omega) (by omega) n2))
  exact outer a1.toNat 0 X (by omega) (by omega) ⟨hX, fun a b c1 c2 c3 c4 c5 => by omega⟩
theorem MirrorRepeat_both (w h : Int) (l : List Int) (hl : l.length ≤ 1048576) (a1 : Int) : ∃ r : Int × Int × List Int × Bool, r.2.2.1.length ≤ 4096 ∧ Ev (fun k => spec_MirrorRepeat.f k w h l a1) r ∧ Ev (fun k => impl_MirrorRepeat.f w h l a1) r := by
  have good : ∀ b, goodB w h l = b → Ev (fun k => spec_l2Good.f k w h l) b := fun b g => ⟨l.length + 1, fun k hk => (l2Good_eq w h l hl k (by omega)).trans (by rw [g])⟩
  unfold spec_MirrorRepeat.f impl_MirrorRepeat.f
  cases g : goodB w h l with
  | false =>
    refine ⟨(0, 0, [], false), by simp, Ev.bind (good _ g) (ev_neg (by simp) ?_), ?_⟩
    · refine Ev.step (fun k => rfl) ?_
      simp only [spec_MirrorRepeat.j0]
      exact ev_pos (by trivial) (Ev.now _)
    · simp only [IsChart_eq, g, Option.bind_some]
      exact ev_neg (by simp) (Ev.now _)
  | true =>
    have g' := good_dim g
    have g2 := g'
    obtain ⟨w1, w2, h1, h2, e⟩ := g2
    by_cases ca : copiesB w a1 = true
    · have ca' := (copies_iff w1 w2).1 ca
      refine ⟨(a1 * w, h, chartL (mirRepG w h l) (a1 * w) h, true), chartL_small2 _ _ _ (by omega) (by omega), Ev.bind (good _ g) (ev_pos (by trivial) ?_), ?_⟩
      · simp only [times_eq, Option.bind_some]
        refine Ev.step (fun k => rfl) ?_
        simp only [spec_MirrorRepeat.j0]
        refine ev_neg (by simpa using ca'.1) ?_
        rw [small_mul ca'.1 ⟨w1, w2⟩, l6Blank_eq, if_pos ⟨ca'.2, ⟨h1, h2⟩⟩]
        simp only [Option.bind_some]
        exact ev_pos (by trivial) (mir_loop g' a1 ca'.1.1 ca'.1.2 ca'.2.2 _ (blank_dim ca'.2 ⟨h1, h2⟩))
      · simp only [IsChart_eq, g, Option.bind_some]
        refine ev_pos (by trivial) (ev_pos ca ?_)
        rw [Int.mul_comm w a1]
        exact Ev.now _
    · refine ⟨(0, 0, [], false), by simp, Ev.bind (good _ g) (ev_pos (by trivial) ?_), ?_⟩
      · rw [copies_iff w1 w2] at ca
        simp only [times_eq, Option.bind_some]
        refine Ev.step (fun k => rfl) ?_
        simp only [spec_MirrorRepeat.j0]
        by_cases t1 : 1 ≤ a1 ∧ a1 ≤ 8
        · refine ev_neg (by simpa using t1) ?_
          rw [small_mul t1 ⟨w1, w2⟩, l6Blank_eq, if_neg (fun x => ca ⟨t1, x.1⟩)]
          exact ev_eq (fun k => rfl)
        · exact ev_pos (by simp; omega) (Ev.now _)
      · simp only [IsChart_eq, g, Option.bind_some]
        exact ev_pos (by trivial) (ev_neg ca (Ev.now _))
theorem FnExactMirrorRepeat (w h : Int) (l : List Int) (a1 : Int) (_ : (-9223372036854775808 ≤ w ∧ w ≤ 9223372036854775807)) (_ : (-9223372036854775808 ≤ h ∧ h ≤ 9223372036854775807))
    (hl : l.length ≤ 9223372036854775807 ∧ ∀ y ∈ l, (-9223372036854775808 ≤ y ∧ y ≤ 9223372036854775807)) (_ : (-9223372036854775808 ≤ a1 ∧ a1 ≤ 9223372036854775807)) : ∃ k, laws_FnExactMirrorRepeat.f k w h l a1 = some true := by
  unfold laws_FnExactMirrorRepeat.f
  rw [szChart_eq w h l 1048576 (by omega) (by omega) hl.1]
  simp only [Option.bind_some]
  by_cases hs : (1048576 : Int) < l.length
  · refine ⟨0, ?_⟩
    rw [if_pos hs, if_pos (by omega)]
  · rw [if_neg hs]
    simp only [if_neg (show ¬ ((1048576 : Int) - (l.length : Int) < 0) by omega)]
    obtain ⟨⟨r1, r2, r3, r4⟩, hrl, ⟨K1, hs1⟩, ⟨K2, hs2⟩⟩ := MirrorRepeat_both w h l (by omega) a1
    (try dsimp only at hrl)
    obtain ⟨B, hB⟩ : ∃ B, K1 + K2 + 3000000 ≤ B := ⟨_, Nat.le_refl _⟩
    refine ⟨B + 1 + 1 + 1, ?_⟩
    repeat (first
      | rfl
      | refine bs_ (toChart_eq w h l (by omega) _ (by omega)) ?_
      | refine bs_ (hs1 _ (by omega)) ?_
      | refine bs_ (hs2 _ (by omega)) ?_
      | refine bs_ (hs2 K2 (Nat.le_refl _)) ?_
      | refine bs_ (eqChart_eq r1 r2 r3 (by omega) _ (by omega)) ?_
      | refine bs_ (eqChart_eq w h l (by omega) _ (by omega)) ?_
      | refine bs_ (markChart_eq r1 r2 r3 1 (by omega) (by omega) (by omega) _ (by omega)) ?_
      | refine bs_ (markChart_eq w h l 1 (by omega) (by omega) (by omega) _ (by omega)) ?_
      | refine bs_ (heldChart_eq r1 r2 r3.length 1 (by omega) (by omega) (by omega) _ (by omega)) ?_
      | refine it_ rfl ?_
      | (refine ie_ ?hc ?_; (case hc => first | omega | (dsimp only; omega) | (simp; done)))
      | rw [laws_FnExactMirrorRepeat.j0]
      | rw [laws_FnExactMirrorRepeat.j1]
      | rw [laws_FnExactMirrorRepeat.j2])
end Go.Proofs.Ytfpnhkdoopmbjaa.Pure
