/- Plain facts on the reference's way to put a part into a chart. -/
import Derived.Test.YtfpnhkdoopmbjaaGx10
import Derived.Test.YtfpnhkdoopmbjaaGx13
import Derived.Test.YtfpnhkdoopmbjaaGx14
import Derived.Test.YtfpnhkdoopmbjaaGx15
import Derived.Test.YtfpnhkdoopmbjaaPGrid
namespace Go.Proofs.Ytfpnhkdoopmbjaa.Pure
open Go.RowKit Go.Proofs.Ytfpnhkdoopmbjaa.G Go.Proofs.YtfpnhkdoopmbjaaW.PrintWords Go.Proofs.YtfpnhkdoopmbjaaW.PrintLast
set_option linter.unusedSimpArgs false
set_option linter.unusedVariables false

/-- What a chart holds after a part was put. -/
def Held (W H : Int) (L L' : List Int) (w h : Int) (l : List Int) (row col : Int) : Prop := L'.length = L.length ∧ ∀ a b, 0 ≤ a → a < H → 0 ≤ b → b < W → rd L' (a * W + b) = if row ≤ a ∧ a < row + h ∧ col ≤ b ∧ b < col + w then rd l ((a - row) * w + (b - col)) else rd L (a * W + b)
theorem l2Put_eq {W H : Int} {L : List Int} (G : Dim W H L) {w h : Int} {l : List Int} (g : Dim w h l) (row col : Int) (r0 : 0 ≤ row) (c0 : 0 ≤ col) (r1 : row + h ≤ H) (c1 : col + w ≤ W) :
    ∃ L', Ev (fun k => spec_l2Put.f k W H L w h l row col) (W, H, L') ∧ Held W H L L' w h l row col := by
  have G' := G
  have g' := g
  obtain ⟨W1, W2, H1, H2, E⟩ := G'
  obtain ⟨w1, w2, h1, h2, e⟩ := g'
  have inner : ∀ (d : Nat) (r c : Int) (X : List Int) (Q : List Int → Prop), 0 ≤ r → r < h → 0 ≤ c → c + d = w → X.length = L.length →
      (∀ X', X'.length = L.length → (∀ a b, 0 ≤ a → a < H → 0 ≤ b → b < W → rd X' (a * W + b) = if a = row + r ∧ col + c ≤ b ∧ b < col + w then rd l ((a - row) * w + (b - col)) else rd X (a * W + b)) → ∃ L', Ev (fun k => spec_l2Put.l0 k row col (r + 1) W H L w h l W H X') (W, H, L') ∧ Q L') →
      ∃ L', Ev (fun k => spec_l2Put.l1 k row col r c W H L w h l W H X) (W, H, L') ∧ Q L' := by
    intro d
    induction d with
    | zero =>
      intro r c X Q a0 a1 b0 b1 hX nx
      obtain ⟨L', n1, n2⟩ := nx X hX (fun a b _ _ _ _ => by rw [if_neg (by omega)])
      refine ⟨L', Ev.step (fun k => ?_) n1, n2⟩
      simp only [spec_l2Put.l1]
      rw [if_neg (by omega), wrap_in (by omega) (by omega)]
    | succ d ih =>
      intro r c X Q a0 a1 b0 b1 hX nx
      obtain ⟨i1, i2, i3⟩ := idx_ok (w := W) (h := H) (r := row + r) (c := col + c) ⟨W1, W2⟩ ⟨H1, H2⟩ (by omega) (by omega) (by omega) (by omega)
      have i4 : wrap64 (wrap64 (wrap64 (wrap64 (row + r) * W) + col) + c) = (row + r) * W + (col + c) := by
        have := mul_le64 (r := row + r) (wd := W) (by omega) (by omega) (by omega) (by omega)
        rw [wrap_in (x := row + r) (by omega) (by omega), wrap_in (x := (row + r) * W) (by omega) (by omega), wrap_in (x := (row + r) * W + col) (by omega) (by omega), wrap_in (by omega) (by omega)]
        omega
      obtain ⟨L', n1, n2⟩ := ih r (c + 1) (X.set ((row + r) * W + (col + c)).toNat (rd l (r * w + c))) Q a0 a1 (by omega) (by omega) (by simpa using hX) (fun X' hl hX' => nx X' hl (fun a b p0 p1 q0 q1 => by
        rw [hX' a b p0 p1 q0 q1, rd_set _ _ _ _ i2 (by omega) (by have := idx_ok (w := W) (h := H) (r := a) (c := b) ⟨W1, W2⟩ ⟨H1, H2⟩ p0 p1 q0 q1; omega)]
        simp only [idx_inj (r := row + r) (c := col + c) (r' := a) (c' := b) W1 W2 (by omega) (by omega) q0 q1]
        by_cases z : a = row + r ∧ col + c ≤ b ∧ b < col + w
        · rw [if_pos z]
          by_cases y : b = col + c
          · rw [if_neg (by omega), if_pos (by omega)]
            congr 1
            rw [show a - row = r by omega]
            omega
          · rw [if_pos (by omega)]
        · rw [if_neg z, if_neg (by omega), if_neg (by omega)]))
      refine ⟨L', Ev.step (fun k => ?_) n1, n2⟩
      simp only [spec_l2Put.l1]
      rw [if_pos (by omega), l2At_d g a0 a1 b0 (by omega), Option.bind_some, i4, if_pos i2, if_pos (by omega), wrap_in (x := c + 1) (by omega) (by omega)]
  have outer : ∀ (d : Nat) (r : Int) (X : List Int), 0 ≤ r → r + d = h → X.length = L.length → (∀ a b, 0 ≤ a → a < H → 0 ≤ b → b < W → rd X (a * W + b) = if row ≤ a ∧ a < row + r ∧ col ≤ b ∧ b < col + w then rd l ((a - row) * w + (b - col)) else rd L (a * W + b)) →
      ∃ L', Ev (fun k => spec_l2Put.l0 k row col r W H L w h l W H X) (W, H, L') ∧ Held W H L L' w h l row col := by
    intro d
    induction d with
    | zero =>
      intro r X a0 a1 hX hh
      obtain rfl : r = h := by omega
      refine ⟨X, Ev.step (fun k => ?_) (Ev.now _), hX, hh⟩
      simp only [spec_l2Put.l0]
      rw [if_neg (by omega)]
    | succ d ih =>
      intro r X a0 a1 hX hh
      obtain ⟨L', n1, n2⟩ := inner w.toNat r 0 X (fun L' => Held W H L L' w h l row col) a0 (by omega) (by omega) (by omega) hX (fun X' hl hX' => ih (r + 1) X' (by omega) (by omega) hl (fun a b p0 p1 q0 q1 => by
        rw [hX' a b p0 p1 q0 q1, hh a b p0 p1 q0 q1]
        by_cases z : a = row + r ∧ col + 0 ≤ b ∧ b < col + w
        · rw [if_pos z, if_pos (by omega)]
        · rw [if_neg z]
          by_cases y : row ≤ a ∧ a < row + r ∧ col ≤ b ∧ b < col + w
          · rw [if_pos y, if_pos (by omega)]
          · rw [if_neg y, if_neg (by omega)]))
      refine ⟨L', Ev.step (fun k => ?_) n1, n2⟩
      simp only [spec_l2Put.l0]
      rw [if_pos (by omega)]
  obtain ⟨L', n1, n2⟩ := outer h.toNat 0 L (by omega) (by omega) rfl (fun a b p0 p1 q0 q1 => by rw [if_neg (by omega)])
  refine ⟨L', ?_, n2⟩
  have hs : L.length ≤ 64 := by have := mul_small ⟨W1, W2⟩ ⟨H1, H2⟩; omega
  unfold spec_l2Put.f spec_l2Own.f spec_l1Own.f
  simp only [Option.bind_some, List.nil_append, List.length_nil, Nat.zero_add]
  rw [if_pos (by omega)]
  exact n1
theorem held_dim {W H : Int} {L L' : List Int} (G : Dim W H L) {w h : Int} {l : List Int} {row col : Int} (x : Held W H L L' w h l row col) : Dim W H L' := by
  obtain ⟨W1, W2, H1, H2, E⟩ := G
  exact ⟨W1, W2, H1, H2, by rw [x.1]; exact E⟩
theorem l6Blank_eq (a b : Int) : spec_l6Blank.f a b = some (if (1 ≤ a ∧ a ≤ 8) ∧ (1 ≤ b ∧ b ≤ 8) then (a, b, List.replicate (a * b).toNat 0, true) else (0, 0, [], false)) := by
  unfold spec_l6Blank.f
  rw [l2Side_eq, l2Side_eq]
  simp only [Option.bind_some, Bool.and_eq_true, decide_eq_true_eq]
  by_cases h1 : 1 ≤ a ∧ a ≤ 8
  · by_cases h2 : 1 ≤ b ∧ b ≤ 8
    · obtain ⟨m1, m2, m3⟩ := mul_small h1 h2
      rw [if_pos h1, if_pos h2, m1, if_pos m2, if_pos (by omega), if_pos ⟨h1, h2⟩]
    · rw [if_pos h1, if_neg h2, if_neg (fun c => h2 c.2)]
  · rw [if_neg h1, if_neg (fun c => h1 c.1)]
theorem blank_dim {a b : Int} (h1 : 1 ≤ a ∧ a ≤ 8) (h2 : 1 ≤ b ∧ b ≤ 8) : Dim a b (List.replicate (a * b).toNat 0) := by
  obtain ⟨m1, m2, m3⟩ := mul_small h1 h2
  exact ⟨h1.1, h1.2, h2.1, h2.2, by simp; omega⟩
end Go.Proofs.Ytfpnhkdoopmbjaa.Pure
