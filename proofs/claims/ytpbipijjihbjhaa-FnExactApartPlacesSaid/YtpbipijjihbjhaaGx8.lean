-- Printed by a program of this session (wip/tools/gp.sh); Lean checks it.
import Derived.Test.YtpbipijjihbjhaaGx0
import Derived.Test.YtpbipijjihbjhaaGx7
namespace Go.Proofs.Ytpbipijjihbjhaa.G
open Go.RowKit Go.Proofs.YtpbipijjihbjhaaW.PrintWords Go.Proofs.YtpbipijjihbjhaaW.PrintLast Go.Proofs.YtpbipijjihbjhaaW.PrintMore
attribute [local go_sem] isSome_setCell_ max2_int min2_int max_two min_two max_three min_three max_four min_four   -- for this text's walks alone
set_option linter.unusedVariables false
set_option linter.unusedSimpArgs false

/-! ### impl_Chart_part: function 37 -/

theorem partLit (wd ht : Int) (A : Option Addr) (c : Nat) (l : List Int) (row col : Int) (B : Nat) (W : World) (hr : Kd.C (Kd.int .i64) W A l.length l)
    (c0 : W.cell? ⟨B, 0, none⟩ = some (.int .i64 wd)) (c1 : W.cell? ⟨B, 1, none⟩ = some (.int .i64 ht)) (c2 : W.cell? ⟨B, 2, none⟩ = some (.slice A l.length c)) (c3 : W.cell? ⟨B + 1, 0, none⟩ = some (.int .i64 row)) (c4 : W.cell? ⟨B + 2, 0, none⟩ = some (.int .i64 col))
    (x y : Int) (b0 : 0 ≤ row + x) (b1 : row + x ≤ 8) (b2 : 0 ≤ col + y) (b3 : col + y ≤ 8) (b4 : 0 ≤ row) (b5 : 0 ≤ x) (b6 : 0 ≤ col) (b7 : 0 ≤ y) (b8 : 0 ≤ wd) (b9 : wd ≤ 8) (hl : (row + x) * wd + (col + y) < l.length) :
    Calls Try.prog 47 #[.int .i64 x, .int .i64 y, .pointer (some ⟨B, 0, none⟩), .pointer (some ⟨B + 1, 0, none⟩), .pointer (some ⟨B + 2, 0, none⟩)] W fun e w' => e = .returned (.int .i64 (rd l ((row + x) * wd + (col + y)))) ∧ Below W.heap.size W w' := by
  have hu24 := Try.underlying29
  have hb := mul_le64 b0 b1 b8 b9
  have HAT := at_go wd ht A c l (row + x) (col + y) ((row + x) * wd) W hr (by unfold wrap64; omega) hb.1 (by omega) b2 (by omega) hl
  generalize rd l ((row + x) * wd + (col + y)) = v at HAT ⊢
  clear hb hl hr
  go_enter Try.func47, Try.ntmps47
  go_wp2_with (go_at_call 48; refine HAT.mono ?_; rintro e w' ⟨rfl, hb⟩)
  go_ret
  exact ⟨rfl, hb⟩
theorem entersPart : ∀ args w, (callFunc 47 args).run Try.prog w = .ok (.enter 47 args) w := enters_of Try.func47 (by kernel_rfl) rfl

def partG (wd : Int) (l : List Int) (row col : Int) : Int → Int → Int := fun i k => rd l ((row + i) * wd + (col + k))
/-- What is asked of a part: it lies within the chart. -/
def PartIn (wd ht : Int) (l : List Int) (row col height width : Int) : Prop :=
  0 ≤ row ∧ 0 ≤ col ∧ 1 ≤ height ∧ 1 ≤ width ∧ row + height ≤ ht ∧ col + width ≤ wd ∧ wd ≤ 8 ∧ ht ≤ 8 ∧ (l.length : Int) = wd * ht
instance (wd ht : Int) (l : List Int) (row col height width : Int) : Decidable (PartIn wd ht l row col height width) := by unfold PartIn; infer_instance
def impl_Chart_part.f (a0_0 : Int) (a0_1 : Int) (l0_2 : List Int) (a1 : Int) (a2 : Int) (a3 : Int) (a4 : Int) : Option (Int × Int × List Int) :=
  if PartIn a0_0 a0_1 l0_2 a1 a2 a3 a4 then some (a4, a3, chartL (partG a0_0 l0_2 a1 a2) a4 a3) else none
set_option maxHeartbeats 2000000 in
theorem impl_Chart_part.calls (a0_0 : Int) (a0_1 : Int) (A0_2 : Option Addr) (c0_2 : Nat) (l0_2 : List Int) (a1 : Int) (a2 : Int) (a3 : Int) (a4 : Int) (r1 : Int) (r2 : Int) (r3 : List Int) (w : World) (hr0_2 : Kd.C (Kd.int .i64) w A0_2 l0_2.length l0_2) (hc0_2 : l0_2.length ≤ c0_2) (h : impl_Chart_part.f a0_0 a0_1 l0_2 a1 a2 a3 a4 = some (r1, r2, r3)) :
    Calls Try.prog 37 #[.agg #[.int .i64 a0_0, .int .i64 a0_1, .slice A0_2 l0_2.length c0_2], .int .i64 a1, .int .i64 a2, .int .i64 a3, .int .i64 a4] w fun e w' => ∃ v2_ : Value, e = .returned (.agg #[.int .i64 r1, .int .i64 r2, v2_]) ∧ Kd.R (Kd.int .i64) 3 w' w.heap.size (fun _ => True) v2_ r3 ∧ Below w.heap.size w w' := by
  have hu24 := Try.underlying29
  unfold impl_Chart_part.f at h
  by_cases hp : PartIn a0_0 a0_1 l0_2 a1 a2 a3 a4
  · rw [if_pos hp] at h
    simp only [Option.some.injEq, Prod.mk.injEq] at h
    obtain ⟨rfl, rfl, rfl⟩ := h
    obtain ⟨p1, p2, p3, p4, p5, p6, p7, p8, p9⟩ := hp
    let OF : Int → Int → Option Int := fun i k => if 0 ≤ i ∧ i < a3 ∧ 0 ≤ k ∧ k < a4 then some (partG a0_0 l0_2 a1 a2 i k) else none
    obtain ⟨k, hk⟩ := makeChart_val OF (partG a0_0 l0_2 a1 a2) a4 a3 (by omega) (by omega) (by omega) (by omega) (fun r c h1 h2 h3 h4 => by show (if _ then _ else _) = _; rw [if_pos ⟨h1, h2, h3, h4⟩])
    have HM := impl_makeChart.calls OF 47 #[.pointer (some ⟨w.heap.size, 0, none⟩), .pointer (some ⟨w.heap.size + 1, 0, none⟩), .pointer (some ⟨w.heap.size + 2, 0, none⟩)] entersPart k a4 a3 a4 a3 _
      ((((w.alloc (.cells #[.int .i64 a0_0, .int .i64 a0_1, .slice A0_2 l0_2.length c0_2] 29)).alloc (.cells #[.int .i64 a1] 3)).alloc (.cells #[.int .i64 a2] 3)).alloc (.cells #[.int .i64 0, .int .i64 0, .slice none 0 0] 29)) (fun W x y t hb ht => by
        have hx : 0 ≤ x ∧ x < a3 ∧ 0 ≤ y ∧ y < a4 := by
          by_cases hx : 0 ≤ x ∧ x < a3 ∧ 0 ≤ y ∧ y < a4
          · exact hx
          · exact absurd ht (by show ¬ (if _ then _ else _) = _; rw [if_neg hx]; simp)
        have ht2 : (if 0 ≤ x ∧ x < a3 ∧ 0 ≤ y ∧ y < a4 then some (partG a0_0 l0_2 a1 a2 x y) else none) = some t := ht
        rw [if_pos hx] at ht2
        obtain rfl := Option.some.inj ht2
        obtain ⟨hx0, hx1, hx2, hx3⟩ := hx
        have hc := (bcell_ hb).1
        refine partLit a0_0 a0_1 A0_2 c0_2 l0_2 a1 a2 w.heap.size W ?_ ?_ ?_ ?_ ?_ ?_ x y (by omega) (by omega) (by omega) (by omega) (by omega) (by omega) (by omega) (by omega) (by omega) (by omega) (by rw [p9]; exact part_lt (by omega) (by omega) (by omega) (by omega) p7 p8)
        · exact Kd.C_below (Kd.C_alloc (Kd.C_alloc (Kd.C_alloc (Kd.C_alloc hr0_2 _) _) _) _) hb
        all_goals (refine (hc _ _ (by simp <;> omega)).trans ?_; (repeat (refine (World.cell?_alloc_lt _ _ _ (by first | (simp; done) | (simp; omega))).trans ?_)); exact cell_top (by simp) rfl)) hk
    clear_value OF
    generalize chartL (partG a0_0 l0_2 a1 a2) a4 a3 = L at HM ⊢
    clear hk hr0_2 p9
    go_enter Try.func37, Try.ntmps37
    go_wp2_with (go_at_call 46; refine HM.mono ?_; rintro e w1 ⟨v, rfl, hR, hb⟩; obtain ⟨A, c, rfl⟩ := Kd.R_slice hR; obtain ⟨hc, hf⟩ := bcell_ hb; have hz : w.heap.size + 3 < w1.heap.size := by have := hb.size; simp at this; omega)
    refine bodyPost_ret (v := .agg #[.int .i64 a4, .int .i64 a3, .slice A L.length c]) (by simp [results, Try.results37, go_sem, hc, hz]) rfl ⟨.slice A L.length c, rfl, ?_, ?_⟩
    · refine Kd.R_lower (R_old (R_old (R_old hR ?_ _) ?_ _) ?_ _) ?_ <;> (simp <;> omega)
    · exact ((((((((Below.refl _ _).alloc (Nat.le_refl _) _).alloc (by simp) _).alloc (by simp; omega) _).alloc (by simp; omega) _).trans (hb.mono (by simp <;> omega))).setCell (by simp <;> omega) _).setCell (by simp <;> omega) _).setCell (by simp <;> omega) _
  · rw [if_neg hp] at h
    cases h


end Go.Proofs.Ytpbipijjihbjhaa.G
