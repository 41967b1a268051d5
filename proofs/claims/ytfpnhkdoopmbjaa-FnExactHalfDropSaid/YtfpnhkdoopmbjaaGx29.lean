-- Printed by a program of this session (wip/tools/gp.sh); Lean checks it.
import Derived.Test.YtfpnhkdoopmbjaaGx0
import Derived.Test.YtfpnhkdoopmbjaaGx4
import Derived.Test.YtfpnhkdoopmbjaaGx10
namespace Go.Proofs.Ytfpnhkdoopmbjaa.G
open Go.RowKit Go.Proofs.YtfpnhkdoopmbjaaW.PrintWords Go.Proofs.YtfpnhkdoopmbjaaW.PrintLast Go.Proofs.YtfpnhkdoopmbjaaW.PrintMore
attribute [local go_sem] isSome_setCell_ max2_int min2_int max_two min_two max_three min_three max_four min_four   -- for this text's walks alone
set_option linter.unusedVariables false
set_option linter.unusedSimpArgs false

/-! ### impl_HalfDrop: function 17 -/
set_option maxHeartbeats 4000000 in
theorem halfLitA (wd ht : Int) (A : Option Addr) (c : Nat) (l : List Int) (B : Nat) (W : World) (hr : Kd.C (Kd.int .i64) W A l.length l)
    (c0 : W.cell? ⟨B, 0, none⟩ = some (.int .i64 wd)) (c1 : W.cell? ⟨B, 1, none⟩ = some (.int .i64 ht)) (c2 : W.cell? ⟨B, 2, none⟩ = some (.slice A l.length c))
    (x y : Int) (b0 : 0 ≤ x) (b1 : x < ht) (b2 : 0 ≤ y) (b4 : 1 ≤ wd) (b8 : wd ≤ 8) (b5 : 1 ≤ ht) (b9 : ht ≤ 8) (hl : (l.length : Int) = wd * ht) (hq : decide (wd ≤ y) = true) :
    Calls Try.prog 51 #[.int .i64 x, .int .i64 y, .pointer (some ⟨B, 0, none⟩)] W fun e w' => e = .returned (.int .i64 (rd l (((x + ht / 2) % ht) * wd + y % wd))) ∧ Below W.heap.size W w' := by
  have hu24 := Try.underlying28
  obtain ⟨m3, m4⟩ := mod_in (x := y) (m := wd) b2 b4
  obtain ⟨m1, m2⟩ := mod_in (x := x + ht / 2) (m := ht) (by omega) b5
  have hb := mul_le64 (r := ((x + ht / 2) % ht)) (wd := wd) (by omega) (by omega) (by omega) (by omega)
  have hl2 := part_lt (wd := wd) (ht := ht) (r := ((x + ht / 2) % ht)) (k := y % wd) (by omega) (by omega) m4 m3 b8 b9
  have HAT := fun W' (hC : Kd.C (Kd.int .i64) W' A l.length l) => at_go wd ht A c l (((x + ht / 2) % ht)) (y % wd) (((x + ht / 2) % ht) * wd) W' hC (by unfold wrap64; omega) hb.1 (by omega) m3 (by omega) (by omega)
  have hn1 : (ht == 0) = false := beq_eq_false_iff_ne.mpr (by omega)
  have hn2 : (wd == 0) = false := beq_eq_false_iff_ne.mpr (by omega)
  have HR := Aside0.mk hr
  generalize rd l (((x + ht / 2) % ht) * wd + y % wd) = v at HAT ⊢
  clear hb hl hr hl2
  go_enter Try.func51, Try.ntmps51
  go_wp2
  go_region_with (go_at_call 52; refine (HAT _ (by repeat (first | exact HR.out | apply Kd.C_drew | apply Kd.C_alloc))).mono ?_; rintro e w' ⟨rfl, hb⟩)
  all_goals (go_wp2; go_ret; exact ⟨rfl, Below.trans (by repeat (first | exact Below.refl _ _ | apply below_drew1 | apply pw_below_drewN)) hb⟩)
set_option maxHeartbeats 4000000 in
theorem halfLitB (wd ht : Int) (A : Option Addr) (c : Nat) (l : List Int) (B : Nat) (W : World) (hr : Kd.C (Kd.int .i64) W A l.length l)
    (c0 : W.cell? ⟨B, 0, none⟩ = some (.int .i64 wd)) (c1 : W.cell? ⟨B, 1, none⟩ = some (.int .i64 ht)) (c2 : W.cell? ⟨B, 2, none⟩ = some (.slice A l.length c))
    (x y : Int) (b0 : 0 ≤ x) (b1 : x < ht) (b2 : 0 ≤ y) (b4 : 1 ≤ wd) (b8 : wd ≤ 8) (b5 : 1 ≤ ht) (b9 : ht ≤ 8) (hl : (l.length : Int) = wd * ht) (hq : decide (wd ≤ y) = false) :
    Calls Try.prog 51 #[.int .i64 x, .int .i64 y, .pointer (some ⟨B, 0, none⟩)] W fun e w' => e = .returned (.int .i64 (rd l (x * wd + y % wd))) ∧ Below W.heap.size W w' := by
  have hu24 := Try.underlying28
  obtain ⟨m3, m4⟩ := mod_in (x := y) (m := wd) b2 b4
  have hb := mul_le64 (r := x) (wd := wd) (by omega) (by omega) (by omega) (by omega)
  have hl2 := part_lt (wd := wd) (ht := ht) (r := x) (k := y % wd) (by omega) (by omega) m4 m3 b8 b9
  have HAT := fun W' (hC : Kd.C (Kd.int .i64) W' A l.length l) => at_go wd ht A c l (x) (y % wd) (x * wd) W' hC (by unfold wrap64; omega) hb.1 (by omega) m3 (by omega) (by omega)
  have hn1 : (ht == 0) = false := beq_eq_false_iff_ne.mpr (by omega)
  have hn2 : (wd == 0) = false := beq_eq_false_iff_ne.mpr (by omega)
  have HR := Aside0.mk hr
  generalize rd l (x * wd + y % wd) = v at HAT ⊢
  clear hb hl hr hl2
  go_enter Try.func51, Try.ntmps51
  go_wp2
  go_region_with (go_at_call 52; refine (HAT _ (by repeat (first | exact HR.out | apply Kd.C_drew | apply Kd.C_alloc))).mono ?_; rintro e w' ⟨rfl, hb⟩)
  all_goals (go_wp2; go_ret; exact ⟨rfl, Below.trans (by repeat (first | exact Below.refl _ _ | apply below_drew1 | apply pw_below_drewN)) hb⟩)
theorem halfLitE : ∀ args w, (callFunc 51 args).run Try.prog w = .ok (.enter 51 args) w := enters_of Try.func51 (by kernel_rfl) rfl
def halfG (wd ht : Int) (l : List Int) : Int → Int → Int := fun i k => rd l ((if wd ≤ k then (i + ht / 2) % ht else i) * wd + k % wd)
def impl_HalfDrop.f (a0_0 : Int) (a0_1 : Int) (l0_2 : List Int) : Option (Int × Int × List Int × Bool) :=
  (impl_IsChart.f a0_0 a0_1 l0_2).bind fun t => if t = true then (if (a0_1 % 2 == 1) = false then (if copiesB a0_0 2 = true then some (2 * a0_0, a0_1, chartL (halfG a0_0 a0_1 l0_2) (2 * a0_0) (a0_1), true) else some (0, 0, [], false)) else some (0, 0, [], false)) else some (0, 0, [], false)
set_option maxHeartbeats 4000000 in
theorem impl_HalfDrop.calls (a0_0 : Int) (a0_1 : Int) (A0_2 : Option Addr) (c0_2 : Nat) (l0_2 : List Int) (r1 : Int) (r2 : Int) (r3 : List Int) (r4 : Bool) (w : World) (hr0_2 : Kd.C (Kd.int .i64) w A0_2 l0_2.length l0_2) (hc0_2 : l0_2.length ≤ c0_2) (h : impl_HalfDrop.f a0_0 a0_1 l0_2 = some (r1, r2, r3, r4)) :
    Calls Try.prog 17 #[.agg #[.int .i64 a0_0, .int .i64 a0_1, .slice A0_2 l0_2.length c0_2]] w fun e w' => ∃ v2_ : Value, e = .returned (.tuple #[.agg #[.int .i64 r1, .int .i64 r2, v2_], .bool r4]) ∧ Kd.R (Kd.int .i64) 3 w' w.heap.size (fun _ => True) v2_ r3 ∧ Below w.heap.size w w' := by
  have hu24 := Try.underlying28
  unfold impl_HalfDrop.f at h
  replace h := Option.bind_eq_some_iff.mp h
  obtain ⟨t, ht, h⟩ := h
  have HI := impl_IsChart.calls a0_0 a0_1 A0_2 c0_2 l0_2 t ((w.alloc (.cells #[.int .i64 a0_0, .int .i64 a0_1, .slice A0_2 l0_2.length c0_2] 28)).alloc (.cells #[.int .i64 0, .int .i64 0, .slice none 0 0] 28)) (Kd.C_alloc (Kd.C_alloc hr0_2 _) _) hc0_2 ht
  cases t with
  | false =>
    clear ht
    rw [if_neg (by simp)] at h
    simp only [Option.some.injEq, Prod.mk.injEq] at h
    obtain ⟨rfl, rfl, rfl, rfl⟩ := h
    clear hr0_2
    go_enter Try.func17, Try.ntmps17
    go_wp2_with ((go_at_call 40; refine HI.mono ?_; rintro e w1 ⟨rfl, hb⟩; obtain ⟨hc, hf⟩ := bcell_ hb; have hz : w.heap.size + 1 < w1.heap.size := (by have := hb.size; simp at this; omega); have k0 : w1.cell? ⟨w.heap.size, 0, none⟩ = some (.int .i64 a0_0) := (hc _ _ (by simp; omega)).trans (by simp); have k1 : w1.cell? ⟨w.heap.size, 1, none⟩ = some (.int .i64 a0_1) := (hc _ _ (by simp; omega)).trans (by simp); have k2 : w1.cell? ⟨w.heap.size, 2, none⟩ = some (.slice A0_2 l0_2.length c0_2) := (hc _ _ (by simp; omega)).trans (by simp)))
    refine bodyPost_ret (v := .tuple #[.agg #[.int .i64 0, .int .i64 0, .slice none 0 0], .bool false]) (by simp [results, Try.results17, go_sem, hc, hz]) rfl ⟨.slice none 0 0, rfl, Kd.R_nil _ _ _ _ _, ?_⟩
    exact ((((((Below.refl _ w).alloc (Nat.le_refl _) _).alloc (by simp) _).trans (hb.mono (by simp; omega))).setCell (by simp) _).setCell (by simp) _).setCell (by simp) _
  | true =>
    obtain ⟨p1, p2, p3, p4, p9⟩ := isChart_true ht
    clear ht
    rw [if_pos rfl] at h
    cases od : (a0_1 % 2 == 1) with
    | true =>
      rw [od, if_neg (by simp)] at h
      simp only [Option.some.injEq, Prod.mk.injEq] at h
      obtain ⟨rfl, rfl, rfl, rfl⟩ := h
      clear hr0_2
      go_enter Try.func17, Try.ntmps17
      go_wp2_with (first | (go_at_call 40; refine HI.mono ?_; rintro e w1 ⟨rfl, hb⟩; obtain ⟨hc, hf⟩ := bcell_ hb; have hz : w.heap.size + 1 < w1.heap.size := (by have := hb.size; simp at this; omega); have k0 : w1.cell? ⟨w.heap.size, 0, none⟩ = some (.int .i64 a0_0) := (hc _ _ (by simp; omega)).trans (by simp); have k1 : w1.cell? ⟨w.heap.size, 1, none⟩ = some (.int .i64 a0_1) := (hc _ _ (by simp; omega)).trans (by simp); have k2 : w1.cell? ⟨w.heap.size, 2, none⟩ = some (.slice A0_2 l0_2.length c0_2) := (hc _ _ (by simp; omega)).trans (by simp)))
      refine bodyPost_ret (v := .tuple #[.agg #[.int .i64 0, .int .i64 0, .slice none 0 0], .bool false]) (by simp [results, Try.results17, go_sem, hc, hz]) rfl ⟨.slice none 0 0, rfl, Kd.R_nil _ _ _ _ _, ?_⟩
      exact ((((((Below.refl _ w).alloc (Nat.le_refl _) _).alloc (by simp) _).trans (hb.mono (by simp; omega))).setCell (by simp) _).setCell (by simp) _).setCell (by simp) _
    | false =>
      rw [od, if_pos rfl] at h
      cases cb1 : copiesB a0_0 2 with
      | false =>
        rw [cb1, if_neg (by simp)] at h
        simp only [Option.some.injEq, Prod.mk.injEq] at h
        obtain ⟨rfl, rfl, rfl, rfl⟩ := h
        clear hr0_2
        go_enter Try.func17, Try.ntmps17
        go_wp2_with (first | (go_at_call 40; refine HI.mono ?_; rintro e w1 ⟨rfl, hb⟩; obtain ⟨hc, hf⟩ := bcell_ hb; have hz : w.heap.size + 1 < w1.heap.size := (by have := hb.size; simp at this; omega); have k0 : w1.cell? ⟨w.heap.size, 0, none⟩ = some (.int .i64 a0_0) := (hc _ _ (by simp; omega)).trans (by simp); have k1 : w1.cell? ⟨w.heap.size, 1, none⟩ = some (.int .i64 a0_1) := (hc _ _ (by simp; omega)).trans (by simp); have k2 : w1.cell? ⟨w.heap.size, 2, none⟩ = some (.slice A0_2 l0_2.length c0_2) := (hc _ _ (by simp; omega)).trans (by simp)) | (go_at_call 49; refine (copies_go _ _ _ rfl _ (by omega) (by omega)).mono ?_; rintro e w' ⟨rfl, rfl⟩; (try simp only [od, cb1])))
        refine bodyPost_ret (v := .tuple #[.agg #[.int .i64 0, .int .i64 0, .slice none 0 0], .bool false]) (by simp [results, Try.results17, go_sem, hc, hz]) rfl ⟨.slice none 0 0, rfl, Kd.R_nil _ _ _ _ _, ?_⟩
        exact ((((((Below.refl _ w).alloc (Nat.le_refl _) _).alloc (by simp) _).trans (hb.mono (by simp; omega))).setCell (by simp) _).setCell (by simp) _).setCell (by simp) _
      | true =>
        rw [cb1, if_pos rfl] at h
        simp only [Option.some.injEq, Prod.mk.injEq] at h
        obtain ⟨rfl, rfl, rfl, rfl⟩ := h
        have hm1 : wrap64 (2 * a0_0) = 2 * a0_0 := by have := copies_le p1 p2 cb1; unfold wrap64; omega
        have hm2 : True := trivial
        obtain ⟨q1, q2, q3, q4⟩ := copies_le p1 p2 cb1
        have HM : ∀ (w1 : World), Below ((w.alloc (.cells #[.int .i64 a0_0, .int .i64 a0_1, .slice A0_2 l0_2.length c0_2] 28)).alloc (.cells #[.int .i64 0, .int .i64 0, .slice none 0 0] 28)).heap.size ((w.alloc (.cells #[.int .i64 a0_0, .int .i64 a0_1, .slice A0_2 l0_2.length c0_2] 28)).alloc (.cells #[.int .i64 0, .int .i64 0, .slice none 0 0] 28)) w1 → w1.cell? ⟨w.heap.size, 0, none⟩ = some (.int .i64 a0_0) → w1.cell? ⟨w.heap.size, 1, none⟩ = some (.int .i64 a0_1) → w1.cell? ⟨w.heap.size, 2, none⟩ = some (.slice A0_2 l0_2.length c0_2) → w.heap.size + 1 < w1.heap.size → _ := fun w1 hb k0 k1 k2 hz => mk_go (halfG a0_0 a0_1 l0_2) (2 * a0_0) (a0_1) 51 #[.pointer (some ⟨w.heap.size, 0, none⟩)] halfLitE w1 (by omega) (by omega) (by omega) (by omega) (fun W x y hW h1 h2 h3 h4 => by
          have hC := Kd.C_below (Kd.C_below (Kd.C_alloc (Kd.C_alloc hr0_2 _) _) hb) hW
          have z0 := ((bcell_ hW).1 _ _ (by omega)).trans k0
          have z1 := ((bcell_ hW).1 _ _ (by omega)).trans k1
          have z2 := ((bcell_ hW).1 _ _ (by omega)).trans k2
          show Calls _ _ _ _ fun e w' => e = .returned (.int .i64 (rd l0_2 ((if a0_0 ≤ y then (x + a0_1 / 2) % a0_1 else x) * a0_0 + y % a0_0))) ∧ _
          by_cases hy : a0_0 ≤ y
          · rw [if_pos hy]; exact halfLitA a0_0 a0_1 A0_2 c0_2 l0_2 w.heap.size W hC z0 z1 z2 x y h1 h2 h3 p1 p2 p3 p4 p9 (decide_eq_true hy)
          · rw [if_neg hy]; exact halfLitB a0_0 a0_1 A0_2 c0_2 l0_2 w.heap.size W hC z0 z1 z2 x y h1 h2 h3 p1 p2 p3 p4 p9 (decide_eq_false hy))
        generalize chartL (halfG a0_0 a0_1 l0_2) (2 * a0_0) a0_1 = L at HM ⊢
        clear hr0_2 p9
        go_enter Try.func17, Try.ntmps17
        go_wp2_with (first | (go_at_call 40; refine HI.mono ?_; rintro e w1 ⟨rfl, hb⟩; obtain ⟨hc, hf⟩ := bcell_ hb; have hz : w.heap.size + 1 < w1.heap.size := (by have := hb.size; simp at this; omega); have k0 : w1.cell? ⟨w.heap.size, 0, none⟩ = some (.int .i64 a0_0) := (hc _ _ (by simp; omega)).trans (by simp); have k1 : w1.cell? ⟨w.heap.size, 1, none⟩ = some (.int .i64 a0_1) := (hc _ _ (by simp; omega)).trans (by simp); have k2 : w1.cell? ⟨w.heap.size, 2, none⟩ = some (.slice A0_2 l0_2.length c0_2) := (hc _ _ (by simp; omega)).trans (by simp)) | (go_at_call 49; refine (copies_go _ _ _ rfl _ (by omega) (by omega)).mono ?_; rintro e w' ⟨rfl, rfl⟩; (try simp only [od, cb1])) | (go_at_call 50; (try simp only [hm1]); (try simp only [hm2]); refine (HM w1 hb k0 k1 k2 hz).mono ?_; rintro e w2 ⟨v, rfl, hR, hb2⟩; obtain ⟨A, c, rfl⟩ := Kd.R_slice hR; obtain ⟨hc2, hf2⟩ := bcell_ hb2; have hz2 : w.heap.size + 1 < w2.heap.size := (by have := hb2.size; omega)))
        refine bodyPost_ret (v := .tuple #[.agg #[.int .i64 (2 * a0_0), .int .i64 (a0_1), .slice A L.length c], .bool true]) (by simp [results, Try.results17, go_sem, hc2, hz2, hc, hz]) rfl ⟨.slice A L.length c, rfl, ?_, ?_⟩
        · refine Kd.R_lower (R_old (R_old (R_old hR ?_ _) ?_ _) ?_ _) ?_ <;> (first | omega | (simp; done) | (simp <;> omega))
        · exact (((((((Below.refl _ w).alloc (Nat.le_refl _) _).alloc (by simp) _).trans (hb.mono (by first | omega | (simp; done) | (simp <;> omega)))).trans (hb2.mono (by omega))).setCell (by first | omega | (simp; done) | (simp <;> omega)) _).setCell (by first | omega | (simp; done) | (simp <;> omega)) _).setCell (by first | omega | (simp; done) | (simp <;> omega)) _


end Go.Proofs.Ytfpnhkdoopmbjaa.G
