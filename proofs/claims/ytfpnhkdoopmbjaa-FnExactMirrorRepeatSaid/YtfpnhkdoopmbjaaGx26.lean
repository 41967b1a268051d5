-- Printed by a program of this session (wip/tools/gp.sh); Lean checks it.
import Derived.Test.YtfpnhkdoopmbjaaGx0
import Derived.Test.YtfpnhkdoopmbjaaGx4
import Derived.Test.YtfpnhkdoopmbjaaGx10
import Derived.Test.YtfpnhkdoopmbjaaGx25
namespace Go.Proofs.Ytfpnhkdoopmbjaa.G
open Go.RowKit Go.Proofs.YtfpnhkdoopmbjaaW.PrintWords Go.Proofs.YtfpnhkdoopmbjaaW.PrintLast Go.Proofs.YtfpnhkdoopmbjaaW.PrintMore
attribute [local go_sem] isSome_setCell_ max2_int min2_int max_two min_two max_three min_three max_four min_four   -- for this text's walks alone
set_option linter.unusedVariables false
set_option linter.unusedSimpArgs false

/-! ### impl_MirrorRepeat: function 21 -/
set_option maxHeartbeats 4000000 in
theorem mirLitA (wd ht : Int) (A A2 : Option Addr) (c cx : Nat) (l l2 : List Int) (B O : Nat) (W : World) (hr : Kd.C (Kd.int .i64) W A l.length l) (hr2 : Kd.C (Kd.int .i64) W A2 l2.length l2)
    (c0 : W.cell? ⟨B, 0, none⟩ = some (.int .i64 wd)) (c1 : W.cell? ⟨B, 1, none⟩ = some (.int .i64 ht)) (c2 : W.cell? ⟨B, 2, none⟩ = some (.slice A l.length c))
    (d0 : W.cell? ⟨O, 0, none⟩ = some (.int .i64 wd)) (d1 : W.cell? ⟨O, 1, none⟩ = some (.int .i64 ht)) (d2 : W.cell? ⟨O, 2, none⟩ = some (.slice A2 l2.length cx))
    (x y : Int) (b0 : 0 ≤ x) (b1 : x < ht) (b2 : 0 ≤ y) (b4 : 1 ≤ wd) (b8 : wd ≤ 8) (b5 : 1 ≤ ht) (b9 : ht ≤ 8) (hl : (l2.length : Int) = wd * ht) (hq : (y / wd % 2 == 1) = true) (b3 : 0 ≤ y / wd) (b10 : y / wd ≤ 64) :
    Calls Try.prog 58 #[.int .i64 x, .int .i64 y, .pointer (some ⟨B, 0, none⟩), .pointer (some ⟨O, 0, none⟩)] W fun e w' => e = .returned (.int .i64 (rd l2 (x * wd + y % wd))) ∧ Below W.heap.size W w' := by
  have hu24 := Try.underlying28
  obtain ⟨m3, m4⟩ := mod_in (x := y) (m := wd) b2 b4
  have hb := mul_le64 (r := x) (wd := wd) (by omega) (by omega) (by omega) (by omega)
  have hl2 := part_lt (wd := wd) (ht := ht) (r := x) (k := y % wd) b0 b1 m4 m3 b8 b9
  have HAT := at_go wd ht A2 cx l2 x (y % wd) (x * wd) W.drew (Kd.C_drew hr2) (by unfold wrap64; omega) hb.1 (by omega) m3 (by omega) (by omega)
  have hn2 : (wd == 0) = false := beq_eq_false_iff_ne.mpr (by omega)
  have hq2 : ((wrap64 (Int.tdiv y wd)).tmod 2 == 1) = true := by rw [Int.tdiv_eq_ediv_of_nonneg b2, show wrap64 (y / wd) = y / wd by unfold wrap64; omega, Int.tmod_eq_emod_of_nonneg b3]; exact hq
  generalize rd l2 (x * wd + y % wd) = v at HAT ⊢
  clear hb hl hr hr2 hl2
  go_enter Try.func58, Try.ntmps58
  go_wp2
  go_region_with (go_at_call 52; refine HAT.mono ?_; rintro e w' ⟨rfl, hb⟩)
  all_goals (go_wp2; go_ret; exact ⟨rfl, (below_drew1 (Below.refl _ _)).trans hb⟩)
set_option maxHeartbeats 4000000 in
theorem mirLitB (wd ht : Int) (A A2 : Option Addr) (c cx : Nat) (l l2 : List Int) (B O : Nat) (W : World) (hr : Kd.C (Kd.int .i64) W A l.length l) (hr2 : Kd.C (Kd.int .i64) W A2 l2.length l2)
    (c0 : W.cell? ⟨B, 0, none⟩ = some (.int .i64 wd)) (c1 : W.cell? ⟨B, 1, none⟩ = some (.int .i64 ht)) (c2 : W.cell? ⟨B, 2, none⟩ = some (.slice A l.length c))
    (d0 : W.cell? ⟨O, 0, none⟩ = some (.int .i64 wd)) (d1 : W.cell? ⟨O, 1, none⟩ = some (.int .i64 ht)) (d2 : W.cell? ⟨O, 2, none⟩ = some (.slice A2 l2.length cx))
    (x y : Int) (b0 : 0 ≤ x) (b1 : x < ht) (b2 : 0 ≤ y) (b4 : 1 ≤ wd) (b8 : wd ≤ 8) (b5 : 1 ≤ ht) (b9 : ht ≤ 8) (hl : (l.length : Int) = wd * ht) (hq : (y / wd % 2 == 1) = false) (b3 : 0 ≤ y / wd) (b10 : y / wd ≤ 64) :
    Calls Try.prog 58 #[.int .i64 x, .int .i64 y, .pointer (some ⟨B, 0, none⟩), .pointer (some ⟨O, 0, none⟩)] W fun e w' => e = .returned (.int .i64 (rd l (x * wd + y % wd))) ∧ Below W.heap.size W w' := by
  have hu24 := Try.underlying28
  obtain ⟨m3, m4⟩ := mod_in (x := y) (m := wd) b2 b4
  have hb := mul_le64 (r := x) (wd := wd) (by omega) (by omega) (by omega) (by omega)
  have hl2 := part_lt (wd := wd) (ht := ht) (r := x) (k := y % wd) b0 b1 m4 m3 b8 b9
  have HAT := at_go wd ht A c l x (y % wd) (x * wd) W.drew (Kd.C_drew hr) (by unfold wrap64; omega) hb.1 (by omega) m3 (by omega) (by omega)
  have hn2 : (wd == 0) = false := beq_eq_false_iff_ne.mpr (by omega)
  have hq2 : ((wrap64 (Int.tdiv y wd)).tmod 2 == 1) = false := by rw [Int.tdiv_eq_ediv_of_nonneg b2, show wrap64 (y / wd) = y / wd by unfold wrap64; omega, Int.tmod_eq_emod_of_nonneg b3]; exact hq
  generalize rd l (x * wd + y % wd) = v at HAT ⊢
  clear hb hl hr hr2 hl2
  go_enter Try.func58, Try.ntmps58
  go_wp2
  go_region_with (go_at_call 52; refine HAT.mono ?_; rintro e w' ⟨rfl, hb⟩)
  all_goals (go_wp2; go_ret; exact ⟨rfl, (below_drew1 (Below.refl _ _)).trans hb⟩)
theorem mirLitE : ∀ args w, (callFunc 58 args).run Try.prog w = .ok (.enter 58 args) w := enters_of Try.func58 (by kernel_rfl) rfl
def mirRepG (wd ht : Int) (l : List Int) : Int → Int → Int := fun i k => if k / wd % 2 = 1 then rd (chartL (mirrG wd l) wd ht) (i * wd + k % wd) else rd l (i * wd + k % wd)
def impl_MirrorRepeat.f (a0_0 : Int) (a0_1 : Int) (l0_2 : List Int) (a1 : Int) : Option (Int × Int × List Int × Bool) :=
  (impl_IsChart.f a0_0 a0_1 l0_2).bind fun t => if t = true then (if copiesB a0_0 a1 = true then some (a0_0 * a1, a0_1, chartL (mirRepG a0_0 a0_1 l0_2) (a0_0 * a1) (a0_1), true) else some (0, 0, [], false)) else some (0, 0, [], false)
set_option maxHeartbeats 4000000 in
theorem impl_MirrorRepeat.calls (a0_0 : Int) (a0_1 : Int) (A0_2 : Option Addr) (c0_2 : Nat) (l0_2 : List Int) (a1 : Int) (r1 : Int) (r2 : Int) (r3 : List Int) (r4 : Bool) (w : World) (hr0_2 : Kd.C (Kd.int .i64) w A0_2 l0_2.length l0_2) (hc0_2 : l0_2.length ≤ c0_2) (h : impl_MirrorRepeat.f a0_0 a0_1 l0_2 a1 = some (r1, r2, r3, r4)) :
    Calls Try.prog 21 #[.agg #[.int .i64 a0_0, .int .i64 a0_1, .slice A0_2 l0_2.length c0_2], .int .i64 a1] w fun e w' => ∃ v2_ : Value, e = .returned (.tuple #[.agg #[.int .i64 r1, .int .i64 r2, v2_], .bool r4]) ∧ Kd.R (Kd.int .i64) 3 w' w.heap.size (fun _ => True) v2_ r3 ∧ Below w.heap.size w w' := by
  have hu24 := Try.underlying28
  unfold impl_MirrorRepeat.f at h
  replace h := Option.bind_eq_some_iff.mp h
  obtain ⟨t, ht, h⟩ := h
  have HI := impl_IsChart.calls a0_0 a0_1 A0_2 c0_2 l0_2 t ((w.alloc (.cells #[.int .i64 a0_0, .int .i64 a0_1, .slice A0_2 l0_2.length c0_2] 28)).alloc (.cells #[.int .i64 0, .int .i64 0, .slice none 0 0] 28)) (Kd.C_alloc (Kd.C_alloc hr0_2 _) _) hc0_2 ht
  cases t with
  | false =>
    clear ht
    rw [if_neg (by simp)] at h
    simp only [Option.some.injEq, Prod.mk.injEq] at h
    obtain ⟨rfl, rfl, rfl, rfl⟩ := h
    clear hr0_2
    go_enter Try.func21, Try.ntmps21
    go_wp2_with ((go_at_call 40; refine HI.mono ?_; rintro e w1 ⟨rfl, hb⟩; obtain ⟨hc, hf⟩ := bcell_ hb; have hz : w.heap.size + 1 < w1.heap.size := (by have := hb.size; simp at this; omega); have k0 : w1.cell? ⟨w.heap.size, 0, none⟩ = some (.int .i64 a0_0) := (hc _ _ (by simp; omega)).trans (by simp); have k1 : w1.cell? ⟨w.heap.size, 1, none⟩ = some (.int .i64 a0_1) := (hc _ _ (by simp; omega)).trans (by simp); have k2 : w1.cell? ⟨w.heap.size, 2, none⟩ = some (.slice A0_2 l0_2.length c0_2) := (hc _ _ (by simp; omega)).trans (by simp)))
    refine bodyPost_ret (v := .tuple #[.agg #[.int .i64 0, .int .i64 0, .slice none 0 0], .bool false]) (by simp [results, Try.results21, go_sem, hc, hz]) rfl ⟨.slice none 0 0, rfl, Kd.R_nil _ _ _ _ _, ?_⟩
    exact ((((((Below.refl _ w).alloc (Nat.le_refl _) _).alloc (by simp) _).trans (hb.mono (by simp; omega))).setCell (by simp) _).setCell (by simp) _).setCell (by simp) _
  | true =>
    obtain ⟨p1, p2, p3, p4, p9⟩ := isChart_true ht
    clear ht
    rw [if_pos rfl] at h
    cases cb1 : copiesB a0_0 a1 with
    | false =>
      rw [cb1, if_neg (by simp)] at h
      simp only [Option.some.injEq, Prod.mk.injEq] at h
      obtain ⟨rfl, rfl, rfl, rfl⟩ := h
      clear hr0_2
      go_enter Try.func21, Try.ntmps21
      go_wp2_with (first | (go_at_call 40; refine HI.mono ?_; rintro e w1 ⟨rfl, hb⟩; obtain ⟨hc, hf⟩ := bcell_ hb; have hz : w.heap.size + 1 < w1.heap.size := (by have := hb.size; simp at this; omega); have k0 : w1.cell? ⟨w.heap.size, 0, none⟩ = some (.int .i64 a0_0) := (hc _ _ (by simp; omega)).trans (by simp); have k1 : w1.cell? ⟨w.heap.size, 1, none⟩ = some (.int .i64 a0_1) := (hc _ _ (by simp; omega)).trans (by simp); have k2 : w1.cell? ⟨w.heap.size, 2, none⟩ = some (.slice A0_2 l0_2.length c0_2) := (hc _ _ (by simp; omega)).trans (by simp)) | (go_at_call 49; refine (copies_go _ _ _ rfl _ (by omega) (by omega)).mono ?_; rintro e w' ⟨rfl, rfl⟩; (try simp only [cb1])))
      refine bodyPost_ret (v := .tuple #[.agg #[.int .i64 0, .int .i64 0, .slice none 0 0], .bool false]) (by simp [results, Try.results21, go_sem, hc, hz]) rfl ⟨.slice none 0 0, rfl, Kd.R_nil _ _ _ _ _, ?_⟩
      exact ((((((Below.refl _ w).alloc (Nat.le_refl _) _).alloc (by simp) _).trans (hb.mono (by simp; omega))).setCell (by simp) _).setCell (by simp) _).setCell (by simp) _
    | true =>
      rw [cb1, if_pos rfl] at h
      simp only [Option.some.injEq, Prod.mk.injEq] at h
      obtain ⟨rfl, rfl, rfl, rfl⟩ := h
      obtain ⟨q1, q2, q3, q4⟩ := copies_le p1 p2 cb1
      have hm1 : wrap64 (a0_0 * a1) = a0_0 * a1 := by unfold wrap64; omega
      have hm2 : True := trivial
      have HMI := fun W hC => impl_Chart_mirrored.calls a0_0 a0_1 A0_2 c0_2 l0_2 a0_0 a0_1 (chartL (mirrG a0_0 l0_2) a0_0 a0_1) W hC hc0_2 (by unfold impl_Chart_mirrored.f; rw [if_pos ⟨p1, p2, p3, p4, p9⟩])
      have hCw := Aside0.mk hr0_2
      clear hr0_2
      have HF : ∀ (w1 : World), Below ((w.alloc (.cells #[.int .i64 a0_0, .int .i64 a0_1, .slice A0_2 l0_2.length c0_2] 28)).alloc (.cells #[.int .i64 0, .int .i64 0, .slice none 0 0] 28)).heap.size ((w.alloc (.cells #[.int .i64 a0_0, .int .i64 a0_1, .slice A0_2 l0_2.length c0_2] 28)).alloc (.cells #[.int .i64 0, .int .i64 0, .slice none 0 0] 28)) w1 → w1.cell? ⟨w.heap.size, 0, none⟩ = some (.int .i64 a0_0) → w1.cell? ⟨w.heap.size, 1, none⟩ = some (.int .i64 a0_1) → w1.cell? ⟨w.heap.size, 2, none⟩ = some (.slice A0_2 l0_2.length c0_2) → w.heap.size + 1 < w1.heap.size → ∀ (w2 : World) (A2 : Option Addr) (cx : Nat), Below w1.heap.size w1 w2 → Kd.C (Kd.int .i64) w2 A2 (chartL (mirrG a0_0 l0_2) a0_0 a0_1).length (chartL (mirrG a0_0 l0_2) a0_0 a0_1) → ∀ (W : World), Below (w2.alloc (.cells #[.int .i64 a0_0, .int .i64 a0_1, .slice A2 (chartL (mirrG a0_0 l0_2) a0_0 a0_1).length cx] 28)).heap.size (w2.alloc (.cells #[.int .i64 a0_0, .int .i64 a0_1, .slice A2 (chartL (mirrG a0_0 l0_2) a0_0 a0_1).length cx] 28)) W → ∀ x y, 0 ≤ x → x < a0_1 → 0 ≤ y → y < a0_0 * a1 → Calls Try.prog 58 (#[.int .i64 x, .int .i64 y] ++ #[.pointer (some ⟨w.heap.size, 0, none⟩), .pointer (some ⟨w2.heap.size, 0, none⟩)]) W fun e w' => e = .returned (.int .i64 (mirRepG a0_0 a0_1 l0_2 x y)) ∧ Below W.heap.size W w' := by
        intro w1 hb k0 k1 k2 hz w2 A2 cx hb2 hC2 W hW x y h1 h2 h3 h4
        have s2 := hb2.size
        have e1 := Kd.C_below (Kd.C_alloc (Kd.C_below (Kd.C_below (Kd.C_alloc (Kd.C_alloc hCw.out _) _) hb) hb2) _) hW
        have e2 := Kd.C_below (Kd.C_alloc hC2 _) hW
        have z0 := ((bcell_ hW).1 _ _ (by simp; omega)).trans ((World.cell?_alloc_lt _ _ _ (by show _ < w2.heap.size; simp only []; omega)).trans (((bcell_ hb2).1 _ _ (by omega)).trans k0))
        have z1 := ((bcell_ hW).1 _ _ (by simp; omega)).trans ((World.cell?_alloc_lt _ _ _ (by show _ < w2.heap.size; simp only []; omega)).trans (((bcell_ hb2).1 _ _ (by omega)).trans k1))
        have z2 := ((bcell_ hW).1 _ _ (by simp; omega)).trans ((World.cell?_alloc_lt _ _ _ (by show _ < w2.heap.size; simp only []; omega)).trans (((bcell_ hb2).1 _ _ (by omega)).trans k2))
        have o0 : W.cell? ⟨w2.heap.size, 0, none⟩ = some (.int .i64 a0_0) := ((bcell_ hW).1 _ _ (by simp)).trans (cell_top rfl rfl)
        have o1 : W.cell? ⟨w2.heap.size, 1, none⟩ = some (.int .i64 a0_1) := ((bcell_ hW).1 _ _ (by simp)).trans (cell_top rfl rfl)
        have o2 : W.cell? ⟨w2.heap.size, 2, none⟩ = some (.slice A2 (chartL (mirrG a0_0 l0_2) a0_0 a0_1).length cx) := ((bcell_ hW).1 _ _ (by simp)).trans (cell_top rfl rfl)
        have b3 : 0 ≤ y / a0_0 := Int.ediv_nonneg h3 (by omega)
        have b10 : y / a0_0 ≤ 64 := by have := Int.ediv_le_self a0_0 h3; omega
        have hlen := chartL_len (mirrG a0_0 l0_2) (w := a0_0) (h := a0_1) (by omega) (by omega)
        show Calls _ _ _ _ fun e w' => e = .returned (.int .i64 (if y / a0_0 % 2 = 1 then rd (chartL (mirrG a0_0 l0_2) a0_0 a0_1) (x * a0_0 + y % a0_0) else rd l0_2 (x * a0_0 + y % a0_0))) ∧ _
        by_cases hq : y / a0_0 % 2 = 1
        · rw [if_pos hq]; exact mirLitA a0_0 a0_1 A0_2 A2 c0_2 cx l0_2 _ w.heap.size w2.heap.size W e1 e2 z0 z1 z2 o0 o1 o2 x y h1 h2 h3 p1 p2 p3 p4 hlen (beq_iff_eq.mpr hq) b3 b10
        · rw [if_neg hq]; exact mirLitB a0_0 a0_1 A0_2 A2 c0_2 cx l0_2 _ w.heap.size w2.heap.size W e1 e2 z0 z1 z2 o0 o1 o2 x y h1 h2 h3 p1 p2 p3 p4 p9 (beq_eq_false_iff_ne.mpr hq) b3 b10
      have HK := Aside0.mk HF
      clear HF p9
      generalize hL : chartL (mirRepG a0_0 a0_1 l0_2) (a0_0 * a1) a0_1 = L
      go_enter Try.func21, Try.ntmps21
      go_wp2_with (first | (go_at_call 40; refine HI.mono ?_; rintro e w1 ⟨rfl, hb⟩; obtain ⟨hc, hf⟩ := bcell_ hb; have hz : w.heap.size + 1 < w1.heap.size := (by have := hb.size; simp at this; omega); have k0 : w1.cell? ⟨w.heap.size, 0, none⟩ = some (.int .i64 a0_0) := (hc _ _ (by simp; omega)).trans (by simp); have k1 : w1.cell? ⟨w.heap.size, 1, none⟩ = some (.int .i64 a0_1) := (hc _ _ (by simp; omega)).trans (by simp); have k2 : w1.cell? ⟨w.heap.size, 2, none⟩ = some (.slice A0_2 l0_2.length c0_2) := (hc _ _ (by simp; omega)).trans (by simp)) | (go_at_call 49; refine (copies_go _ _ _ rfl _ (by omega) (by omega)).mono ?_; rintro e w' ⟨rfl, rfl⟩; (try simp only [cb1])) | (go_at_call 57; refine (HMI w1 (Kd.C_below (Kd.C_alloc (Kd.C_alloc hCw.out _) _) hb)).mono ?_; rintro e w2 ⟨v, rfl, hR2, hb2⟩; obtain ⟨A2, cx, rfl⟩ := Kd.R_slice hR2; obtain ⟨hc2, hf2⟩ := bcell_ hb2; have HC2 := Aside0.mk (Kd.R_reads' hR2).2.2; have hz2 : w.heap.size + 1 < w2.heap.size := (by have := hb2.size; omega); have hz2a : w.heap.size < w2.heap.size := (by omega); have HK0 := Aside0.mk k0; have HK1 := Aside0.mk k1; have HK2 := Aside0.mk k2; have k0 : w2.cell? ⟨w.heap.size, 0, none⟩ = some (.int .i64 a0_0) := (hc2 _ _ (by omega)).trans HK0.out; have k1 : w2.cell? ⟨w.heap.size, 1, none⟩ = some (.int .i64 a0_1) := (hc2 _ _ (by omega)).trans HK1.out) | (go_at_call 50; (try simp only [hm1]); refine (mk_go (mirRepG a0_0 a0_1 l0_2) (a0_0 * a1) a0_1 58 #[.pointer (some ⟨w.heap.size, 0, none⟩), .pointer (some ⟨w2.heap.size, 0, none⟩)] mirLitE _ (by omega) (by omega) (by omega) (by omega) (fun W x y hW h1 h2 h3 h4 => HK.out w1 hb HK0.out HK1.out HK2.out hz w2 A2 cx hb2 HC2.out W hW x y h1 h2 h3 h4)).mono ?_; rintro e w3 ⟨v, rfl, hR, hb3⟩; rw [hL] at hR; obtain ⟨A, c, rfl⟩ := Kd.R_slice hR; obtain ⟨hc3, hf3⟩ := bcell_ hb3; have hz3 : w.heap.size + 1 < w3.heap.size := (by have := hb3.size; simp at this; omega); have y0 : w3.cell? ⟨w.heap.size + 1, 0, none⟩ = some (.int .i64 0) := (hc3 _ _ (by simp; omega)).trans ((World.cell?_alloc_lt _ _ _ (by show _ < w2.heap.size; simp only []; omega)).trans ((hc2 _ _ (by omega)).trans ((hc _ _ (by simp)).trans (by simp)))); have y1 : w3.cell? ⟨w.heap.size + 1, 1, none⟩ = some (.int .i64 0) := (hc3 _ _ (by simp; omega)).trans ((World.cell?_alloc_lt _ _ _ (by show _ < w2.heap.size; simp only []; omega)).trans ((hc2 _ _ (by omega)).trans ((hc _ _ (by simp)).trans (by simp)))); have y2 : w3.cell? ⟨w.heap.size + 1, 2, none⟩ = some (.slice none 0 0) := (hc3 _ _ (by simp; omega)).trans ((World.cell?_alloc_lt _ _ _ (by show _ < w2.heap.size; simp only []; omega)).trans ((hc2 _ _ (by omega)).trans ((hc _ _ (by simp)).trans (by simp))))))
      refine bodyPost_ret (v := .tuple #[.agg #[.int .i64 (a0_0 * a1), .int .i64 a0_1, .slice A L.length c], .bool true]) (by simp [results, Try.results21, go_sem, y0, y1, y2, hz3]) rfl ⟨.slice A L.length c, rfl, ?_, ?_⟩
      · refine Kd.R_lower (R_old (R_old (R_old hR ?_ _) ?_ _) ?_ _) ?_ <;> (first | omega | (simp; done) | (simp <;> omega))
      · exact (((((((((Below.refl _ w).alloc (Nat.le_refl _) _).alloc (by simp) _).trans (hb.mono (by first | omega | (simp; done) | (simp <;> omega)))).trans (hb2.mono (by omega))).alloc (by omega) _).trans (hb3.mono (by first | omega | (simp; done) | (simp <;> omega)))).setCell (by first | omega | (simp; done) | (simp <;> omega)) _).setCell (by first | omega | (simp; done) | (simp <;> omega)) _).setCell (by first | omega | (simp; done) | (simp <;> omega)) _


end Go.Proofs.Ytfpnhkdoopmbjaa.G
