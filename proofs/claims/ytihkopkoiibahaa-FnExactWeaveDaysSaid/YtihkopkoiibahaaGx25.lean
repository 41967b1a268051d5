-- Printed by a program of this session (wip/tools/gp.sh); Lean checks it.
import Derived.Test.YtihkopkoiibahaaGx0
import Derived.Test.YtihkopkoiibahaaGx1
import Derived.Test.YtihkopkoiibahaaGx16
import Derived.Test.YtihkopkoiibahaaGx24
namespace Go.Proofs.Ytihkopkoiibahaa.G
open Go.RowKit Go.Proofs.YtihkopkoiibahaaW.PrintWords Go.Proofs.YtihkopkoiibahaaW.PrintLast Go.Proofs.YtihkopkoiibahaaW.PrintMore
attribute [local go_sem] isSome_setCell_ max2_int min2_int max_two min_two max_three min_three max_four min_four   -- for this text's walks alone
set_option linter.unusedVariables false
set_option linter.unusedSimpArgs false

/-! ### impl_WeaveDays: function 34 -/
def impl_WeaveDays.j0 : Nat → List (S25) → Int → Int → Bool → Option ((List (S25)) × Int × Bool)
  | 0, _, _, _, _ => none
  | k + 1, x0, x2, x9, x31 => if x31 = true then (some (([] : List (S25)), 0, false)) else (if 0 ≤ x9 then (if x9 < (x0.length : Int) then ((impl_Loom_daysLeft.f ((rd_T25 x0 x9).f0) ((rd_T25 x0 x9).f1) ((rd_T25 x0 x9).f2) ((rd_T25 x0 x9).f3) ((rd_T25 x0 x9).f4)).bind fun t466 => (if (mn x2 t466) < x2 then ((impl_withLoom.f k x0 x9 ((rd_T25 x0 x9).f0) ((rd_T25 x0 x9).f1) ((rd_T25 x0 x9).f2) (wrap64 (((rd_T25 x0 x9).f3) - (wrap64 (3 * (mn x2 t466))))) 3).bind fun bt467 => (some (bt467.1, mn x2 t466, bt467.2))) else ((impl_withLoom.f k x0 x9 ((rd_T25 x0 x9).f0) ((rd_T25 x0 x9).f1) ((rd_T25 x0 x9).f2) (wrap64 (((rd_T25 x0 x9).f3) - (wrap64 (3 * (mn x2 t466))))) ((rd_T25 x0 x9).f4)).bind fun bt471 => (some (bt471.1, mn x2 t466, bt471.2))))) else (none)) else (none))
def impl_WeaveDays.f (k : Nat) (l0 : List (S25)) (a1 : Int) (a2 : Int) : Option ((List (S25)) × Int × Bool) := (impl_findLoom.f k l0 a1).bind fun t461 => (if t461 < 0 then (impl_WeaveDays.j0 k l0 a2 t461 true) else (if 0 ≤ t461 then (if t461 < (l0.length : Int) then (if ((rd_T25 l0 t461).f4) = 2 then ((impl_in.f a2 0 200).bind fun t463 => (impl_WeaveDays.j0 k l0 a2 t461 (!t463))) else (impl_WeaveDays.j0 k l0 a2 t461 true)) else (none)) else (none)))
theorem impl_WeaveDays.mono_l : ∀ k, (∀ y0 y1 y2 y3, LeO (impl_WeaveDays.j0 k y0 y1 y2 y3) (impl_WeaveDays.j0 (k + 1) y0 y1 y2 y3))
  | 0 => fun _ _ _ _ r h => by simp [impl_WeaveDays.j0] at h
  | k + 1 => by
    have ih0 := impl_WeaveDays.mono_l k
    · intro y0 y1 y2 y3
      unfold impl_WeaveDays.j0
      repeat' first
      | (with_reducible exact ih0 _ _ _ _)
      | (with_reducible exact impl_findLoom.mono _ _ _)
      | (with_reducible exact impl_withLoom.mono _ _ _ _ _ _ _ _)
      | (with_reducible exact LeO.refl _)
      | (with_reducible exact LeO.none _)
      | (with_reducible refine LeO.ite ?_ ?_)
      | (with_reducible refine LeO.bind ?_ (fun _ => ?_))
      | exact ih0 _ _ _ _
      | exact impl_findLoom.mono _ _ _
      | exact impl_withLoom.mono _ _ _ _ _ _ _ _
      | exact LeO.none _
      | refine LeO.ite ?_ ?_
      | refine LeO.bind ?_ (fun _ => ?_)
theorem impl_WeaveDays.mono : ∀ a0 a1 a2 k, LeO (impl_WeaveDays.f k a0 a1 a2) (impl_WeaveDays.f (k + 1) a0 a1 a2) := by
  intro a0 a1 a2 k
  have ih0 := impl_WeaveDays.mono_l k
  unfold impl_WeaveDays.f
  repeat' first
      | (with_reducible exact ih0 _ _ _ _)
      | (with_reducible exact impl_findLoom.mono _ _ _)
      | (with_reducible exact impl_withLoom.mono _ _ _ _ _ _ _ _)
      | (with_reducible exact LeO.refl _)
      | (with_reducible exact LeO.none _)
      | (with_reducible refine LeO.ite ?_ ?_)
      | (with_reducible refine LeO.bind ?_ (fun _ => ?_))
      | exact ih0 _ _ _ _
      | exact impl_findLoom.mono _ _ _
      | exact impl_withLoom.mono _ _ _ _ _ _ _ _
      | exact LeO.none _
      | refine LeO.ite ?_ ?_
      | refine LeO.bind ?_ (fun _ => ?_)
set_option maxHeartbeats 8000000 in
set_option maxRecDepth 100000 in
theorem impl_WeaveDays.calls (k : Nat) (A0 : Option Addr) (c0 : Nat) (l0 : List (S25)) (a1 : Int) (a2 : Int) (r1 : List (S25)) (r2 : Int) (r3 : Bool) (w : World) (hr0 : Kd.C k25 w A0 l0.length l0) (hc0 : l0.length ≤ c0) (h : impl_WeaveDays.f k l0 a1 a2 = some (r1, r2, r3)) :
    Calls Try.prog 34 #[.slice A0 l0.length c0, .int .i64 a1, .int .i64 a2] w fun e w' => ∃ v0_ : Value, e = .returned (.tuple #[v0_, .int .i64 r2, .bool r3]) ∧ Kd.R k25 25 w' w.heap.size (fun _ => True) v0_ r1 ∧ Below w.heap.size w w' := by
  have hu25 := Try.underlying25
  have HR0 := Aside0.mk hr0
  have HC0 := Aside0.mk hc0
  clear hr0 hc0
  have HB := Aside0.mk (Below.refl w.heap.size w)
  have H : ((impl_findLoom.f k l0 a1).bind fun t461 => (if t461 < 0 then (impl_WeaveDays.j0 k l0 a2 t461 true) else (if 0 ≤ t461 then (if t461 < (l0.length : Int) then (if ((rd_T25 l0 t461).f4) = 2 then ((impl_in.f a2 0 200).bind fun t463 => (impl_WeaveDays.j0 k l0 a2 t461 (!t463))) else (impl_WeaveDays.j0 k l0 a2 t461 true)) else (none)) else (none)))) = some (r1, r2, r3) := h
  clear h
  replace H := Option.bind_eq_some_iff.mp H
  obtain ⟨t461, A40, H⟩ := H
  replace H : (if t461 < 0 then (impl_WeaveDays.j0 k l0 a2 t461 true) else (if 0 ≤ t461 then (if t461 < (l0.length : Int) then (if ((rd_T25 l0 t461).f4) = 2 then ((impl_in.f a2 0 200).bind fun t463 => (impl_WeaveDays.j0 k l0 a2 t461 (!t463))) else (impl_WeaveDays.j0 k l0 a2 t461 true)) else (none)) else (none))) = some (r1, r2, r3) := H
  have A4 := Aside0.mk A40
  clear A40
  have HC5 := Aside0.mk H
  clear H
  go_enter Try.func34, Try.ntmps34
  go_upto_region 2 with (first | ((with_reducible refine gate_callee (f := 56) rfl ?_); refine goesL_ (some 16) rfl rfl Try.func56 (by kernel_rfl) rfl #[.slice A0 l0.length c0, .int .i64 a1] rfl (by (try simp only [List.map_toArray, List.map_cons, List.map_nil]); first | done | rfl | (simp only [List.length_drop, List.length_take]; rfl)) ?_; (with_reducible refine (impl_findLoom.calls k _ _ l0 a1 t461 _ ?side1 ?side2 A4.out).mono ?_); (case side1 => repeat (first | exact HR0.out | (with_reducible refine Kd.C_alloc ?_ _) | (with_reducible refine Kd.C_drewN ?_ _) | (with_reducible refine Kd.C_drew ?_))); (case side2 => exact HC0.out); rintro e w6 ⟨rfl, hb⟩; refine ⟨_, rfl, ?_⟩; have n0_ := Aside0.mk (below_step (by repeat (first | (with_reducible first | exact HB.out | apply below_alloc | apply pw_below_drewN | apply below_drew1) | exact HB.out)) hb); clear HB; have HB := n0_; clear n0_; (try clear hb); (try clear hb2); (try clear hk); (try clear hi)))
  (try simp only [Act.put, List.setIfInBounds_toArray, List.set_cons_zero, List.set_cons_succ])
  go_cut [31] (fun v31 wc => ∃ (kq : Nat) (x31_4 : Bool), v31 = .bool x31_4 ∧ Aside0 (impl_WeaveDays.j0 kq l0 a2 t461 x31_4 = some (r1, r2, r3)) ∧ Aside0 (kq ≤ k) ∧ Aside0 (Below w.heap.size w wc))
  case first =>
    have H := HC5.out
    clear HC5
    by_cases c7 : t461 < 0
    · rw [if_pos c7] at H
      have c7b0 : decide (t461 < 0) = true := decide_eq_true c7
      clear c7
      (first | rw [c7b0] | (simp only [i64_w, i32_w]; rw [c7b0]) | skip)
      have H' := Aside0.mk H
      clear H
      go_wp2
      go_meet
      case rel => exact ⟨_, (true), (by first | rfl | (simp; done) | (simp [*]; done)), H', ⟨by first | omega | exact Nat.le_refl _⟩, ⟨by repeat (first | (with_reducible first | exact HB.out | apply below_alloc | apply pw_below_drewN | apply below_drew1) | exact HB.out)⟩⟩
    · rw [if_neg c7] at H
      have c7b0 : decide (t461 < 0) = false := decide_eq_false c7
      clear c7
      (first | rw [c7b0] | (simp only [i64_w, i32_w]; rw [c7b0]) | skip)
      by_cases c8 : 0 ≤ t461
      · rw [if_pos c8] at H
        have c8b0 : decide (0 ≤ t461) = true := decide_eq_true c8
        clear c8
        by_cases c9 : t461 < (l0.length : Int)
        · rw [if_pos c9] at H
          have c9b0 : decide (t461 < (l0.length : Int)) = true := decide_eq_true c9
          clear c9
          by_cases c10 : ((rd_T25 l0 t461).f4) = 2
          · rw [if_pos c10] at H
            have c10b0 : (((rd_T25 l0 t461).f4) == 2) = true := beq_iff_eq.mpr c10
            have c10b1 : (((rd_T25 l0 t461).f4) != 2) = false := bne_eq_false_iff_eq.mpr c10
            clear c10
            replace H := Option.bind_eq_some_iff.mp H
            obtain ⟨t463, A110, H⟩ := H
            replace H : (impl_WeaveDays.j0 k l0 a2 t461 (!t463)) = some (r1, r2, r3) := H
            have A11 := Aside0.mk A110
            clear A110
            have H' := Aside0.mk H
            clear H
            have p462 : 0 ≤ (t461 : Int) := of_decide_eq_true (by first | (with_reducible assumption) | assumption)
            have q462 : t461 < (l0.length : Int) := of_decide_eq_true (by first | (with_reducible assumption) | assumption)
            obtain ⟨ad462, e462, hx462_0, hx462_1, hx462_2, hx462_3, hx462_4⟩ := at_T25 HR0.out t461 p462 q462
            cases e462
            replace hx462_0 := (HB.out.cell (World.block_lt_of_cell? w _ hx462_0)).trans hx462_0
            replace hx462_1 := (HB.out.cell (World.block_lt_of_cell? w _ hx462_1)).trans hx462_1
            replace hx462_2 := (HB.out.cell (World.block_lt_of_cell? w _ hx462_2)).trans hx462_2
            replace hx462_3 := (HB.out.cell (World.block_lt_of_cell? w _ hx462_3)).trans hx462_3
            replace hx462_4 := (HB.out.cell (World.block_lt_of_cell? w _ hx462_4)).trans hx462_4
            replace p462 := eq_true p462
            replace q462 := eq_true q462
            go_wp2_with (first | (go_at_call 42; (with_reducible refine (impl_in.calls a2 0 200 t463 _ A11.out).mono ?_); rintro e w' ⟨rfl, ⟨nd, rfl⟩⟩))
            go_meet
            case rel => exact ⟨_, (!t463), (by first | rfl | (simp; done) | (simp [*]; done)), H', ⟨by first | omega | exact Nat.le_refl _⟩, ⟨by repeat (first | (with_reducible first | exact HB.out | apply below_alloc | apply pw_below_drewN | apply below_drew1) | exact HB.out)⟩⟩
          · rw [if_neg c10] at H
            have c10b0 : (((rd_T25 l0 t461).f4) == 2) = false := beq_eq_false_iff_ne.mpr c10
            have c10b1 : (((rd_T25 l0 t461).f4) != 2) = true := bne_iff_ne.mpr c10
            have H' := Aside0.mk H
            clear H
            have p462 : 0 ≤ (t461 : Int) := of_decide_eq_true (by first | (with_reducible assumption) | assumption)
            have q462 : t461 < (l0.length : Int) := of_decide_eq_true (by first | (with_reducible assumption) | assumption)
            obtain ⟨ad462, e462, hx462_0, hx462_1, hx462_2, hx462_3, hx462_4⟩ := at_T25 HR0.out t461 p462 q462
            cases e462
            replace hx462_0 := (HB.out.cell (World.block_lt_of_cell? w _ hx462_0)).trans hx462_0
            replace hx462_1 := (HB.out.cell (World.block_lt_of_cell? w _ hx462_1)).trans hx462_1
            replace hx462_2 := (HB.out.cell (World.block_lt_of_cell? w _ hx462_2)).trans hx462_2
            replace hx462_3 := (HB.out.cell (World.block_lt_of_cell? w _ hx462_3)).trans hx462_3
            replace hx462_4 := (HB.out.cell (World.block_lt_of_cell? w _ hx462_4)).trans hx462_4
            replace p462 := eq_true p462
            replace q462 := eq_true q462
            go_wp2
            go_meet
            case rel => exact ⟨_, (true), (by first | rfl | (simp; done) | (simp [*]; done)), H', ⟨by first | omega | exact Nat.le_refl _⟩, ⟨by repeat (first | (with_reducible first | exact HB.out | apply below_alloc | apply pw_below_drewN | apply below_drew1) | exact HB.out)⟩⟩
        · rw [if_neg c9] at H
          exact absurd H (by simp)
      · rw [if_neg c8] at H
        exact absurd H (by simp)
  case rest =>
    clear HC5
    try clear c1
    try clear p2
    try clear c3
    try clear p4
    try clear q4
    try clear hx4
    try clear c5
    try clear c7
    try clear c7b0
    try clear c8
    try clear c8b0
    try clear c9
    try clear c9b0
    try clear c10
    try clear c10b0
    try clear c10b1
    try clear hx462_0
    try clear hx462_1
    try clear hx462_2
    try clear hx462_3
    try clear hx462_4
    try clear p462
    try clear q462
    obtain ⟨kq, x31_4, rfl, HA, HJ4, HB⟩ := hcut
    cases kq with
    | zero => exact absurd HA.out (by simp [impl_WeaveDays.j0])
    | succ kj4 =>
      have H := HA.out
      clear HA
      simp only [impl_WeaveDays.j0] at H
      by_cases c12 : x31_4 = true
      · subst c12
        have H1 : (some (([] : List (S25)), 0, false)) = some (r1, r2, r3) := by rw [if_pos rfl] at H; exact H
        clear H
        have H := H1
        clear H1
        simp only [Option.some.injEq, Prod.mk.injEq] at H
        obtain ⟨rfl, rfl, rfl⟩ := H
        go_wp2
        go_ret3
        exact ⟨_, by first | rfl | (simp [errW_none, errW_some] <;> rfl) | (simp [*, errW_none, errW_some] <;> rfl), by first | exact Kd.R_nil _ _ _ _ _ | exact Kd.N_nil _ _ _ _ _ | exact Kd.V_nil _ _ _ _ _ | exact Kd.Q_nil _ _ _ _ _ | exact Kd.S_nil _ _ _ _ _, by repeat (first | (with_reducible first | exact HB.out | apply below_alloc | apply pw_below_drewN | apply below_drew1) | exact HB.out)⟩
      · replace c12 := Bool.eq_false_iff.mpr c12
        subst c12
        have H1 : (if 0 ≤ t461 then (if t461 < (l0.length : Int) then ((impl_Loom_daysLeft.f ((rd_T25 l0 t461).f0) ((rd_T25 l0 t461).f1) ((rd_T25 l0 t461).f2) ((rd_T25 l0 t461).f3) ((rd_T25 l0 t461).f4)).bind fun t466 => (if (mn a2 t466) < a2 then ((impl_withLoom.f kj4 l0 t461 ((rd_T25 l0 t461).f0) ((rd_T25 l0 t461).f1) ((rd_T25 l0 t461).f2) (wrap64 (((rd_T25 l0 t461).f3) - (wrap64 (3 * (mn a2 t466))))) 3).bind fun bt467 => (some (bt467.1, mn a2 t466, bt467.2))) else ((impl_withLoom.f kj4 l0 t461 ((rd_T25 l0 t461).f0) ((rd_T25 l0 t461).f1) ((rd_T25 l0 t461).f2) (wrap64 (((rd_T25 l0 t461).f3) - (wrap64 (3 * (mn a2 t466))))) ((rd_T25 l0 t461).f4)).bind fun bt471 => (some (bt471.1, mn a2 t466, bt471.2))))) else (none)) else (none)) = some (r1, r2, r3) := by rw [if_neg (show ¬ (false = true) by decide)] at H; exact H
        clear H
        have H := H1
        clear H1
        by_cases c13 : 0 ≤ t461
        · rw [if_pos c13] at H
          have c13b0 : decide (0 ≤ t461) = true := decide_eq_true c13
          clear c13
          by_cases c14 : t461 < (l0.length : Int)
          · rw [if_pos c14] at H
            have c14b0 : decide (t461 < (l0.length : Int)) = true := decide_eq_true c14
            clear c14
            replace H := Option.bind_eq_some_iff.mp H
            obtain ⟨t466, A150, H⟩ := H
            replace H : (if (mn a2 t466) < a2 then ((impl_withLoom.f kj4 l0 t461 ((rd_T25 l0 t461).f0) ((rd_T25 l0 t461).f1) ((rd_T25 l0 t461).f2) (wrap64 (((rd_T25 l0 t461).f3) - (wrap64 (3 * (mn a2 t466))))) 3).bind fun bt467 => (some (bt467.1, mn a2 t466, bt467.2))) else ((impl_withLoom.f kj4 l0 t461 ((rd_T25 l0 t461).f0) ((rd_T25 l0 t461).f1) ((rd_T25 l0 t461).f2) (wrap64 (((rd_T25 l0 t461).f3) - (wrap64 (3 * (mn a2 t466))))) ((rd_T25 l0 t461).f4)).bind fun bt471 => (some (bt471.1, mn a2 t466, bt471.2)))) = some (r1, r2, r3) := H
            have A15 := Aside0.mk A150
            clear A150
            obtain ⟨ji16, hji16⟩ : ∃ j_ : Int, (mn a2 t466) = j_ := ⟨_, rfl⟩
            replace H : (if (ji16) < a2 then ((impl_withLoom.f kj4 l0 t461 ((rd_T25 l0 t461).f0) ((rd_T25 l0 t461).f1) ((rd_T25 l0 t461).f2) (wrap64 (((rd_T25 l0 t461).f3) - (wrap64 (3 * (ji16))))) 3).bind fun bt467 => (some (bt467.1, ji16, bt467.2))) else ((impl_withLoom.f kj4 l0 t461 ((rd_T25 l0 t461).f0) ((rd_T25 l0 t461).f1) ((rd_T25 l0 t461).f2) (wrap64 (((rd_T25 l0 t461).f3) - (wrap64 (3 * (ji16))))) ((rd_T25 l0 t461).f4)).bind fun bt471 => (some (bt471.1, ji16, bt471.2)))) = some (r1, r2, r3) := by first | (rw [hji16] at H; exact H) | (simp only [hji16] at H ⊢; exact H)
            (try rw [hji16] at A15)
            have hji16_ : (if t466 < a2 then t466 else a2) = ji16 := hji16
            by_cases c17 : (ji16) < a2
            · rw [if_pos c17] at H
              have c17b0 : decide ((ji16) < a2) = true := decide_eq_true c17
              clear c17
              replace H := Option.bind_eq_some_iff.mp H
              obtain ⟨⟨t467, t470⟩, A180, H⟩ := H
              replace H : (some (t467, ji16, t470)) = some (r1, r2, r3) := H
              have A18 := Aside0.mk A180
              clear A180
              simp only [Option.some.injEq, Prod.mk.injEq] at H
              obtain ⟨rfl, rfl, rfl⟩ := H
              have p464 : 0 ≤ (t461 : Int) := of_decide_eq_true (by first | (with_reducible assumption) | assumption)
              have q464 : t461 < (l0.length : Int) := of_decide_eq_true (by first | (with_reducible assumption) | assumption)
              obtain ⟨ad464, e464, hx464_0, hx464_1, hx464_2, hx464_3, hx464_4⟩ := at_T25 HR0.out t461 p464 q464
              cases e464
              replace hx464_0 := (HB.out.cell (World.block_lt_of_cell? w _ hx464_0)).trans hx464_0
              replace hx464_1 := (HB.out.cell (World.block_lt_of_cell? w _ hx464_1)).trans hx464_1
              replace hx464_2 := (HB.out.cell (World.block_lt_of_cell? w _ hx464_2)).trans hx464_2
              replace hx464_3 := (HB.out.cell (World.block_lt_of_cell? w _ hx464_3)).trans hx464_3
              replace hx464_4 := (HB.out.cell (World.block_lt_of_cell? w _ hx464_4)).trans hx464_4
              replace p464 := eq_true p464
              replace q464 := eq_true q464
              go_wp2_with (first | ((with_reducible refine gate_dst (N := 10) rfl ?_); refine box_event ?hg (N := 10) ?hd (cs := #[.int .i64 0, .int .i64 0, .int .i64 0, .int .i64 0, .int .i64 0]) (t := 25) ?hr ?_; (case hd => rfl); (case hg => rfl); (case hr => first | (go_simp; done) | (go_simp; rfl)); intro gb465 hg w19 hbox hb; have n0_ := Aside0.mk (below_step (by repeat (first | (with_reducible first | exact HB.out | apply below_alloc | apply pw_below_drewN | apply below_drew1) | exact HB.out)) hb); have n1_ := Aside0.mk (hbox); have n2_ := Aside0.mk ((by rw [hg]; exact (below_size (by repeat (first | (with_reducible first | exact HB.out | apply below_alloc | apply pw_below_drewN | apply below_drew1) | exact HB.out))) : w.heap.size ≤ gb465)); have n3_ := Aside0.mk ((by rw [hg]; exact (below_size (by repeat (first | (with_reducible first | exact HB.out | apply below_alloc | apply pw_below_drewN | apply below_drew1) | exact HB.out))) : w.heap.size ≤ gb465)); clear HB; have HB := n0_; have BK465 := n1_; have GW465 := n2_; have GE465 := n3_; clear n0_ n1_ n2_ n3_; clear hb hbox hg; have hcz20_0 : w19.cell? ⟨gb465, 0, none⟩ = some (.int .i64 0) := (blk_cell BK465.out 0).trans rfl; have hcz20_1 : w19.cell? ⟨gb465, 1, none⟩ = some (.int .i64 0) := (blk_cell BK465.out 1).trans rfl; have hcz20_2 : w19.cell? ⟨gb465, 2, none⟩ = some (.int .i64 0) := (blk_cell BK465.out 2).trans rfl; have hcz20_3 : w19.cell? ⟨gb465, 3, none⟩ = some (.int .i64 0) := (blk_cell BK465.out 3).trans rfl; have hcz20_4 : w19.cell? ⟨gb465, 4, none⟩ = some (.int .i64 0) := (blk_cell BK465.out 4).trans rfl; have hfz20_0 := blk_frozen BK465.out 0; have hfz20_1 := blk_frozen BK465.out 1; have hfz20_2 := blk_frozen BK465.out 2; have hfz20_3 := blk_frozen BK465.out 3; have hfz20_4 := blk_frozen BK465.out 4) | ((with_reducible refine gate_callee (f := 62) rfl ?_); refine goesL_ (some 38) rfl rfl Try.func62 (by kernel_rfl) rfl #[.agg #[.int .i64 ((rd_T25 l0 t461).f0), .int .i64 ((rd_T25 l0 t461).f1), .int .i64 ((rd_T25 l0 t461).f2), .int .i64 ((rd_T25 l0 t461).f3), .int .i64 ((rd_T25 l0 t461).f4)]] rfl (by (try simp only [List.map_toArray, List.map_cons, List.map_nil]); first | done | rfl | (simp only [List.length_drop, List.length_take]; rfl)) ?_; (with_reducible refine (impl_Loom_daysLeft.calls ((rd_T25 l0 t461).f0) ((rd_T25 l0 t461).f1) ((rd_T25 l0 t461).f2) ((rd_T25 l0 t461).f3) ((rd_T25 l0 t461).f4) t466 _ A15.out).mono ?_); rintro e w21 ⟨rfl, hb⟩; refine ⟨_, rfl, ?_⟩; have n0_ := Aside0.mk (blk_below (g := gb465) (o := .cells #[.int .i64 ((rd_T25 l0 t461).f0), .int .i64 ((rd_T25 l0 t461).f1), .int .i64 ((rd_T25 l0 t461).f2), .int .i64 ((rd_T25 l0 t461).f3), .int .i64 ((rd_T25 l0 t461).f4)] 25 (0, 0)) (by (with_reducible repeat (first | refine blk_drewN ?_ _ | refine blk_drew ?_ | refine blk_alloc ?_ _)); refine blk_put (cs := #[.int .i64 ((rd_T25 l0 t461).f0), .int .i64 ((rd_T25 l0 t461).f1), .int .i64 ((rd_T25 l0 t461).f2), .int .i64 ((rd_T25 l0 t461).f3), .int .i64 0]) ?_ 4 _ rfl; (with_reducible repeat (first | refine blk_drewN ?_ _ | refine blk_drew ?_ | refine blk_alloc ?_ _)); refine blk_put (cs := #[.int .i64 ((rd_T25 l0 t461).f0), .int .i64 ((rd_T25 l0 t461).f1), .int .i64 ((rd_T25 l0 t461).f2), .int .i64 0, .int .i64 0]) ?_ 3 _ rfl; (with_reducible repeat (first | refine blk_drewN ?_ _ | refine blk_drew ?_ | refine blk_alloc ?_ _)); refine blk_put (cs := #[.int .i64 ((rd_T25 l0 t461).f0), .int .i64 ((rd_T25 l0 t461).f1), .int .i64 0, .int .i64 0, .int .i64 0]) ?_ 2 _ rfl; (with_reducible repeat (first | refine blk_drewN ?_ _ | refine blk_drew ?_ | refine blk_alloc ?_ _)); refine blk_put (cs := #[.int .i64 ((rd_T25 l0 t461).f0), .int .i64 0, .int .i64 0, .int .i64 0, .int .i64 0]) ?_ 1 _ rfl; (with_reducible repeat (first | refine blk_drewN ?_ _ | refine blk_drew ?_ | refine blk_alloc ?_ _)); refine blk_put (cs := #[.int .i64 0, .int .i64 0, .int .i64 0, .int .i64 0, .int .i64 0]) ?_ 0 _ rfl; (with_reducible repeat (first | refine blk_drewN ?_ _ | refine blk_drew ?_ | refine blk_alloc ?_ _)); exact BK465.out) hb); have n1_ := Aside0.mk (below_step (by repeat (first | (with_reducible first | exact HB.out | apply below_alloc | apply pw_below_drewN | apply below_drew1 | refine below_set ?_ GE465.out) | exact HB.out)) hb); clear BK465; clear HB; have BK465 := n0_; have HB := n1_; clear n0_ n1_; (try clear hb); (try clear hb2); (try clear hk); (try clear hi); have hcz22_0 : w21.cell? ⟨gb465, 0, none⟩ = some (.int .i64 ((rd_T25 l0 t461).f0)) := (blk_cell BK465.out 0).trans rfl; have hcz22_1 : w21.cell? ⟨gb465, 1, none⟩ = some (.int .i64 ((rd_T25 l0 t461).f1)) := (blk_cell BK465.out 1).trans rfl; have hcz22_2 : w21.cell? ⟨gb465, 2, none⟩ = some (.int .i64 ((rd_T25 l0 t461).f2)) := (blk_cell BK465.out 2).trans rfl; have hcz22_3 : w21.cell? ⟨gb465, 3, none⟩ = some (.int .i64 ((rd_T25 l0 t461).f3)) := (blk_cell BK465.out 3).trans rfl; have hcz22_4 : w21.cell? ⟨gb465, 4, none⟩ = some (.int .i64 ((rd_T25 l0 t461).f4)) := (blk_cell BK465.out 4).trans rfl; have hfz22_0 := blk_frozen BK465.out 0; have hfz22_1 := blk_frozen BK465.out 1; have hfz22_2 := blk_frozen BK465.out 2; have hfz22_3 := blk_frozen BK465.out 3; have hfz22_4 := blk_frozen BK465.out 4) | ((with_reducible refine gate_callee (f := 57) rfl ?_); refine goesL_ (some 54) rfl rfl Try.func57 (by kernel_rfl) rfl #[.slice (some ad464) l0.length c0, .int .i64 t461, .agg #[.int .i64 ((rd_T25 l0 t461).f0), .int .i64 ((rd_T25 l0 t461).f1), .int .i64 ((rd_T25 l0 t461).f2), .int .i64 (wrap64 (((rd_T25 l0 t461).f3) - (wrap64 (3 * (ji16))))), .int .i64 3]] rfl (by (try simp only [List.map_toArray, List.map_cons, List.map_nil]); first | done | (simp only [hji16]; rfl) | rfl | (simp only [List.length_drop, List.length_take]; rfl)) ?_; (with_reducible refine (impl_withLoom.calls kj4 _ _ l0 t461 ((rd_T25 l0 t461).f0) ((rd_T25 l0 t461).f1) ((rd_T25 l0 t461).f2) (wrap64 (((rd_T25 l0 t461).f3) - (wrap64 (3 * (ji16))))) 3 t467 t470 _ ?side1 ?side2 A18.out).mono ?_); (case side1 => exact Kd.C_below HR0.out (by repeat (first | (with_reducible first | exact HB.out | apply below_alloc | apply pw_below_drewN | apply below_drew1 | refine below_set ?_ GE465.out) | exact HB.out))); (case side2 => exact HC0.out); rintro e w23 ⟨v468, rfl, ho0, hb⟩; refine ⟨_, rfl, ?_⟩; have n0_ := Aside0.mk (Kd.R_lower (Kd.R_newB ho0 (g := gb465) (o := .cells #[.int .i64 ((rd_T25 l0 t461).f0), .int .i64 ((rd_T25 l0 t461).f1), .int .i64 ((rd_T25 l0 t461).f2), .int .i64 (wrap64 (((rd_T25 l0 t461).f3) - (wrap64 (3 * (ji16))))), .int .i64 3] 25 (0, 0)) (by (with_reducible repeat (first | refine blk_drewN ?_ _ | refine blk_drew ?_ | refine blk_alloc ?_ _)); refine blk_put (cs := #[.int .i64 ((rd_T25 l0 t461).f0), .int .i64 ((rd_T25 l0 t461).f1), .int .i64 ((rd_T25 l0 t461).f2), .int .i64 (wrap64 (((rd_T25 l0 t461).f3) - (wrap64 (3 * (ji16))))), .int .i64 ((rd_T25 l0 t461).f4)]) ?_ 4 _ rfl; (with_reducible repeat (first | refine blk_drewN ?_ _ | refine blk_drew ?_ | refine blk_alloc ?_ _)); refine blk_put (cs := #[.int .i64 ((rd_T25 l0 t461).f0), .int .i64 ((rd_T25 l0 t461).f1), .int .i64 ((rd_T25 l0 t461).f2), .int .i64 ((rd_T25 l0 t461).f3), .int .i64 ((rd_T25 l0 t461).f4)]) ?_ 3 _ rfl; (with_reducible repeat (first | refine blk_drewN ?_ _ | refine blk_drew ?_ | refine blk_alloc ?_ _)); exact BK465.out)) (below_size (by repeat (first | (with_reducible first | exact HB.out | apply below_alloc | apply pw_below_drewN | apply below_drew1 | refine below_set ?_ GE465.out) | exact HB.out)))); have n1_ := Aside0.mk (blk_below (g := gb465) (o := .cells #[.int .i64 ((rd_T25 l0 t461).f0), .int .i64 ((rd_T25 l0 t461).f1), .int .i64 ((rd_T25 l0 t461).f2), .int .i64 (wrap64 (((rd_T25 l0 t461).f3) - (wrap64 (3 * (ji16))))), .int .i64 3] 25 (0, 0)) (by (with_reducible repeat (first | refine blk_drewN ?_ _ | refine blk_drew ?_ | refine blk_alloc ?_ _)); refine blk_put (cs := #[.int .i64 ((rd_T25 l0 t461).f0), .int .i64 ((rd_T25 l0 t461).f1), .int .i64 ((rd_T25 l0 t461).f2), .int .i64 (wrap64 (((rd_T25 l0 t461).f3) - (wrap64 (3 * (ji16))))), .int .i64 ((rd_T25 l0 t461).f4)]) ?_ 4 _ rfl; (with_reducible repeat (first | refine blk_drewN ?_ _ | refine blk_drew ?_ | refine blk_alloc ?_ _)); refine blk_put (cs := #[.int .i64 ((rd_T25 l0 t461).f0), .int .i64 ((rd_T25 l0 t461).f1), .int .i64 ((rd_T25 l0 t461).f2), .int .i64 ((rd_T25 l0 t461).f3), .int .i64 ((rd_T25 l0 t461).f4)]) ?_ 3 _ rfl; (with_reducible repeat (first | refine blk_drewN ?_ _ | refine blk_drew ?_ | refine blk_alloc ?_ _)); exact BK465.out) hb); have n2_ := Aside0.mk (below_step (by repeat (first | (with_reducible first | exact HB.out | apply below_alloc | apply pw_below_drewN | apply below_drew1 | refine below_set ?_ GE465.out) | exact HB.out)) hb); clear BK465; clear HB; have HO469 := n0_; have BK465 := n1_; have HB := n2_; clear n0_ n1_ n2_; (try clear hb); (try clear hb2); (try clear hk); (try clear hi); (try clear ho0)))
              go_ret3
              exact ⟨_, by first | rfl | (simp [errW_none, errW_some] <;> rfl) | (simp only [← hji16]; first | rfl | (simp [errW_none, errW_some] <;> rfl)) | (simp [*, errW_none, errW_some] <;> rfl), by (with_reducible repeat (first | apply Kd.R_alloc | apply Kd.R_drewN | apply Kd.R_drew)); exact Kd.R_mono HO469.out (fun _ hk => trivial), by repeat (first | (with_reducible first | exact HB.out | apply below_alloc | apply pw_below_drewN | apply below_drew1 | refine below_set ?_ GE465.out) | exact HB.out)⟩
            · rw [if_neg c17] at H
              have c17b0 : decide ((ji16) < a2) = false := decide_eq_false c17
              clear c17
              replace H := Option.bind_eq_some_iff.mp H
              obtain ⟨⟨t471, t474⟩, A240, H⟩ := H
              replace H : (some (t471, ji16, t474)) = some (r1, r2, r3) := H
              have A24 := Aside0.mk A240
              clear A240
              simp only [Option.some.injEq, Prod.mk.injEq] at H
              obtain ⟨rfl, rfl, rfl⟩ := H
              have p464 : 0 ≤ (t461 : Int) := of_decide_eq_true (by first | (with_reducible assumption) | assumption)
              have q464 : t461 < (l0.length : Int) := of_decide_eq_true (by first | (with_reducible assumption) | assumption)
              obtain ⟨ad464, e464, hx464_0, hx464_1, hx464_2, hx464_3, hx464_4⟩ := at_T25 HR0.out t461 p464 q464
              cases e464
              replace hx464_0 := (HB.out.cell (World.block_lt_of_cell? w _ hx464_0)).trans hx464_0
              replace hx464_1 := (HB.out.cell (World.block_lt_of_cell? w _ hx464_1)).trans hx464_1
              replace hx464_2 := (HB.out.cell (World.block_lt_of_cell? w _ hx464_2)).trans hx464_2
              replace hx464_3 := (HB.out.cell (World.block_lt_of_cell? w _ hx464_3)).trans hx464_3
              replace hx464_4 := (HB.out.cell (World.block_lt_of_cell? w _ hx464_4)).trans hx464_4
              replace p464 := eq_true p464
              replace q464 := eq_true q464
              go_wp2_with (first | ((with_reducible refine gate_dst (N := 10) rfl ?_); refine box_event ?hg (N := 10) ?hd (cs := #[.int .i64 0, .int .i64 0, .int .i64 0, .int .i64 0, .int .i64 0]) (t := 25) ?hr ?_; (case hd => rfl); (case hg => rfl); (case hr => first | (go_simp; done) | (go_simp; rfl)); intro gb465 hg w25 hbox hb; have n0_ := Aside0.mk (below_step (by repeat (first | (with_reducible first | exact HB.out | apply below_alloc | apply pw_below_drewN | apply below_drew1) | exact HB.out)) hb); have n1_ := Aside0.mk (hbox); have n2_ := Aside0.mk ((by rw [hg]; exact (below_size (by repeat (first | (with_reducible first | exact HB.out | apply below_alloc | apply pw_below_drewN | apply below_drew1) | exact HB.out))) : w.heap.size ≤ gb465)); have n3_ := Aside0.mk ((by rw [hg]; exact (below_size (by repeat (first | (with_reducible first | exact HB.out | apply below_alloc | apply pw_below_drewN | apply below_drew1) | exact HB.out))) : w.heap.size ≤ gb465)); clear HB; have HB := n0_; have BK465 := n1_; have GW465 := n2_; have GE465 := n3_; clear n0_ n1_ n2_ n3_; clear hb hbox hg; have hcz26_0 : w25.cell? ⟨gb465, 0, none⟩ = some (.int .i64 0) := (blk_cell BK465.out 0).trans rfl; have hcz26_1 : w25.cell? ⟨gb465, 1, none⟩ = some (.int .i64 0) := (blk_cell BK465.out 1).trans rfl; have hcz26_2 : w25.cell? ⟨gb465, 2, none⟩ = some (.int .i64 0) := (blk_cell BK465.out 2).trans rfl; have hcz26_3 : w25.cell? ⟨gb465, 3, none⟩ = some (.int .i64 0) := (blk_cell BK465.out 3).trans rfl; have hcz26_4 : w25.cell? ⟨gb465, 4, none⟩ = some (.int .i64 0) := (blk_cell BK465.out 4).trans rfl; have hfz26_0 := blk_frozen BK465.out 0; have hfz26_1 := blk_frozen BK465.out 1; have hfz26_2 := blk_frozen BK465.out 2; have hfz26_3 := blk_frozen BK465.out 3; have hfz26_4 := blk_frozen BK465.out 4) | ((with_reducible refine gate_callee (f := 62) rfl ?_); refine goesL_ (some 38) rfl rfl Try.func62 (by kernel_rfl) rfl #[.agg #[.int .i64 ((rd_T25 l0 t461).f0), .int .i64 ((rd_T25 l0 t461).f1), .int .i64 ((rd_T25 l0 t461).f2), .int .i64 ((rd_T25 l0 t461).f3), .int .i64 ((rd_T25 l0 t461).f4)]] rfl (by (try simp only [List.map_toArray, List.map_cons, List.map_nil]); first | done | rfl | (simp only [List.length_drop, List.length_take]; rfl)) ?_; (with_reducible refine (impl_Loom_daysLeft.calls ((rd_T25 l0 t461).f0) ((rd_T25 l0 t461).f1) ((rd_T25 l0 t461).f2) ((rd_T25 l0 t461).f3) ((rd_T25 l0 t461).f4) t466 _ A15.out).mono ?_); rintro e w27 ⟨rfl, hb⟩; refine ⟨_, rfl, ?_⟩; have n0_ := Aside0.mk (blk_below (g := gb465) (o := .cells #[.int .i64 ((rd_T25 l0 t461).f0), .int .i64 ((rd_T25 l0 t461).f1), .int .i64 ((rd_T25 l0 t461).f2), .int .i64 ((rd_T25 l0 t461).f3), .int .i64 ((rd_T25 l0 t461).f4)] 25 (0, 0)) (by (with_reducible repeat (first | refine blk_drewN ?_ _ | refine blk_drew ?_ | refine blk_alloc ?_ _)); refine blk_put (cs := #[.int .i64 ((rd_T25 l0 t461).f0), .int .i64 ((rd_T25 l0 t461).f1), .int .i64 ((rd_T25 l0 t461).f2), .int .i64 ((rd_T25 l0 t461).f3), .int .i64 0]) ?_ 4 _ rfl; (with_reducible repeat (first | refine blk_drewN ?_ _ | refine blk_drew ?_ | refine blk_alloc ?_ _)); refine blk_put (cs := #[.int .i64 ((rd_T25 l0 t461).f0), .int .i64 ((rd_T25 l0 t461).f1), .int .i64 ((rd_T25 l0 t461).f2), .int .i64 0, .int .i64 0]) ?_ 3 _ rfl; (with_reducible repeat (first | refine blk_drewN ?_ _ | refine blk_drew ?_ | refine blk_alloc ?_ _)); refine blk_put (cs := #[.int .i64 ((rd_T25 l0 t461).f0), .int .i64 ((rd_T25 l0 t461).f1), .int .i64 0, .int .i64 0, .int .i64 0]) ?_ 2 _ rfl; (with_reducible repeat (first | refine blk_drewN ?_ _ | refine blk_drew ?_ | refine blk_alloc ?_ _)); refine blk_put (cs := #[.int .i64 ((rd_T25 l0 t461).f0), .int .i64 0, .int .i64 0, .int .i64 0, .int .i64 0]) ?_ 1 _ rfl; (with_reducible repeat (first | refine blk_drewN ?_ _ | refine blk_drew ?_ | refine blk_alloc ?_ _)); refine blk_put (cs := #[.int .i64 0, .int .i64 0, .int .i64 0, .int .i64 0, .int .i64 0]) ?_ 0 _ rfl; (with_reducible repeat (first | refine blk_drewN ?_ _ | refine blk_drew ?_ | refine blk_alloc ?_ _)); exact BK465.out) hb); have n1_ := Aside0.mk (below_step (by repeat (first | (with_reducible first | exact HB.out | apply below_alloc | apply pw_below_drewN | apply below_drew1 | refine below_set ?_ GE465.out) | exact HB.out)) hb); clear BK465; clear HB; have BK465 := n0_; have HB := n1_; clear n0_ n1_; (try clear hb); (try clear hb2); (try clear hk); (try clear hi); have hcz28_0 : w27.cell? ⟨gb465, 0, none⟩ = some (.int .i64 ((rd_T25 l0 t461).f0)) := (blk_cell BK465.out 0).trans rfl; have hcz28_1 : w27.cell? ⟨gb465, 1, none⟩ = some (.int .i64 ((rd_T25 l0 t461).f1)) := (blk_cell BK465.out 1).trans rfl; have hcz28_2 : w27.cell? ⟨gb465, 2, none⟩ = some (.int .i64 ((rd_T25 l0 t461).f2)) := (blk_cell BK465.out 2).trans rfl; have hcz28_3 : w27.cell? ⟨gb465, 3, none⟩ = some (.int .i64 ((rd_T25 l0 t461).f3)) := (blk_cell BK465.out 3).trans rfl; have hcz28_4 : w27.cell? ⟨gb465, 4, none⟩ = some (.int .i64 ((rd_T25 l0 t461).f4)) := (blk_cell BK465.out 4).trans rfl; have hfz28_0 := blk_frozen BK465.out 0; have hfz28_1 := blk_frozen BK465.out 1; have hfz28_2 := blk_frozen BK465.out 2; have hfz28_3 := blk_frozen BK465.out 3; have hfz28_4 := blk_frozen BK465.out 4) | ((with_reducible refine gate_callee (f := 57) rfl ?_); refine goesL_ (some 54) rfl rfl Try.func57 (by kernel_rfl) rfl #[.slice (some ad464) l0.length c0, .int .i64 t461, .agg #[.int .i64 ((rd_T25 l0 t461).f0), .int .i64 ((rd_T25 l0 t461).f1), .int .i64 ((rd_T25 l0 t461).f2), .int .i64 (wrap64 (((rd_T25 l0 t461).f3) - (wrap64 (3 * (ji16))))), .int .i64 ((rd_T25 l0 t461).f4)]] rfl (by (try simp only [List.map_toArray, List.map_cons, List.map_nil]); first | done | (simp only [hji16]; rfl) | rfl | (simp only [List.length_drop, List.length_take]; rfl)) ?_; (with_reducible refine (impl_withLoom.calls kj4 _ _ l0 t461 ((rd_T25 l0 t461).f0) ((rd_T25 l0 t461).f1) ((rd_T25 l0 t461).f2) (wrap64 (((rd_T25 l0 t461).f3) - (wrap64 (3 * (ji16))))) ((rd_T25 l0 t461).f4) t471 t474 _ ?side1 ?side2 A24.out).mono ?_); (case side1 => exact Kd.C_below HR0.out (by repeat (first | (with_reducible first | exact HB.out | apply below_alloc | apply pw_below_drewN | apply below_drew1 | refine below_set ?_ GE465.out) | exact HB.out))); (case side2 => exact HC0.out); rintro e w29 ⟨v472, rfl, ho0, hb⟩; refine ⟨_, rfl, ?_⟩; have n0_ := Aside0.mk (Kd.R_lower (Kd.R_newB ho0 (g := gb465) (o := .cells #[.int .i64 ((rd_T25 l0 t461).f0), .int .i64 ((rd_T25 l0 t461).f1), .int .i64 ((rd_T25 l0 t461).f2), .int .i64 (wrap64 (((rd_T25 l0 t461).f3) - (wrap64 (3 * (ji16))))), .int .i64 ((rd_T25 l0 t461).f4)] 25 (0, 0)) (by (with_reducible repeat (first | refine blk_drewN ?_ _ | refine blk_drew ?_ | refine blk_alloc ?_ _)); refine blk_put (cs := #[.int .i64 ((rd_T25 l0 t461).f0), .int .i64 ((rd_T25 l0 t461).f1), .int .i64 ((rd_T25 l0 t461).f2), .int .i64 ((rd_T25 l0 t461).f3), .int .i64 ((rd_T25 l0 t461).f4)]) ?_ 3 _ rfl; (with_reducible repeat (first | refine blk_drewN ?_ _ | refine blk_drew ?_ | refine blk_alloc ?_ _)); exact BK465.out)) (below_size (by repeat (first | (with_reducible first | exact HB.out | apply below_alloc | apply pw_below_drewN | apply below_drew1 | refine below_set ?_ GE465.out) | exact HB.out)))); have n1_ := Aside0.mk (blk_below (g := gb465) (o := .cells #[.int .i64 ((rd_T25 l0 t461).f0), .int .i64 ((rd_T25 l0 t461).f1), .int .i64 ((rd_T25 l0 t461).f2), .int .i64 (wrap64 (((rd_T25 l0 t461).f3) - (wrap64 (3 * (ji16))))), .int .i64 ((rd_T25 l0 t461).f4)] 25 (0, 0)) (by (with_reducible repeat (first | refine blk_drewN ?_ _ | refine blk_drew ?_ | refine blk_alloc ?_ _)); refine blk_put (cs := #[.int .i64 ((rd_T25 l0 t461).f0), .int .i64 ((rd_T25 l0 t461).f1), .int .i64 ((rd_T25 l0 t461).f2), .int .i64 ((rd_T25 l0 t461).f3), .int .i64 ((rd_T25 l0 t461).f4)]) ?_ 3 _ rfl; (with_reducible repeat (first | refine blk_drewN ?_ _ | refine blk_drew ?_ | refine blk_alloc ?_ _)); exact BK465.out) hb); have n2_ := Aside0.mk (below_step (by repeat (first | (with_reducible first | exact HB.out | apply below_alloc | apply pw_below_drewN | apply below_drew1 | refine below_set ?_ GE465.out) | exact HB.out)) hb); clear BK465; clear HB; have HO473 := n0_; have BK465 := n1_; have HB := n2_; clear n0_ n1_ n2_; (try clear hb); (try clear hb2); (try clear hk); (try clear hi); (try clear ho0)))
              go_ret3
              exact ⟨_, by first | rfl | (simp [errW_none, errW_some] <;> rfl) | (simp only [← hji16]; first | rfl | (simp [errW_none, errW_some] <;> rfl)) | (simp [*, errW_none, errW_some] <;> rfl), by (with_reducible repeat (first | apply Kd.R_alloc | apply Kd.R_drewN | apply Kd.R_drew)); exact Kd.R_mono HO473.out (fun _ hk => trivial), by repeat (first | (with_reducible first | exact HB.out | apply below_alloc | apply pw_below_drewN | apply below_drew1 | refine below_set ?_ GE465.out) | exact HB.out)⟩
          · rw [if_neg c14] at H
            exact absurd H (by simp)
        · rw [if_neg c13] at H
          exact absurd H (by simp)

end Go.Proofs.Ytihkopkoiibahaa.G
