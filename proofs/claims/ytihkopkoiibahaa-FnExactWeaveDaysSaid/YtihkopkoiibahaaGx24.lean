-- Printed by a program of this session (wip/tools/gp.sh); Lean checks it.
import Derived.Test.YtihkopkoiibahaaGx0
import Derived.Test.YtihkopkoiibahaaGx3
import Derived.Test.YtihkopkoiibahaaGx15
namespace Go.Proofs.Ytihkopkoiibahaa.G
open Go.RowKit Go.Proofs.YtihkopkoiibahaaW.PrintWords Go.Proofs.YtihkopkoiibahaaW.PrintLast Go.Proofs.YtihkopkoiibahaaW.PrintMore
attribute [local go_sem] isSome_setCell_ max2_int min2_int max_two min_two max_three min_three max_four min_four   -- for this text's walks alone
set_option linter.unusedVariables false
set_option linter.unusedSimpArgs false

/-! ### spec_WeaveDays: function 33 -/
mutual
def spec_WeaveDays.j0 : Nat → List (S25) → Int → Int → Bool → Option ((List (S25)) × Int × Bool)
  | 0, _, _, _, _ => none
  | k + 1, x0, x2, x9, x23 => if x23 = true then (some ((([] : List (S25))), 0, false)) else (if 0 ≤ x9 then (if x9 < (x0.length : Int) then (spec_WeaveDays.l0 k x0 x2 x9 0 ((rd_T25 x0 x9).f0) ((rd_T25 x0 x9).f1) ((rd_T25 x0 x9).f2) ((rd_T25 x0 x9).f3) ((rd_T25 x0 x9).f4)) else (none)) else (none))
def spec_WeaveDays.l0 : Nat → List (S25) → Int → Int → Int → Int → Int → Int → Int → Int → Option ((List (S25)) × Int × Bool)
  | 0, _, _, _, _, _, _, _, _, _ => none
  | k + 1, x0, x2, x9, x11, x456000, x456001, x456002, x456003, x456004 => if x11 < x2 then (spec_WeaveDays.j2 k x0 x2 x9 x11 (x456004 == 2) x456000 x456001 x456002 x456003 x456004) else (spec_WeaveDays.j2 k x0 x2 x9 x11 false x456000 x456001 x456002 x456003 x456004)
def spec_WeaveDays.j2 : Nat → List (S25) → Int → Int → Int → Bool → Int → Int → Int → Int → Int → Option ((List (S25)) × Int × Bool)
  | 0, _, _, _, _, _, _, _, _, _, _ => none
  | k + 1, x0, x2, x9, x11, x36, x456000, x456001, x456002, x456003, x456004 => if x36 = true then (if (wrap64 (x456003 - 3)) < 50 then (spec_WeaveDays.l0 k x0 x2 x9 x11 x456000 x456001 x456002 x456003 3) else (spec_WeaveDays.l0 k x0 x2 x9 (wrap64 (x11 + 1)) x456000 x456001 x456002 (wrap64 (x456003 - 3)) x456004)) else ((spec_l5With.f k x0 x9 x456000 x456001 x456002 x456003 x456004).bind fun bt456 => (some (bt456.1, x11, bt456.2)))
end
def spec_WeaveDays.f (k : Nat) (l0 : List (S25)) (a1 : Int) (a2 : Int) : Option ((List (S25)) × Int × Bool) := (spec_l5Find.f k l0 a1 2 2).bind fun t449 => (if t449 < 0 then (spec_WeaveDays.j0 k l0 a2 t449 true) else ((spec_l1In.f a2 0 200).bind fun t450 => (spec_WeaveDays.j0 k l0 a2 t449 (!t450))))
theorem spec_WeaveDays.mono_l : ∀ k, (∀ y0 y1 y2 y3, LeO (spec_WeaveDays.j0 k y0 y1 y2 y3) (spec_WeaveDays.j0 (k + 1) y0 y1 y2 y3)) ∧ (∀ y0 y1 y2 y3 y4 y5 y6 y7 y8, LeO (spec_WeaveDays.l0 k y0 y1 y2 y3 y4 y5 y6 y7 y8) (spec_WeaveDays.l0 (k + 1) y0 y1 y2 y3 y4 y5 y6 y7 y8)) ∧ (∀ y0 y1 y2 y3 y4 y5 y6 y7 y8 y9, LeO (spec_WeaveDays.j2 k y0 y1 y2 y3 y4 y5 y6 y7 y8 y9) (spec_WeaveDays.j2 (k + 1) y0 y1 y2 y3 y4 y5 y6 y7 y8 y9))
  | 0 => ⟨fun _ _ _ _ r h => by simp [spec_WeaveDays.j0] at h, fun _ _ _ _ _ _ _ _ _ r h => by simp [spec_WeaveDays.l0] at h, fun _ _ _ _ _ _ _ _ _ _ r h => by simp [spec_WeaveDays.j2] at h⟩
  | k + 1 => by
    obtain ⟨ih0, ih1, ih2⟩ := spec_WeaveDays.mono_l k
    refine ⟨?_, ?_, ?_⟩
    · intro y0 y1 y2 y3
      unfold spec_WeaveDays.j0
      repeat' first
      | (with_reducible exact ih0 _ _ _ _)
      | (with_reducible exact ih1 _ _ _ _ _ _ _ _ _)
      | (with_reducible exact ih2 _ _ _ _ _ _ _ _ _ _)
      | (with_reducible exact spec_l5Find.mono _ _ _ _ _)
      | (with_reducible exact spec_l5With.mono _ _ _ _ _ _ _ _)
      | (with_reducible exact LeO.refl _)
      | (with_reducible exact LeO.none _)
      | (with_reducible refine LeO.ite ?_ ?_)
      | (with_reducible refine LeO.bind ?_ (fun _ => ?_))
      | exact ih0 _ _ _ _
      | exact ih1 _ _ _ _ _ _ _ _ _
      | exact ih2 _ _ _ _ _ _ _ _ _ _
      | exact spec_l5Find.mono _ _ _ _ _
      | exact spec_l5With.mono _ _ _ _ _ _ _ _
      | exact LeO.none _
      | refine LeO.ite ?_ ?_
      | refine LeO.bind ?_ (fun _ => ?_)
    · intro y0 y1 y2 y3 y4 y5 y6 y7 y8
      unfold spec_WeaveDays.l0
      repeat' first
      | (with_reducible exact ih0 _ _ _ _)
      | (with_reducible exact ih1 _ _ _ _ _ _ _ _ _)
      | (with_reducible exact ih2 _ _ _ _ _ _ _ _ _ _)
      | (with_reducible exact spec_l5Find.mono _ _ _ _ _)
      | (with_reducible exact spec_l5With.mono _ _ _ _ _ _ _ _)
      | (with_reducible exact LeO.refl _)
      | (with_reducible exact LeO.none _)
      | (with_reducible refine LeO.ite ?_ ?_)
      | (with_reducible refine LeO.bind ?_ (fun _ => ?_))
      | exact ih0 _ _ _ _
      | exact ih1 _ _ _ _ _ _ _ _ _
      | exact ih2 _ _ _ _ _ _ _ _ _ _
      | exact spec_l5Find.mono _ _ _ _ _
      | exact spec_l5With.mono _ _ _ _ _ _ _ _
      | exact LeO.none _
      | refine LeO.ite ?_ ?_
      | refine LeO.bind ?_ (fun _ => ?_)
    · intro y0 y1 y2 y3 y4 y5 y6 y7 y8 y9
      unfold spec_WeaveDays.j2
      repeat' first
      | (with_reducible exact ih0 _ _ _ _)
      | (with_reducible exact ih1 _ _ _ _ _ _ _ _ _)
      | (with_reducible exact ih2 _ _ _ _ _ _ _ _ _ _)
      | (with_reducible exact spec_l5Find.mono _ _ _ _ _)
      | (with_reducible exact spec_l5With.mono _ _ _ _ _ _ _ _)
      | (with_reducible exact LeO.refl _)
      | (with_reducible exact LeO.none _)
      | (with_reducible refine LeO.ite ?_ ?_)
      | (with_reducible refine LeO.bind ?_ (fun _ => ?_))
      | exact ih0 _ _ _ _
      | exact ih1 _ _ _ _ _ _ _ _ _
      | exact ih2 _ _ _ _ _ _ _ _ _ _
      | exact spec_l5Find.mono _ _ _ _ _
      | exact spec_l5With.mono _ _ _ _ _ _ _ _
      | exact LeO.none _
      | refine LeO.ite ?_ ?_
      | refine LeO.bind ?_ (fun _ => ?_)
theorem spec_WeaveDays.mono : ∀ a0 a1 a2 k, LeO (spec_WeaveDays.f k a0 a1 a2) (spec_WeaveDays.f (k + 1) a0 a1 a2) := by
  intro a0 a1 a2 k
  obtain ⟨ih0, ih1, ih2⟩ := spec_WeaveDays.mono_l k
  unfold spec_WeaveDays.f
  repeat' first
      | (with_reducible exact ih0 _ _ _ _)
      | (with_reducible exact ih1 _ _ _ _ _ _ _ _ _)
      | (with_reducible exact ih2 _ _ _ _ _ _ _ _ _ _)
      | (with_reducible exact spec_l5Find.mono _ _ _ _ _)
      | (with_reducible exact spec_l5With.mono _ _ _ _ _ _ _ _)
      | (with_reducible exact LeO.refl _)
      | (with_reducible exact LeO.none _)
      | (with_reducible refine LeO.ite ?_ ?_)
      | (with_reducible refine LeO.bind ?_ (fun _ => ?_))
      | exact ih0 _ _ _ _
      | exact ih1 _ _ _ _ _ _ _ _ _
      | exact ih2 _ _ _ _ _ _ _ _ _ _
      | exact spec_l5Find.mono _ _ _ _ _
      | exact spec_l5With.mono _ _ _ _ _ _ _ _
      | exact LeO.none _
      | refine LeO.ite ?_ ?_
      | refine LeO.bind ?_ (fun _ => ?_)
set_option maxHeartbeats 8000000 in
set_option maxRecDepth 100000 in
theorem spec_WeaveDays.calls (k : Nat) (A0 : Option Addr) (c0 : Nat) (l0 : List (S25)) (a1 : Int) (a2 : Int) (r1 : List (S25)) (r2 : Int) (r3 : Bool) (w : World) (hr0 : Kd.C k25 w A0 l0.length l0) (hc0 : l0.length ≤ c0) (h : spec_WeaveDays.f k l0 a1 a2 = some (r1, r2, r3)) :
    Calls Try.prog 33 #[.slice A0 l0.length c0, .int .i64 a1, .int .i64 a2] w fun e w' => ∃ v0_ : Value, e = .returned (.tuple #[v0_, .int .i64 r2, .bool r3]) ∧ Kd.R k25 25 w' w.heap.size (fun _ => True) v0_ r1 ∧ Below w.heap.size w w' := by
  have hu25 := Try.underlying25
  have HR0 := Aside0.mk hr0
  have HC0 := Aside0.mk hc0
  clear hr0 hc0
  have HB := Aside0.mk (Below.refl w.heap.size w)
  have H : ((spec_l5Find.f k l0 a1 2 2).bind fun t449 => (if t449 < 0 then (spec_WeaveDays.j0 k l0 a2 t449 true) else ((spec_l1In.f a2 0 200).bind fun t450 => (spec_WeaveDays.j0 k l0 a2 t449 (!t450))))) = some (r1, r2, r3) := h
  clear h
  replace H := Option.bind_eq_some_iff.mp H
  obtain ⟨t449, A40, H⟩ := H
  replace H : (if t449 < 0 then (spec_WeaveDays.j0 k l0 a2 t449 true) else ((spec_l1In.f a2 0 200).bind fun t450 => (spec_WeaveDays.j0 k l0 a2 t449 (!t450)))) = some (r1, r2, r3) := H
  have A4 := Aside0.mk A40
  clear A40
  have HC5 := Aside0.mk H
  clear H
  go_enter Try.func33, Try.ntmps33
  go_upto_region 2 with (first | ((with_reducible refine gate_callee (f := 54) rfl ?_); refine goesL_ (some 16) rfl rfl Try.func54 (by kernel_rfl) rfl #[.slice A0 l0.length c0, .int .i64 a1, .int .i64 2, .int .i64 2] rfl (by (try simp only [List.map_toArray, List.map_cons, List.map_nil]); first | done | rfl | (simp only [List.length_drop, List.length_take]; rfl)) ?_; (with_reducible refine (spec_l5Find.calls k _ _ l0 a1 2 2 t449 _ ?side1 ?side2 A4.out).mono ?_); (case side1 => repeat (first | exact HR0.out | (with_reducible refine Kd.C_alloc ?_ _) | (with_reducible refine Kd.C_drewN ?_ _) | (with_reducible refine Kd.C_drew ?_))); (case side2 => exact HC0.out); rintro e w6 ⟨rfl, hb⟩; refine ⟨_, rfl, ?_⟩; have n0_ := Aside0.mk (below_step (by repeat (first | (with_reducible first | exact HB.out | apply below_alloc | apply pw_below_drewN | apply below_drew1) | exact HB.out)) hb); clear HB; have HB := n0_; clear n0_; (try clear hb); (try clear hb2); (try clear hk); (try clear hi)))
  (try simp only [Act.put, List.setIfInBounds_toArray, List.set_cons_zero, List.set_cons_succ])
  go_cut [23] (fun v23 wc => ∃ (kq : Nat) (x23_4 : Bool), v23 = .bool x23_4 ∧ Aside0 (spec_WeaveDays.j0 kq l0 a2 t449 x23_4 = some (r1, r2, r3)) ∧ Aside0 (kq ≤ k) ∧ Aside0 (Below w.heap.size w wc))
  case first =>
    have H := HC5.out
    clear HC5
    by_cases c7 : t449 < 0
    · rw [if_pos c7] at H
      have c7b0 : decide (t449 < 0) = true := decide_eq_true c7
      clear c7
      (first | rw [c7b0] | (simp only [i64_w, i32_w]; rw [c7b0]) | skip)
      have H' := Aside0.mk H
      clear H
      go_wp2
      go_meet
      case rel => exact ⟨_, (true), (by first | rfl | (simp; done) | (simp [*]; done)), H', ⟨by first | omega | exact Nat.le_refl _⟩, ⟨by repeat (first | (with_reducible first | exact HB.out | apply below_alloc | apply pw_below_drewN | apply below_drew1) | exact HB.out)⟩⟩
    · rw [if_neg c7] at H
      have c7b0 : decide (t449 < 0) = false := decide_eq_false c7
      clear c7
      (first | rw [c7b0] | (simp only [i64_w, i32_w]; rw [c7b0]) | skip)
      replace H := Option.bind_eq_some_iff.mp H
      obtain ⟨t450, A80, H⟩ := H
      replace H : (spec_WeaveDays.j0 k l0 a2 t449 (!t450)) = some (r1, r2, r3) := H
      have A8 := Aside0.mk A80
      clear A80
      have H' := Aside0.mk H
      clear H
      go_wp2_with (first | (go_at_call 61; (with_reducible refine (spec_l1In.calls a2 0 200 t450 _ A8.out).mono ?_); rintro e w' ⟨rfl, ⟨nd, rfl⟩⟩))
      go_meet
      case rel => exact ⟨_, (!t450), (by first | rfl | (simp; done) | (simp [*]; done)), H', ⟨by first | omega | exact Nat.le_refl _⟩, ⟨by repeat (first | (with_reducible first | exact HB.out | apply below_alloc | apply pw_below_drewN | apply below_drew1) | exact HB.out)⟩⟩
  case rest =>
    clear HC5
    try clear p2
    try clear c3
    try clear c5
    try clear c7
    try clear c7b0
    obtain ⟨kq, x23_4, rfl, HA, HJ4, HB⟩ := hcut
    cases kq with
    | zero => exact absurd HA.out (by simp [spec_WeaveDays.j0])
    | succ kj4 =>
      have H := HA.out
      clear HA
      simp only [spec_WeaveDays.j0] at H
      by_cases c9 : x23_4 = true
      · subst c9
        have H1 : (some ((([] : List (S25))), 0, false)) = some (r1, r2, r3) := by rw [if_pos rfl] at H; exact H
        clear H
        have H := H1
        clear H1
        obtain ⟨y451, hy451⟩ : ∃ y_ : List (S25), y_ = (([] : List (S25))) := ⟨_, rfl⟩
        replace H : (some (y451, 0, false)) = some (r1, r2, r3) := by first | (rw [hy451]; with_reducible exact H) | (have H2_ := (Option.bind_some _ _).symm.trans H; rw [hy451]; with_reducible exact H2_) | (have H2_ := (Option.bind_some _ _).symm.trans H; with_reducible exact H2_) | with_reducible exact H | (rw [hy451]; exact H) | exact H
        have Ny451 := Aside0.mk hy451
        clear hy451
        simp only [Option.some.injEq, Prod.mk.injEq] at H
        obtain ⟨rfl, rfl, rfl⟩ := H
        go_wp2_with (first | ((with_reducible refine gate_dst (N := 24) rfl ?_); refine Kd.R_lit k25 _ 25 ?hg (N := 24) ?hd (xs := ([] : List (S25))) (inner := []) (ok := fun _ => True) (okp := fun _ => True) ?hr ?hp (fun _ hk => hk) trivial (Below.refl _ _) (Nat.le_refl _) (by simp) ?_; (case hd => rfl); (case hg => rfl); (case hr => first | (go_simp; done) | (go_simp; rfl)); (case hp => exact (Reps.none _ _)); intro v452 w10 ho11 hb hg_ hnew_; clear hg_ hnew_; (first | rw [← Ny451.out] at ho11 | (simp only [Int.reduceToNat] at ho11; rw [← Ny451.out] at ho11)); have n0_ := Aside0.mk (Kd.R_lower ho11 (below_size (by repeat (first | (with_reducible first | exact HB.out | apply below_alloc | apply pw_below_drewN | apply below_drew1) | exact HB.out)))); have n1_ := Aside0.mk (below_step (by repeat (first | (with_reducible first | exact HB.out | apply below_alloc | apply pw_below_drewN | apply below_drew1) | exact HB.out)) hb); clear HB; have HO453 := n0_; have HB := n1_; clear n0_ n1_; clear hb ho11))
        go_ret3
        exact ⟨_, by first | rfl | (simp [errW_none, errW_some] <;> rfl) | (simp [*, errW_none, errW_some] <;> rfl), by (with_reducible repeat (first | apply Kd.R_alloc | apply Kd.R_drewN | apply Kd.R_drew)); exact HO453.out, by repeat (first | (with_reducible first | exact HB.out | apply below_alloc | apply pw_below_drewN | apply below_drew1) | exact HB.out)⟩
      · replace c9 := Bool.eq_false_iff.mpr c9
        subst c9
        have H1 : (if 0 ≤ t449 then (if t449 < (l0.length : Int) then (spec_WeaveDays.l0 kj4 l0 a2 t449 0 ((rd_T25 l0 t449).f0) ((rd_T25 l0 t449).f1) ((rd_T25 l0 t449).f2) ((rd_T25 l0 t449).f3) ((rd_T25 l0 t449).f4)) else (none)) else (none)) = some (r1, r2, r3) := by rw [if_neg (show ¬ (false = true) by decide)] at H; exact H
        clear H
        have H := H1
        clear H1
        by_cases c12 : 0 ≤ t449
        · rw [if_pos c12] at H
          have c12b0 : decide (0 ≤ t449) = true := decide_eq_true c12
          clear c12
          by_cases c13 : t449 < (l0.length : Int)
          · rw [if_pos c13] at H
            have c13b0 : decide (t449 < (l0.length : Int)) = true := decide_eq_true c13
            clear c13
            have H' := Aside0.mk H
            clear H
            have p454 : 0 ≤ (t449 : Int) := of_decide_eq_true (by first | (with_reducible assumption) | assumption)
            have q454 : t449 < (l0.length : Int) := of_decide_eq_true (by first | (with_reducible assumption) | assumption)
            obtain ⟨ad454, e454, hx454_0, hx454_1, hx454_2, hx454_3, hx454_4⟩ := at_T25 HR0.out t449 p454 q454
            cases e454
            replace hx454_0 := (HB.out.cell (World.block_lt_of_cell? w _ hx454_0)).trans hx454_0
            replace hx454_1 := (HB.out.cell (World.block_lt_of_cell? w _ hx454_1)).trans hx454_1
            replace hx454_2 := (HB.out.cell (World.block_lt_of_cell? w _ hx454_2)).trans hx454_2
            replace hx454_3 := (HB.out.cell (World.block_lt_of_cell? w _ hx454_3)).trans hx454_3
            replace hx454_4 := (HB.out.cell (World.block_lt_of_cell? w _ hx454_4)).trans hx454_4
            replace p454 := eq_true p454
            replace q454 := eq_true q454
            go_wp2_with (first | ((with_reducible refine gate_dst (N := 10) rfl ?_); refine box_event ?hg (N := 10) ?hd (cs := #[.int .i64 0, .int .i64 0, .int .i64 0, .int .i64 0, .int .i64 0]) (t := 25) ?hr ?_; (case hd => rfl); (case hg => rfl); (case hr => first | (go_simp; done) | (go_simp; rfl)); intro gb455 hg w14 hbox hb; have n0_ := Aside0.mk (below_step (by repeat (first | (with_reducible first | exact HB.out | apply below_alloc | apply pw_below_drewN | apply below_drew1) | exact HB.out)) hb); have n1_ := Aside0.mk (hbox); have n2_ := Aside0.mk ((by rw [hg]; exact (below_size (by repeat (first | (with_reducible first | exact HB.out | apply below_alloc | apply pw_below_drewN | apply below_drew1) | exact HB.out))) : w.heap.size ≤ gb455)); have n3_ := Aside0.mk ((by rw [hg]; exact (below_size (by repeat (first | (with_reducible first | exact HB.out | apply below_alloc | apply pw_below_drewN | apply below_drew1) | exact HB.out))) : w.heap.size ≤ gb455)); clear HB; have HB := n0_; have BK455 := n1_; have GW455 := n2_; have GE455 := n3_; clear n0_ n1_ n2_ n3_; clear hb hbox hg; have hcz15_0 : w14.cell? ⟨gb455, 0, none⟩ = some (.int .i64 0) := (blk_cell BK455.out 0).trans rfl; have hcz15_1 : w14.cell? ⟨gb455, 1, none⟩ = some (.int .i64 0) := (blk_cell BK455.out 1).trans rfl; have hcz15_2 : w14.cell? ⟨gb455, 2, none⟩ = some (.int .i64 0) := (blk_cell BK455.out 2).trans rfl; have hcz15_3 : w14.cell? ⟨gb455, 3, none⟩ = some (.int .i64 0) := (blk_cell BK455.out 3).trans rfl; have hcz15_4 : w14.cell? ⟨gb455, 4, none⟩ = some (.int .i64 0) := (blk_cell BK455.out 4).trans rfl; have hfz15_0 := blk_frozen BK455.out 0; have hfz15_1 := blk_frozen BK455.out 1; have hfz15_2 := blk_frozen BK455.out 2; have hfz15_3 := blk_frozen BK455.out 3; have hfz15_4 := blk_frozen BK455.out 4))
            go_loopg [11] kj4 (fun kq v11 w' => ∃ (x11_2 : Int) (x456003_2 : Int) (x456004_2 : Int), v11 = .int .i64 x11_2 ∧ Aside0 (spec_WeaveDays.l0 kq l0 a2 t449 x11_2 ((rd_T25 l0 t449).f0) ((rd_T25 l0 t449).f1) ((rd_T25 l0 t449).f2) x456003_2 x456004_2 = some (r1, r2, r3)) ∧ Aside0 (kq ≤ kj4) ∧ Aside0 (w'.heap[gb455]? = some (.cells #[.int .i64 ((rd_T25 l0 t449).f0), .int .i64 ((rd_T25 l0 t449).f1), .int .i64 ((rd_T25 l0 t449).f2), .int .i64 x456003_2, .int .i64 x456004_2] 25 (0, 0))) ∧ Aside0 (Below w.heap.size w w'))
            case atStart => exact ⟨(0), ((rd_T25 l0 t449).f3), ((rd_T25 l0 t449).f4), (by first | rfl | (simp; done) | (simp [*]; done)), H', ⟨Nat.le_refl _⟩, ⟨by (with_reducible repeat (first | refine blk_drewN ?_ _ | refine blk_drew ?_ | refine blk_alloc ?_ _)); refine blk_put (cs := #[.int .i64 ((rd_T25 l0 t449).f0), .int .i64 ((rd_T25 l0 t449).f1), .int .i64 ((rd_T25 l0 t449).f2), .int .i64 ((rd_T25 l0 t449).f3), .int .i64 0]) ?_ 4 _ rfl; (with_reducible repeat (first | refine blk_drewN ?_ _ | refine blk_drew ?_ | refine blk_alloc ?_ _)); refine blk_put (cs := #[.int .i64 ((rd_T25 l0 t449).f0), .int .i64 ((rd_T25 l0 t449).f1), .int .i64 ((rd_T25 l0 t449).f2), .int .i64 0, .int .i64 0]) ?_ 3 _ rfl; (with_reducible repeat (first | refine blk_drewN ?_ _ | refine blk_drew ?_ | refine blk_alloc ?_ _)); refine blk_put (cs := #[.int .i64 ((rd_T25 l0 t449).f0), .int .i64 ((rd_T25 l0 t449).f1), .int .i64 0, .int .i64 0, .int .i64 0]) ?_ 2 _ rfl; (with_reducible repeat (first | refine blk_drewN ?_ _ | refine blk_drew ?_ | refine blk_alloc ?_ _)); refine blk_put (cs := #[.int .i64 ((rd_T25 l0 t449).f0), .int .i64 0, .int .i64 0, .int .i64 0, .int .i64 0]) ?_ 1 _ rfl; (with_reducible repeat (first | refine blk_drewN ?_ _ | refine blk_drew ?_ | refine blk_alloc ?_ _)); refine blk_put (cs := #[.int .i64 0, .int .i64 0, .int .i64 0, .int .i64 0, .int .i64 0]) ?_ 0 _ rfl; (with_reducible repeat (first | refine blk_drewN ?_ _ | refine blk_drew ?_ | refine blk_alloc ?_ _)); exact BK455.out⟩, ⟨by repeat (first | (with_reducible first | exact HB.out | apply below_alloc | apply pw_below_drewN | apply below_drew1 | refine below_set ?_ GE455.out) | exact HB.out)⟩⟩
            case round =>
              clear H'
              try clear c1
              try clear p2
              try clear c3
              try clear p4
              try clear q4
              try clear hx4
              try clear c5
              try clear c7
              try clear c7b0
              try clear c9
              try clear c12
              try clear c12b0
              try clear c13
              try clear c13b0
              try clear hcz15_0
              try clear hcz15_1
              try clear hcz15_2
              try clear hcz15_3
              try clear hcz15_4
              try clear hfz15_0
              try clear hfz15_1
              try clear hfz15_2
              try clear hfz15_3
              try clear hfz15_4
              try clear hx454_0
              try clear hx454_1
              try clear hx454_2
              try clear hx454_3
              try clear hx454_4
              try clear p2
              try clear p454
              try clear q454
              obtain ⟨x11_2, x456003_2, x456004_2, rfl, HA, HK2, BK455, HB⟩ := hrel
              cases gk with
              | zero => exact absurd HA.out (by simp [spec_WeaveDays.l0])
              | succ k2 =>
                have H := HA.out
                clear HA
                simp only [spec_WeaveDays.l0] at H
                have HC16 := Aside0.mk H
                clear H
                go_upto_region 5 with (fail)
                go_cut [36] (fun v36 wc => ∃ (kq : Nat) (x36_15 : Bool), v36 = .bool x36_15 ∧ Aside0 (spec_WeaveDays.j2 kq l0 a2 t449 x11_2 x36_15 ((rd_T25 l0 t449).f0) ((rd_T25 l0 t449).f1) ((rd_T25 l0 t449).f2) x456003_2 x456004_2 = some (r1, r2, r3)) ∧ Aside0 (kq ≤ k2) ∧ Aside0 (wc.heap[gb455]? = some (.cells #[.int .i64 ((rd_T25 l0 t449).f0), .int .i64 ((rd_T25 l0 t449).f1), .int .i64 ((rd_T25 l0 t449).f2), .int .i64 x456003_2, .int .i64 x456004_2] 25 (0, 0))) ∧ Aside0 (Below w.heap.size w wc))
                case first =>
                  have H := HC16.out
                  clear HC16
                  by_cases c17 : x11_2 < a2
                  · rw [if_pos c17] at H
                    have c17b0 : decide (x11_2 < a2) = true := decide_eq_true c17
                    clear c17
                    (first | rw [c17b0] | (simp only [i64_w, i32_w]; rw [c17b0]) | skip)
                    have H' := Aside0.mk H
                    clear H
                    have hcz18_0 : wr.cell? ⟨gb455, 0, none⟩ = some (.int .i64 ((rd_T25 l0 t449).f0)) := (blk_cell BK455.out 0).trans rfl
                    have hcz18_1 : wr.cell? ⟨gb455, 1, none⟩ = some (.int .i64 ((rd_T25 l0 t449).f1)) := (blk_cell BK455.out 1).trans rfl
                    have hcz18_2 : wr.cell? ⟨gb455, 2, none⟩ = some (.int .i64 ((rd_T25 l0 t449).f2)) := (blk_cell BK455.out 2).trans rfl
                    have hcz18_3 : wr.cell? ⟨gb455, 3, none⟩ = some (.int .i64 x456003_2) := (blk_cell BK455.out 3).trans rfl
                    have hcz18_4 : wr.cell? ⟨gb455, 4, none⟩ = some (.int .i64 x456004_2) := (blk_cell BK455.out 4).trans rfl
                    have hfz18_0 := blk_frozen BK455.out 0
                    have hfz18_1 := blk_frozen BK455.out 1
                    have hfz18_2 := blk_frozen BK455.out 2
                    have hfz18_3 := blk_frozen BK455.out 3
                    have hfz18_4 := blk_frozen BK455.out 4
                    go_wp2
                    go_meet
                    case rel => exact ⟨_, ((x456004_2 == 2)), (by first | rfl | (simp; done) | (simp [*]; done)), H', ⟨by have := HJ4.out; have := HK2.out; first | omega | exact Nat.le_refl _⟩, ⟨by (with_reducible repeat (first | refine blk_drewN ?_ _ | refine blk_drew ?_ | refine blk_alloc ?_ _)); exact BK455.out⟩, ⟨by repeat (first | (with_reducible first | exact HB.out | apply below_alloc | apply pw_below_drewN | apply below_drew1 | refine below_set ?_ GE455.out) | exact HB.out)⟩⟩
                  · rw [if_neg c17] at H
                    have c17b0 : decide (x11_2 < a2) = false := decide_eq_false c17
                    clear c17
                    (first | rw [c17b0] | (simp only [i64_w, i32_w]; rw [c17b0]) | skip)
                    have H' := Aside0.mk H
                    clear H
                    go_wp2
                    go_meet
                    case rel => exact ⟨_, (false), (by first | rfl | (simp; done) | (simp [*]; done)), H', ⟨by have := HJ4.out; have := HK2.out; first | omega | exact Nat.le_refl _⟩, ⟨by (with_reducible repeat (first | refine blk_drewN ?_ _ | refine blk_drew ?_ | refine blk_alloc ?_ _)); exact BK455.out⟩, ⟨by repeat (first | (with_reducible first | exact HB.out | apply below_alloc | apply pw_below_drewN | apply below_drew1 | refine below_set ?_ GE455.out) | exact HB.out)⟩⟩
                case rest =>
                  clear HC16
                  try clear c1
                  try clear p2
                  try clear c3
                  try clear p4
                  try clear q4
                  try clear hx4
                  try clear c5
                  try clear c7
                  try clear c7b0
                  try clear c9
                  try clear c12
                  try clear c12b0
                  try clear c13
                  try clear c13b0
                  try clear c17
                  try clear c17b0
                  try clear hcz15_0
                  try clear hcz15_1
                  try clear hcz15_2
                  try clear hcz15_3
                  try clear hcz15_4
                  try clear hcz18_0
                  try clear hcz18_1
                  try clear hcz18_2
                  try clear hcz18_3
                  try clear hcz18_4
                  try clear hfz15_0
                  try clear hfz15_1
                  try clear hfz15_2
                  try clear hfz15_3
                  try clear hfz15_4
                  try clear hfz18_0
                  try clear hfz18_1
                  try clear hfz18_2
                  try clear hfz18_3
                  try clear hfz18_4
                  try clear hx454_0
                  try clear hx454_1
                  try clear hx454_2
                  try clear hx454_3
                  try clear hx454_4
                  try clear p2
                  try clear p4
                  try clear p454
                  try clear q4
                  try clear q454
                  obtain ⟨kq, x36_15, rfl, HA, HJ15, BK455, HB⟩ := hcut
                  cases kq with
                  | zero => exact absurd HA.out (by simp [spec_WeaveDays.j2])
                  | succ kj15 =>
                    have H := HA.out
                    clear HA
                    simp only [spec_WeaveDays.j2] at H
                    by_cases c19 : x36_15 = true
                    · subst c19
                      have H1 : (if (wrap64 (x456003_2 - 3)) < 50 then (spec_WeaveDays.l0 kj15 l0 a2 t449 x11_2 ((rd_T25 l0 t449).f0) ((rd_T25 l0 t449).f1) ((rd_T25 l0 t449).f2) x456003_2 3) else (spec_WeaveDays.l0 kj15 l0 a2 t449 (wrap64 (x11_2 + 1)) ((rd_T25 l0 t449).f0) ((rd_T25 l0 t449).f1) ((rd_T25 l0 t449).f2) (wrap64 (x456003_2 - 3)) x456004_2)) = some (r1, r2, r3) := by rw [if_pos rfl] at H; exact H
                      clear H
                      have H := H1
                      clear H1
                      by_cases c20 : (wrap64 (x456003_2 - 3)) < 50
                      · rw [if_pos c20] at H
                        have c20b0 : decide ((wrap64 (x456003_2 - 3)) < 50) = true := decide_eq_true c20
                        clear c20
                        have H' := Aside0.mk H
                        clear H
                        have hcz21_0 : wc.cell? ⟨gb455, 0, none⟩ = some (.int .i64 ((rd_T25 l0 t449).f0)) := (blk_cell BK455.out 0).trans rfl
                        have hcz21_1 : wc.cell? ⟨gb455, 1, none⟩ = some (.int .i64 ((rd_T25 l0 t449).f1)) := (blk_cell BK455.out 1).trans rfl
                        have hcz21_2 : wc.cell? ⟨gb455, 2, none⟩ = some (.int .i64 ((rd_T25 l0 t449).f2)) := (blk_cell BK455.out 2).trans rfl
                        have hcz21_3 : wc.cell? ⟨gb455, 3, none⟩ = some (.int .i64 x456003_2) := (blk_cell BK455.out 3).trans rfl
                        have hcz21_4 : wc.cell? ⟨gb455, 4, none⟩ = some (.int .i64 x456004_2) := (blk_cell BK455.out 4).trans rfl
                        have hfz21_0 := blk_frozen BK455.out 0
                        have hfz21_1 := blk_frozen BK455.out 1
                        have hfz21_2 := blk_frozen BK455.out 2
                        have hfz21_3 := blk_frozen BK455.out 3
                        have hfz21_4 := blk_frozen BK455.out 4
                        go_wp2
                        go_roundg kj15
                        case measure => have := HJ4.out; have := HK2.out; have := HJ15.out; omega
                        case rel => exact ⟨(x11_2), (x456003_2), (3), (by first | rfl | (simp; done) | (simp [*]; done)), H', ⟨by have := HJ4.out; have := HK2.out; have := HJ15.out; omega⟩, ⟨by (with_reducible repeat (first | refine blk_drewN ?_ _ | refine blk_drew ?_ | refine blk_alloc ?_ _)); refine blk_put (cs := #[.int .i64 ((rd_T25 l0 t449).f0), .int .i64 ((rd_T25 l0 t449).f1), .int .i64 ((rd_T25 l0 t449).f2), .int .i64 x456003_2, .int .i64 x456004_2]) ?_ 4 _ rfl; (with_reducible repeat (first | refine blk_drewN ?_ _ | refine blk_drew ?_ | refine blk_alloc ?_ _)); exact BK455.out⟩, ⟨by repeat (first | (with_reducible first | exact HB.out | apply below_alloc | apply pw_below_drewN | apply below_drew1 | refine below_set ?_ GE455.out) | exact HB.out)⟩⟩
                      · rw [if_neg c20] at H
                        have c20b0 : decide ((wrap64 (x456003_2 - 3)) < 50) = false := decide_eq_false c20
                        clear c20
                        have H' := Aside0.mk H
                        clear H
                        have hcz22_0 : wc.cell? ⟨gb455, 0, none⟩ = some (.int .i64 ((rd_T25 l0 t449).f0)) := (blk_cell BK455.out 0).trans rfl
                        have hcz22_1 : wc.cell? ⟨gb455, 1, none⟩ = some (.int .i64 ((rd_T25 l0 t449).f1)) := (blk_cell BK455.out 1).trans rfl
                        have hcz22_2 : wc.cell? ⟨gb455, 2, none⟩ = some (.int .i64 ((rd_T25 l0 t449).f2)) := (blk_cell BK455.out 2).trans rfl
                        have hcz22_3 : wc.cell? ⟨gb455, 3, none⟩ = some (.int .i64 x456003_2) := (blk_cell BK455.out 3).trans rfl
                        have hcz22_4 : wc.cell? ⟨gb455, 4, none⟩ = some (.int .i64 x456004_2) := (blk_cell BK455.out 4).trans rfl
                        have hfz22_0 := blk_frozen BK455.out 0
                        have hfz22_1 := blk_frozen BK455.out 1
                        have hfz22_2 := blk_frozen BK455.out 2
                        have hfz22_3 := blk_frozen BK455.out 3
                        have hfz22_4 := blk_frozen BK455.out 4
                        go_wp2
                        go_roundg kj15
                        case measure => have := HJ4.out; have := HK2.out; have := HJ15.out; omega
                        case rel => exact ⟨(wrap64 (x11_2 + 1)), (wrap64 (x456003_2 - 3)), (x456004_2), (by first | rfl | (simp; done) | (simp [*]; done)), H', ⟨by have := HJ4.out; have := HK2.out; have := HJ15.out; omega⟩, ⟨by (with_reducible repeat (first | refine blk_drewN ?_ _ | refine blk_drew ?_ | refine blk_alloc ?_ _)); refine blk_put (cs := #[.int .i64 ((rd_T25 l0 t449).f0), .int .i64 ((rd_T25 l0 t449).f1), .int .i64 ((rd_T25 l0 t449).f2), .int .i64 x456003_2, .int .i64 x456004_2]) ?_ 3 _ rfl; (with_reducible repeat (first | refine blk_drewN ?_ _ | refine blk_drew ?_ | refine blk_alloc ?_ _)); exact BK455.out⟩, ⟨by repeat (first | (with_reducible first | exact HB.out | apply below_alloc | apply pw_below_drewN | apply below_drew1 | refine below_set ?_ GE455.out) | exact HB.out)⟩⟩
                    · replace c19 := Bool.eq_false_iff.mpr c19
                      subst c19
                      have H1 : ((spec_l5With.f kj15 l0 t449 ((rd_T25 l0 t449).f0) ((rd_T25 l0 t449).f1) ((rd_T25 l0 t449).f2) x456003_2 x456004_2).bind fun bt456 => (some (bt456.1, x11_2, bt456.2))) = some (r1, r2, r3) := by rw [if_neg (show ¬ (false = true) by decide)] at H; exact H
                      clear H
                      have H := H1
                      clear H1
                      replace H := Option.bind_eq_some_iff.mp H
                      obtain ⟨⟨t456, t459⟩, A230, H⟩ := H
                      replace H : (some (t456, x11_2, t459)) = some (r1, r2, r3) := H
                      have A23 := Aside0.mk A230
                      clear A230
                      simp only [Option.some.injEq, Prod.mk.injEq] at H
                      obtain ⟨rfl, rfl, rfl⟩ := H
                      have hcz24_0 : wc.cell? ⟨gb455, 0, none⟩ = some (.int .i64 ((rd_T25 l0 t449).f0)) := (blk_cell BK455.out 0).trans rfl
                      have hcz24_1 : wc.cell? ⟨gb455, 1, none⟩ = some (.int .i64 ((rd_T25 l0 t449).f1)) := (blk_cell BK455.out 1).trans rfl
                      have hcz24_2 : wc.cell? ⟨gb455, 2, none⟩ = some (.int .i64 ((rd_T25 l0 t449).f2)) := (blk_cell BK455.out 2).trans rfl
                      have hcz24_3 : wc.cell? ⟨gb455, 3, none⟩ = some (.int .i64 x456003_2) := (blk_cell BK455.out 3).trans rfl
                      have hcz24_4 : wc.cell? ⟨gb455, 4, none⟩ = some (.int .i64 x456004_2) := (blk_cell BK455.out 4).trans rfl
                      have hfz24_0 := blk_frozen BK455.out 0
                      have hfz24_1 := blk_frozen BK455.out 1
                      have hfz24_2 := blk_frozen BK455.out 2
                      have hfz24_3 := blk_frozen BK455.out 3
                      have hfz24_4 := blk_frozen BK455.out 4
                      go_wp2_with (first | ((with_reducible refine gate_callee (f := 55) rfl ?_); refine goesL_ (some 52) rfl rfl Try.func55 (by kernel_rfl) rfl #[.slice (some ad454) l0.length c0, .int .i64 t449, .agg #[.int .i64 ((rd_T25 l0 t449).f0), .int .i64 ((rd_T25 l0 t449).f1), .int .i64 ((rd_T25 l0 t449).f2), .int .i64 x456003_2, .int .i64 x456004_2]] rfl (by (try simp only [List.map_toArray, List.map_cons, List.map_nil]); first | done | rfl | (simp only [List.length_drop, List.length_take]; rfl)) ?_; (with_reducible refine (spec_l5With.calls kj15 _ _ l0 t449 ((rd_T25 l0 t449).f0) ((rd_T25 l0 t449).f1) ((rd_T25 l0 t449).f2) x456003_2 x456004_2 t456 t459 _ ?side1 ?side2 A23.out).mono ?_); (case side1 => repeat (first | exact (Kd.C_below HR0.out HB.out) | (with_reducible refine Kd.C_alloc ?_ _) | (with_reducible refine Kd.C_drewN ?_ _) | (with_reducible refine Kd.C_drew ?_))); (case side2 => exact HC0.out); rintro e w25 ⟨v457, rfl, ho0, hb⟩; refine ⟨_, rfl, ?_⟩; have n0_ := Aside0.mk (Kd.R_lower (Kd.R_newB ho0 (g := gb455) (o := .cells #[.int .i64 ((rd_T25 l0 t449).f0), .int .i64 ((rd_T25 l0 t449).f1), .int .i64 ((rd_T25 l0 t449).f2), .int .i64 x456003_2, .int .i64 x456004_2] 25 (0, 0)) (by (with_reducible repeat (first | refine blk_drewN ?_ _ | refine blk_drew ?_ | refine blk_alloc ?_ _)); exact BK455.out)) (below_size (by repeat (first | (with_reducible first | exact HB.out | apply below_alloc | apply pw_below_drewN | apply below_drew1 | refine below_set ?_ GE455.out) | exact HB.out)))); have n1_ := Aside0.mk (blk_below (g := gb455) (o := .cells #[.int .i64 ((rd_T25 l0 t449).f0), .int .i64 ((rd_T25 l0 t449).f1), .int .i64 ((rd_T25 l0 t449).f2), .int .i64 x456003_2, .int .i64 x456004_2] 25 (0, 0)) (by (with_reducible repeat (first | refine blk_drewN ?_ _ | refine blk_drew ?_ | refine blk_alloc ?_ _)); exact BK455.out) hb); have n2_ := Aside0.mk (below_step (by repeat (first | (with_reducible first | exact HB.out | apply below_alloc | apply pw_below_drewN | apply below_drew1 | refine below_set ?_ GE455.out) | exact HB.out)) hb); clear BK455; clear HB; have HO458 := n0_; have BK455 := n1_; have HB := n2_; clear n0_ n1_ n2_; (try clear hb); (try clear hb2); (try clear hk); (try clear hi); (try clear ho0)))
                      go_ret3
                      exact ⟨_, by first | rfl | (simp [errW_none, errW_some] <;> rfl) | (simp [*, errW_none, errW_some] <;> rfl), by (with_reducible repeat (first | apply Kd.R_alloc | apply Kd.R_drewN | apply Kd.R_drew)); exact Kd.R_mono HO458.out (fun _ hk => trivial), by repeat (first | (with_reducible first | exact HB.out | apply below_alloc | apply pw_below_drewN | apply below_drew1 | refine below_set ?_ GE455.out) | exact HB.out)⟩
          · rw [if_neg c13] at H
            exact absurd H (by simp)
        · rw [if_neg c12] at H
          exact absurd H (by simp)

/-! ### impl_Loom_daysLeft: function 62 -/
def impl_Loom_daysLeft.f (a0_0 : Int) (a0_1 : Int) (a0_2 : Int) (a0_3 : Int) (a0_4 : Int) : Option (Int) := some (wrap64 (Int.tdiv (wrap64 (a0_3 - 50)) 3))
set_option maxHeartbeats 8000000 in
set_option maxRecDepth 100000 in
theorem impl_Loom_daysLeft.calls (a0_0 : Int) (a0_1 : Int) (a0_2 : Int) (a0_3 : Int) (a0_4 : Int) (r : Int) (w : World) (h : impl_Loom_daysLeft.f a0_0 a0_1 a0_2 a0_3 a0_4 = some r) :
    Calls Try.prog 62 #[.agg #[.int .i64 a0_0, .int .i64 a0_1, .int .i64 a0_2, .int .i64 a0_3, .int .i64 a0_4]] w fun e w' => e = .returned (.int .i64 r) ∧ Below w.heap.size w w' := by
  have hu25 := Try.underlying25
  have HB := Aside0.mk (Below.refl w.heap.size w)
  have H : (some (wrap64 (Int.tdiv (wrap64 (a0_3 - 50)) 3))) = some r := h
  clear h
  obtain rfl := Option.some.inj H
  go_enter Try.func62, Try.ntmps62
  go_wp2_with (first | ((with_reducible refine gate_dst (N := 1) rfl ?_); refine box_event ?hg (N := 1) ?hd (cs := #[.int .i64 a0_0, .int .i64 a0_1, .int .i64 a0_2, .int .i64 a0_3, .int .i64 a0_4]) (t := 25) ?hr ?_; (case hd => rfl); (case hg => rfl); (case hr => first | (go_simp; done) | (go_simp; rfl)); intro gb460 hg w2 hbox hb; have n0_ := Aside0.mk (below_step (by repeat (first | (with_reducible first | exact HB.out | apply below_alloc | apply pw_below_drewN | apply below_drew1) | exact HB.out)) hb); have n1_ := Aside0.mk (hbox); have n2_ := Aside0.mk ((by rw [hg]; exact (below_size (by repeat (first | (with_reducible first | exact HB.out | apply below_alloc | apply pw_below_drewN | apply below_drew1) | exact HB.out))) : w.heap.size ≤ gb460)); have n3_ := Aside0.mk ((by rw [hg]; exact (below_size (by repeat (first | (with_reducible first | exact HB.out | apply below_alloc | apply pw_below_drewN | apply below_drew1) | exact HB.out))) : w.heap.size ≤ gb460)); clear HB; have HB := n0_; have BK460 := n1_; have GW460 := n2_; have GE460 := n3_; clear n0_ n1_ n2_ n3_; clear hb hbox hg; have hcz3_0 : w2.cell? ⟨gb460, 0, none⟩ = some (.int .i64 a0_0) := (blk_cell BK460.out 0).trans rfl; have hcz3_1 : w2.cell? ⟨gb460, 1, none⟩ = some (.int .i64 a0_1) := (blk_cell BK460.out 1).trans rfl; have hcz3_2 : w2.cell? ⟨gb460, 2, none⟩ = some (.int .i64 a0_2) := (blk_cell BK460.out 2).trans rfl; have hcz3_3 : w2.cell? ⟨gb460, 3, none⟩ = some (.int .i64 a0_3) := (blk_cell BK460.out 3).trans rfl; have hcz3_4 : w2.cell? ⟨gb460, 4, none⟩ = some (.int .i64 a0_4) := (blk_cell BK460.out 4).trans rfl; have hfz3_0 := blk_frozen BK460.out 0; have hfz3_1 := blk_frozen BK460.out 1; have hfz3_2 := blk_frozen BK460.out 2; have hfz3_3 := blk_frozen BK460.out 3; have hfz3_4 := blk_frozen BK460.out 4))
  go_ret
  exact ⟨by first | rfl | (simp [errW_none, errW_some] <;> rfl) | (simp [*, errW_none, errW_some] <;> rfl), by repeat (first | (with_reducible first | exact HB.out | apply below_alloc | apply pw_below_drewN | apply below_drew1 | refine below_set ?_ GE460.out) | exact HB.out)⟩

end Go.Proofs.Ytihkopkoiibahaa.G
